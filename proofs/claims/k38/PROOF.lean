import PyProof.Rows.All
import Wide.All
import OpenK.AllK
import Wide.FinOn
import HandS.ForMost
import HandS.ForExc
import HandS.Lambda
import HandS.ExcIs
import HandS.IsInst
import HandS.Zip
import HandS.Defaults
import PyProof.ReprReads
import HandS.RaiseMore
import HandS.Wide
import HandS.TupAny
import HandS.TupMul
import HandS.TupLe
import HandS.Deep
import HandS.FStr
import HandS.Property
import HandS.MakeKwOnly
import KE.KSuper
import HandS.CallSlots
import HandS.TryOnly
import OpenK.KMeth
import PyProof.InstEq
import HandS.OwnEq
import KE.KTryMore
import HandS.Style
import HandS.ClsMeth
import HandS.Ends
import HandS.EndTab
import KE.KNest
import KE.KNestM
import KE.KExcSuper
import KE.KExcInit
import KE.KSuperObj
import PyProof.ExcBaseAll.ValueError
import PyProof.ExcBaseAll.LookupError
import PyProof.ExcBaseAll.ArithmeticError
import PySem.Challenge.RW_diagramtext_k38_boxes
set_option Elab.async false
set_option linter.all false
set_option maxRecDepth 100000
set_option maxHeartbeats 4000000
namespace BV
open PySem L2

/-! ### data by value -/
inductive D where
  | non | bl (b : Bool) | int (i : Int) | str (x : Str) | ty (n : String) | cls (c : Nat)
  | tup (xs : List D) | lst (xs : List D) | flst (xs : List D) | ins (c : Nat) (fs : List (Str × D)) | exc (c : Nat) (x : D) | dct (fs : List (Str × D))
  deriving Inhabited
inductive W where
  | d (d : D) | loc (n : Nat)
  deriving Inhabited
inductive Cell where
  | lst (xs : List D) | ins (c : Nat) (fs : List (Str × D))
  deriving Inhabited
abbrev Cells := List (Option Cell)
abbrev Ra := List (Option Addr)
abbrev Fra := List (Option W)

structure G where
  P : Program
  w : World
  K : PySem.W.Frag
  mg : Str → Option Value
  base : Heap
  ca : Nat → Addr
  efld : Nat → Str
  fa : Nat → Addr
  fd : Nat → FuncData
  ps : Nat → List Str
  T : List (Addr × Str)
  lams : List Scope

/-- a held exception object: its class and dict -/
def ExcV (cls : Value) (d : Option Addr) (a : Addr) : HO := .ext fun h => ∃ (oe : Obj) (vs : Array Value), h.get? a = some oe ∧ Zc cls d oe ∧ oe.data = .fields vs
mutual
inductive Rep (g : G) (F : Hp) : D → V → Prop
  | non : Rep g F .non .non
  | bl (b : Bool) : Rep g F (.bl b) (.bl b)
  | int (i : Int) : Rep g F (.int i) (.int i)
  | str (x : Str) : Rep g F (.str x) (.str x)
  | ty (n : String) : Rep g F (.ty n) (.ty n)
  | cls (c : Nat) : Rep g F (.cls c) (.ref (g.ca c))
  | tup {ds : List D} {vs : List V} {a : Addr} (h : SqT g.K F a vs) (r : RepL g F ds vs) : Rep g F (.tup ds) (.ref a)
  | lst {ds : List D} {vs : List V} {a : Addr} (h : F a = some (.lst vs)) (r : RepL g F ds vs) : Rep g F (.lst ds) (.ref a)
  | flst {ds : List D} {vs : List V} {a : Addr} (h : SqL g.K F a vs) (r : RepL g F ds vs) : Rep g F (.flst ds) (.ref a)
  | ins {c : Nat} {fs : List (Str × D)} {vs : List (Str × V)} {a dx : Addr} (h : F a = some (.ins (g.ca c) dx vs)) (r : RepF g F fs vs) : Rep g F (.ins c fs) (.ref a)
  | exc {c : Nat} {x : D} {v : V} {a dd : Addr} (h : F a = some (ExcV (.ref (g.ca c)) (some dd) a)) (hd : F dd = some (.xd [(g.efld c, v)])) (r : Rep g F x v) : Rep g F (.exc c x) (.ref a)
  | dct {fs : List (Str × D)} {vs : List (Str × V)} {a : Addr} (h : F a = some (.dK (vs.map fun p => (.inr p.1, p.2)))) (r : RepF g F fs vs) : Rep g F (.dct fs) (.ref a)
inductive RepL (g : G) (F : Hp) : List D → List V → Prop
  | nil : RepL g F [] []
  | cons {d : D} {v : V} {ds : List D} {vs : List V} (h : Rep g F d v) (t : RepL g F ds vs) : RepL g F (d :: ds) (v :: vs)
inductive RepF (g : G) (F : Hp) : List (Str × D) → List (Str × V) → Prop
  | nil : RepF g F [] []
  | cons {f : Str} {d : D} {v : V} {ds : List (Str × D)} {vs : List (Str × V)} (h : Rep g F d v) (t : RepF g F ds vs) : RepF g F ((f, d) :: ds) ((f, v) :: vs)
end

theorem sqT_mono {K : PySem.W.Frag} {H H' : Hp} {a : Addr} {xs : List V} (e : Same H H') (h : SqT K H a xs) : SqT K H' a xs := by
  rcases h with (h | ⟨o, h⟩) | h
  · exact .inl (.inl (e _ _ h))
  · exact .inl (.inr ⟨o, e _ _ h⟩)
  · exact .inr h

mutual
theorem Rep.mono {g : G} {F F' : Hp} (e : Same F F') : ∀ {d : D} {v : V}, Rep g F d v → Rep g F' d v
  | _, _, .non => .non
  | _, _, .bl b => .bl b
  | _, _, .int i => .int i
  | _, _, .str x => .str x
  | _, _, .ty n => .ty n
  | _, _, .cls c => .cls c
  | _, _, .tup h r => .tup (sqT_mono e h) (RepL.mono e r)
  | _, _, .lst h r => .lst (e _ _ h) (RepL.mono e r)
  | _, _, .flst h r => .flst (e.seq h) (RepL.mono e r)
  | _, _, .ins h r => .ins (e _ _ h) (RepF.mono e r)
  | _, _, .exc h hd r => .exc (e _ _ h) (e _ _ hd) (Rep.mono e r)
  | _, _, .dct h r => .dct (e _ _ h) (RepF.mono e r)
theorem RepL.mono {g : G} {F F' : Hp} (e : Same F F') : ∀ {ds : List D} {vs : List V}, RepL g F ds vs → RepL g F' ds vs
  | _, _, .nil => .nil
  | _, _, .cons h t => .cons (Rep.mono e h) (RepL.mono e t)
theorem RepF.mono {g : G} {F F' : Hp} (e : Same F F') : ∀ {ds : List (Str × D)} {vs : List (Str × V)}, RepF g F ds vs → RepF g F' ds vs
  | _, _, .nil => .nil
  | _, _, .cons h t => .cons (Rep.mono e h) (RepF.mono e t)
end
theorem RepL.length {g : G} {F : Hp} : ∀ {ds : List D} {vs : List V}, RepL g F ds vs → ds.length = vs.length
  | _, _, .nil => rfl
  | _, _, .cons _ t => congrArg Nat.succ (RepL.length t)
theorem RepL.get {g : G} {F : Hp} : ∀ {ds : List D} {vs : List V} {i : Nat} {d : D}, RepL g F ds vs → ds[i]? = some d → ∃ v, vs[i]? = some v ∧ Rep g F d v
  | _, _, _, _, .nil, e => by simp at e
  | _, _, 0, _, .cons r _, e => by simp at e; subst e; exact ⟨_, rfl, r⟩
  | _, _, i + 1, d, .cons _ t, e => by
    obtain ⟨v, h1, h2⟩ := RepL.get (i := i) (d := d) t (by simpa using e)
    exact ⟨v, by simpa using h1, h2⟩
theorem RepL.get' {g : G} {F : Hp} : ∀ {ds : List D} {vs : List V} {i : Nat} {v : V}, RepL g F ds vs → vs[i]? = some v → ∃ d, ds[i]? = some d ∧ Rep g F d v
  | _, _, _, _, .nil, e => by simp at e
  | _, _, 0, _, .cons r _, e => by simp at e; subst e; exact ⟨_, rfl, r⟩
  | _, _, i + 1, d, .cons _ t, e => by
    obtain ⟨v, h1, h2⟩ := RepL.get' (i := i) (v := d) t (by simpa using e)
    exact ⟨v, by simpa using h1, h2⟩
theorem RepL.append {g : G} {F : Hp} : ∀ {ds es : List D} {vs ws : List V}, RepL g F ds vs → RepL g F es ws → RepL g F (ds ++ es) (vs ++ ws)
  | _, _, _, _, .nil, s => s
  | _, _, _, _, .cons r t, s => .cons r (RepL.append t s)
theorem RepL.set {g : G} {F : Hp} {x : D} {u : V} (r : Rep g F x u) : ∀ {ds : List D} {vs : List V} (i : Nat), RepL g F ds vs → RepL g F (ds.set i x) (vs.set i u)
  | _, _, _, .nil => .nil
  | _, _, 0, .cons _ t => .cons r t
  | _, _, i + 1, .cons q t => .cons q (RepL.set r i t)
theorem RepL.take {g : G} {F : Hp} : ∀ {ds : List D} {vs : List V} (n : Nat), RepL g F ds vs → RepL g F (ds.take n) (vs.take n)
  | _, _, 0, _ => .nil
  | _, _, _ + 1, .nil => .nil
  | _, _, n + 1, .cons r t => .cons r (RepL.take n t)
theorem RepL.drop {g : G} {F : Hp} : ∀ {ds : List D} {vs : List V} (n : Nat), RepL g F ds vs → RepL g F (ds.drop n) (vs.drop n)
  | _, _, 0, r => r
  | _, _, _ + 1, .nil => .nil
  | _, _, n + 1, .cons _ t => RepL.drop n t
theorem RepL.dropLast {g : G} {F : Hp} {ds : List D} {vs : List V} (r : RepL g F ds vs) : RepL g F ds.dropLast vs.dropLast := by
  rw [List.dropLast_eq_take, List.dropLast_eq_take, r.length]
  exact r.take _
theorem RepL.eraseIdx {g : G} {F : Hp} : ∀ {ds : List D} {vs : List V} (i : Nat), RepL g F ds vs → RepL g F (ds.eraseIdx i) (vs.eraseIdx i)
  | _, _, _, .nil => .nil
  | _, _, 0, .cons _ t => t
  | _, _, i + 1, .cons q t => .cons q (RepL.eraseIdx i t)
theorem RepL.reverse {g : G} {F : Hp} : ∀ {ds : List D} {vs : List V}, RepL g F ds vs → RepL g F ds.reverse vs.reverse
  | _, _, .nil => .nil
  | _, _, .cons r t => by
    rw [List.reverse_cons, List.reverse_cons]
    exact (RepL.reverse t).append (.cons r .nil)
theorem RepL.rep {g : G} {F : Hp} {ds : List D} {vs : List V} (h : RepL g F ds vs) : ∀ k : Nat, RepL g F (List.replicate k ds).flatten (List.replicate k vs).flatten
  | 0 => .nil
  | k + 1 => by
    rw [List.replicate_succ, List.replicate_succ, List.flatten_cons, List.flatten_cons]
    exact h.append (RepL.rep h k)
theorem RepF.lookup {g : G} {F : Hp} {f : Str} : ∀ {ds : List (Str × D)} {vs : List (Str × V)} {d : D}, RepF g F ds vs → ds.lookup f = some d → ∃ v, vs.lookup f = some v ∧ Rep g F d v
  | _, _, _, .nil, e => by simp [List.lookup] at e
  | _, _, d, .cons (f := f') r t, e => by
    rw [List.lookup_cons] at e ⊢
    split at e
    · cases e; exact ⟨_, rfl, r⟩
    · exact RepF.lookup t e
theorem RepF.lookup_none {g : G} {F : Hp} {f : Str} : ∀ {ds : List (Str × D)} {vs : List (Str × V)}, RepF g F ds vs → ds.lookup f = none → vs.lookup f = none
  | _, _, .nil, _ => rfl
  | _, _, .cons (f := f') r t, e => by
    rw [List.lookup_cons] at e ⊢
    split at e
    · cases e
    · exact RepF.lookup_none t e
theorem RepF.length {g : G} {F : Hp} : ∀ {ds : List (Str × D)} {vs : List (Str × V)}, RepF g F ds vs → ds.length = vs.length
  | _, _, .nil => rfl
  | _, _, .cons _ t => congrArg Nat.succ (RepF.length t)
def putD (f : Str) (d : D) : List (Str × D) → List (Str × D)
  | [] => [(f, d)]
  | (k, v) :: r => if k = f then (k, d) :: r else (k, v) :: putD f d r
theorem RepF.put {g : G} {F : Hp} {f : Str} {x : D} {u : V} (q : Rep g F x u) : ∀ {ds : List (Str × D)} {vs : List (Str × V)}, RepF g F ds vs → RepF g F (putD f x ds) (putF f u vs)
  | _, _, .nil => .cons q .nil
  | _, _, .cons (f := f') r t => by
    unfold putD putF
    split
    · exact .cons q t
    · exact .cons r (RepF.put q t)
/-- a made exception: its object at e, its dict at d with the one field p -/
structure XMade (h h' : Heap) (e C d : Addr) (p : Str) (v : Value) : Prop where
  keep : ∀ b o, h.get? b = some o → h'.get? b = some o
  new : h.objs.size ≤ e
  obj : ∃ t1, h'.get? e = some { cls := .ref C, dict := some d, data := .fields #[.ref t1, .none, .none, .none, .bool false, .none] }
  dbig : h.objs.size ≤ d
  dne : d ≠ e
  ns : h'.Ns1 d (fun y => if y = p then some v else none)
/-- the class at C, called with one value, makes an exception with the field p -/
def MkX (P : Program) (w : World) (K : PySem.W.Frag) (mg : Str → Option Value) (C : Addr) (p : Str) : Prop :=
  ∀ {A : Around} {R : Result → Shared → Prop} {s : Shared} {mb : Str → Option Value} {v : Value}, K.In s.heap → s.heap.Ns mainGlobals mg → s.heap.Ns builtinsNs mb → mb "super" = some (.type "super") → s.heap.NoLimit → A.depth + 1 < recursionLimit →
    (∀ h' tk e d, XMade s.heap h' e C d p v → R (.ok (.ret (.ref e))) { s with heap := h', toks := tk }) → codeAny (model P w) A (.call (.ref C) ⟨[v], []⟩) R s
end BV

namespace BV
open PySem PySem.Spec PySem.Calls PyProof.Rows PySem.W L2
/-! ### isinstance of a held exception -/
section
variable {prog : Program} {w : World} {A : Around} {E : Value → Shared → Prop} {s : Shared} {K : Frag} {x D : Addr} {ox : Obj} {od : Option Obj}
theorem findObj_data {C : Addr} {name : Str} {a g : Value} {od : Option Obj} (hc : (clsIn K C).isSome = true) (ha : findIn K (.ref C) name = some (some a)) (hg : specialIn K a "__get__" = some (some g)) (ht : takesIn K a = some true) : findObj K C od name = some (.bind g a) := by
  obtain ⟨cd, hc⟩ := Option.isSome_iff_exists.mp hc
  unfold findObj
  rw [hc, Option.bind_some, ha, Option.bind_some]
  simp [hg, ht]
theorem kin_classX {Q : Option Value → Shared → Prop} (C : ExcC K D) (X : K.In s.heap) (I : InstAt s.heap x ox D od) (h : Q (some (.ref D)) { s with toks := s.toks + 1 }) : wpAny (model prog w) A (getAttr? (.ref x) "__class__") Q E s := by
  obtain ⟨hga, hgt, hsub, hdct, ha, hn, htk, hm⟩ := C
  have hf : findObj K D od "__class__" = some (.bind (.builtin "getset_descriptor.__get__") (.builtin "object.__class__")) := findObj_data (by obtain ⟨cd, hc, _⟩ := any_some hdct; rw [hc]; rfl) ha hn htk
  obtain ⟨hp, g, d, t, os⟩ := s
  have L0 := I.type (M := model prog w)
  have L1 := looks_findIn (M := model prog w) X hga
  have L2 := looks_findIn (M := model prog w) X hgt
  have L3 := looks_find (M := model prog w) X I hf
  have sub : Looks (model prog w) hp (isInstance (.ref x) (.type "BaseException")) true := L0.andThen (looks_subIn X hsub)
  have hx0 : (false && onTheHeap (Value.builtin "BaseException.__getattribute__")) = false := rfl
  have hx2 : (Value.builtin "BaseException.__getattribute__" == Value.builtin "object.__getattribute__") = false := by decide +kernel
  have hx1 : (onTheHeap (Value.ref D) && Value.builtin "BaseException.__getattribute__" == Value.builtin "object.__getattribute__") = false := by rw [hx2]; rfl
  unfold getAttr? getAttrBy? getAttrBy
  refine wpAny_bind (wpAny_mkText (wpAny_bind (wpAny_attempt (wpAny_holding (wpAny_bind (L0.at (wpAny_bind (L1.at ?_))))))))
  show wpAny _ _ (if (onTheHeap (Value.ref D) && Value.builtin "BaseException.__getattribute__" == Value.builtin "object.__getattribute__") = true then _ else _) _ _ _
  rw [hx1, if_neg Bool.false_ne_true]
  unfold getAttrByItsOwn hookBefore
  refine wpAny_bind ?_
  rw [if_pos (show onTheHeap (Value.ref D) = true from rfl)]
  refine L2.at ?_
  refine wpAny_bind (wpAny_attempt (wpAny_holding ?_))
  unfold callGetattribute
  rw [hx0, if_neg Bool.false_ne_true]
  unfold boundAndCalled
  rw [PySem.F.excAttr_ValueError.ga.bind (.ref x)]
  refine wpAny_bind (wpAny_pure ?_)
  show wpAny _ _ (call (.builtin "BaseException.__getattribute__") [.ref x, .str "__class__" t]) _ _ _
  refine wpAny_call (codeAny_call_builtin PySem.F.excAttr_ValueError.ga.plain PySem.F.entry_bexc_ga ?_)
  refine @check_slot (model prog w) _ _ ⟨hp, g, d, t + 1, os⟩ "BaseException.__getattribute__" "BaseException" "__getattribute__" (.ref x) [.str "__class__" t] [] _ (by decide +kernel) (by decide +kernel) sub (PySem.F.args_bexc_ga (.ref x) (.str "__class__" t)) ?_
  unfold Builtin.«object.__getattribute__»
  refine wpAny_bind (wpAny_of_eq (a := ((Value.ref x : Value), [Value.str "__class__" t])) (by first | rfl | (simp only [slotArgs]; rfl)) ?_)
  refine wpAny_bind (wpAny_pure (wpAny_bind (L0.at (wpAny_bind (L3.at ?_)))))
  show wpAny _ _ (holding [Value.builtin "object.__class__"] (call (.builtin "getset_descriptor.__get__") [.builtin "object.__class__", .ref x, .ref D]) >>= ret) _ _ _
  refine wpAny_bind (wpAny_holding (wpAny_call (class_get (s := ⟨hp, g, d, t + 1, os⟩) (ox := ox) (od := od) X I hm ?_)))
  refine wpAny_pure ?_
  show wpAny _ _ (handedOut (.ref D)) _ _ _
  rw [handedOut_of (v := .ref D) rfl]
  first
    | exact wpAny_pure (wpAny_pure h)
    | exact wpAny_pure h
    | exact wpAny_pure (wpAny_bind (wpAny_pure (wpAny_pure h)))
theorem kitx_held (C : ExcC K D) : KitX K (.ref x) (.ref D) (fun h => ∃ ox od, InstAt h x ox D od) where
  ty := fun _ _ _ ⟨_, _, I⟩ => I.type
  it := fun _ _ X _ => by
    obtain ⟨cdD, hcD, _⟩ := any_some C.hd
    unfold clsIn at hcD
    split at hcD
    · rename_i c' d' cd' sl' ho
      intro A' Q' E' s' k q
      unfold isType loadHead
      exact wpAny_bind (wpAny_loadPart (k _ _ (X _ _ ho)) (wpAny_pure q))
    · cases hcD
  ne := fun h tp dd its n sl X htp => by
    obtain ⟨cdD, hcD, _⟩ := any_some C.hd
    refine Bool.eq_false_iff.mpr fun q => ?_
    have e : D = tp := Value.ref.inj (beq_iff_eq.mp q)
    subst e
    unfold clsIn at hcD
    split at hcD
    · rename_i c' d' cd' sl' ho
      have z := (X _ _ ho).symm.trans htp
      cases z
    · cases hcD
  ca := fun X ⟨_, _, I⟩ k => kin_classX C X I k
end
/-- the type of a value, held exceptions among them -/
def TyB (K : Frag) (H : Hp) (x : V) (t : Value) : Prop := TyX K H x t ∨ ∃ (a C dd : Addr) (p : Str) (v : V), x = .ref a ∧ t = .ref C ∧ H a = some (ExcV (.ref C) (some dd) a) ∧ H dd = some (.xd [(p, v)]) ∧ ExcC K C
section
variable {X : Cx} {pins : List (Addr × Obj)} {σ : L2.St} {H : Hp} {s : Shared}
theorem held_inst (I : Inv X pins σ H s) {a C dd : Addr} {p : Str} {v : V} (h1 : H a = some (ExcV (.ref C) (some dd) a)) (h2 : H dd = some (.xd [(p, v)])) :
    ∃ (oe : Obj) (od : Obj) (mA : Str → Option Value), PySem.W.InstAt s.heap a oe C (some od) ∧ s.heap.Ns1 dd mA ∧ (∀ f, lookIn f od = some (mA f)) ∧ (∀ f, RelO (List.lookup f [(p, v)]) (mA f)) := by
  obtain ⟨⟨oe, vs, e, z, hd⟩, _⟩ := (show ObjOk X.prog X.w H s.heap a (ExcV (.ref C) (some dd) a) from I.hok a _ h1)
  obtain ⟨mA, hns, hr⟩ := (show ObjOk X.prog X.w H s.heap dd (.xd [(p, v)]) from I.hok dd _ h2)
  obtain ⟨od, ho, hl⟩ := lookIn_ns hns
  exact ⟨oe, od, mA, ⟨e, z.1, by unfold PySem.W.notCls; rw [hd] <;> rfl, by rw [z.2]; exact ho⟩, hns, hl, hr⟩
theorem kit_ofB {x : V} {u t : Value} (I : Inv X pins σ H s) (rx : RelV x u) (ty : TyB X.K H x t) : ∃ P : Heap → Prop, PySem.W.KitX X.K u t P ∧ P s.heap ∧ u ≠ .builtin "__main__.__loader__#opaque" := by
  rcases ty with ty | ⟨a, C, dd, p, v, rfl, rfl, h1, h2, c⟩
  · exact kit_of I rx ty
  · cases (show u = Value.ref a from rx)
    obtain ⟨oe, od, mA, J, _⟩ := held_inst I h1 h2
    exact ⟨_, kitx_held c, ⟨oe, some od, J⟩, fun z => nomatch z⟩
end
def rIsiB (K : PySem.W.Frag) : List V → Hp → VK → Prop := fun xs H Q => ∃ (x c : V) (t u : Value) (b : Bool), xs = [x, c] ∧ ClsV c u ∧ TyB K H x t ∧ PySem.W.kitOne K t u = some b ∧ Q (.bl b) H
def rIsiTB (K : PySem.W.Frag) : List V → Hp → VK → Prop := fun xs H Q => ∃ (x : V) (tp : Addr) (cs : List V) (t : Value) (us : List Value) (b : Bool), xs = [x, .ref tp] ∧ H tp = some (.tup cs) ∧ Paired ClsV cs us ∧ TyB K H x t ∧ PySem.W.kitAny K t us = some b ∧ Q (.bl b) H
section
variable {X : Cx}
theorem call_isiB : CallR X (.builtin "isinstance") (rIsiB X.K) := by
  intro pins s σ H xs us Q I r h
  obtain ⟨x, c, t, u, b, rfl, k, ty, e, q⟩ := h
  obtain ⟨u1, u2, rfl, r1, r2⟩ := vals2 r
  have e2 := k.eq r2
  subst e2
  obtain ⟨P, Z, p, hx⟩ := kit_ofB I r1 ty
  exact PySem.W.kia_one Z I.kIn p e hx fun tk => ⟨.bl b, H, I.tok tk, rfl, q⟩
theorem call_isiTB : CallR X (.builtin "isinstance") (rIsiTB X.K) := by
  intro pins s σ H xs us Q I r h
  obtain ⟨x, tp, cs, t, ws, b, rfl, hT, k, ty, e, q⟩ := h
  obtain ⟨u1, u2, rfl, r1, r2⟩ := vals2 r
  cases (show u2 = Value.ref tp from r2)
  obtain ⟨P, Z, p, hx⟩ := kit_ofB I r1 ty
  obtain ⟨_, its, rv, o, h1, h2, n, h3⟩ := (show ObjOk X.prog X.w H s.heap tp (.tup cs) from I.hok tp _ hT)
  have e3 := ClsV.all k rv
  subst e3
  obtain ⟨oc, od, dt, sl⟩ := o
  simp only at h2 h3
  subst h2 h3
  exact PySem.W.kia_tup Z I.kIn p h1 e hx fun tk => ⟨.bl b, H, I.tok tk, rfl, q⟩
end
/-! ### e.p, e a held exception -/
theorem held_get {X : Cx} {pins : List (Addr × Obj)} {σ : L2.St} {H : Hp} {s : Shared} (I : Inv X pins σ H s) {a C dd : Addr} {p : Str} {v : V} {Q : VK} (h1 : H a = some (ExcV (.ref C) (some dd) a)) (h2 : H dd = some (.xd [(p, v)])) (c : ExcC X.K C) (noP : PySem.W.findIn X.K (.ref C) p = some none) (q : Q v H) :
    wpAny (model X.prog X.w) X.A (getAttr (.ref a) p true) (fun u s' => ∃ v H', Inv X pins σ H' s' ∧ RelV v u ∧ Q v H') X.xe s := by
  obtain ⟨oe, od, mA, J, hns, hl, hr⟩ := held_inst I h1 h2
  have l : List.lookup p [(p, v)] = some v := by simp [List.lookup]
  obtain ⟨u, hu, ru⟩ := RelO.some_of (v := v) (o := mA p) (by rw [← l]; exact hr p)
  exact HandSPX.exc_get I.kIn J c.hg c.hk c.hs (PySem.W.findObj_own c.hd noP rfl (by rw [hl, hu])) (handed_of ru) ⟨v, H, I.tok _, ru, q⟩
end BV

namespace BV
open PySem
/-! ### zip(a, b, strict=True) of two tuples of one length -/
abbrev IsZ (h : Heap) (z TI TO : Addr) (f0 : Value) (f1 : Bool) : Prop :=
  h.get? z = some { cls := .type "zip", dict := none, data := .fields #[f0, .bool f1, .bool true, .ref TI, .ref TO], slots := #[] }
section
variable {prog : Program} {w : World} {A : Around} {E : Value → Shared → Prop} {s : Shared}
theorem draw_item {it l : Addr} {i : Nat} {items} {x : Value} {Q : Option Value → Shared → Prop} (hit : s.heap.IsTupleIter it l i) (hl : s.heap.IsTuple l items) (hx : items[i]? = some x)
    (hQ : ∀ h', h'.IsTupleIter it l (i + 1) → Heap.SameBut it s.heap h' → Q (some x) { s with heap := h' }) : wpAny (model prog w) A (Builtin.SmallTypes.nextOrEnd (.ref it)) Q E s := by
  unfold Builtin.SmallTypes.nextOrEnd
  exact wpAny_bind (wpAny_attempt (RZ.nextOf_tuple_item hit hl hx fun h' a b => wpAny_pure (hQ h' a b)))
theorem draw_end {it l : Addr} {i : Nat} {items} {Q : Option Value → Shared → Prop} (hh : A.handled = none) (hit : s.heap.IsTupleIter it l i) (hl : s.heap.IsTuple l items) (hx : items[i]? = none)
    (hQ : ∀ h', Heap.ExtBut it s.heap h' → Q none { s with heap := h' }) : wpAny (model prog w) A (Builtin.SmallTypes.nextOrEnd (.ref it)) Q E s := by
  unfold Builtin.SmallTypes.nextOrEnd
  refine wpAny_bind (wpAny_attempt (RZ.nextOf_tuple_end hh hit hl hx fun h' e k ⟨o, ho, hc⟩ => ?_))
  refine wpAny_bind (wpAny_isInstance (T := "StopIteration") (b := true) ⟨o, ho, hc⟩ isSubtype_stop ?_)
  exact wpAny_pure (hQ _ k)
/-- what one turn leaves -/
structure ZTurn (h h' : Heap) (z TI TO i1 i2 l1 l2 : Addr) (k : Nat) (x y : Value) (T : Addr) : Prop where
  zz : ∃ f0 f1, IsZ h' z TI TO f0 f1 ∧ (f0 = .none ∨ ∃ (T0 : Addr) (o : Obj), f0 = rawInt T0 ∧ h'.get? T0 = some o ∧ T0 ≠ z ∧ T0 ≠ i1 ∧ T0 ≠ i2)
  to : ∃ a b, IsPair h' TO a b
  n1 : h'.IsTupleIter i1 l1 (k + 1)
  n2 : h'.IsTupleIter i2 l2 (k + 1)
  tt : IsPair h' T x y
  new : h.objs.size ≤ T
  keep : ∀ c o, c ≠ z → c ≠ TO → c ≠ i1 → c ≠ i2 → h.get? c = some o → h'.get? c = some o
theorem zs_free {z TI TO i1 i2 l1 l2 : Addr} {k : Nat} {xs ys : Array Value} {x y a b : Value} {f1 : Bool} {Q : Fin → Shared → Prop} (D : ZipApart z TI TO i1 i2 l1 l2)
    (hz : IsZ s.heap z TI TO .none f1) (hTI : IsPair s.heap TI (.ref i1) (.ref i2)) (hTO : IsPair s.heap TO a b)
    (h1 : s.heap.IsTupleIter i1 l1 k) (h2 : s.heap.IsTupleIter i2 l2 k) (hl1 : s.heap.IsTuple l1 xs) (hl2 : s.heap.IsTuple l2 ys) (hx : xs[k]? = some x) (hy : ys[k]? = some y)
    (hQ : ∀ h' T, ZTurn s.heap h' z TI TO i1 i2 l1 l2 k x y T → IsZ h' z TI TO (rawInt T) false → Q (.done (.ret (.ref T))) { s with heap := h' }) :
    wpAny (model prog w) A (Builtin.«zip.__next__» ⟨[.ref z], []⟩) Q E s := by
  show wpAny _ _ (field (.ref z) 2 >>= _) _ _ _
  refine wpAny_bind (wpAny_field hz rfl (x := .bool true) rfl ?_)
  show wpAny _ _ (field (.ref z) 3 >>= _) _ _ _
  refine wpAny_bind (wpAny_field hz rfl (x := .ref TI) rfl ?_)
  refine wpAny_bind (wpAny_seqItems hTI rfl ?_)
  show wpAny _ _ (Builtin.SmallTypes.ownedTupleIsFree (.ref z) >>= _) _ _ _
  refine wpAny_bind ?_
  unfold Builtin.SmallTypes.ownedTupleIsFree
  refine wpAny_bind (wpAny_field hz rfl (x := .none) rfl (wpAny_pure ?_))
  simp only [if_true]
  refine wpAny_bind (wpAny_rule ?_)
  refine wpAny_bind (wpAny_field hz rfl (x := .ref TO) rfl ?_)
  refine wpAny_bind (wpAny_setField_rec hz (by simp) fun h₁ hz₁ hs₁ => ?_)
  replace hz₁ : IsZ h₁ z TI TO .ellipsis f1 := hz₁
  refine wpAny_bind ?_
  simp only [List.zipIdx_cons, List.zipIdx_nil, List.forIn_cons, List.forIn_nil]
  refine wpAny_bind (wpAny_bind (wpAny_onRaise ?_))
  show wpAny _ _ (Builtin.SmallTypes.nextOrEnd (.ref i1)) _ _ _
  refine draw_item (h1.extBut hs₁.extBut D.i1z) (hl1.extBut hs₁.extBut D.l1z) hx fun h₂ h1₂ hs₂ => ?_
  have hTO₂ : IsPair h₂ TO a b := hs₂.extBut _ _ D.TOi1 (hs₁.extBut _ _ D.TOz hTO)
  refine wpAny_bind (wpAny_seqItems hTO₂ rfl ?_)
  refine wpAny_bind (wpAny_updateSeq_pair hTO₂ fun h₃ hTO₃ hs₃ => ?_)
  replace hTO₃ : IsPair h₃ TO x b := hTO₃
  refine wpAny_bind (wpAny_letGo (wpAny_pure ?_))
  refine wpAny_bind (wpAny_bind (wpAny_onRaise ?_))
  show wpAny _ _ (Builtin.SmallTypes.nextOrEnd (.ref i2)) _ _ _
  refine draw_item (((h2.extBut hs₁.extBut D.i2z).extBut hs₂.extBut D.i12.symm).extBut hs₃.extBut D.TOi2.symm)
    (((hl2.extBut hs₁.extBut D.l2z).extBut hs₂.extBut D.l2i1).extBut hs₃.extBut D.l2TO) hy fun h₄ h2₄ hs₄ => ?_
  have hTO₄ : IsPair h₄ TO x b := hs₄.extBut _ _ D.TOi2 hTO₃
  refine wpAny_bind (wpAny_seqItems hTO₄ rfl ?_)
  refine wpAny_bind (wpAny_updateSeq_pair hTO₄ fun h₅ hTO₅ hs₅ => ?_)
  replace hTO₅ : IsPair h₅ TO x y := hTO₅
  refine wpAny_bind (wpAny_letGo (wpAny_pure (wpAny_pure ?_)))
  refine wpAny_bind (wpAny_seqItems hTO₅ rfl ?_)
  refine wpAny_bind (wpAny_newTuple ?_)
  have hz₅ : IsZ h₅ z TI TO .ellipsis f1 := hs₅.extBut _ _ D.TOz.symm (hs₄.extBut _ _ D.i2z.symm (hs₃.extBut _ _ D.TOz.symm (hs₂.extBut _ _ D.i1z.symm hz₁)))
  have hk₅ : ∀ c o, c ≠ z → c ≠ TO → c ≠ i1 → c ≠ i2 → s.heap.get? c = some o → h₅.get? c = some o := fun c o c1 c2 c3 c4 e =>
    hs₅.extBut _ _ c2 (hs₄.extBut _ _ c4 (hs₃.extBut _ _ c2 (hs₂.extBut _ _ c3 (hs₁.extBut _ _ c1 e))))
  have h1₅ : h₅.IsTupleIter i1 l1 (k + 1) := ((h1₂.extBut hs₃.extBut D.TOi1.symm).extBut hs₄.extBut D.i12).extBut hs₅.extBut D.TOi1.symm
  have h2₅ : h₅.IsTupleIter i2 l2 (k + 1) := h2₄.extBut hs₅.extBut D.TOi2.symm
  have hzlt : z < h₅.objs.size := Heap.lt_size hz₅
  have hsz : s.heap.objs.size ≤ h₅.objs.size := by rw [hs₅.1, hs₄.1, hs₃.1, hs₂.1, hs₁.1]; exact Nat.le_refl _
  show wpAny _ _ (Builtin.SmallTypes.ownedTupleHandOut (.ref z) (.ref h₅.objs.size) >>= _) _ _ _
  refine wpAny_bind ?_
  unfold Builtin.SmallTypes.ownedTupleHandOut
  have hz₆ : IsZ (h₅.push { cls := .type "tuple", data := .seq #[x, y] }) z TI TO .ellipsis f1 := Heap.get?_push_of_some _ hz₅
  refine wpAny_bind (wpAny_setField_rec hz₆ (by simp) fun h₇ hz₇ hs₇ => ?_)
  replace hz₇ : IsZ h₇ z TI TO (rawInt h₅.objs.size) f1 := hz₇
  refine wpAny_setField_rec hz₇ (by simp) fun h₈ hz₈ hs₈ => ?_
  replace hz₈ : IsZ h₈ z TI TO (rawInt h₅.objs.size) false := hz₈
  have up : ∀ c o, c ≠ z → h₅.get? c = some o → h₈.get? c = some o := fun c o c1 e => hs₈.extBut _ _ c1 (hs₇.extBut _ _ c1 (Heap.get?_push_of_some _ e))
  have hT₈ : IsPair h₈ h₅.objs.size x y := hs₈.extBut _ _ (Nat.ne_of_gt hzlt) (hs₇.extBut _ _ (Nat.ne_of_gt hzlt) (Heap.get?_push_size _ rfl))
  refine wpAny_pure (hQ h₈ _ ⟨⟨_, _, hz₈, .inr ⟨_, _, rfl, hT₈, Nat.ne_of_gt hzlt, (fun q => by obtain ⟨_, e, _⟩ := h1₅; exact absurd (Heap.lt_size e) (by rw [← q]; exact Nat.lt_irrefl _)), (fun q => by obtain ⟨_, e, _⟩ := h2₅; exact absurd (Heap.lt_size e) (by rw [← q]; exact Nat.lt_irrefl _))⟩⟩, ⟨_, _, up _ _ D.TOz hTO₅⟩, h1₅.at fun o e => up _ o D.i1z e, h2₅.at fun o e => up _ o D.i2z e, hT₈, hsz, fun c o c1 c2 c3 c4 e => up c o c1 (hk₅ c o c1 c2 c3 c4 e)⟩ hz₈)

theorem alive {a : Addr} {o : Obj} {Q : Option Obj → Shared → Prop} (ho : s.heap.get? a = some o) (h : Q (some o) s) : wpAny (model prog w) A (loadIfAlive a) Q E s := fun Γ p _ => by
  show Sem.wp _ _ (.loadIfAlive a .pure) _ _ _ _
  rw [Sem.wp_loadIfAlive, ho]
  exact (Sem.wp_pure' ..).mpr h
theorem zs_busy {z TI TO i1 i2 l1 l2 T0 : Addr} {o0 : Obj} {k : Nat} {xs ys : Array Value} {x y a b : Value} {f1 : Bool} {Q : Fin → Shared → Prop} (D : ZipApart z TI TO i1 i2 l1 l2)
    (hz : IsZ s.heap z TI TO (rawInt T0) f1) (hT0 : s.heap.get? T0 = some o0) (hT0z : T0 ≠ z) (hT0i : T0 ≠ i1 ∧ T0 ≠ i2) (hTI : IsPair s.heap TI (.ref i1) (.ref i2)) (hTO : IsPair s.heap TO a b)
    (h1 : s.heap.IsTupleIter i1 l1 k) (h2 : s.heap.IsTupleIter i2 l2 k) (hl1 : s.heap.IsTuple l1 xs) (hl2 : s.heap.IsTuple l2 ys) (hx : xs[k]? = some x) (hy : ys[k]? = some y)
    (hQ : ∀ h' T, ZTurn s.heap h' z TI TO i1 i2 l1 l2 k x y T → Q (.done (.ret (.ref T))) { s with heap := h' }) :
    wpAny (model prog w) A (Builtin.«zip.__next__» ⟨[.ref z], []⟩) Q E s := by
  show wpAny _ _ (field (.ref z) 2 >>= _) _ _ _
  refine wpAny_bind (wpAny_field hz rfl (x := .bool true) rfl ?_)
  show wpAny _ _ (field (.ref z) 3 >>= _) _ _ _
  refine wpAny_bind (wpAny_field hz rfl (x := .ref TI) rfl ?_)
  refine wpAny_bind (wpAny_seqItems hTI rfl ?_)
  show wpAny _ _ (Builtin.SmallTypes.ownedTupleIsFree (.ref z) >>= _) _ _ _
  refine wpAny_bind ?_
  unfold Builtin.SmallTypes.ownedTupleIsFree
  refine wpAny_bind (wpAny_field hz rfl (x := rawInt T0) rfl ?_)
  simp only [rawInt]
  refine wpAny_bind (alive (o := o0) (by simpa using hT0) ?_)
  simp only [Option.isNone_some, Bool.false_eq_true, if_false]
  refine wpAny_bind (wpAny_field hz rfl (x := .bool f1) rfl ?_)
  refine wpAny_mono (Q := fun a s' => a = false ∧ ∃ h₁, s' = { s with heap := h₁ } ∧ IsZ h₁ z TI TO (rawInt T0) true ∧ Heap.SameBut z s.heap h₁) (E := E) ?_ (fun a s' hh => ?_) (fun _ _ z => z)
  · cases f1 with
    | true =>
      rw [if_neg (by simp)]
      exact wpAny_pure ⟨rfl, s.heap, rfl, hz, rfl, fun _ _ => rfl⟩
    | false =>
      rw [if_pos (by simp)]
      exact wpAny_bind (wpAny_setField_rec hz (by simp) fun h₁ hz₁ hs₁ => wpAny_pure ⟨rfl, h₁, rfl, hz₁, hs₁⟩)
  obtain ⟨rfl, h₁, rfl, hz₁, hs₁⟩ := hh
  simp only [Bool.false_eq_true, if_false]
  refine wpAny_bind ?_
  rw [show (#[Value.ref i1, Value.ref i2] : Array Value) = [Value.ref i1, Value.ref i2].toArray from rfl, List.forIn_toArray]
  simp only [List.forIn_cons, List.forIn_nil]
  refine wpAny_bind (wpAny_bind (wpAny_holding ?_))
  show wpAny _ _ (Builtin.SmallTypes.nextOrEnd (.ref i1)) _ _ _
  refine draw_item (h1.extBut hs₁.extBut D.i1z) (hl1.extBut hs₁.extBut D.l1z) hx fun h₂ h1₂ hs₂ => ?_
  refine wpAny_pure ?_
  refine wpAny_bind (wpAny_bind (wpAny_holding ?_))
  show wpAny _ _ (Builtin.SmallTypes.nextOrEnd (.ref i2)) _ _ _
  refine draw_item ((h2.extBut hs₁.extBut D.i2z).extBut hs₂.extBut D.i12.symm) ((hl2.extBut hs₁.extBut D.l2z).extBut hs₂.extBut D.l2i1) hy fun h₃ h2₃ hs₃ => ?_
  refine wpAny_pure (wpAny_pure ?_)
  refine wpAny_bind (wpAny_newTuple (wpAny_pure ?_) (by show 2 ≤ sizeLine; decide))
  have hz₃ : IsZ h₃ z TI TO (rawInt T0) true := hs₃.extBut _ _ D.i2z.symm (hs₂.extBut _ _ D.i1z.symm hz₁)
  have hk₃ : ∀ c o, c ≠ z → c ≠ i1 → c ≠ i2 → s.heap.get? c = some o → h₃.get? c = some o := fun c o c1 c3 c4 e => hs₃.extBut _ _ c4 (hs₂.extBut _ _ c3 (hs₁.extBut _ _ c1 e))
  have up : ∀ c o, h₃.get? c = some o → (h₃.push { cls := .type "tuple", data := .seq #[x, y] }).get? c = some o := fun c o e => Heap.get?_push_of_some _ e
  have hsz : s.heap.objs.size ≤ h₃.objs.size := by rw [hs₃.1, hs₂.1, hs₁.1]; exact Nat.le_refl _
  have h1₃ : h₃.IsTupleIter i1 l1 (k + 1) := h1₂.extBut hs₃.extBut D.i12
  exact hQ _ _ ⟨⟨_, _, up _ _ hz₃, .inr ⟨_, _, rfl, up _ _ (hk₃ _ _ hT0z hT0i.1 hT0i.2 hT0), hT0z, hT0i.1, hT0i.2⟩⟩, ⟨_, _, up _ _ (hk₃ _ _ D.TOz D.TOi1 D.TOi2 hTO)⟩, h1₃.at fun o e => up _ o e, h2₃.at fun o e => up _ o e, Heap.get?_push_size _ rfl, hsz, fun c o c1 _ c3 c4 e => up c o (hk₃ c o c1 c3 c4 e)⟩

theorem strict_tail {i2 l2 : Addr} {k : Nat} {ys : Array Value} {Q : Fin → Shared → Prop} (hh : A.handled = none) (h2 : s.heap.IsTupleIter i2 l2 k) (hl2 : s.heap.IsTuple l2 ys) (hy : ys[k]? = none)
    (hE : ∀ h' e, Heap.ExtBut i2 s.heap h' → (∃ o, h'.get? e = some o ∧ o.cls = .type "StopIteration") → E (.ref e) { s with heap := h' }) :
    wpAny (model prog w) A (do
      for (it, j) in ([Value.ref i2] : List Value).zipIdx 1 do
        if (← Builtin.SmallTypes.nextOrEnd it).isSome then
          rule "zip.__next__.longer"; raiseError "ValueError" s!"zip() argument {j + 1} is longer than {if (j : Nat) == 1 then "argument 1" else s!"arguments 1-{j}"}"
      rule "zip.__next__.all-ended"; Builtin.SmallTypes.stopIteration : Sem Fin) Q E s := by
  refine wpAny_bind ?_
  simp only [List.zipIdx_cons, List.zipIdx_nil, List.forIn_cons, List.forIn_nil]
  refine wpAny_bind (wpAny_bind (draw_end hh h2 hl2 hy fun h₁ hs₁ => ?_))
  simp only [Option.isSome_none, Bool.false_eq_true, if_false]
  refine wpAny_pure (wpAny_pure (wpAny_bind (wpAny_rule ?_)))
  unfold Builtin.SmallTypes.stopIteration
  refine wpAny_bind ?_
  refine wpAny_bind (wpAny_newObj_type ?_ (by size_fits))
  refine wpAny_bind (m := firstArgMember _ _) (wpAny_of_eq (a := Value.none) (by first | rfl | (simp only [firstArgMember]; rfl)) ?_)
  refine wpAny_newObj_type ?_ (by size_fits)
  simp only [raiseNew]
  refine wpAny_bind (wpAny_handled ?_)
  first | rw [show A.in1.handled = none from hh] | rw [hh]
  refine wpAny_bind (wpAny_pure (wpAny_throw ?_))
  exact hE _ _ ((hs₁.push _).push _) ⟨_, Heap.get?_push_size _ rfl, rfl⟩
theorem zs_end {z TI TO i1 i2 l1 l2 : Addr} {k : Nat} {xs ys : Array Value} {a b f0 : Value} {f1 : Bool} {Q : Fin → Shared → Prop} (hh : A.handled = none) (D : ZipApart z TI TO i1 i2 l1 l2)
    (hz : IsZ s.heap z TI TO f0 f1) (hf0 : f0 = .none ∨ ∃ (T0 : Addr) (o : Obj), f0 = rawInt T0 ∧ s.heap.get? T0 = some o ∧ T0 ≠ z) (hTI : IsPair s.heap TI (.ref i1) (.ref i2)) (hTO : IsPair s.heap TO a b)
    (h1 : s.heap.IsTupleIter i1 l1 k) (h2 : s.heap.IsTupleIter i2 l2 k) (hl1 : s.heap.IsTuple l1 xs) (hl2 : s.heap.IsTuple l2 ys) (hx : xs[k]? = none) (hy : ys[k]? = none)
    (hE : ∀ h' e, (∀ c o, c ≠ z → c ≠ TO → c ≠ i1 → c ≠ i2 → s.heap.get? c = some o → h'.get? c = some o) → (∃ o, h'.get? e = some o ∧ o.cls = .type "StopIteration") → E (.ref e) { s with heap := h' }) :
    wpAny (model prog w) A (Builtin.«zip.__next__» ⟨[.ref z], []⟩) Q E s := by
  show wpAny _ _ (field (.ref z) 2 >>= _) _ _ _
  refine wpAny_bind (wpAny_field hz rfl (x := .bool true) rfl ?_)
  show wpAny _ _ (field (.ref z) 3 >>= _) _ _ _
  refine wpAny_bind (wpAny_field hz rfl (x := .ref TI) rfl ?_)
  refine wpAny_bind (wpAny_seqItems hTI rfl ?_)
  show wpAny _ _ (Builtin.SmallTypes.ownedTupleIsFree (.ref z) >>= _) _ _ _
  refine wpAny_bind ?_
  unfold Builtin.SmallTypes.ownedTupleIsFree
  refine wpAny_bind (wpAny_field hz rfl (x := f0) rfl ?_)
  rcases hf0 with rfl | ⟨T0, o0, rfl, hT0, hT0z⟩
  · refine wpAny_pure ?_
    simp only [if_true]
    refine wpAny_bind (wpAny_rule ?_)
    refine wpAny_bind (wpAny_field hz rfl (x := .ref TO) rfl ?_)
    refine wpAny_bind (wpAny_setField_rec hz (by simp) fun h₁ hz₁ hs₁ => ?_)
    replace hz₁ : IsZ h₁ z TI TO .ellipsis f1 := hz₁
    refine wpAny_bind ?_
    simp only [List.zipIdx_cons, List.zipIdx_nil, List.forIn_cons, List.forIn_nil]
    refine wpAny_bind (wpAny_bind (wpAny_onRaise ?_))
    show wpAny _ _ (Builtin.SmallTypes.nextOrEnd (.ref i1)) _ _ _
    refine draw_end hh (h1.extBut hs₁.extBut D.i1z) (hl1.extBut hs₁.extBut D.l1z) hx fun h₂ hs₂ => ?_
    have hz₂ : IsZ h₂ z TI TO .ellipsis f1 := hs₂ _ _ D.i1z.symm hz₁
    refine wpAny_bind (wpAny_setField_rec hz₂ (by simp) fun h₃ hz₃ hs₃ => ?_)
    refine wpAny_bind ?_
    exact strict_tail hh (((h2.extBut hs₁.extBut D.i2z).extBut hs₂ D.i12.symm).extBut hs₃.extBut D.i2z) (((hl2.extBut hs₁.extBut D.l2z).extBut hs₂ D.l2i1).extBut hs₃.extBut D.l2z) hy fun h₄ e hs₄ he =>
      hE h₄ e (fun c o c1 c2 c3 c4 x => hs₄ _ _ c4 (hs₃.extBut _ _ c1 (hs₂ _ _ c3 (hs₁.extBut _ _ c1 x)))) he
  · simp only [rawInt]
    refine wpAny_bind (alive (o := o0) (by simpa using hT0) ?_)
    simp only [Option.isNone_some, Bool.false_eq_true, if_false]
    refine wpAny_bind (wpAny_field hz rfl (x := .bool f1) rfl ?_)
    refine wpAny_mono (Q := fun a s' => a = false ∧ ∃ h₁, s' = { s with heap := h₁ } ∧ IsZ h₁ z TI TO (rawInt T0) true ∧ Heap.SameBut z s.heap h₁) (E := E) ?_ (fun a s' hh2 => ?_) (fun _ _ z => z)
    · cases f1 with
      | true =>
        rw [if_neg (by simp)]
        exact wpAny_pure ⟨rfl, s.heap, rfl, hz, rfl, fun _ _ => rfl⟩
      | false =>
        rw [if_pos (by simp)]
        exact wpAny_bind (wpAny_setField_rec hz (by simp) fun h₁ hz₁ hs₁ => wpAny_pure ⟨rfl, h₁, rfl, hz₁, hs₁⟩)
    obtain ⟨rfl, h₁, rfl, hz₁, hs₁⟩ := hh2
    simp only [Bool.false_eq_true, if_false]
    refine wpAny_bind ?_
    rw [show (#[Value.ref i1, Value.ref i2] : Array Value) = [Value.ref i1, Value.ref i2].toArray from rfl, List.forIn_toArray]
    simp only [List.forIn_cons, List.forIn_nil]
    refine wpAny_bind (wpAny_bind (wpAny_holding ?_))
    show wpAny _ _ (Builtin.SmallTypes.nextOrEnd (.ref i1)) _ _ _
    refine draw_end hh (h1.extBut hs₁.extBut D.i1z) (hl1.extBut hs₁.extBut D.l1z) hx fun h₂ hs₂ => ?_
    refine wpAny_bind ?_
    exact strict_tail hh ((h2.extBut hs₁.extBut D.i2z).extBut hs₂ D.i12.symm) ((hl2.extBut hs₁.extBut D.l2z).extBut hs₂ D.l2i1) hy fun h₄ e hs₄ he =>
      hE h₄ e (fun c o c1 c2 c3 c4 x => hs₄ _ _ c4 (hs₂ _ _ c3 (hs₁.extBut _ _ c1 x))) he
end
end BV

namespace BV
open PySem
abbrev stKw : List (Str × Value) := [(("strict" : Str), .bool true)]
theorem zs_typeCall (a b : Value) : checkTypeCall "zip" ⟨[a, b], stKw⟩ = pure () := by kernel_rfl
theorem zs_newCall (a b : Value) : checkBuiltinCall "zip.__new__" ⟨[.type "zip", a, b], stKw⟩ = pure () := by kernel_rfl
theorem zs_init (o a b : Value) : argsOk "object.__init__" ⟨[o, a, b], stKw⟩ := by
  unfold argsOk; rw [signature?_of (id := "object.__init__") (n := ['_', '_', 't', 'i', 'n', 'i', '_', '_']) (o := ['t', 'c', 'e', 'j', 'b', 'o']) (by kernel_rfl) F.owner_object]; kernel_rfl
theorem zs_new (l1 l2 : Addr) (xs ys : Array Value) :
    Meets (Builtin.«zip.__new__» ⟨[.type "zip", .ref l1, .ref l2], stKw⟩) (fun _ R s => s.heap.IsTuple l1 xs ∧ s.heap.IsTuple l2 ys ∧
      R (.ok (.ret (.ref (RZ.zipTH4 s.heap l1 l2).objs.size))) { s with heap := (RZ.zipTH4 s.heap l1 l2).push { cls := .type "zip", data := .fields #[.none, .bool false, .bool true, .ref (RZ.zipTH2 s.heap l1 l2).objs.size, .ref (RZ.zipTH3 s.heap l1 l2).objs.size] } }) :=
  .of_wp fun prog w A R s h => by
    obtain ⟨hp, g, d, tk, os⟩ := s; obtain ⟨hl1, hl2, h⟩ := h
    have hsub := sub_zip
    have hL1 : Heap.IsTuple (Shared.heap ⟨hp, g, d, tk, os⟩) l1 xs := hl1
    have hL2 : Heap.IsTuple (Shared.heap ⟨hp.push { cls := .type "tuple_iterator", data := .fields #[.ref l1, .int 0 0] }, g, d, tk, os⟩) l2 ys := Heap.IsTuple.push hl2 _
    wp_walk using wpAny_pyIter_tuple hL1, wpAny_pyIter_tuple hL2
    exact ⟨_, rfl, h⟩

theorem zs_obj (self a b : Value) : Meets (Builtin.«object.__init__» ⟨[self, a, b], stKw⟩) (fun _ R s => s.TypeIs self "zip" ∧ R (.ok (.ret .none)) s) := by
  refine Meets.of_wp fun prog w A R s hs => ?_
  obtain ⟨hT, hq⟩ := hs
  have hl := F.called_zip.init.lookup
  have hm := F.called_zip.made
  have hne : (some "zip.__new__" != some "object.__new__") = true := by decide
  repeat (any_goals (first | assumption | wp_step))
  exact ⟨_, rfl, hq⟩
section
variable {prog : Program} {w : World} {A : Around} {E : Value → Shared → Prop} {s : Shared}
theorem call_zipS {l1 l2 : Addr} {xs ys : Array Value} {Q : Value → Shared → Prop} (hl1 : s.heap.IsTuple l1 xs) (hl2 : s.heap.IsTuple l2 ys)
    (h : ∀ h', IsZ h' (s.heap.objs.size + 4) (s.heap.objs.size + 2) (s.heap.objs.size + 3) .none false → IsPair h' (s.heap.objs.size + 2) (.ref s.heap.objs.size) (.ref (s.heap.objs.size + 1)) →
      IsPair h' (s.heap.objs.size + 3) .none .none → h'.IsTupleIter s.heap.objs.size l1 0 → h'.IsTupleIter (s.heap.objs.size + 1) l2 0 → h'.objs.size = s.heap.objs.size + 5 →
      (∀ c o, s.heap.get? c = some o → h'.get? c = some o) → Q (.ref (s.heap.objs.size + 4)) { s with heap := h' }) :
    wpAny (model prog w) A (call (.type "zip") [.ref l1, .ref l2] stKw) Q E s := by
  have z1 : (RZ.zipTH1 s.heap l1).objs.size = s.heap.objs.size + 1 := Heap.size_push ..
  have z2 : (RZ.zipTH2 s.heap l1 l2).objs.size = s.heap.objs.size + 2 := by rw [Heap.size_push, z1]
  have z3 : (RZ.zipTH3 s.heap l1 l2).objs.size = s.heap.objs.size + 3 := by rw [Heap.size_push, z2]
  have z4 : (RZ.zipTH4 s.heap l1 l2).objs.size = s.heap.objs.size + 4 := by rw [Heap.size_push, z3]
  obtain ⟨h5, e5⟩ : ∃ h5, h5 = (RZ.zipTH4 s.heap l1 l2).push { cls := .type "zip", data := .fields #[.none, .bool false, .bool true, .ref (RZ.zipTH2 s.heap l1 l2).objs.size, .ref (RZ.zipTH3 s.heap l1 l2).objs.size] } := ⟨_, rfl⟩
  have z5 : h5.objs.size = s.heap.objs.size + 5 := by rw [e5, Heap.size_push, z4]
  have g5 : ((RZ.zipTH4 s.heap l1 l2).push { cls := .type "zip", data := .fields #[.none, .bool false, .bool true, .ref (RZ.zipTH2 s.heap l1 l2).objs.size, .ref (RZ.zipTH3 s.heap l1 l2).objs.size] } : Heap).get? (RZ.zipTH4 s.heap l1 l2).objs.size = some _ := Heap.get?_push_size _ rfl
  have g4 : ((RZ.zipTH4 s.heap l1 l2).push { cls := .type "zip", data := .fields #[.none, .bool false, .bool true, .ref (RZ.zipTH2 s.heap l1 l2).objs.size, .ref (RZ.zipTH3 s.heap l1 l2).objs.size] } : Heap).get? (RZ.zipTH3 s.heap l1 l2).objs.size = some _ := Heap.get?_push_of_some _ (Heap.get?_push_size _ rfl)
  have g3 : ((RZ.zipTH4 s.heap l1 l2).push { cls := .type "zip", data := .fields #[.none, .bool false, .bool true, .ref (RZ.zipTH2 s.heap l1 l2).objs.size, .ref (RZ.zipTH3 s.heap l1 l2).objs.size] } : Heap).get? (RZ.zipTH2 s.heap l1 l2).objs.size = some _ := Heap.get?_push_of_some _ (Heap.get?_push_of_some _ (Heap.get?_push_size _ rfl))
  have g2 : ((RZ.zipTH4 s.heap l1 l2).push { cls := .type "zip", data := .fields #[.none, .bool false, .bool true, .ref (RZ.zipTH2 s.heap l1 l2).objs.size, .ref (RZ.zipTH3 s.heap l1 l2).objs.size] } : Heap).get? (RZ.zipTH1 s.heap l1).objs.size = some _ := Heap.get?_push_of_some _ (Heap.get?_push_of_some _ (Heap.get?_push_of_some _ (Heap.get?_push_size _ rfl)))
  have g1 : ((RZ.zipTH4 s.heap l1 l2).push { cls := .type "zip", data := .fields #[.none, .bool false, .bool true, .ref (RZ.zipTH2 s.heap l1 l2).objs.size, .ref (RZ.zipTH3 s.heap l1 l2).objs.size] } : Heap).get? s.heap.objs.size = some _ := Heap.get?_push_of_some _ (Heap.get?_push_of_some _ (Heap.get?_push_of_some _ (Heap.get?_push_of_some _ (Heap.get?_push_size _ rfl))))
  have kk : ∀ c o, s.heap.get? c = some o → h5.get? c = some o := fun c o x => by
    rw [e5]; exact Heap.get?_push_of_some _ (Heap.get?_push_of_some _ (Heap.get?_push_of_some _ (Heap.get?_push_of_some _ (Heap.get?_push_of_some _ x))))
  rw [← e5] at g5 g4 g3 g2 g1
  rw [z2, z3, z4] at g5
  rw [z1, z2] at g3
  rw [z3] at g4
  rw [z1] at g2
  have fin := h h5 g5 g3 g4 ⟨_, g1, rfl, rfl⟩ ⟨_, g2, rfl, rfl⟩ z5 kk
  have ft := F.called_zip
  obtain ⟨c, tl, hmro⟩ := ft.mro
  have hmade := ft.made
  have hsub := ft.sub
  have hct := zs_typeCall (.ref l1) (.ref l2)
  refine wpAny_call (codeAny_of_tree ?_)
  show wpAny _ _ (callAny (.type "zip") _) _ _ _
  refine wpAny_pure ⟨Code.quiet_builtin _ (by decide +kernel), codeAny_builtin F.entry_type_call ?_⟩
  rw [Around.under_plain (weight_type_call_type "zip" [.ref l1, .ref l2] stKw) (units_type_call_type "zip" [.ref l1, .ref l2] stKw)]
  have h1 := ft.notType
  have h2 := ft.canCreate
  repeat (any_goals (first | assumption | wp_step))
  refine codeAny_mono (codeAny_call_builtin ft.plain F.entry_zip_new (wpAny_of_eq (zs_newCall _ _) (zs_new l1 l2 xs ys prog w A.in1 (wants (fun obj s₁ => obj = .ref (s.heap.objs.size + 4) ∧ s₁ = { s with heap := h5 }) (fun _ _ => False)) s ⟨hl1, hl2, ?_⟩))) fun r s₁ hr => ?_
  · rw [z4, ← z4, ← e5, z4]
    exact ⟨rfl, rfl⟩
  cases r with
  | error e => exact False.elim hr
  | ok fl =>
    cases fl with
    | ret obj =>
      obtain ⟨rfl, rfl⟩ := hr
      have hT : Shared.TypeIs { s with heap := h5 } (.ref (s.heap.objs.size + 4)) "zip" := ⟨_, g5, rfl⟩
      have hli := ft.init.lookup
      have hbi := ft.init.bind (.ref (s.heap.objs.size + 4))
      repeat (any_goals (first | assumption | wp_step))
      refine codeAny_mono (codeAny_call_builtin ft.init.plain F.entry_object_init (ft.init.check _ _ _ _ _ _ _ _ hT (zs_init _ _ _) (zs_obj _ _ _ prog w A.in1 (wants (fun r s₁ => r = .none ∧ s₁ = { s with heap := h5 }) (fun _ _ => False)) _ ⟨hT, rfl, rfl⟩))) fun r₂ s₂ hr₂ => ?_
      cases r₂ with
      | error e => exact False.elim hr₂
      | ok fl₂ =>
        cases fl₂ with
        | ret r =>
          obtain ⟨rfl, rfl⟩ := hr₂
          repeat (any_goals (first | assumption | wp_step))
        | _ => exact False.elim hr₂
    | _ => exact False.elim hr
end
end BV

namespace BV
open PySem L2
section
variable {prog : Program} {w : World} {A : Around} {E : Value → Shared → Prop} {s : Shared}
theorem nx_zs {z : Addr} {o : Obj} {Q : Option Value → Shared → Prop} (hz : s.heap.get? z = some o) (hc : o.cls = .type "zip")
    (h : wpAny (model prog w) A.in1 (Builtin.«zip.__next__» ⟨[.ref z], []⟩) (fun fin s' => ∃ v, fin = .done (.ret v) ∧ Q (some v) s') (fun e s' => (∃ oe, s'.heap.get? (match e with | .ref a => a | _ => 0) = some oe ∧ oe.cls = .type "StopIteration") ∧ (∃ a, e = .ref a) ∧ Q none s') s) :
    wpAny (model prog w) A (pyNext (.ref z)) Q E s := by
  have hT : s.TypeIs (.ref z) "zip" := ⟨_, hz, hc⟩
  unfold pyNext
  refine wpAny_bind (wpAny_attempt (wpAny_callSpecial?_slot (name := Str.ofString "__next__") hT F.slot_zip_next
    (wpAny_call_entry F.slot_zip_next hT F.entry_zip_next (wpAny_mono h (fun fin s' ⟨v, e, q⟩ => ⟨v, e, wpAny_pure q⟩) fun e s' he => ?_) (F.args_zip_next_1 _))))
  obtain ⟨⟨oe, ho, hc⟩, ⟨a, rfl⟩, q⟩ := he
  refine wpAny_bind (wpAny_isInstance (T := "StopIteration") (b := true) ⟨oe, ho, hc⟩ isSubtype_stop ?_)
  exact wpAny_pure q
theorem letgo_zs {elts : List Expr} {x1} {pos : Pos} {z TI TO T : Addr} {f1 : Bool} {Q : Unit → Shared → Prop} (hz : IsZ s.heap z TI TO (rawInt T) f1)
    (hQ : ∀ h', IsZ h' z TI TO .none f1 → Heap.SameBut z s.heap h' → Q () { s with heap := h' }) :
    wpAny (model prog w) A (letOwnedTupleGo (.Tuple elts x1 pos) (.ref z) (.ref T)) Q E s := by
  unfold letOwnedTupleGo
  refine wpAny_bind (wpAny_load hz ?_)
  show wpAny _ _ (if (["enumerate", "zip", "dict_itemiterator", "dict_reverseitemiterator", "odict_iterator", "itertools.zip_longest", "itertools.pairwise"].contains "zip" &&
      (#[rawInt T, .bool f1, .bool true, .ref TI, .ref TO] : Array Value)[0]? == some (rawInt T)) = true then _ else _) Q E s
  rw [if_pos (by simp)]
  refine wpAny_bind (wpAny_rule ?_)
  show wpAny _ _ (setField (.ref z) 0 .none) Q E s
  exact wpAny_setField_rec hz (by simp) fun h' hz' hs' => hQ h' hz' hs'
theorem iter_zs {o : Obj} {z : Addr} {Q : Value → Shared → Prop} (hz : s.heap.get? z = some o) (hc : o.cls = .type "zip") (h : Q (.ref z) s) : wpAny (model prog w) A (pyIter (.ref z)) Q E s := by
  have hT : s.TypeIs (.ref z) "zip" := ⟨_, hz, hc⟩
  refine wpAny_pyIter_slot hT F.slot_zip_iter (wpAny_call_entry F.slot_zip_iter hT F.entry_zip_iter ?_ (F.args_zip_iter_1 _))
  show wpAny _ _ (ret (.ref z)) _ _ s
  exact wpAny_pure ⟨_, rfl, "zip", _, hT, F.slot_zip_next.lookup, h⟩
end
/-- both tuples at once, strict -/
def ItzS (K : PySem.W.Frag) (a b : Addr) : It :=
  ⟨fun i H => ∃ (xs ys : List V) (x y : V), SqT K H a xs ∧ SqT K H b ys ∧ xs[i]? = some x ∧ ys[i]? = some y,
    fun i H v H' => ∃ T x y, v = .ref T ∧ H T = none ∧ H' = upd H T (.tup [x, y]) ∧ (∀ xs, SqT K H a xs → xs[i]? = some x) ∧ ∀ ys, SqT K H b ys → ys[i]? = some y,
    fun i H => ∃ xs ys : List V, SqT K H a xs ∧ SqT K H b ys ∧ xs.length ≤ i ∧ ys.length ≤ i⟩
open RZ in
theorem turn_zipS {P : Program} {w : World} {K : PySem.W.Frag} {elts : List Expr} {kk : Nat} {tpos : Pos} {a b z TI TO i1 i2 : Addr} (D : ZipApart z TI TO i1 i2 a b) :
    Turn P w K (.Tuple elts kk tpos) (ItzS K a b) [z, TI, TO, i1, i2] z (fun i h => IsZ h z TI TO .none false ∧ IsPair h TI (.ref i1) (.ref i2) ∧ (∃ x y, IsPair h TO x y) ∧ h.IsTupleIter i1 a i ∧ h.IsTupleIter i2 b i) where
  mem := by simp
  obj := fun i h st c hc => by
    obtain ⟨hz, hTI, ⟨x, y, hTO⟩, ⟨o1, e1, _, d1⟩, ⟨o2, e2, _, d2⟩⟩ := st
    have e' : c = z ∨ c = TI ∨ c = TO ∨ c = i1 ∨ c = i2 := by simpa using hc
    rcases e' with q | q | q | q | q
    · rw [q]; exact ⟨_, hz, fun v q => nomatch q⟩
    · rw [q]; exact ⟨_, hTI, fun v q => nomatch q⟩
    · rw [q]; exact ⟨_, hTO, fun v q => nomatch q⟩
    · rw [q]; exact ⟨o1, e1, fun v q => by rw [d1] at q; cases q⟩
    · rw [q]; exact ⟨o2, e2, fun v q => by rw [d2] at q; cases q⟩
  keep := fun i h h' st k => by
    obtain ⟨hz, hTI, ⟨x, y, hTO⟩, h1, h2⟩ := st
    exact ⟨k z (by simp) _ hz, k TI (by simp) _ hTI, ⟨x, y, k TO (by simp) _ hTO⟩, h1.at fun o q => k i1 (by simp) o q, h2.at fun o q => k i2 (by simp) o q⟩
  item := by
    intro X hP hw hK hc i pins s σ H E I hf st hg
    subst hP hw hK
    obtain ⟨hz, hTI, ⟨x0, y0, hTO⟩, h1, h2⟩ := st
    obtain ⟨xs, ys, x, y, hqx, hqy, hx, hy⟩ := hg
    obtain ⟨its, rv, p, _⟩ := I.tuple hqx
    obtain ⟨its2, rv2, p2, _⟩ := I.tuple hqy
    obtain ⟨u, hu, ru⟩ := rv.get hx
    obtain ⟨u2, hu2, ru2⟩ := rv2.get hy
    have hzl : z < s.heap.objs.size := Heap.lt_size hz
    refine nx_zs hz rfl (zs_free D hz hTI hTO h1 h2 p p2 (x := u) (y := u2) (by simpa using hu) (by simpa using hu2) fun h' T t z' => ⟨_, rfl, ?_⟩)
    obtain ⟨_, ⟨x1, y1, TO'⟩, h1', h2', hT, hnew, hk⟩ := t
    refine ⟨_, rfl, letgo_zs (s := { s with heap := h' }) z' fun h'' z'' sb => ?_⟩
    have hTz : T ≠ z := Nat.ne_of_gt (Nat.lt_of_lt_of_le hzl hnew)
    have hT2 : h''.get? T = some { cls := .type "tuple", data := .seq #[u, u2] } := (sb.2 _ hTz).trans hT
    have new : ObjOk X.prog X.w (upd H T (.tup [x, y])) h'' T (.tup [x, y]) :=
      ⟨by show 2 ≤ sizeLine; decide, [u, u2], .cons ru (.cons ru2 .nil), ⟨_, hT2, rfl, _, rfl⟩⟩
    have I1 : Inv X pins σ (upd H T (.tup [x, y])) { s with heap := h'' } :=
      I.turnedNew (t' := s.toks) (ch := [z, TI, TO, i1, i2]) (fun c o hb q => (sb.2 c (fun q' => hb (by simp [q']))).trans (hk c o (fun q' => hb (by simp [q'])) (fun q' => hb (by simp [q'])) (fun q' => hb (by simp [q'])) (fun q' => hb (by simp [q'])) q)) hf hnew new
    refine ⟨.ref T, _, I1, rfl, ⟨T, x, y, rfl, I.hok.fresh hnew, rfl, fun l hl => by rw [I.tuple_inj hl hqx]; exact hx, fun l hl => by rw [I.tuple_inj hl hqy]; exact hy⟩, ⟨z'', ?_, ⟨x1, y1, ?_⟩, ?_, ?_⟩, fun c hcm => ?_⟩
    · exact (sb.2 _ D.TIz).trans (hk _ _ D.TIz D.TITO D.TIi1 D.TIi2 hTI)
    · exact (sb.2 _ D.TOz).trans TO'
    · exact h1'.at fun o q => (sb.2 _ D.i1z).trans q
    · exact h2'.at fun o q => (sb.2 _ D.i2z).trans q
    · have hlt : c < s.heap.objs.size := by
        have e' : c = z ∨ c = TI ∨ c = TO ∨ c = i1 ∨ c = i2 := by simpa using hcm
        rcases e' with q | q | q | q | q
        · rw [q]; exact hzl
        · rw [q]; exact Heap.lt_size hTI
        · rw [q]; exact Heap.lt_size hTO
        · rw [q]; obtain ⟨_, e1, _⟩ := h1; exact Heap.lt_size e1
        · rw [q]; obtain ⟨_, e2, _⟩ := h2; exact Heap.lt_size e2
      rw [upd_ne (Nat.ne_of_lt (Nat.lt_of_lt_of_le hlt hnew))]
      exact (hf c hcm).1
  done := by
    intro X hP hw hK hc i pins s σ H E I hf st hg
    subst hP hw hK
    obtain ⟨hz, hTI, ⟨x0, y0, hTO⟩, h1, h2⟩ := st
    obtain ⟨xs, ys, hqx, hqy, l1, l2⟩ := hg
    obtain ⟨its, rv, p, _⟩ := I.tuple hqx
    obtain ⟨its2, rv2, p2, _⟩ := I.tuple hqy
    have r1 := rv.length
    have r2 := rv2.length
    refine nx_zs hz rfl (zs_end (I.ok.hd hc) D hz (.inl rfl) hTI hTO h1 h2 p p2 (by simp; omega) (by simp; omega) fun h' e hk he => ⟨he, ⟨_, rfl⟩, rfl, I.turnedL (t' := s.toks) (ch := [z, TI, TO, i1, i2]) (fun c o hb q =>
      hk c o (fun q' => hb (by simp [q'])) (fun q' => hb (by simp [q'])) (fun q' => hb (by simp [q'])) (fun q' => hb (by simp [q'])) q) hf⟩)
  self := fun A i s Q E st h => iter_zs st.1 rfl h
def iZipS (K : PySem.W.Frag) (ta : TA) : TI := fun σ H R => ta σ H fun vs H1 => ∃ a b xs ys, vs = [.ref a, .ref b] ∧ SqT K H1 a xs ∧ SqT K H1 b ys ∧ R (ItzS K a b) H1
/-- the call itself, with what stands behind it -/
theorem zipS_eval {X : Cx} {e e2 : Expr} {ta : TA} {p pos p1 kp : Pos} {jj} (hg : Gl X "zip") (hm : X.mg "zip" = none) (ha : PA X [e, e2] ta)
    (hs : starEach [e, e2] X.env = (false, eval e X.env) :: starEach [e2] X.env) (hpl : (backTo pos (starEach [e, e2] X.env)).any (·.1) = false) {pins : List (Addr × Obj)} {s : Shared} {σ : L2.St} {H : Hp} {Q : Value → Shared → Prop} {R : Addr → Addr → List V → List V → Hp → Prop} (I : Inv X pins σ H s)
    (h : ta σ H fun vs H1 => ∃ a b xs ys, vs = [.ref a, .ref b] ∧ SqT X.K H1 a xs ∧ SqT X.K H1 b ys ∧ R a b xs ys H1)
    (fin : ∀ {s1 : Shared} {H1 : Hp} {a b : Addr} {xs ys : List V} {h' : Heap}, Inv X pins σ H1 s1 → R a b xs ys H1 → SqT X.K H1 a xs → SqT X.K H1 b ys → ZipApart (s1.heap.objs.size + 4) (s1.heap.objs.size + 2) (s1.heap.objs.size + 3) s1.heap.objs.size (s1.heap.objs.size + 1) a b →
      IsZ h' (s1.heap.objs.size + 4) (s1.heap.objs.size + 2) (s1.heap.objs.size + 3) .none false → IsPair h' (s1.heap.objs.size + 2) (.ref s1.heap.objs.size) (.ref (s1.heap.objs.size + 1)) → IsPair h' (s1.heap.objs.size + 3) .none .none →
      h'.IsTupleIter s1.heap.objs.size a 0 → h'.IsTupleIter (s1.heap.objs.size + 1) b 0 → Inv X pins σ H1 { s1 with heap := h' } → (∀ c, c ∈ [s1.heap.objs.size + 4, s1.heap.objs.size + 2, s1.heap.objs.size + 3, s1.heap.objs.size, s1.heap.objs.size + 1] → FpOk X pins H1 c) → h'.objs.size = s1.heap.objs.size + 5 → Q (.ref (s1.heap.objs.size + 4)) { s1 with heap := h' }) :
    wpAny (model X.prog X.w) X.A (eval (.Call (.Name "zip" p) [e, e2] [⟨some "strict", .Constant (.bool true) jj p1, kp⟩] pos) X.env) Q X.xe s := by
  refine wpAny_Call_Name_kw (ld_blt I hg hm PyProof.Rows.boot_zip ?_)
  refine PySem.W.callWith_of (P := fun _ => True) (by rw [hpl]; rfl) (fun _ _ => ⟨.machine, .inr (.inl rfl), PySem.W.Looks.of_pure rfl⟩) (PyProof.Rows.evalArgs_kw2 rfl (thn (ha.run pos pins s σ H _ I h) fun us s1 ⟨vs, H1, I1, r1, a, b, xs, ys, ex, hqx, hqy, q1⟩ => ?_) hs)
  have kw : PK X [⟨some "strict", .Constant (.bool true) jj p1, kp⟩] _ := pk_cons (nm := some ("strict" : Str)) pe_bl pk_nil
  refine thn (kw.run pos pins s1 σ H1 (fun zs H2 => zs = [.bl true] ∧ H2 = H1) I1 ⟨rfl, rfl⟩) fun ws s2 ⟨zs, H2, I2, rz, e1, e2⟩ => ⟨trivial, ?_⟩
  subst e1 e2
  subst ex
  cases rz with
  | cons rw1 rw2 =>
    cases rw2
    obtain rfl := rw1
    cases r1 with
    | cons r rr =>
      cases rr with
      | cons r' rr =>
        cases rr
        cases r
        cases r'
        have fresh5 : ∀ c, c ∈ [s2.heap.objs.size + 4, s2.heap.objs.size + 2, s2.heap.objs.size + 3, s2.heap.objs.size, s2.heap.objs.size + 1] → FpOk X pins H2 c := fun c hcm => by
          have e' : c = s2.heap.objs.size + 4 ∨ c = s2.heap.objs.size + 2 ∨ c = s2.heap.objs.size + 3 ∨ c = s2.heap.objs.size ∨ c = s2.heap.objs.size + 1 := by simpa using hcm
          have hle : s2.heap.objs.size ≤ c := by
            rcases e' with z | z | z | z | z
            · rw [z]; exact Nat.le_add_right _ _
            · rw [z]; exact Nat.le_add_right _ _
            · rw [z]; exact Nat.le_add_right _ _
            · rw [z]; exact Nat.le_refl _
            · rw [z]; exact Nat.le_add_right _ _
          exact I2.fpOk hle (I2.hok.fresh hle)
        obtain ⟨its, rv, p1, _⟩ := I2.tuple hqx
        obtain ⟨its2, rv2, p2, _⟩ := I2.tuple hqy
        obtain ⟨o1, ho1, _⟩ := id p1
        obtain ⟨o2, ho2, _⟩ := id p2
        refine call_zipS (show s2.heap.IsTuple a its.toArray from p1) (show s2.heap.IsTuple b its2.toArray from p2) fun h' hz hTI hTO h1 h2 hsz hk => ?_
        have I3 : Inv X pins σ H2 { s2 with heap := h' } := I2.kept (t' := s2.toks) hk
        exact fin I2 q1 hqx hqy (PySem.W.ktu_apart s2.heap.objs.size a b (Heap.lt_size ho1) (Heap.lt_size ho2)) hz hTI hTO h1 h2 I3 fresh5 hsz
theorem pi_zipS {X : Cx} {e e2 : Expr} {ta : TA} {p pos p1 kp tpos : Pos} {jj} {elts : List Expr} {kk : Nat} (hg : Gl X "zip") (hm : X.mg "zip" = none) (ha : PA X [e, e2] ta)
    (hs : starEach [e, e2] X.env = (false, eval e X.env) :: starEach [e2] X.env) (hpl : (backTo pos (starEach [e, e2] X.env)).any (·.1) = false) :
    PI X (.Tuple elts kk tpos) (.Call (.Name "zip" p) [e, e2] [⟨some "strict", .Constant (.bool true) jj p1, kp⟩] pos) (iZipS X.K ta) := by
  refine ⟨fun pins s σ H R I h => ?_⟩
  refine zipS_eval (R := fun a b xs ys H1 => R (ItzS X.K a b) H1) hg hm ha hs hpl I h fun {s1 H1 a b xs ys h'} I1 q hqx hqy D hz hTI hTO h1 h2 I2 fresh5 hsz => ?_
  refine iter_zs (s := { s1 with heap := h' }) hz rfl ?_
  exact ⟨s1.heap.objs.size + 4, [s1.heap.objs.size + 4, s1.heap.objs.size + 2, s1.heap.objs.size + 3, s1.heap.objs.size, s1.heap.objs.size + 1], _, _, H1, rfl, I2, turn_zipS D, ⟨hz, hTI, ⟨_, _, hTO⟩, h1, h2⟩, fresh5, q⟩
end BV

namespace BV
open PySem L2
theorem mapSeq_some (f : Array Value → Array Value) (its its' : List Value) (n : Nat) (h : f its.toArray = its'.toArray) : ∃ n', Obj.mapSeq f { cls := .type "list", data := .seq its.toArray n } = { cls := .type "list", data := .seq its'.toArray n' } := by
  unfold Obj.mapSeq
  rw [← h]
  exact ⟨_, rfl⟩
section
variable {X : Cx} {pins : List (Addr × Obj)} {σ : L2.St}
/-- the list at S is changed by the machine itself -/
theorem seq_to {H : Hp} {s : Shared} {S : Addr} {xs ys : List V} {f : Array Value → Array Value} {E : Value → Shared → Prop} {A : Around} {Q : Unit → Shared → Prop} (I : Inv X pins σ H s) (hS : H S = some (.lst xs))
    (hf : ∀ its : List Value, Vals xs its → ∃ its', f its.toArray = its'.toArray ∧ Vals ys its') (hz : ys.length ≤ sizeLine)
    (h : ∀ s', Inv X pins σ (upd H S (.lst ys)) s' → s'.heap.objs.size = s.heap.objs.size → (∀ b o, b ≠ S → s.heap.get? b = some o → s'.heap.get? b = some o) → Q () s') : wpAny (model X.prog X.w) A (updateSeq S f) Q E s := by
  obtain ⟨hz0, its, n, r, e⟩ := I.hok S _ hS
  obtain ⟨its', e1, r'⟩ := hf its r
  obtain ⟨n', e2⟩ := mapSeq_some f its its' n e1
  have hl := r.length
  have hl' := r'.length
  refine wpAny_updateSeq e rfl (h _ (I.lstUpd hS e e2 r' hz s.toks) (Heap.SameBut.update ..).1 fun b o hb q => (Heap.get?_update_other _ _ (Ne.symm hb)).trans q) (by rw [List.size_toArray]; omega) (by rw [e1, List.size_toArray]; omega)
/-- where a strict zip of the tuples at a and b stands, i turns behind -/
structure ZSt (h : Heap) (z TI TO i1 i2 a b : Addr) (i : Nat) : Prop where
  zz : ∃ f0 f1, IsZ h z TI TO f0 f1 ∧ (f0 = .none ∨ ∃ (T0 : Addr) (o : Obj), f0 = rawInt T0 ∧ h.get? T0 = some o ∧ T0 ≠ z ∧ T0 ≠ i1 ∧ T0 ≠ i2)
  ti : IsPair h TI (.ref i1) (.ref i2)
  to : ∃ x y, IsPair h TO x y
  n1 : h.IsTupleIter i1 a i
  n2 : h.IsTupleIter i2 b i
theorem zs_loop {a b z TI TO i1 i2 S : Addr} (hc : X.calm = true) (D : ZipApart z TI TO i1 i2 a b) {xs ys : List V} {H1 : Hp} (hl : xs.length = ys.length) (hn : xs.length ≤ sizeLine) (hqx : SqT X.K H1 a xs) (hqy : SqT X.K H1 b ys)
    (hS : S ≠ z ∧ S ≠ TI ∧ S ≠ TO ∧ S ≠ i1 ∧ S ≠ i2) {R : Result → Shared → Prop} {A : Around} (hh : A.handled = none)
    (hR : ∀ s' H' (ts : List Addr), Inv X pins σ H' s' → (∀ c o, H1 c = some o → H' c = some o) → H' S = some (.lst (ts.map V.ref)) → ts.length = xs.length → (∀ (j : Nat) t, ts[j]? = some t → H1 t = none ∧ ∃ x y, xs[j]? = some x ∧ ys[j]? = some y ∧ H' t = some (.tup [x, y])) → R (.ok (.ret .none)) s') :
    ∀ (k i : Nat) (s : Shared) (H : Hp) (ts : List Addr), xs.length - i = k → i ≤ xs.length → ts.length = i → Inv X pins σ H s → (∀ c ∈ [z, TI, TO, i1, i2], FpOk X pins H c) → ZSt s.heap z TI TO i1 i2 a b i →
      (∀ c o, H1 c = some o → H c = some o) → H S = some (.lst (ts.map V.ref)) → H1 S = none → (∀ (j : Nat) t, ts[j]? = some t → H1 t = none ∧ ∃ x y, xs[j]? = some x ∧ ys[j]? = some y ∧ H t = some (.tup [x, y])) →
      codeAny (model X.prog X.w) A (.builtin "list.extend.loop" ⟨[.ref S, .ref z, .none], []⟩) R s := by
  intro k
  induction k with
  | zero =>
    intro i s H ts hk hi htl I hf st keep hSl hS0 hts
    have hin : i = xs.length := by omega
    obtain ⟨its, rv, p, _⟩ := I.tuple (sqT_mono keep hqx)
    obtain ⟨its2, rv2, p2, _⟩ := I.tuple (sqT_mono keep hqy)
    have r1 := rv.length
    have r2 := rv2.length
    refine codeAny_builtin PySem.F.entry_extend_loop ?_
    rw [Around.under_plainId PySem.F.plain_extend_loop _]
    show wpAny _ A.in1 (pyNext (.ref z) >>= _) _ _ _
    obtain ⟨⟨f0, f1, hz, hf0⟩, hTI, ⟨x0, y0, hTO⟩, h1, h2⟩ := st
    refine wpAny_bind (nx_zs hz rfl (zs_end hh D hz (hf0.imp id fun ⟨T0, o, q1, q2, q3, _⟩ => ⟨T0, o, q1, q2, q3⟩) hTI hTO h1 h2 p p2 (by simp; omega) (by simp; omega) fun h' e hk he => ⟨he, ⟨_, rfl⟩, ?_⟩))
    have I2 : Inv X pins σ H { s with heap := h' } := I.turnedL (t' := s.toks) (ch := [z, TI, TO, i1, i2]) (fun c o hb q =>
      hk c o (fun q' => hb (by simp [q'])) (fun q' => hb (by simp [q'])) (fun q' => hb (by simp [q'])) (fun q' => hb (by simp [q'])) q) hf
    exact wpAny_pure (hR _ H ts I2 keep hSl (by omega) hts)
  | succ k ih =>
    intro i s H ts hk hi htl I hf st keep hSl hS0 hts
    have hlt : i < xs.length := by omega
    obtain ⟨x, hx⟩ : ∃ x, xs[i]? = some x := ⟨_, List.getElem?_eq_getElem hlt⟩
    obtain ⟨y, hy⟩ : ∃ y, ys[i]? = some y := ⟨_, List.getElem?_eq_getElem (by omega)⟩
    obtain ⟨its, rv, p, _⟩ := I.tuple (sqT_mono keep hqx)
    obtain ⟨its2, rv2, p2, _⟩ := I.tuple (sqT_mono keep hqy)
    obtain ⟨u, hu, ru⟩ := rv.get hx
    obtain ⟨u2, hu2, ru2⟩ := rv2.get hy
    refine codeAny_builtin PySem.F.entry_extend_loop ?_
    rw [Around.under_plainId PySem.F.plain_extend_loop _]
    show wpAny _ A.in1 (pyNext (.ref z) >>= _) _ _ _
    obtain ⟨⟨f0, f1, hz, hf0⟩, hTI, ⟨x0, y0, hTO⟩, h1, h2⟩ := st
    have old : ∀ c ∈ [z, TI, TO, i1, i2], c < s.heap.objs.size := fun c hcm => by
      have e' : c = z ∨ c = TI ∨ c = TO ∨ c = i1 ∨ c = i2 := by simpa using hcm
      rcases e' with q | q | q | q | q
      · rw [q]; exact Heap.lt_size hz
      · rw [q]; exact Heap.lt_size hTI
      · rw [q]; exact Heap.lt_size hTO
      · rw [q]; obtain ⟨_, e1, _⟩ := h1; exact Heap.lt_size e1
      · rw [q]; obtain ⟨_, e2, _⟩ := h2; exact Heap.lt_size e2
    have next : ∀ h' T, ZTurn s.heap h' z TI TO i1 i2 a b i u u2 T → wpAny (model X.prog X.w) A.in1 (updateSeq S (·.push (Value.ref T)) >>= fun _ => again (.builtin "list.extend.loop" ⟨[.ref S, .ref z, .none], []⟩))
        (fun fin s' => match fin with | .done f => R (.ok f) s' | .again c' => c'.quiet = true ∧ codeAny (model X.prog X.w) A c' R s') (fun e s' => R (.error e) s') { s with heap := h' } := fun h' T t => by
      obtain ⟨zz, ⟨x1, y1, TO'⟩, h1', h2', hT, hnew, hkk⟩ := t
      have new : ObjOk X.prog X.w (upd H T (.tup [x, y])) h' T (.tup [x, y]) := ⟨by show 2 ≤ sizeLine; decide, [u, u2], .cons ru (.cons ru2 .nil), ⟨_, hT, rfl, _, rfl⟩⟩
      have hTn : H T = none := I.hok.fresh hnew
      have I1 : Inv X pins σ (upd H T (.tup [x, y])) { s with heap := h' } :=
        I.turnedNew (t' := s.toks) (ch := [z, TI, TO, i1, i2]) (fun c o hb q => hkk c o (fun q' => hb (by simp [q'])) (fun q' => hb (by simp [q'])) (fun q' => hb (by simp [q'])) (fun q' => hb (by simp [q'])) q) hf hnew new
      have hST : S ≠ T := ne_of_none hSl hTn
      have hSl1 : upd H T (.tup [x, y]) S = some (.lst (ts.map V.ref)) := by rw [upd_ne hST]; exact hSl
      refine wpAny_bind (seq_to (ys := (ts ++ [T]).map V.ref) I1 hSl1 (fun its r => ⟨its ++ [.ref T], by simp, by rw [List.map_append]; exact r.append (.cons rfl .nil)⟩) (by rw [List.length_map, List.length_append, htl]; show i + 1 ≤ _; omega) fun s2 I2 hsz k2 => ?_)
      refine wpAny_pure ⟨plainId_quiet PySem.F.plain_extend_loop _, ih (i + 1) s2 _ (ts ++ [T]) (by omega) hlt (by rw [List.length_append, htl]; rfl) I2 (fun c hcm => ?_) ⟨?_, ?_, ?_, ?_, ?_⟩ (fun c o e => ?_) upd_same hS0 (fun j t e => ?_)⟩
      · obtain ⟨q0, q1⟩ := hf c hcm
        refine ⟨?_, q1⟩
        have e' : c = z ∨ c = TI ∨ c = TO ∨ c = i1 ∨ c = i2 := by simpa using hcm
        have hcS : c ≠ S := by rcases e' with q | q | q | q | q <;> rw [q] <;> first | exact hS.1.symm | exact hS.2.1.symm | exact hS.2.2.1.symm | exact hS.2.2.2.1.symm | exact hS.2.2.2.2.symm
        rw [upd_ne hcS, upd_ne (Nat.ne_of_lt (Nat.lt_of_lt_of_le (old c hcm) hnew))]
        exact q0
      · obtain ⟨g0, g1, hz', hg⟩ := zz
        refine ⟨g0, g1, k2 _ _ hS.1.symm hz', hg.imp id fun ⟨T0, o, q1, q2, q3⟩ => ?_⟩
        obtain ⟨o2, ho2⟩ : ∃ o2, s2.heap.get? T0 = some o2 := by
          by_cases e : T0 = S
          · obtain ⟨_, its, n, _, e3⟩ := I2.hok S _ upd_same
            exact ⟨_, by rw [e]; exact e3⟩
          · exact ⟨_, k2 _ _ e q2⟩
        exact ⟨T0, o2, q1, ho2, q3⟩
      · exact k2 _ _ hS.2.1.symm (hkk _ _ D.TIz D.TITO D.TIi1 D.TIi2 hTI)
      · exact ⟨_, _, k2 _ _ hS.2.2.1.symm TO'⟩
      · exact h1'.at fun o q => k2 _ _ hS.2.2.2.1.symm q
      · exact h2'.at fun o q => k2 _ _ hS.2.2.2.2.symm q
      · rw [upd_ne (ne_of_none e hS0), upd_ne (ne_of_none (keep c o e) hTn)]
        exact keep c o e
      · have ntS : ∀ {t : Addr}, upd H T (.tup [x, y]) t ≠ upd H T (.tup [x, y]) S → t ≠ S := fun h e => h (by rw [e])
        by_cases hj : j < ts.length
        · rw [List.getElem?_append_left hj] at e
          obtain ⟨q1, x', y', q2, q3, q4⟩ := hts j t e
          refine ⟨q1, x', y', q2, q3, ?_⟩
          have e1 : t ≠ S := fun e => by rw [e, hSl] at q4; cases q4
          rw [upd_ne e1, upd_ne (ne_of_none q4 hTn)]
          exact q4
        · rw [List.getElem?_append_right (by omega)] at e
          have hj0 : j - ts.length = 0 := by
            have := (List.getElem?_eq_some_iff.mp e).1
            simp at this
            omega
          rw [hj0] at e
          cases e
          have hji : j = i := by omega
          subst hji
          refine ⟨?_, x, y, hx, hy, ?_⟩
          · cases e : H1 T with
            | none => rfl
            | some o => have := keep T o e; rw [hTn] at this; cases this
          · rw [upd_ne hST.symm, upd_same]
    rcases hf0 with rfl | ⟨T0, o0, rfl, q2, q3, q4, q5⟩
    · exact wpAny_bind (nx_zs hz rfl (zs_free D hz hTI hTO h1 h2 p p2 (x := u) (y := u2) (by simpa using hu) (by simpa using hu2) fun h' T t _ => ⟨_, rfl, next h' T t⟩))
    · exact wpAny_bind (nx_zs hz rfl (zs_busy D hz q2 q3 ⟨q4, q5⟩ hTI hTO h1 h2 p p2 (x := u) (y := u2) (by simpa using hu) (by simpa using hu2) fun h' T t => ⟨_, rfl, next h' T t⟩))
end
end BV

namespace BV
open PySem L2
theorem zip_no_len : typeLookup (.type "zip") "__len__" = pure none := by rw [typeLookup_type, builtinLookup_eq_fast]; kernel_rfl
theorem zip_no_hint : typeLookup (.type "zip") "__length_hint__" = pure none := by rw [typeLookup_type, builtinLookup_eq_fast]; kernel_rfl
section
variable {X : Cx} {pins : List (Addr × Obj)} {σ : L2.St}
theorem list_z {a b z TI TO i1 i2 : Addr} (hc : X.calm = true) (D : ZipApart z TI TO i1 i2 a b) {xs ys : List V} {H1 : Hp} {s : Shared} (hl : xs.length = ys.length) (hn : xs.length ≤ sizeLine) (hqx : SqT X.K H1 a xs) (hqy : SqT X.K H1 b ys)
    (I : Inv X pins σ H1 s) (hf : ∀ c ∈ [z, TI, TO, i1, i2], FpOk X pins H1 c) (st : ZSt s.heap z TI TO i1 i2 a b 0) {Q : Value → Shared → Prop} {E : Value → Shared → Prop} {A : Around} (hh : A.handled = none)
    (hQ : ∀ s' H' S (ts : List Addr), Inv X pins σ H' s' → (∀ c o, H1 c = some o → H' c = some o) → H1 S = none → H' S = some (.lst (ts.map V.ref)) → ts.length = xs.length → (∀ (j : Nat) t, ts[j]? = some t → H1 t = none ∧ ∃ x y, xs[j]? = some x ∧ ys[j]? = some y ∧ H' t = some (.tup [x, y])) → Q (.ref S) s') :
    wpAny (model X.prog X.w) A (call (.type "list") [.ref z]) Q E s := by
  have old : ∀ c ∈ [z, TI, TO, i1, i2], c < s.heap.objs.size := fun c hcm => by
    obtain ⟨⟨f0, f1, hz, hf0⟩, hTI, ⟨x0, y0, hTO⟩, h1, h2⟩ := st
    have e' : c = z ∨ c = TI ∨ c = TO ∨ c = i1 ∨ c = i2 := by simpa using hcm
    rcases e' with q | q | q | q | q
    · rw [q]; exact Heap.lt_size hz
    · rw [q]; exact Heap.lt_size hTI
    · rw [q]; exact Heap.lt_size hTO
    · rw [q]; obtain ⟨_, e1, _⟩ := h1; exact Heap.lt_size e1
    · rw [q]; obtain ⟨_, e2, _⟩ := h2; exact Heap.lt_size e2
  obtain ⟨S, eS⟩ : ∃ S, S = s.heap.objs.size := ⟨_, rfl⟩
  have hS5 : S ≠ z ∧ S ≠ TI ∧ S ≠ TO ∧ S ≠ i1 ∧ S ≠ i2 := by
    rw [eS]
    exact ⟨Nat.ne_of_gt (old z (by simp)), Nat.ne_of_gt (old TI (by simp)), Nat.ne_of_gt (old TO (by simp)), Nat.ne_of_gt (old i1 (by simp)), Nat.ne_of_gt (old i2 (by simp))⟩
  have hS0 : H1 S = none := I.hok.fresh (Nat.le_of_eq eS.symm)
  refine callType_codes (Q₁ := fun obj s₁ => obj = .ref s.heap.objs.size ∧ s₁ = { s with heap := s.heap.push { cls := .type "list", data := .seq #[] } }) PySem.F.called_list (PySem.F.typeCall_list_1 _) PySem.F.entry_list_init
    (code_list_new _ ⟨rfl, rfl⟩) fun obj s₁ h₁ => ?_
  obtain ⟨rfl, rfl⟩ := h₁
  have hSr : (s.heap.push { cls := .type "list", data := .seq #[] }).get? s.heap.objs.size = some { cls := .type "list", data := .seq #[] } := Heap.get?_push_size _ rfl
  have I1 : Inv X pins σ (upd H1 S (.lst [])) { s with heap := s.heap.push { cls := .type "list", data := .seq #[] } } :=
    I.laid (t' := s.toks) (fun b u e => Heap.get?_push_of_some _ e) (Nat.le_of_eq eS.symm) ⟨Nat.zero_le _, [], 0, .nil, by rw [eS]; exact hSr⟩
  -- what all states from here on keep
  have gen : ∀ {s' : Shared} {H' : Hp}, Inv X pins σ H' s' → (∀ c, c ≠ S → H' c = H1 c) → H' S = some (.lst []) → (∀ c o, c ≠ S → s.heap.get? c = some o → s'.heap.get? c = some o) →
      codeAny (model X.prog X.w) A.in1 (.builtin "list.extend.loop" ⟨[.ref S, .ref z, .none], []⟩) (wants (fun r s₂ => r = .none ∧ Q (.ref S) s₂) E) s' := fun {s' H'} I' h1 h2 h3 => by
    refine zs_loop (H1 := H1) hc D hl hn hqx hqy hS5 (show A.in1.handled = none from hh) (fun s2 H2 ts q1 q2 q3 q4 q5 => ⟨rfl, hQ s2 H2 S ts q1 q2 hS0 q3 q4 q5⟩) xs.length 0 s' H' [] (by omega) (Nat.zero_le _) rfl I' (fun c hcm => ?_) ?_ (fun c o e => ?_) h2 hS0 (fun j t e => by simp at e)
    · obtain ⟨q0, q1⟩ := hf c hcm
      have hcS : c ≠ S := by rw [eS]; exact Nat.ne_of_lt (old c hcm)
      exact ⟨by rw [h1 c hcS]; exact q0, q1⟩
    · obtain ⟨⟨f0, f1, hz, hf0⟩, hTI, ⟨x0, y0, hTO⟩, n1, n2⟩ := st
      refine ⟨⟨f0, f1, h3 _ _ hS5.1.symm hz, hf0.imp id fun ⟨T0, o, q1, q2, q3⟩ => ⟨T0, o, q1, h3 _ _ (by rw [eS]; exact Nat.ne_of_lt (Heap.lt_size q2)) q2, q3⟩⟩, h3 _ _ hS5.2.1.symm hTI, ⟨x0, y0, h3 _ _ hS5.2.2.1.symm hTO⟩, n1.at fun o q => h3 _ _ hS5.2.2.2.1.symm q, n2.at fun o q => h3 _ _ hS5.2.2.2.2.symm q⟩
    · rw [h1 c (ne_of_none e hS0)]
      exact e
  refine ⟨⟨_, hSr, rfl⟩, PySem.F.args_list_init_2 _ _, ?_⟩
  rw [← eS]
  show wpAny _ _ (do let old ← Builtin.List.listItems (.ref S); Builtin.List.listUpdate (.ref S) (fun _ => #[]); letGo old.toList.reverse; Builtin.List.listExtendWith (.ref S) (.ref z) .none) _ _ _
  refine wpAny_bind ?_
  unfold Builtin.List.listItems
  refine wpAny_bind (wpAny_seqItems (by rw [eS]; exact hSr) rfl (wpAny_pure ?_))
  show wpAny _ _ (updateSeq S (fun _ => #[]) >>= fun _ => letGo (#[] : Array Value).toList.reverse >>= fun _ => Builtin.List.listExtendWith (.ref S) (.ref z) .none) _ _ _
  refine wpAny_bind (seq_to (ys := []) I1 upd_same (fun its r => ⟨[], rfl, .nil⟩) (Nat.zero_le _) fun s2 I2 sz2 k2 => ?_)
  refine wpAny_bind (wpAny_letGo ?_)
  have hz2 : ∃ o, s2.heap.get? z = some o ∧ o.cls = .type "zip" := by
    obtain ⟨⟨f0, f1, hz, hf0⟩, _, _, _, _⟩ := st
    exact ⟨_, k2 _ _ hS5.1.symm (Heap.get?_push_of_some _ hz), rfl⟩
  obtain ⟨oz, hz2, hzc⟩ := hz2
  have hT : s2.TypeIs (.ref z) "zip" := ⟨oz, hz2, hzc⟩
  unfold Builtin.List.listExtendWith
  refine wpAny_bind (wpAny_typeOf hT ?_)
  have h1 : Builtin.List.listSameRef (.ref S) (.ref z) = false := by simp [Builtin.List.listSameRef, hS5.1]
  have h2 : (Value.type "zip" == Value.type "list") = false := by decide
  have h3 : (Value.type "zip" == Value.type "tuple") = false := by decide
  simp only [h1, h2, h3, Bool.or_false, Bool.false_eq_true, if_false]
  refine wpAny_bind (iter_zs hz2 hzc ?_)
  refine wpAny_bind (wpAny_holding ?_)
  unfold Builtin.List.listLengthHint
  refine wpAny_bind (wpAny_specialOf hT zip_no_len ?_)
  show wpAny _ _ (specialOf (Value.ref z) (Str.ofString "__length_hint__") >>= _) _ _ _
  refine wpAny_bind (wpAny_specialOf hT zip_no_hint ?_)
  refine wpAny_pure ?_
  show wpAny _ _ (rule "list.extend.makes-room" >>= fun _ => Builtin.List.listTouch (.ref S) >>= fun _ =>
    again (.builtin "list.extend.loop" ⟨[.ref S, .ref z, .none], []⟩)) _ _ _
  refine wpAny_bind (wpAny_rule ?_)
  refine wpAny_bind ?_
  show wpAny _ _ (updateSeq S (·.push .none) >>= fun _ => updateSeq S (·.pop)) _ _ _
  refine wpAny_bind (seq_to (ys := [.non]) I2 upd_same (fun its r => ⟨[.none], by cases r; rfl, .cons rfl .nil⟩) (by show 1 ≤ sizeLine; decide) fun s3 I3 sz3 k3 => ?_)
  refine seq_to (ys := []) I3 upd_same (fun its r => ⟨[], by cases r with | cons _ r => cases r; rfl, .nil⟩) (Nat.zero_le _) fun s4 I4 sz4 k4 => ?_
  refine wpAny_pure ⟨plainId_quiet PySem.F.plain_extend_loop _, gen I4 (fun c hcS => by rw [upd_ne hcS, upd_ne hcS, upd_ne hcS, upd_ne hcS]) upd_same fun c o hcS e => k4 _ _ hcS (k3 _ _ hcS (k2 _ _ hcS (Heap.get?_push_of_some _ e)))⟩
def lzQ (Q : VK) (xs ys : List V) (H1 : Hp) : Prop := xs.length = ys.length ∧ xs.length ≤ sizeLine ∧
  ∀ (H' : Hp) (S : Addr) (ts : List Addr), (∀ c o, H1 c = some o → H' c = some o) → H1 S = none → H' S = some (.lst (ts.map V.ref)) → ts.length = xs.length → (∀ (j : Nat) t, ts[j]? = some t → H1 t = none ∧ ∃ x y, xs[j]? = some x ∧ ys[j]? = some y ∧ H' t = some (.tup [x, y])) → Q (.ref S) H'
def tListZipS (K : PySem.W.Frag) (ta : TA) : TE := fun σ H Q => ta σ H fun vs H1 => ∃ a b xs ys, vs = [.ref a, .ref b] ∧ SqT K H1 a xs ∧ SqT K H1 b ys ∧ lzQ Q xs ys H1
theorem pe_listZipS {e e2 : Expr} {ta : TA} {pl ql p pos p1 kp : Pos} {jj} (hc : X.calm = true) (hgl : Gl X "list") (hml : X.mg "list" = none) (hg : Gl X "zip") (hm : X.mg "zip" = none) (ha : PA X [e, e2] ta)
    (hs : starEach [e, e2] X.env = (false, eval e X.env) :: starEach [e2] X.env) (hpl : (backTo pos (starEach [e, e2] X.env)).any (·.1) = false) :
    PE X (.Call (.Name "list" pl) [.Call (.Name "zip" p) [e, e2] [⟨some "strict", .Constant (.bool true) jj p1, kp⟩] pos] [] ql) (tListZipS X.K ta) := by
  refine ⟨fun pins s σ H Q I h => ?_⟩
  refine PyProof.Rows.Call_ (ld_blt I hgl hml (show bootBuiltins "list" = some (.type "list") by decide +kernel) (PyProof.Rows.callWith_type1 ?_ rfl rfl))
  refine Calls.spliced_cons (zipS_eval (R := fun a b xs ys H1 => lzQ Q xs ys H1) hg hm ha hs hpl I h fun {s1 H1 a b xs ys h'} I1 ⟨hl, hn, q⟩ hqx hqy D hz hTI hTO h1 h2 I2 fresh5 hsz => ?_)
  refine Calls.spliced_nil ?_
  refine list_z hc D hl hn hqx hqy I2 fresh5 ⟨⟨_, _, hz, .inl rfl⟩, hTI, ⟨_, _, hTO⟩, h1, h2⟩ (I.ok.hd hc) fun s' H' S ts q1 q2 q3 q4 q5 q6 => ?_
  exact ⟨.ref S, H', q1, rfl, q H' S ts q2 q3 q4 q5 q6⟩
end
end BV

namespace BV
open PySem
section
variable {prog : Program} {w : World} {A : Around} {E : Value → Shared → Prop} {s : Shared}
/-- a value that is data, and how it is told -/
def Sh (prog : Program) (w : World) (h : Heap) (v : Value) (d : PyData) : Prop := ∃ as, Reads h v d as ∧ ∃ bs, ReadAtMost h d.depth bs ∧ ReprK prog w bs h d.depth v d.shown
def ShAll (prog : Program) (w : World) (h : Heap) (vs : List Value) (ds : List PyData) : Prop :=
  ∃ as, ReadsAll h vs ds as ∧ ∃ bs, ReadAtMost h (PyData.depthAll ds) bs ∧ ReprAllK prog w bs h (PyData.depthAll ds) vs (PyData.shownAll ds)
section
variable {h : Heap}
theorem Sh.non : Sh prog w h .none .none := ⟨_, .none, [], (fun _ z => by cases z), by simp only [PyData.shown]; exact .of_is ReprIs.none _ _ _⟩
theorem Sh.bl (b : Bool) : Sh prog w h (.bool b) (.bool b) := ⟨_, .bool b, [], (fun _ z => by cases z), by simp only [PyData.shown]; exact .of_is (ReprIs.bool b) _ _ _⟩
theorem Sh.int {i : Int} {t : Tok} (hs : i.natAbs.log2 < 1920) : Sh prog w h (.int i t) (.int i) := ⟨_, .int i t, [], (fun _ z => by cases z), by simp only [PyData.shown]; exact .of_is (ReprIs.int t hs) _ _ _⟩
theorem Sh.str {x : Str} {t : Tok} (hz : (reprText x).length ≤ sizeLine) : Sh prog w h (.str x t) (.str x) := ⟨_, .str x t, [], (fun _ z => by cases z), by simp only [PyData.shown]; exact .of_is (ReprIs.str x t hz) _ _ _⟩
theorem ShAll.nil : ShAll prog w h [] [] := ⟨_, .nil, [], (fun _ z => by cases z), by simp only [PyData.shownAll]; exact .nil⟩
theorem ShAll.cons {v : Value} {vs : List Value} {d : PyData} {ds : List PyData} (a : Sh prog w h v d) (b : ShAll prog w h vs ds) : ShAll prog w h (v :: vs) (d :: ds) := by
  obtain ⟨as1, r1, bs1, m1, k1⟩ := a
  obtain ⟨as2, r2, bs2, m2, k2⟩ := b
  refine ⟨_, .cons r1 r2, bs1 ++ bs2, ?_, ?_⟩
  · have e1 : d.depth ≤ PyData.depthAll (d :: ds) := by simp only [PyData.depthAll]; exact Nat.le_max_left _ _
    have e2 : PyData.depthAll ds ≤ PyData.depthAll (d :: ds) := by simp only [PyData.depthAll]; exact Nat.le_max_right _ _
    exact (m1.mono e1).append (m2.mono e2)
  · have z1 := k1.more (as' := bs1 ++ bs2) fun b hb => List.mem_append_left _ hb
    have z2 := k2.more_le (as' := bs1 ++ bs2) (d' := PyData.depthAll (d :: ds)) (fun b hb => List.mem_append_right _ hb) (by simp only [PyData.depthAll]; exact Nat.le_max_right _ _)
    rw [PyData.shownAll]
    exact .cons (z1.level_le (by simp only [PyData.depthAll]; exact Nat.le_max_left _ _)) z2
theorem Sh.list {a : Addr} {o : Obj} {vs : Array Value} {n : Nat} {ds : List PyData} (h1 : h.get? a = some o) (h2 : o.cls = .type "list") (h3 : o.data = .seq vs n) (k : ShAll prog w h vs.toList ds) : Sh prog w h (.ref a) (.list ds) := by
  obtain ⟨as, r, bs, m, k⟩ := k
  have R : Reads h (.ref a) (.list ds) _ := .list h1 h2 h3 r
  have na : a ∉ bs := not_mem_of_deeper R (by rw [PyData.depth]; exact Nat.lt_succ_self _) m
  refine ⟨_, R, a :: bs, m.cons R (by rw [PyData.depth]; exact Nat.le_succ _), ?_⟩
  rw [PyData.depth, PyData.shown]
  rcases vs with ⟨_ | ⟨x, l⟩⟩
  · cases (show ReadsAll h [] ds as from r)
    rw [PyData.shownAll, listText_nil]
    exact ReprK.listEmpty h1 h2 h3
  · refine ReprK.list h1 h2 h3 na ?_ fun i y e => k.item i y ?_
    · have := k.length_eq
      simpa using this
    · simpa using e
theorem Sh.tuple {a : Addr} {o : Obj} {vs : Array Value} {n : Nat} {ds : List PyData} (h1 : h.get? a = some o) (h2 : o.cls = .type "tuple") (h3 : o.data = .seq vs n) (k : ShAll prog w h vs.toList ds) : Sh prog w h (.ref a) (.tuple ds) := by
  obtain ⟨as, r, bs, m, k⟩ := k
  have R : Reads h (.ref a) (.tuple ds) _ := .tuple h1 h2 h3 r
  have na : a ∉ bs := not_mem_of_deeper R (by rw [PyData.depth]; exact Nat.lt_succ_self _) m
  refine ⟨_, R, a :: bs, m.cons R (by rw [PyData.depth]; exact Nat.le_succ _), ?_⟩
  rw [PyData.depth, PyData.shown]
  exact ReprK.tuple h1 h2 h3 na k
theorem Sh.dict0 {a : Addr} {o : Obj} {n : Nat} (h1 : h.get? a = some o) (h2 : o.cls = .type "dict") (h3 : o.data = .dict #[] n) (lo : (a == sysModules) = false) : Sh prog w h (.ref a) (.dict []) := by
  have R : Reads h (.ref a) (.dict []) _ := .dict h1 h2 h3 .nil .nil
  refine ⟨_, R, [a], ReadAtMost.cons R (Nat.le_refl _) (fun _ z => by cases z), ?_⟩
  simp only [PyData.depth, PyData.shown, PyData.shownKv, PyData.depthKv]
  exact ReprK.dict h1 h2 h3 lo (by simp) (ReprEntriesK.of_two [] [] [] .nil .nil)
end
/-- what repr() is asked of: flat things, lists and tuples -/
inductive TopR (prog : Program) (w : World) (h : Heap) : Value → PyData → Prop
  | non : TopR prog w h .none .none
  | bl (b : Bool) : TopR prog w h (.bool b) (.bool b)
  | int (i : Int) (t : Tok) : TopR prog w h (.int i t) (.int i)
  | str (x : Str) (t : Tok) : TopR prog w h (.str x t) (.str x)
  | list {a : Addr} {o : Obj} {vs : Array Value} {n : Nat} {ds : List PyData} (h1 : h.get? a = some o) (h2 : o.cls = .type "list") (h3 : o.data = .seq vs n) (k : ShAll prog w h vs.toList ds) : TopR prog w h (.ref a) (.list ds)
  | tuple {a : Addr} {o : Obj} {vs : Array Value} {n : Nat} {ds : List PyData} (h1 : h.get? a = some o) (h2 : o.cls = .type "tuple") (h3 : o.data = .seq vs n) (k : ShAll prog w h vs.toList ds) : TopR prog w h (.ref a) (.tuple ds)
  | dict0 {a : Addr} {o : Obj} {n : Nat} (h1 : h.get? a = some o) (h2 : o.cls = .type "dict") (h3 : o.data = .dict #[] n) (lo : (a == sysModules) = false) : TopR prog w h (.ref a) (.dict [])
/-- repr(v), v data of none, bools, ints, texts, lists and tuples -/
theorem call_reprV {v : Value} {d : PyData} {Q : Value → Shared → Prop} (r : TopR prog w s.heap v d) (hs : d.showable = true) (hg : A.guards = some []) (hu : A.units + 1 + d.depth < cLine) (hz : d.shown.length ≤ sizeLine)
    (hQ : ∀ h' u tk, (∀ b o, s.heap.get? b = some o → h'.get? b = some o) → Q (.str d.shown u) { s with heap := h', toks := tk }) : wpAny (model prog w) A (call (.builtin "repr") [v]) Q E s := by
  have hu1 : A.in1.units = A.units + 1 := rfl
  have hg1 : A.in1.guards = some [] := hg
  cases r with
  | non => exact PySem.P.repr_of_none (hQ s.heap _ _ fun _ _ e => e)
  | bl b => exact PySem.P.repr_of_bool (hQ s.heap _ _ fun _ _ e => e)
  | int i t => exact PySem.P.repr_of_int (by simpa [PyData.showable] using hs) (by have := hQ s.heap s.toks (s.toks + 1) fun _ _ e => e; simpa only [PyData.shown] using this)
  | str x t => exact PySem.P.repr_of_str (by have := hQ s.heap s.toks (s.toks + 1) fun _ _ e => e; simpa only [PyData.shown] using this) (by simpa only [PyData.shown] using hz)
  | @list a oa vs na xs h1 h2 h3 h4 =>
    obtain ⟨as, h4, bs, hb, hk⟩ := h4
    have hz' : (listText (PyData.shownAll xs)).length ≤ sizeLine := by simpa only [PyData.shown] using hz
    have r : Reads s.heap (.ref a) (.list xs) _ := .list h1 h2 h3 h4
    have hna : a ∉ bs := not_mem_of_deeper r (by simp only [PyData.depth]; omega) hb
    simp only [PyData.depth] at hu
    simp only [PyData.shown] at hQ
    have hTy : s.TypeIs (.ref a) "list" := ⟨_, h1, h2⟩
    refine Calls.call_function_entry F.kind_repr F.plain_repr F.entry_repr (F.args_repr1 _) ?_
    unfold Builtin.«repr»
    refine wpAny_bind (m := oneArg "repr" _) (wpAny_pure ?_)
    refine wpAny_bind (wpAny_cRoomFor (by omega) ?_)
    refine wpAny_bind (wpAny_specialOf (name := Str.ofString "__repr__") hTy F.slot_list_repr.lookup ?_)
    obtain ⟨l⟩ := vs
    cases l with
    | nil =>
      have h4' : ReadsAll s.heap [] xs _ := h4
      cases h4'
      simp only [PyData.shownAll, listText_nil] at hQ
      refine wpAny_bind (m := callSpecialIfBound? (.ref a) (Str.ofString "__repr__")) (wpAny_callSpecialIfBound?_slot (name := Str.ofString "__repr__") hTy F.slot_list_repr (call_list_repr_empty hTy h1 h3 ?_))
      exact wpAny_bind (wpAny_isInstance (T := "str") (b := true) rfl isSubtype_str_str (wpAny_pure ⟨_, rfl, hQ s.heap _ _ fun _ _ e => e⟩))
    | cons x l =>
      refine wpAny_bind (m := callSpecialIfBound? (.ref a) (Str.ofString "__repr__")) (wpAny_callSpecialIfBound?_slot (name := Str.ofString "__repr__") hTy F.slot_list_repr
        (call_list_reprK h1 h2 h3 hna (by simpa using hk.length_eq) (fun i y e => hk.item i y (by simpa using e)) hg1 (fun b _ => Clear.nil b) (by omega) (fun _ _ e => e) (fun h' u tk hk' => ?_) hz'))
      exact wpAny_bind (wpAny_isInstance (T := "str") (b := true) rfl isSubtype_str_str (wpAny_pure ⟨_, rfl, hQ h' u tk hk'⟩))
  | @tuple a o vs n xs h1 h2 h3 h4 =>
    obtain ⟨as, h4, bs, hb, hk⟩ := h4
    have hz' : (tupleText (PyData.shownAll xs)).length ≤ sizeLine := by simpa only [PyData.shown] using hz
    have r : Reads s.heap (.ref a) (.tuple xs) _ := .tuple h1 h2 h3 h4
    have hna : a ∉ bs := not_mem_of_deeper r (by simp only [PyData.depth]; omega) hb
    simp only [PyData.depth] at hu
    simp only [PyData.shown] at hQ
    have hTy : s.TypeIs (.ref a) "tuple" := ⟨_, h1, h2⟩
    refine Calls.call_function_entry F.kind_repr F.plain_repr F.entry_repr (F.args_repr1 _) ?_
    unfold Builtin.«repr»
    refine wpAny_bind (m := oneArg "repr" _) (wpAny_pure ?_)
    refine wpAny_bind (wpAny_cRoomFor (by omega) ?_)
    refine wpAny_bind (wpAny_specialOf (name := Str.ofString "__repr__") hTy F.slot_tuple_repr.lookup ?_)
    refine wpAny_bind (m := callSpecialIfBound? (.ref a) (Str.ofString "__repr__")) (wpAny_callSpecialIfBound?_slotG (name := Str.ofString "__repr__") hTy F.slot_tuple_repr
      (call_tuple_reprK h1 h2 h3 hna hk hg1 (fun b _ => Clear.nil b) (by omega) (fun _ _ e => e) (fun h' u tk hk' => ?_) hz'))
    exact wpAny_bind (wpAny_isInstance (T := "str") (b := true) rfl isSubtype_str_str (wpAny_pure ⟨_, rfl, hQ h' u tk hk'⟩))
  | @dict0 a o n h1 h2 h3 lo =>
    simp only [PyData.depth, PyData.depthKv] at hu
    simp only [PyData.shown, PyData.shownKv] at hQ hz
    have hTy : s.TypeIs (.ref a) "dict" := ⟨_, h1, h2⟩
    refine Calls.call_function_entry F.kind_repr F.plain_repr F.entry_repr (F.args_repr1 _) ?_
    unfold Builtin.«repr»
    refine wpAny_bind (m := oneArg "repr" _) (wpAny_pure ?_)
    refine wpAny_bind (wpAny_cRoomFor (by omega) ?_)
    refine wpAny_bind (wpAny_specialOf (name := Str.ofString "__repr__") hTy F.slot_dict_repr.lookup ?_)
    refine wpAny_bind (m := callSpecialIfBound? (.ref a) (Str.ofString "__repr__")) (wpAny_callSpecialIfBound?_slotG (name := Str.ofString "__repr__") hTy F.slot_dict_repr
      (call_dict_reprK (as := []) (h₀ := s.heap) (d := 0) h1 h2 h3 lo (by simp) (ReprEntriesK.of_two [] [] [] .nil .nil) hg1 (fun b _ => Clear.nil b) (by omega) (fun _ _ e => e) (fun h' u tk hk' => ?_) hz))
    exact wpAny_bind (wpAny_isInstance (T := "str") (b := true) rfl isSubtype_str_str (wpAny_pure ⟨_, rfl, hQ h' u tk hk'⟩))
end
end BV

namespace BV
open PySem L2

/-! ### the state -/
def noTbl (o : HO) : Prop := ∀ ps : Array Value, o ≠ .tbl ps
def frz (H : Hp) (ra : Ra) : Hp := fun b => if some b ∈ ra then none else match H b with
  | some (.tbl _) => none
  | x => x
theorem frz_some {H : Hp} {ra : Ra} {b : Addr} {o : HO} (h : frz H ra b = some o) : some b ∉ ra ∧ H b = some o ∧ noTbl o := by
  unfold frz at h
  split at h
  · cases h
  · rename_i n
    split at h
    · cases h
    · rename_i x hx
      refine ⟨n, h, fun ps z => ?_⟩
      rw [z] at h
      exact hx ps h
theorem frz_same (H : Hp) (ra : Ra) : Same (frz H ra) H := fun b o h => (frz_some h).2.1
theorem frz_at {H : Hp} {ra : Ra} {b : Addr} {o : HO} (h : H b = some o) (n : some b ∉ ra) (t : noTbl o := by intro _ z; cases z) : frz H ra b = some o := by
  unfold frz
  rw [if_neg n, h]
  cases o <;> first | rfl | exact absurd rfl (t _)
theorem frz_sub {H : Hp} {ra ra' : Ra} (hs : ∀ x, some x ∈ ra' → some x ∈ ra) : Same (frz H ra) (frz H ra') := fun b o e => by
  obtain ⟨n, h1, t⟩ := frz_some e
  exact frz_at h1 (fun z => n (hs b z)) t
def RepW (g : G) (F : Hp) (ra : Ra) : W → V → Prop
  | .d d, v => Rep g F d v
  | .loc n, v => ∃ a, v = .ref a ∧ ra[n]? = some (some a)
def CellAt (g : G) (F H : Hp) (a : Addr) : Cell → Prop
  | .lst ds => ∃ vs, H a = some (.lst vs) ∧ RepL g F ds vs
  | .ins c fs => ∃ dx vs, H a = some (.ins (g.ca c) dx vs) ∧ RepF g F fs vs
structure Rel (g : G) (ra : Ra) (cs : Cells) (H : Hp) : Prop where
  len : ra.length = cs.length
  cell : ∀ (n : Nat) c, cs[n]? = some (some c) → ∃ a, ra[n]? = some (some a) ∧ CellAt g (frz H ra) H a c
  dead : ∀ (n : Nat), cs[n]? = some none → ra[n]? = some none
  inj : ∀ (n m : Nat) a, ra[n]? = some (some a) → ra[m]? = some (some a) → n = m
  tabs : LamX.Tabs g.T H
def FrR (g : G) (H : Hp) (ra : Ra) (fr : Fra) (σ : St) : Prop :=
  fr.length = σ.length ∧ ∀ (i : Nat) w, fr[i]? = some (some w) → ∃ v, σ[i]? = some (some v) ∧ RepW g (frz H ra) ra w v
/-- what is tracked and neither a cell of ours nor a table stays; a table stays tracked -/
def Keep (ra : Ra) (H H' : Hp) : Prop := ∀ b o, H b = some o → some b ∉ ra → ∃ o', H' b = some o' ∧ (noTbl o → o' = o)
theorem Keep.at {ra : Ra} {H H' : Hp} (k : Keep ra H H') {b : Addr} {o : HO} (h : H b = some o) (n : some b ∉ ra) (t : noTbl o := by intro _ z; cases z) : H' b = some o := by
  obtain ⟨o', h1, e⟩ := k b o h n
  rw [h1, e t]
theorem Keep.refl (ra : Ra) (H : Hp) : Keep ra H H := fun _ o h _ => ⟨o, h, fun _ => rfl⟩
theorem Keep.trans {ra : Ra} {H H1 H2 : Hp} (a : Keep ra H H1) (b : Keep ra H1 H2) : Keep ra H H2 := fun x o h n => by
  obtain ⟨o1, h1, e1⟩ := a x o h n
  obtain ⟨o2, h2, e2⟩ := b x o1 h1 n
  exact ⟨o2, h2, fun t => by rw [e2 (by rw [e1 t]; exact t), e1 t]⟩
theorem Keep.same {ra : Ra} {H H' : Hp} (k : Keep ra H H') : Same (frz H ra) (frz H' ra) := fun b o h => by
  obtain ⟨n, h1, t⟩ := frz_some h
  exact frz_at (k.at h1 n t) n t
theorem Same.keep {ra : Ra} {H H' : Hp} (e : Same H H') : Keep ra H H' := fun b o h _ => ⟨o, e b o h, fun _ => rfl⟩
/-- the frame of a call that made cells of its own -/
theorem Keep.sub {ra ra' : Ra} {H H1 H' : Hp} (same1 : Same H H1) (kk : Keep ra' H1 H') (hs : ∀ b o, H b = some o → some b ∉ ra → some b ∉ ra') : Keep ra H H' := fun b o e nb => kk b o (same1 b o e) (hs b o e nb)
theorem RepW.mono {g : G} {F F' : Hp} {ra : Ra} {w : W} {v : V} (e : Same F F') (h : RepW g F ra w v) : RepW g F' ra w v := by
  cases w with
  | d d => exact Rep.mono e h
  | loc n => exact h
theorem FrR.mono {g : G} {H H' : Hp} {ra : Ra} {fr : Fra} {σ : St} (k : Keep ra H H') (h : FrR g H ra fr σ) : FrR g H' ra fr σ :=
  ⟨h.1, fun i w e => by
    obtain ⟨v, h1, h2⟩ := h.2 i w e
    exact ⟨v, h1, h2.mono k.same⟩⟩
theorem CellAt.mono {g : G} {F F' H H' : Hp} {a : Addr} {c : Cell} (e : Same F F') (h : H' a = H a) (x : CellAt g F H a c) : CellAt g F' H' a c := by
  cases c with
  | lst ds => obtain ⟨vs, h1, r⟩ := x; exact ⟨vs, h.trans h1, r.mono e⟩
  | ins c fs => obtain ⟨dx, vs, h1, r⟩ := x; exact ⟨dx, vs, h.trans h1, r.mono e⟩
theorem CellAt.there {g : G} {F H : Hp} {a : Addr} {c : Cell} (x : CellAt g F H a c) : H a ≠ none := by
  cases c with
  | lst ds => obtain ⟨vs, h1, r⟩ := x; rw [h1]; simp
  | ins c fs => obtain ⟨dx, vs, h1, r⟩ := x; rw [h1]; simp
theorem mem_ra {ra : Ra} {a : Addr} (h : some a ∈ ra) : ∃ n : Nat, ra[n]? = some (some a) := by
  obtain ⟨n, hn, e⟩ := List.getElem_of_mem h
  exact ⟨n, by rw [List.getElem?_eq_getElem hn, e]⟩
theorem ra_mem {ra : Ra} {a : Addr} {n : Nat} (h : ra[n]? = some (some a)) : some a ∈ ra := List.mem_of_getElem? h
section
variable {g : G} {ra : Ra} {cs : Cells} {H H' : Hp}
theorem Rel.back (R : Rel g ra cs H) {n : Nat} {a : Addr} (h : ra[n]? = some (some a)) : ∃ c, cs[n]? = some (some c) ∧ CellAt g (frz H ra) H a c := by
  have hn : n < cs.length := by
    rw [← R.len]
    exact (List.getElem?_eq_some_iff.mp h).1
  cases e : cs[n]'hn with
  | none =>
    have := R.dead n (by rw [List.getElem?_eq_getElem hn, e])
    rw [h] at this; cases this
  | some c =>
    have e1 : cs[n]? = some (some c) := by rw [List.getElem?_eq_getElem hn, e]
    obtain ⟨a', h1, h2⟩ := R.cell n c e1
    rw [h] at h1; cases h1
    exact ⟨c, e1, h2⟩
theorem Rel.there (R : Rel g ra cs H) {a : Addr} (h : some a ∈ ra) : H a ≠ none := by
  obtain ⟨n, hn⟩ := mem_ra h
  obtain ⟨c, _, h2⟩ := R.back hn
  exact h2.there
theorem Rel.fresh (R : Rel g ra cs H) {p : Addr} (h : H p = none) : some p ∉ ra := fun q => R.there q h
/-- a state whose cells are as they were -/
theorem Rel.keep (R : Rel g ra cs H) (k : Keep ra H H') (st : ∀ a, some a ∈ ra → H' a = H a) (tb : LamX.Tabs g.T H') : Rel g ra cs H' :=
  ⟨R.len, fun n c e => by
    obtain ⟨a, h1, h2⟩ := R.cell n c e
    exact ⟨a, h1, h2.mono k.same (st a (ra_mem h1))⟩, R.dead, R.inj, tb⟩
/-- a new object -/
theorem Rel.new (R : Rel g ra cs H) {p : Addr} {o : HO} (h : H p = none) (t : noTbl o := by intro _ z; cases z) : Keep ra H (upd H p o) ∧ Rel g ra cs (upd H p o) ∧ frz (upd H p o) ra p = some o := by
  have nf := R.fresh h
  have sm : ∀ b u, H b = some u → upd H p o b = some u := fun b u e => by
    rw [upd_ne (ne_of_none e h)]
    exact e
  have k : Keep ra H (upd H p o) := Same.keep sm
  refine ⟨k, R.keep k (fun a q => ?_) (R.tabs.ext sm), frz_at upd_same nf t⟩
  rw [upd_ne]
  intro z
  exact nf (z ▸ q)
theorem CellAt.kind {g : G} {F H : Hp} {a : Addr} {c : Cell} (x : CellAt g F H a c) : (∃ vs, H a = some (.lst vs)) ∨ ∃ c dx vs, H a = some (.ins c dx vs) := by
  cases c with
  | lst ds => obtain ⟨vs, h1, r⟩ := x; exact .inl ⟨_, h1⟩
  | ins c fs => obtain ⟨dx, vs, h1, r⟩ := x; exact .inr ⟨_, _, _, h1⟩
theorem tabs_put {T : List (Addr × Str)} {a : Addr} {o : HO} (tb : LamX.Tabs T H) (hk : (∃ vs, H a = some (.lst vs)) ∨ ∃ c dx vs, H a = some (.ins c dx vs)) : LamX.Tabs T (upd H a o) := fun p hp => by
  obtain ⟨ps, h1, h2, h3⟩ := tb p hp
  have ne : ∀ {b : Addr} {u : HO}, H b = some u → (∀ vs, u ≠ .lst vs) → (∀ c dx vs, u ≠ .ins c dx vs) → b ≠ a := fun {b u} e n1 n2 z => by
    rw [z] at e
    rcases hk with ⟨vs, q⟩ | ⟨c, dx, vs, q⟩
    · rw [q] at e; cases e; exact n1 _ rfl
    · rw [q] at e; cases e; exact n2 _ _ _ rfl
  refine ⟨ps, by rw [upd_ne (ne h1 (fun _ z => by cases z) (fun _ _ _ z => by cases z))]; exact h1, h2, fun pos cv e => ?_⟩
  obtain ⟨c, e1, e2⟩ := h3 pos cv e
  exact ⟨c, e1, by rw [upd_ne (ne e2 (fun _ z => by unfold LamX.CodeO at z; cases z) (fun _ _ _ z => by unfold LamX.CodeO at z; cases z))]; exact e2⟩
/-- a cell changes -/
theorem Rel.put (R : Rel g ra cs H) {n : Nat} {a : Addr} {c' : Cell} {o : HO} (h : ra[n]? = some (some a)) (hc : CellAt g (frz H ra) (upd H a o) a c') : Keep ra H (upd H a o) ∧ Rel g ra (cs.set n (some c')) (upd H a o) := by
  have k : Keep ra H (upd H a o) := fun b u e nb => ⟨u, by
    rw [upd_ne]
    · exact e
    · intro z
      exact nb (z ▸ ra_mem h), fun _ => rfl⟩
  have hn : n < cs.length := by
    rw [← R.len]
    exact (List.getElem?_eq_some_iff.mp h).1
  refine ⟨k, ⟨by rw [List.length_set]; exact R.len, fun m c e => ?_, fun m e => ?_, R.inj, tabs_put R.tabs (by obtain ⟨c0, _, q⟩ := R.back h; exact q.kind)⟩⟩
  · by_cases hm : m = n
    · subst hm
      rw [List.getElem?_set_self hn] at e
      cases e
      exact ⟨a, h, hc.mono k.same rfl⟩
    · rw [List.getElem?_set_ne (Ne.symm hm)] at e
      obtain ⟨a', h1, h2⟩ := R.cell m c e
      refine ⟨a', h1, h2.mono k.same (upd_ne ?_)⟩
      intro z
      subst z
      exact hm (R.inj m n _ h1 h)
  · by_cases hm : m = n
    · subst hm
      rw [List.getElem?_set_self hn] at e
      cases e
    · rw [List.getElem?_set_ne (Ne.symm hm)] at e
      exact R.dead m e
end

/-! ### results -/
inductive R (α : Type) where
  | ok (a : α) (cs : Cells) | exc (c : Nat) (x : D) (cs : Cells) | bad
def R.bind {α β : Type} (r : R α) (k : α → Cells → R β) : R β := match r with
  | .ok a cs => k a cs
  | .exc c x cs => .exc c x cs
  | .bad => .bad
def PostR {α β : Type} (g : G) (rp : Hp → α → β → Prop) (r : R α) (ra : Ra) (H : Hp) (Q : β → Hp → Prop) (E : XK) : Prop := match r with
  | .ok a cs => ∀ H' v, Keep ra H H' → Rel g ra cs H' → rp H' a v → Q v H'
  | .exc c x cs => ∀ H' dd v, Keep ra H H' → Rel g ra cs H' → H' dd = some (.xd [(g.efld c, v)]) → Rep g (frz H' ra) x v → E (.ref (g.ca c)) (some dd) H'
  | .bad => False
section
variable {α β γ δ : Type} {g : G} {rp : Hp → α → β → Prop} {rq : Hp → γ → δ → Prop} {ra : Ra} {H H1 : Hp} {Q Q' : β → Hp → Prop} {Q2 : δ → Hp → Prop} {E : XK}
theorem PostR.from {r : R α} (k : Keep ra H H1) (h : PostR g rp r ra H Q E) : PostR g rp r ra H1 Q E := by
  cases r with
  | ok a cs => exact fun H' v k' R p => h H' v (k.trans k') R p
  | exc c x cs => exact fun H' dd v k' R p q => h H' dd v (k.trans k') R p q
  | bad => exact h
theorem PostR.bind {r : R α} {k : α → Cells → R γ} (h : PostR g rq (r.bind k) ra H Q2 E) :
    PostR g rp r ra H (fun v H1 => ∃ a cs1, Keep ra H H1 ∧ Rel g ra cs1 H1 ∧ rp H1 a v ∧ PostR g rq (k a cs1) ra H1 Q2 E) E := by
  cases r with
  | ok a cs => exact fun H1 v k1 R1 p => ⟨a, cs, k1, R1, p, PostR.from k1 h⟩
  | exc c x cs => exact h
  | bad => exact h
theorem PostR.imp {r : R α} (h : PostR g rp r ra H Q E) (hq : ∀ v H', Q v H' → Q' v H') : PostR g rp r ra H Q' E := by
  cases r with
  | ok a cs => exact fun H' v k' R p => hq _ _ (h H' v k' R p)
  | exc c x cs => exact h
  | bad => exact h
end
abbrev rpW (g : G) (ra : Ra) : Hp → W → V → Prop := fun H w v => RepW g (frz H ra) ra w v
inductive RepWs (g : G) (F : Hp) (ra : Ra) : List W → List V → Prop
  | nil : RepWs g F ra [] []
  | cons {w : W} {v : V} {ws : List W} {vs : List V} (h : RepW g F ra w v) (t : RepWs g F ra ws vs) : RepWs g F ra (w :: ws) (v :: vs)
abbrev rpA (g : G) (ra : Ra) : Hp → List W → List V → Prop := fun H w v => RepWs g (frz H ra) ra w v
theorem RepWs.mono {g : G} {F F' : Hp} {ra : Ra} {w : List W} {v : List V} (e : Same F F') (h : RepWs g F ra w v) : RepWs g F' ra w v := by
  induction h with
  | nil => exact .nil
  | cons h _ ih => exact .cons (h.mono e) ih
theorem RepWs.length {g : G} {F : Hp} {ra : Ra} {w : List W} {v : List V} (h : RepWs g F ra w v) : w.length = v.length := by
  induction h with
  | nil => rfl
  | cons h _ ih => exact congrArg Nat.succ ih
def pureDs : List W → Option (List D)
  | [] => some []
  | .d d :: r => (pureDs r).map (d :: ·)
  | .loc _ :: _ => none
theorem RepWs.pure {g : G} {F : Hp} {ra : Ra} {w : List W} {v : List V} (h : RepWs g F ra w v) : ∀ {ds : List D}, pureDs w = some ds → RepL g F ds v := by
  induction h with
  | nil => intro ds e; cases e; exact .nil
  | @cons w v ws vs h _ ih =>
    intro ds e
    cases w with
    | loc n => cases e
    | d d =>
      simp only [pureDs, Option.map_eq_some_iff] at e
      obtain ⟨ds', e1, rfl⟩ := e
      exact .cons h (ih e1)

/-! ### readings by value -/
section
variable (g : G) (Wx : WX) (f : Fra → Cells → R W) (fa : Fra → Cells → R (List W)) (fb : Fra → Cells → R Bool)
def tE : TE := fun σ H Q => ∃ fr cs ra, Rel g ra cs H ∧ FrR g H ra fr σ ∧ PostR g (rpW g ra) (f fr cs) ra H Q (fun c d H' => Wx c d σ H')
def tA : TA := fun σ H Q => ∃ fr cs ra, Rel g ra cs H ∧ FrR g H ra fr σ ∧ PostR g (rpA g ra) (fa fr cs) ra H Q (fun c d H' => Wx c d σ H')
def tT : TT := fun σ H Q => ∃ fr cs ra, Rel g ra cs H ∧ FrR g H ra fr σ ∧ PostR g (fun _ (a b : Bool) => a = b) (fb fr cs) ra H Q (fun c d H' => Wx c d σ H')
end
theorem PE.imp {X : Cx} {e : Expr} {t t' : TE} (h : PE X e t) (i : ∀ σ H Q, t' σ H Q → t σ H Q) : PE X e t' := ⟨fun pins s σ H Q I q => h.run pins s σ H Q I (i σ H Q q)⟩
theorem PT.imp {X : Cx} {e : Expr} {t t' : TT} (h : PT X e t) (i : ∀ σ H Q, t' σ H Q → t σ H Q) : PT X e t' := ⟨fun pins s σ H Q I q => h.run pins s σ H Q I (i σ H Q q)⟩
theorem PW.imp {X : Cx} {e : Expr} {t t' : TT} (h : PW X e t) (i : ∀ σ H Q, t' σ H Q → t σ H Q) : PW X e t' := ⟨fun wh pins s σ H Q I q => h.run wh pins s σ H Q I (i σ H Q q)⟩
theorem PA.imp {X : Cx} {e : List Expr} {t t' : TA} (h : PA X e t) (i : ∀ σ H Q, t' σ H Q → t σ H Q) : PA X e t' := ⟨fun pos pins s σ H Q I q => h.run pos pins s σ H Q I (i σ H Q q)⟩
theorem PS.imp {X : Cx} {e : Stmt} {t t' : TS} (h : PS X e t) (i : ∀ D σ H, t' D σ H → t D σ H) : PS X e t' := ⟨fun pins s σ H D I q => h.run pins s σ H D I (i D σ H q)⟩
theorem PSs.imp {X : Cx} {e : List Stmt} {t t' : TS} (h : PSs X e t) (i : ∀ D σ H, t' D σ H → t D σ H) : PSs X e t' := ⟨fun pins s σ H D I q => h.run pins s σ H D I (i D σ H q)⟩

/-- two operands, then the operation on values -/
theorem tE_bin {g : G} {Wx : WX} {fa fb : Fra → Cells → R W} {op : W → W → Cells → R W} {r : R2}
    (hop : ∀ {w1 w2 : W} {cs : Cells} {ra : Ra} {H : Hp} {Q : VK} {E : XK} {v1 v2 : V}, Rel g ra cs H → RepW g (frz H ra) ra w1 v1 → RepW g (frz H ra) ra w2 v2 → PostR g (rpW g ra) (op w1 w2 cs) ra H Q E → r v1 v2 H Q)
    {σ : St} {H : Hp} {Q : VK} (h : tE g Wx (fun fr cs => (fa fr cs).bind fun w1 c1 => (fb fr c1).bind fun w2 c2 => op w1 w2 c2) σ H Q) : tOp r (tE g Wx fa) (tE g Wx fb) σ H Q := by
  obtain ⟨fr, cs, ra, R, F, p⟩ := h
  refine ⟨fr, cs, ra, R, F, PostR.imp (PostR.bind (rp := rpW g ra) p) ?_⟩
  rintro x H1 ⟨w1, c1, k1, R1, r1, p1⟩
  refine ⟨fr, c1, ra, R1, F.mono k1, PostR.imp (PostR.bind (rp := rpW g ra) p1) ?_⟩
  rintro y H2 ⟨w2, c2, k2, R2, r2, p2⟩
  exact hop R2 (r1.mono k2.same) r2 p2
theorem tE_un {g : G} {Wx : WX} {fa : Fra → Cells → R W} {op : W → Cells → R W} {r : V → Hp → VK → Prop}
    (hop : ∀ {w1 : W} {cs : Cells} {ra : Ra} {H : Hp} {Q : VK} {E : XK} {v1 : V}, Rel g ra cs H → RepW g (frz H ra) ra w1 v1 → PostR g (rpW g ra) (op w1 cs) ra H Q E → r v1 H Q)
    {σ : St} {H : Hp} {Q : VK} (h : tE g Wx (fun fr cs => (fa fr cs).bind fun w1 c1 => op w1 c1) σ H Q) : tUn r (tE g Wx fa) σ H Q := by
  obtain ⟨fr, cs, ra, R, F, p⟩ := h
  refine ⟨fr, cs, ra, R, F, PostR.imp (PostR.bind (rp := rpW g ra) p) ?_⟩
  rintro x H1 ⟨w1, c1, k1, R1, r1, p1⟩
  exact hop R1 r1 p1
/-- arguments, then the call on values -/
theorem tE_call {g : G} {Wx : WX} {fa : Fra → Cells → R (List W)} {op : List W → Cells → R W} {r : List V → Hp → VK → Prop}
    (hop : ∀ {ws : List W} {cs : Cells} {ra : Ra} {H : Hp} {Q : VK} {E : XK} {vs : List V}, Rel g ra cs H → RepWs g (frz H ra) ra ws vs → PostR g (rpW g ra) (op ws cs) ra H Q E → r vs H Q)
    {σ : St} {H : Hp} {Q : VK} (h : tE g Wx (fun fr cs => (fa fr cs).bind fun w1 c1 => op w1 c1) σ H Q) : tCB r (tA g Wx fa) σ H Q := by
  obtain ⟨fr, cs, ra, R, F, p⟩ := h
  refine ⟨fr, cs, ra, R, F, PostR.imp (PostR.bind (rp := rpA g ra) p) ?_⟩
  rintro x H1 ⟨w1, c1, k1, R1, r1, p1⟩
  exact hop R1 r1 p1
theorem pa_nilB {X : Cx} {g : G} {Wx : WX} : PA X [] (tA g Wx fun _ cs => .ok [] cs) := PA.imp pa_nil fun σ H Q h => by
  obtain ⟨fr, cs, ra, R, F, p⟩ := h
  exact p H [] (Keep.refl _ _) R .nil
theorem pa_consB {X : Cx} {g : G} {Wx : WX} {e : Expr} {es : List Expr} {f : Fra → Cells → R W} {fa : Fra → Cells → R (List W)} (h1 : PE X e (tE g Wx f)) (h2 : PA X es (tA g Wx fa)) (hs : starEach (e :: es) X.env = (false, eval e X.env) :: starEach es X.env) :
    PA X (e :: es) (tA g Wx fun fr cs => (f fr cs).bind fun w c1 => (fa fr c1).bind fun ws c2 => .ok (w :: ws) c2) := PA.imp (pa_cons h1 h2 hs) fun σ H Q h => by
  obtain ⟨fr, cs, ra, R, F, p⟩ := h
  refine ⟨fr, cs, ra, R, F, PostR.imp (PostR.bind (rp := rpW g ra) p) ?_⟩
  rintro x H1 ⟨w1, c1, k1, R1, r1, p1⟩
  refine ⟨fr, c1, ra, R1, F.mono k1, PostR.imp (PostR.bind (rp := rpA g ra) p1) ?_⟩
  rintro xs H2 ⟨ws, c2, k2, R2, r2, p2⟩
  exact p2 H2 _ (Keep.refl _ _) R2 (.cons (r1.mono k2.same) r2)
end BV

namespace BV
open PySem L2
/-- u, called without arguments in any state that comes later, does th -/
def DeedRun (g : G) (P : Program) (w : World) (K : PySem.W.Frag) (mg : Str → Option Value) (base : Heap) (k : Nat) (fs : List Addr) (u : Value) (th : Cells → R D) (ra : Ra) (s0 : Shared) (H0 : Hp) : Prop :=
  ∀ (A : Around) (outer : List Env) (s : Shared) (H : Hp) (cs : Cells) (Q : VK) (E : XK), Room k A → A.guards = some [] → Env0 P w K mg base A outer s H → Un fs [] H0 H s0.heap s.heap → Keep ra H0 H → Rel g ra cs H →
    PostR g (fun H' d v => Rep g (frz H' ra) d v) (th cs) ra H Q E → codeAny (model P w) A (.call u ⟨[], []⟩) (CR (L2.CX P w) outer P w H s Q E) s
/-- a def that is handed such a thing and calls it -/
structure FnD (g : G) (P : Program) (w : World) (K : PySem.W.Frag) (mg : Str → Option Value) (base : Heap) (k : Nat) (f : Nat) (m : (Cells → R D) → Cells → R D) : Prop where
  run : ∀ (A : Around) (outer : List Env) (s : Shared) (H : Hp) (u : Addr) (th : Cells → R D) (ra : Ra) (cs : Cells) (Q : VK) (E : XK), Room (k + 1) A → A.guards = some [] → Env0 P w K mg base A outer s H → PySem.W.FnAt u s.heap → H u = none → u ∉ frs outer → DeedRun g P w K mg base k (frs outer) (.ref u) th ra s H → Rel g ra cs H →
    PostR g (fun H' d v => Rep g (frz H' ra) d v) (m th cs) ra H Q E → codeAny (model P w) A (.call (.ref (g.fa f)) ⟨[.ref u], []⟩) (CR (L2.CX P w) outer P w H s Q E) s
end BV

namespace BV
open PySem L2

/-! ### looking at values -/
def celL (cs : Cells) (n : Nat) : Option (List D) := match cs[n]? with
  | some (some (.lst xs)) => some xs
  | _ => none
/-- a list that is tracked -/
def dlt (cs : Cells) : W → Option (List D)
  | .d (.lst xs) => some xs
  | .loc n => celL cs n
  | _ => none
def dl (cs : Cells) : W → Option (List D)
  | .d (.lst xs) => some xs
  | .d (.flst xs) => some xs
  | .loc n => celL cs n
  | _ => none
section
variable {g : G} {ra : Ra} {cs : Cells} {H : Hp}
theorem celL_ok (R : Rel g ra cs H) {n : Nat} {xs : List D} {v : V} (r : RepW g (frz H ra) ra (.loc n) v) (e : celL cs n = some xs) : ∃ a vs, v = .ref a ∧ ra[n]? = some (some a) ∧ H a = some (.lst vs) ∧ RepL g (frz H ra) xs vs := by
  obtain ⟨a, rfl, ha⟩ := r
  unfold celL at e
  split at e
  · rename_i ys hc
    cases e
    obtain ⟨a', h1, h2⟩ := R.cell n _ hc
    rw [ha] at h1
    cases h1
    obtain ⟨vs, h3, h4⟩ := h2
    exact ⟨a, vs, rfl, ha, h3, h4⟩
  · cases e
theorem dlt_ok (R : Rel g ra cs H) {w : W} {xs : List D} {v : V} (r : RepW g (frz H ra) ra w v) (e : dlt cs w = some xs) : ∃ a vs, v = .ref a ∧ H a = some (.lst vs) ∧ RepL g (frz H ra) xs vs := by
  unfold dlt at e
  split at e
  · cases e
    cases r with
    | lst h r => exact ⟨_, _, rfl, frz_same _ _ _ _ h, r⟩
  · obtain ⟨a, vs, h1, _, h2, h3⟩ := celL_ok R r e
    exact ⟨a, vs, h1, h2, h3⟩
  · cases e
theorem dl_ok (R : Rel g ra cs H) {w : W} {xs : List D} {v : V} (r : RepW g (frz H ra) ra w v) (e : dl cs w = some xs) : ∃ a vs, v = .ref a ∧ SqL g.K H a vs ∧ RepL g (frz H ra) xs vs := by
  unfold dl at e
  split at e
  · cases e
    cases r with
    | lst h r => exact ⟨_, _, rfl, SqL.of (frz_same _ _ _ _ h), r⟩
  · cases e
    cases r with
    | flst h r => exact ⟨_, _, rfl, (frz_same H ra).seq h, r⟩
  · obtain ⟨a, vs, h1, _, h2, h3⟩ := celL_ok R r e
    exact ⟨a, vs, h1, SqL.of h2, h3⟩
  · cases e
theorem tup_ok {xs : List D} {v : V} (r : RepW g (frz H ra) ra (.d (.tup xs)) v) : ∃ a vs, v = .ref a ∧ SqT g.K H a vs ∧ RepL g (frz H ra) xs vs := by
  cases r with
  | tup h r => exact ⟨_, _, rfl, sqT_mono (frz_same H ra) h, r⟩
/-- a new list is handed on -/
theorem new_lst {Q : VK} {E : XK} {xs : List D} {vs : List V} (R : Rel g ra cs H) (r : RepL g (frz H ra) xs vs) (h : PostR g (rpW g ra) (.ok (.d (.lst xs)) cs) ra H Q E) (p : Addr) (hp : H p = none) : Q (.ref p) (upd H p (.lst vs)) := by
  obtain ⟨k, R', e⟩ := R.new (o := .lst vs) hp
  exact h _ _ k R' (.lst e (r.mono k.same))
theorem new_tup {Q : VK} {E : XK} {xs : List D} {vs : List V} (R : Rel g ra cs H) (r : RepL g (frz H ra) xs vs) (h : PostR g (rpW g ra) (.ok (.d (.tup xs)) cs) ra H Q E) (p : Addr) (hp : H p = none) : Q (.ref p) (upd H p (.tup vs)) := by
  obtain ⟨k, R', e⟩ := R.new (o := .tup vs) hp
  exact h _ _ k R' (.tup (SqT.of e) (r.mono k.same))
theorem back {Q : VK} {E : XK} {d : D} {v : V} (R : Rel g ra cs H) (r : Rep g (frz H ra) d v) (h : PostR g (rpW g ra) (.ok (.d d) cs) ra H Q E) : Q v H := h _ _ (Keep.refl _ _) R r
end
def lit : Nat := 16777216
theorem line_lit : (sizeLine : Nat) = lit := sizeLine_eq

/-! ### + -/
def wAdd (w1 w2 : W) (cs : Cells) : R W := match w1, w2 with
  | .d (.int i), .d (.int j) => .ok (.d (.int (i + j))) cs
  | .d (.str x), .d (.str y) => if x.length + y.length ≤ lit then .ok (.d (.str (x ++ y))) cs else .bad
  | .d (.tup xs), .d (.tup ys) => if xs.length + ys.length ≤ lit then .ok (.d (.tup (xs ++ ys))) cs else .bad
  | a, b => match dlt cs a, dlt cs b with
    | some xs, some ys => if xs.length + ys.length ≤ lit then .ok (.d (.lst (xs ++ ys))) cs else .bad
    | _, _ => .bad
def rAddW (K : PySem.W.Frag) : R2 := fun x y H Q => rI0 (fun i j => .int (i + j)) x y H Q ∨ (∃ i j, x = .str i ∧ y = .str j ∧ i.length + j.length ≤ sizeLine ∧ Q (.str (i ++ j)) H) ∨ rCatA K x y H Q ∨ rCat x y H Q
theorem op_addW {X : Cx} : OpR X (binaryOp .Add) (rAddW X.K) := op_add.or (op_add_str.or (op_catA.or op_cat))
theorem wAdd_ok {g : G} {w1 w2 : W} {cs : Cells} {ra : Ra} {H : Hp} {Q : VK} {E : XK} {v1 v2 : V} (R : Rel g ra cs H) (r1 : RepW g (frz H ra) ra w1 v1) (r2 : RepW g (frz H ra) ra w2 v2) (h : PostR g (rpW g ra) (wAdd w1 w2 cs) ra H Q E) : rAddW g.K v1 v2 H Q := by
  unfold wAdd at h
  split at h
  · cases r1
    cases r2
    exact .inl ⟨_, _, rfl, rfl, back R (.int _) h⟩
  · cases r1
    cases r2
    split at h
    · rename_i hl
      exact .inr (.inl ⟨_, _, rfl, rfl, by rw [line_lit]; exact hl, back R (.str _) h⟩)
    · exact h.elim
  · split at h
    · rename_i hl
      obtain ⟨a, vs, rfl, h1, q1⟩ := tup_ok r1
      obtain ⟨b, us, rfl, h2, q2⟩ := tup_ok r2
      refine .inr (.inr (.inl ⟨a, b, vs, us, rfl, rfl, h1, h2, by rw [line_lit, ← q1.length, ← q2.length]; exact hl, fun e => ?_, fun e1 e2 => ?_, fun e1 e2 => new_tup R (q1.append q2) h⟩))
      · subst e
        cases q1
        exact back R r2 h
      · subst e2
        cases q2
        rw [List.append_nil] at h
        exact back R r1 h
    · exact h.elim
  · split at h
    · rename_i xs ys e1 e2
      split at h
      · rename_i hl
        obtain ⟨a, vs, rfl, h1, q1⟩ := dlt_ok R r1 e1
        obtain ⟨b, us, rfl, h2, q2⟩ := dlt_ok R r2 e2
        exact .inr (.inr (.inr ⟨a, b, vs, us, rfl, rfl, h1, h2, by rw [line_lit, ← q1.length, ← q2.length]; exact hl, new_lst R (q1.append q2) h⟩))
      · exact h.elim
    · exact h.elim
/-! ### the other operators -/
def wI (f : Int → Int → Option D) (w1 w2 : W) (cs : Cells) : R W := match w1, w2 with
  | .d (.int i), .d (.int j) => match f i j with
    | some d => .ok (.d d) cs
    | none => .bad
  | _, _ => .bad
theorem wI_ok {C : Int → Int → Prop} {gg : Int → Int → V} {f : Int → Int → Option D} (hf : ∀ i j d, f i j = some d → C i j ∧ ∀ g F, Rep g F d (gg i j)) {g : G} {w1 w2 : W} {cs : Cells} {ra : Ra} {H : Hp} {Q : VK} {E : XK} {v1 v2 : V} (R : Rel g ra cs H) (r1 : RepW g (frz H ra) ra w1 v1) (r2 : RepW g (frz H ra) ra w2 v2)
    (h : PostR g (rpW g ra) (wI f w1 w2 cs) ra H Q E) : rI C gg v1 v2 H Q := by
  unfold wI at h
  split at h
  · cases r1
    cases r2
    split at h
    · rename_i d e
      obtain ⟨c, q⟩ := hf _ _ _ e
      exact ⟨_, _, rfl, rfl, c, back R (q _ _) h⟩
    · exact h.elim
  · exact h.elim
def fSub (i j : Int) : Option D := some (.int (i - j))
def fMul (i j : Int) : Option D := if i.natAbs.log2 + j.natAbs.log2 < 1000000 then some (.int (i * j)) else none
def fDiv (i j : Int) : Option D := if 0 < j ∧ j.natAbs.log2 < 9000 then some (.int (i / j)) else none
def fMod (i j : Int) : Option D := if 0 < j then some (.int (i % j)) else none
def fPow (i j : Int) : Option D := if 0 ≤ j ∧ j ≤ 1000000 ∧ i.natAbs < 18446744073709551616 then some (.int (i ^ j.toNat)) else none
theorem op_subC {X : Cx} : OpR X (binaryOp .Sub) (rI (fun _ _ => True) fun i j => .int (i - j)) := fun pins s σ H x y v u Q I rx ry ⟨i, j, e1, e2, _, q⟩ => op_sub pins s σ H x y v u Q I rx ry ⟨i, j, e1, e2, q⟩
/-- * : ints, a text times an int, a list times an int, a tuple times an int -/
def wMul (w1 w2 : W) (cs : Cells) : R W := match w1, w2 with
  | .d (.int i), .d (.int j) => wI fMul (.d (.int i)) (.d (.int j)) cs
  | .d (.str x), .d (.int k) => if 1 ≤ k ∧ k ≤ 1000 ∧ x.length ≤ 1000 then .ok (.d (.str ⟨(List.replicate k.toNat x.cps).foldl (· ++ ·) #[]⟩)) cs else if k ≤ 0 ∧ -1000 ≤ k then .ok (.d (.str Str.empty)) cs else .bad
  | .d (.tup xs), .d (.int k) => if xs ≠ [] ∧ 2 ≤ k ∧ k ≤ 1000 ∧ xs.length ≤ 1000 then .ok (.d (.tup (List.replicate k.toNat xs).flatten)) cs else .bad
  | a, .d (.int k) => match dlt cs a with
    | some xs => if -1000 ≤ k ∧ k ≤ 1000 ∧ xs.length ≤ 1000 then .ok (.d (.lst (List.replicate k.toNat xs).flatten)) cs else .bad
    | _ => .bad
  | _, _ => .bad
def rMulS : R2 := fun x y H Q => ∃ z k, x = .str z ∧ y = .int k ∧ ((1 ≤ k ∧ k ≤ 1000 ∧ z.length ≤ 1000 ∧ Q (.str ⟨(List.replicate k.toNat z.cps).foldl (· ++ ·) #[]⟩) H) ∨ (k ≤ 0 ∧ -1000 ≤ k ∧ Q (.str Str.empty) H))
theorem len_rep_fold (c : Array Nat) : ∀ (n : Nat) (acc : Array Nat), ((List.replicate n c).foldl (· ++ ·) acc).size = acc.size + n * c.size
  | 0, acc => by simp
  | n + 1, acc => by
    rw [List.replicate_succ, List.foldl_cons, len_rep_fold c n, Array.size_append, Nat.succ_mul]
    omega
theorem one_rep (c : Array Nat) : (List.replicate 1 c).foldl (· ++ ·) #[] = c := by simp
theorem empty_rep : ∀ (n : Nat), (List.replicate n (#[] : Array Nat)).foldl (· ++ ·) #[] = #[]
  | 0 => rfl
  | n + 1 => by rw [List.replicate_succ, List.foldl_cons]; exact empty_rep n
theorem op_mulS {X : Cx} : OpR X (binaryOp .Mult) rMulS := by
  intro pins s σ H x y v u Q I rx ry h
  obtain ⟨z, k, rfl, rfl, h⟩ := h
  obtain ⟨t, rfl⟩ := rx
  obtain ⟨t', rfl⟩ := ry
  rcases h with ⟨h1, h2, h3, q⟩ | ⟨h1, h2, q⟩
  · have hlen : ((List.replicate k.toNat z.cps).foldl (· ++ ·) #[]).size ≤ sizeLine := by
      rw [len_rep_fold, sizeLine_eq]
      have e1 : k.toNat ≤ 1000 := by omega
      have e2 : z.cps.size ≤ 1000 := h3
      have := Nat.mul_le_mul e1 e2
      simp only [Array.size_empty, Nat.zero_add]
      omega
    refine PySem.P.mul_str ?_ ?_ ?_ ?_
    · simp only [Bool.or_eq_false_iff, decide_eq_false_iff_not]
      omega
    · intro _ _ hz
      have e2 : (z.length : Int) ≤ 1000 := by omega
      have hm : (z.length : Int) * k ≤ 1000 * 1000 := Int.mul_le_mul e2 h2 (by omega) (by decide)
      have : (z.length : Int) ≤ (2 ^ 63 - 1) / k := Int.le_ediv_of_mul_le (by omega) (by omega)
      omega
    · intro _ _
      have e1 : k.toNat ≤ 1000 := by omega
      have := Nat.mul_le_mul h3 e1
      have hz := sizeLine_eq
      unfold Builtin.Str.tooLong
      exact decide_eq_false (by omega)
    · rw [if_neg (by omega)]
      split
      · rename_i c
        rcases Bool.or_eq_true_iff.mp c with c | c
        · have e : k = 1 := by simpa using c
          subst e
          have e3 : (⟨(List.replicate (1 : Int).toNat z.cps).foldl (· ++ ·) #[]⟩ : Str) = z := by
            show (⟨(List.replicate 1 z.cps).foldl (· ++ ·) #[]⟩ : Str) = z
            rw [one_rep]
          rw [e3] at q
          exact ⟨.str z, H, I, ⟨_, rfl⟩, q⟩
        · have e : z.cps = #[] := by
            have : z.cps.size = 0 := beq_iff_eq.mp c
            exact Array.eq_empty_of_size_eq_zero this
          rw [e, empty_rep] at q
          have e4 : z = ⟨#[]⟩ := by cases z; simp at e; rw [e]
          rw [← e4] at q
          exact ⟨.str z, H, I, ⟨_, rfl⟩, q⟩
      · exact ⟨hlen, .str _, H, I.tok _, ⟨_, rfl⟩, q⟩
  · exact PySem.P.mul_str_none (by omega) (by omega) ⟨.str _, H, I.tok _, ⟨_, rfl⟩, q⟩
theorem line_small {n : Nat} (h : n ≤ 16777216) : n ≤ sizeLine := by rw [sizeLine_eq]; exact h
def rMulW (K : PySem.W.Frag) : R2 := fun x y H Q => rI CMulW (fun i j => .int (i * j)) x y H Q ∨ rMulS x y H Q ∨ rRepT K x y H Q ∨ rRep x y H Q
theorem op_mulW' {X : Cx} : OpR X (binaryOp .Mult) (rMulW X.K) := op_mulW.or (op_mulS.or (op_repT.or op_rep))
theorem wMul_ok {g : G} {w1 w2 : W} {cs : Cells} {ra : Ra} {H : Hp} {Q : VK} {E : XK} {v1 v2 : V} (R : Rel g ra cs H) (r1 : RepW g (frz H ra) ra w1 v1) (r2 : RepW g (frz H ra) ra w2 v2) (h : PostR g (rpW g ra) (wMul w1 w2 cs) ra H Q E) : rMulW g.K v1 v2 H Q := by
  unfold wMul at h
  split at h
  · refine .inl (wI_ok (f := fMul) (fun i j d e => ?_) R r1 r2 h)
    unfold fMul at e
    split at e
    · cases e
      exact ⟨by assumption, fun _ _ => .int _⟩
    · cases e
  · cases r1
    cases r2
    split at h
    · rename_i hl
      exact .inr (.inl ⟨_, _, rfl, rfl, .inl ⟨hl.1, hl.2.1, hl.2.2, back R (.str _) h⟩⟩)
    · split at h
      · rename_i hl
        exact .inr (.inl ⟨_, _, rfl, rfl, .inr ⟨hl.1, hl.2, back R (.str _) h⟩⟩)
      · exact h.elim
  · cases r2
    split at h
    · rename_i hl
      obtain ⟨a, vs, rfl, h1, q1⟩ := tup_ok r1
      refine .inr (.inr (.inl ⟨a, _, vs, rfl, rfl, h1, fun e => ?_, hl.2.1, hl.2.2.1, by rw [← q1.length]; exact hl.2.2.2, new_tup R (q1.rep _) h⟩))
      subst e
      cases q1
      exact hl.1 rfl
    · exact h.elim
  · cases r2
    split at h
    · rename_i xs e1
      split at h
      · rename_i hl
        obtain ⟨a, vs, rfl, h1, q1⟩ := dlt_ok R r1 e1
        refine .inr (.inr (.inr ⟨a, _, vs, rfl, rfl, h1, by omega, by omega, line_small ?_, new_lst R (q1.rep _) h⟩))
        rw [← q1.length]
        exact Nat.le_trans (Nat.mul_le_mul hl.2.2 (Int.toNat_le.mpr hl.2.1)) (by decide)
      · exact h.elim
    · exact h.elim
  · exact h.elim

/-! ### one road for all binary operators -/
def wOp (o : Operator) (w1 w2 : W) (cs : Cells) : R W := match o with
  | .Add => wAdd w1 w2 cs
  | .Sub => wI fSub w1 w2 cs
  | .Mult => wMul w1 w2 cs
  | .FloorDiv => wI fDiv w1 w2 cs
  | .Mod => wI fMod w1 w2 cs
  | .Pow => wI fPow w1 w2 cs
  | _ => .bad
def rOp (K : PySem.W.Frag) (o : Operator) : R2 := match o with
  | .Add => rAddW K
  | .Sub => rI (fun _ _ => True) fun i j => .int (i - j)
  | .Mult => rMulW K
  | .FloorDiv => rI CDivW fun i j => .int (i / j)
  | .Mod => rI (fun _ j => 0 < j) fun i j => .int (i % j)
  | .Pow => rI CPow fun i j => .int (i ^ j.toNat)
  | _ => fun _ _ _ _ => False
theorem op_all {X : Cx} (o : Operator) : OpR X (binaryOp o) (rOp X.K o) := by
  cases o <;> first
    | exact op_addW
    | exact op_subC
    | exact op_mulW'
    | exact op_fdivW
    | exact op_mod
    | exact op_pow
    | exact fun _ _ _ _ _ _ _ _ _ _ _ _ z => z.elim
theorem wOp_ok {o : Operator} {g : G} {w1 w2 : W} {cs : Cells} {ra : Ra} {H : Hp} {Q : VK} {E : XK} {v1 v2 : V} (R : Rel g ra cs H) (r1 : RepW g (frz H ra) ra w1 v1) (r2 : RepW g (frz H ra) ra w2 v2) (h : PostR g (rpW g ra) (wOp o w1 w2 cs) ra H Q E) : rOp g.K o v1 v2 H Q := by
  cases o <;> first
    | exact wAdd_ok R r1 r2 h
    | exact wMul_ok R r1 r2 h
    | exact (show False from h).elim
    | (refine wI_ok (f := fSub) (fun i j d e => ?_) R r1 r2 h; cases e; exact ⟨trivial, fun _ _ => .int _⟩)
    | (refine wI_ok (f := fDiv) (fun i j d e => ?_) R r1 r2 h; unfold fDiv at e; split at e <;> cases e; exact ⟨by assumption, fun _ _ => .int _⟩)
    | (refine wI_ok (f := fMod) (fun i j d e => ?_) R r1 r2 h; unfold fMod at e; split at e <;> cases e; exact ⟨by assumption, fun _ _ => .int _⟩)
    | (refine wI_ok (f := fPow) (fun i j d e => ?_) R r1 r2 h; unfold fPow at e; split at e <;> cases e; exact ⟨by assumption, fun _ _ => .int _⟩)

/-! ### comparisons -/
mutual
def toPy : D → Option PyData
  | .non => some .none
  | .bl b => some (.bool b)
  | .int i => some (.int i)
  | .str x => some (.str x)
  | .tup xs => (toPyL xs).map .tuple
  | .lst xs => (toPyL xs).map .list
  | .flst xs => (toPyL xs).map .list
  | _ => none
def toPyL : List D → Option (List PyData)
  | [] => some []
  | d :: r => match toPy d, toPyL r with
    | some p, some q => some (p :: q)
    | _, _ => none
end
section
variable {g : G} {F H : Hp}
mutual
theorem toPy_ok (e : Same F H) : ∀ {d : D} {v : V} {p : PyData}, Rep g F d v → toPy d = some p → Dp g.K H v p
  | .non, _, _, .non, h => by simp only [toPy, Option.some.injEq] at h; subst h; exact .non
  | .bl b, _, _, .bl _, h => by simp only [toPy, Option.some.injEq] at h; subst h; exact .bl b
  | .int i, _, _, .int _, h => by simp only [toPy, Option.some.injEq] at h; subst h; exact .int i
  | .str x, _, _, .str _, h => by simp only [toPy, Option.some.injEq] at h; subst h; exact .str x
  | .tup xs, _, _, .tup q r, h => by
    simp only [toPy, Option.map_eq_some_iff] at h
    obtain ⟨ps, h1, rfl⟩ := h
    exact .tup (sqT_mono e q) (toPyL_ok e r h1)
  | .lst xs, _, _, .lst q r, h => by
    simp only [toPy, Option.map_eq_some_iff] at h
    obtain ⟨ps, h1, rfl⟩ := h
    exact .lst (SqL.of (e _ _ q)) (toPyL_ok e r h1)
  | .flst xs, _, _, .flst q r, h => by
    simp only [toPy, Option.map_eq_some_iff] at h
    obtain ⟨ps, h1, rfl⟩ := h
    exact .lst (e.seq q) (toPyL_ok e r h1)
  | .ty _, _, _, .ty _, h => by simp [toPy] at h
  | .cls _, _, _, .cls _, h => by simp [toPy] at h
  | .ins _ _, _, _, .ins _ _, h => by simp [toPy] at h
theorem toPyL_ok (e : Same F H) : ∀ {ds : List D} {vs : List V} {ps : List PyData}, RepL g F ds vs → toPyL ds = some ps → DpAll g.K H vs ps
  | [], _, _, .nil, h => by simp only [toPyL, Option.some.injEq] at h; subst h; exact .nil
  | d :: ds, _, _, .cons r t, h => by
    simp only [toPyL] at h
    split at h
    · rename_i p q h1 h2
      cases h
      exact .cons (toPy_ok e r h1) (toPyL_ok e t h2)
    · cases h
end
end
def wPy (cs : Cells) : W → Option PyData
  | .d d => toPy d
  | .loc n => (celL cs n).bind fun xs => (toPyL xs).map .list
theorem wPy_ok {g : G} {cs : Cells} {ra : Ra} {H : Hp} {w : W} {v : V} {p : PyData} (R : Rel g ra cs H) (r : RepW g (frz H ra) ra w v) (h : wPy cs w = some p) : Dp g.K H v p := by
  cases w with
  | d d => exact toPy_ok (frz_same H ra) r h
  | loc n =>
    simp only [wPy] at h
    cases e : celL cs n with
    | none => rw [e] at h; cases h
    | some xs =>
      rw [e] at h
      simp only [Option.bind_some, Option.map_eq_some_iff] at h
      obtain ⟨ps, h1, rfl⟩ := h
      obtain ⟨a, vs, rfl, _, h2, h3⟩ := celL_ok R r e
      exact .lst (SqL.of h2) (toPyL_ok (frz_same H ra) h3 h1)
/-! == and != of data, None, texts and numbers in order, in -/
def wEq (neg : Bool) (w1 w2 : W) (cs : Cells) : R W := match wPy cs w1, wPy cs w2 with
  | some p, some q => if SeqAt.shaped p = true ∧ SeqAt.shaped q = true then .ok (.d (.bl (if neg then !PyData.eqv p q else PyData.eqv p q))) cs else .bad
  | _, _ => match dl cs w1, dl cs w2 with
    | some xs, some ys => if xs.length = ys.length then .bad else .ok (.d (.bl neg)) cs
    | _, _ => .bad
def isNon : W → Bool
  | .d .non => true
  | _ => false
def wIs (neg : Bool) (w1 w2 : W) (cs : Cells) : R W := match w1, w2 with
  | .d (.bl a), .d (.bl b) => .ok (.d (.bl (if neg then !decide (a = b) else decide (a = b)))) cs
  | w, .d .non => .ok (.d (.bl (if neg then !isNon w else isNon w))) cs
  | _, _ => .bad
def wOrd (f : Int → Int → Bool) (fs : List Nat → List Nat → Bool) (w1 w2 : W) (cs : Cells) : R W := match w1, w2 with
  | .d (.int i), .d (.int j) => .ok (.d (.bl (f i j))) cs
  | .d (.str x), .d (.str y) => .ok (.d (.bl (fs x.cps.toList y.cps.toList))) cs
  | _, _ => .bad
def flatV? : D → Option V
  | .non => some .non | .bl b => some (.bl b) | .int i => some (.int i) | .str x => some (.str x) | _ => none
def flatL? : List D → Option (List V)
  | [] => some []
  | d :: r => match flatV? d, flatL? r with
    | some v, some vs => some (v :: vs)
    | _, _ => none
def inSign (x y : Str) : Bool := match x.cps.toList with
  | [c] => decide (c ∈ y.cps.toList)
  | _ => !(Builtin.Str.occurrences y x 0 y.length 1).isEmpty
def wIn (neg : Bool) (w1 w2 : W) (cs : Cells) : R W := match w1, w2 with
  | .d (.str x), .d (.str y) => .ok (.d (.bl (if neg then !inSign x y else inSign x y))) cs
  | .d d, .d (.tup xs) => match flatV? d, flatL? xs with
    | some v, some vs => .ok (.d (.bl (if neg then !inV v vs else inV v vs))) cs
    | _, _ => .bad
  | a, b => match wPy cs a, dl cs b with
    | some p, some ys => match toPyL ys with
      | some qs => if SeqAt.shaped p = true ∧ SeqAt.shaped (.list qs) = true then .ok (.d (.bl (if neg then !(qs.any fun z => PyData.eqv z p) else qs.any fun z => PyData.eqv z p))) cs else .bad
      | none => .bad
    | _, _ => .bad
def wCmp (o : CmpOp) (w1 w2 : W) (cs : Cells) : R W := match o with
  | .Eq => wEq false w1 w2 cs
  | .NotEq => wEq true w1 w2 cs
  | .Is => wIs false w1 w2 cs
  | .IsNot => wIs true w1 w2 cs
  | .Lt => wOrd (fun i j => decide (i < j)) (fun x y => decide (x < y)) w1 w2 cs
  | .LtE => wOrd (fun i j => decide (i ≤ j)) (fun x y => !decide (y < x)) w1 w2 cs
  | .Gt => wOrd (fun i j => decide (j < i)) (fun x y => decide (y < x)) w1 w2 cs
  | .GtE => wOrd (fun i j => decide (j ≤ i)) (fun x y => !decide (x < y)) w1 w2 cs
  | .In => wIn false w1 w2 cs
  | .NotIn => wIn true w1 w2 cs
def rIsNon (neg : Bool) : R2 := fun x y H Q => (y = .non ∧ Q (.bl (if neg then !decide (x = .non) else decide (x = .non))) H) ∨ ∃ a b, x = .bl a ∧ y = .bl b ∧ Q (.bl (if neg then !decide (a = b) else decide (a = b))) H
def rOrd (f : Int → Int → Bool) (fs : List Nat → List Nat → Bool) : R2 := fun x y H Q => rI0 (fun i j => .bl (f i j)) x y H Q ∨ ∃ i j, x = .str i ∧ y = .str j ∧ Q (.bl (fs i.cps.toList j.cps.toList)) H
def rInA (K : PySem.W.Frag) (neg : Bool) : R2 := fun x y H Q => (∃ i j, x = .str i ∧ y = .str j ∧ Q (.bl (if neg then !inSign i j else inSign i j)) H) ∨ rIn K neg x y H Q ∨
  ∃ d ds, Dp K H x d ∧ Dp K H y (.list ds) ∧ SeqAt.shaped d = true ∧ SeqAt.shaped (.list ds) = true ∧ Q (.bl (if neg then !(ds.any fun z => PyData.eqv z d) else ds.any fun z => PyData.eqv z d)) H
/-- two lists of different lengths -/
def rLens (K : PySem.W.Frag) (neg : Bool) : R2 := fun x y H Q => ∃ (a b : Addr) (xs ys : List V), x = .ref a ∧ y = .ref b ∧ SqL K H a xs ∧ SqL K H b ys ∧ xs.length ≠ ys.length ∧ Q (.bl neg) H
def rCmp (K : PySem.W.Frag) (o : CmpOp) : R2 := match o with
  | .Eq => fun x y H Q => rEqD K x y H Q ∨ rLens K false x y H Q
  | .NotEq => fun x y H Q => rNeD K x y H Q ∨ rLens K true x y H Q
  | .Is => rIsNon false
  | .IsNot => rIsNon true
  | .Lt => rOrd (fun i j => decide (i < j)) (fun x y => decide (x < y))
  | .LtE => rOrd (fun i j => decide (i ≤ j)) (fun x y => !decide (y < x))
  | .Gt => rOrd (fun i j => decide (j < i)) (fun x y => decide (y < x))
  | .GtE => rOrd (fun i j => decide (j ≤ i)) (fun x y => !decide (x < y))
  | .In => rInA K false
  | .NotIn => rInA K true
theorem op_in_sign1 {X : Cx} : OpR X (compareOp .In) (fun x y H Q => ∃ i j, x = .str i ∧ y = .str j ∧ Q (.bl (inSign i j)) H) := by
  intro pins s σ H x y v u Q I rx ry h
  obtain ⟨i, j, rfl, rfl, q⟩ := h
  unfold inSign at q
  split at q
  · rename_i c e
    have e1 : i = ⟨#[c]⟩ := by
      cases i with
      | mk a => exact congrArg Str.mk (by rw [← e] <;> simp)
    subst e1
    exact op_in_sign pins s σ H _ _ v u Q I rx ry ⟨c, j, rfl, rfl, q⟩
  · exact op_in_str pins s σ H _ _ v u Q I rx ry ⟨i, j, rfl, rfl, q⟩
theorem op_notIn_sign1 {X : Cx} : OpR X (compareOp .NotIn) (fun x y H Q => ∃ i j, x = .str i ∧ y = .str j ∧ Q (.bl (!inSign i j)) H) := by
  intro pins s σ H x y v u Q I rx ry h
  obtain ⟨i, j, rfl, rfl, q⟩ := h
  unfold inSign at q
  split at q
  · rename_i c e
    have e1 : i = ⟨#[c]⟩ := by
      cases i with
      | mk a => exact congrArg Str.mk (by rw [← e] <;> simp)
    subst e1
    exact op_notIn_sign pins s σ H _ _ v u Q I rx ry ⟨c, j, rfl, rfl, q⟩
  · exact op_notIn_str pins s σ H _ _ v u Q I rx ry ⟨i, j, rfl, rfl, q⟩
theorem op_eqLen {X : Cx} (hu : X.A.units < cLine) : OpR X (compareOp .Eq) (rLens X.K false) := by
  intro pins s σ H x y v u Q I rx ry h
  obtain ⟨a, b, xs, ys, rfl, rfl, h1, h2, hne, q⟩ := h
  cases rx
  cases ry
  obtain ⟨its, r1, ⟨o1, n1, g1, c1, _, d1⟩, _⟩ := I.list h1
  obtain ⟨jts, r2, ⟨o2, n2, g2, c2, _, d2⟩, _⟩ := I.list h2
  have l1 := r1.length
  have l2 := r2.length
  refine SeqAt.eq_list_lengthsAt (items := its.toArray) (items2 := jts.toArray) ⟨o1, g1, c1, n1, d1⟩ ⟨o2, g2, c2, n2, d2⟩ ?_ hu ⟨.bl false, H, I, rfl, q⟩
  simp only [List.size_toArray, bne_iff_ne, ne_eq]
  omega
theorem op_neLen {X : Cx} (hu : X.A.units < cLine) : OpR X (compareOp .NotEq) (rLens X.K true) := by
  intro pins s σ H x y v u Q I rx ry h
  obtain ⟨a, b, xs, ys, rfl, rfl, h1, h2, hne, q⟩ := h
  cases rx
  cases ry
  obtain ⟨its, r1, ⟨o1, n1, g1, c1, _, d1⟩, _⟩ := I.list h1
  obtain ⟨jts, r2, ⟨o2, n2, g2, c2, _, d2⟩, _⟩ := I.list h2
  have l1 := r1.length
  have l2 := r2.length
  refine SeqAt.RcNeAt.lists_lengths (l := a) (b := b) (items := its.toArray) (items2 := jts.toArray) ⟨o1, g1, c1, n1, d1⟩ ⟨o2, g2, c2, n2, d2⟩ ?_ hu _ _ _ _ ⟨.bl true, H, I, rfl, q⟩
  simp only [List.size_toArray, bne_iff_ne, ne_eq]
  omega
theorem op_cmp {X : Cx} (hu : X.A.units + 65 < cLine) (o : CmpOp) : OpR X (compareOp o) (rCmp X.K o) := by
  have hu' : X.A.units + 64 < cLine := by omega
  cases o with
  | Eq => exact (op_eqD hu').or (op_eqLen (by omega))
  | NotEq => exact (op_neD hu').or (op_neLen (by omega))
  | Is => exact op_isN.or op_is_bl
  | IsNot => exact op_notN.or op_isnot_bl
  | Lt => exact op_lt.or op_lt_str
  | LtE => exact op_le.or op_le_str
  | Gt => exact op_gt.or op_gt_str
  | GtE => exact op_ge.or op_ge_str
  | In => exact op_in_sign1.or (op_in_seq.or (op_inD hu))
  | NotIn => exact op_notIn_sign1.or (op_notIn_seq.or (op_notInD hu))
section
variable {g : G} {w1 w2 : W} {cs : Cells} {ra : Ra} {H : Hp} {Q : VK} {E : XK} {v1 v2 : V}
theorem wEq_ok (R : Rel g ra cs H) (r1 : RepW g (frz H ra) ra w1 v1) (r2 : RepW g (frz H ra) ra w2 v2) (h : PostR g (rpW g ra) (wEq false w1 w2 cs) ra H Q E) : rEqD g.K v1 v2 H Q ∨ rLens g.K false v1 v2 H Q := by
  unfold wEq at h
  split at h
  · rename_i p q e1 e2
    split at h
    · rename_i c
      exact .inl ⟨p, q, wPy_ok R r1 e1, wPy_ok R r2 e2, c.1, c.2, back R (.bl _) h⟩
    · exact h.elim
  · split at h
    · rename_i xs ys e1 e2
      split at h
      · exact h.elim
      · rename_i hn
        obtain ⟨a, us, rfl, h1, q1⟩ := dl_ok R r1 e1
        obtain ⟨b, ts, rfl, h2, q2⟩ := dl_ok R r2 e2
        exact .inr ⟨a, b, us, ts, rfl, rfl, h1, h2, by rw [← q1.length, ← q2.length]; exact hn, back R (.bl _) h⟩
    · exact h.elim
theorem wNe_ok (R : Rel g ra cs H) (r1 : RepW g (frz H ra) ra w1 v1) (r2 : RepW g (frz H ra) ra w2 v2) (h : PostR g (rpW g ra) (wEq true w1 w2 cs) ra H Q E) : rNeD g.K v1 v2 H Q ∨ rLens g.K true v1 v2 H Q := by
  unfold wEq at h
  split at h
  · rename_i p q e1 e2
    split at h
    · rename_i c
      exact .inl ⟨p, q, wPy_ok R r1 e1, wPy_ok R r2 e2, c.1, c.2, back R (.bl _) h⟩
    · exact h.elim
  · split at h
    · rename_i xs ys e1 e2
      split at h
      · exact h.elim
      · rename_i hn
        obtain ⟨a, us, rfl, h1, q1⟩ := dl_ok R r1 e1
        obtain ⟨b, ts, rfl, h2, q2⟩ := dl_ok R r2 e2
        exact .inr ⟨a, b, us, ts, rfl, rfl, h1, h2, by rw [← q1.length, ← q2.length]; exact hn, back R (.bl _) h⟩
    · exact h.elim
theorem isNon_ok {F : Hp} {w : W} {v : V} (r : RepW g F ra w v) : isNon w = decide (v = .non) := by
  cases w with
  | d d => cases r <;> simp [isNon]
  | loc n => obtain ⟨a, rfl, _⟩ := r; simp [isNon]
theorem wIs_ok {neg : Bool} (R : Rel g ra cs H) (r1 : RepW g (frz H ra) ra w1 v1) (r2 : RepW g (frz H ra) ra w2 v2) (h : PostR g (rpW g ra) (wIs neg w1 w2 cs) ra H Q E) : rIsNon neg v1 v2 H Q := by
  unfold wIs at h
  split at h
  · cases r1
    cases r2
    exact .inr ⟨_, _, rfl, rfl, back R (.bl _) h⟩
  · cases r2
    refine .inl ⟨rfl, ?_⟩
    rw [isNon_ok r1] at h
    exact back R (.bl _) h
  · exact h.elim
theorem wOrd_ok {f : Int → Int → Bool} {fs : List Nat → List Nat → Bool} (R : Rel g ra cs H) (r1 : RepW g (frz H ra) ra w1 v1) (r2 : RepW g (frz H ra) ra w2 v2) (h : PostR g (rpW g ra) (wOrd f fs w1 w2 cs) ra H Q E) : rOrd f fs v1 v2 H Q := by
  unfold wOrd at h
  split at h
  · cases r1
    cases r2
    exact .inl ⟨_, _, rfl, rfl, back R (.bl _) h⟩
  · cases r1
    cases r2
    exact .inr ⟨_, _, rfl, rfl, back R (.bl _) h⟩
  · exact h.elim
theorem flatV_ok {F : Hp} {d : D} {v v' : V} (r : Rep g F d v) (e : flatV? d = some v') : v = v' ∧ flatV v = true := by
  cases r <;> simp only [flatV?, Option.some.injEq, reduceCtorEq] at e <;> subst e <;> exact ⟨rfl, rfl⟩
theorem flatL_ok {F : Hp} : ∀ {ds : List D} {vs vs' : List V}, RepL g F ds vs → flatL? ds = some vs' → vs = vs' ∧ vs.all flatV = true
  | [], _, _, .nil, e => by simp only [flatL?, Option.some.injEq] at e; subst e; exact ⟨rfl, rfl⟩
  | d :: ds, _, _, .cons r t, e => by
    simp only [flatL?] at e
    split at e
    · rename_i a b h1 h2
      cases e
      obtain ⟨rfl, q1⟩ := flatV_ok r h1
      obtain ⟨rfl, q2⟩ := flatL_ok t h2
      exact ⟨rfl, by rw [List.all_cons, q1, q2]; rfl⟩
    · cases e
theorem wIn_ok {neg : Bool} (R : Rel g ra cs H) (r1 : RepW g (frz H ra) ra w1 v1) (r2 : RepW g (frz H ra) ra w2 v2) (h : PostR g (rpW g ra) (wIn neg w1 w2 cs) ra H Q E) : rInA g.K neg v1 v2 H Q := by
  unfold wIn at h
  split at h
  · cases r1
    cases r2
    exact .inl ⟨_, _, rfl, rfl, back R (.bl _) h⟩
  · split at h
    · rename_i v vs e1 e2
      obtain ⟨a, us, rfl, h1, q1⟩ := tup_ok r2
      obtain ⟨rfl, f1⟩ := flatV_ok (show Rep g (frz H ra) _ v1 from r1) e1
      obtain ⟨rfl, f2⟩ := flatL_ok q1 e2
      exact .inr (.inl ⟨a, _, rfl, .inr h1, f1, f2, back R (.bl _) h⟩)
    · exact h.elim
  · split at h
    · rename_i p ys e1 e2
      split at h
      · rename_i qs e3
        split at h
        · rename_i c
          obtain ⟨a, us, rfl, h1, q1⟩ := dl_ok R r2 e2
          exact .inr (.inr ⟨p, qs, wPy_ok R r1 e1, .lst h1 (toPyL_ok (frz_same H ra) q1 e3), c.1, c.2, back R (.bl _) h⟩)
        · exact h.elim
      · exact h.elim
    · exact h.elim
theorem wCmp_ok {o : CmpOp} (R : Rel g ra cs H) (r1 : RepW g (frz H ra) ra w1 v1) (r2 : RepW g (frz H ra) ra w2 v2) (h : PostR g (rpW g ra) (wCmp o w1 w2 cs) ra H Q E) : rCmp g.K o v1 v2 H Q := by
  cases o with
  | Eq => exact wEq_ok R r1 r2 h
  | NotEq => exact wNe_ok R r1 r2 h
  | Is => exact wIs_ok R r1 r2 h
  | IsNot => exact wIs_ok R r1 r2 h
  | Lt => simp only [wCmp] at h; exact wOrd_ok R r1 r2 h
  | LtE => simp only [wCmp] at h; exact wOrd_ok R r1 r2 h
  | Gt => simp only [wCmp] at h; exact wOrd_ok R r1 r2 h
  | GtE => simp only [wCmp] at h; exact wOrd_ok R r1 r2 h
  | In => exact wIn_ok R r1 r2 h
  | NotIn => exact wIn_ok R r1 r2 h
end
end BV

namespace BV
open PySem L2

/-! ### subscripts -/
def wIx (w1 w2 : W) (cs : Cells) : R W := match w1, w2 with
  | .d (.str z), .d (.int i) => if z.length ≤ lit then match atI z.cps.toList i with
      | some c => .ok (.d (.str ⟨#[c]⟩)) cs
      | none => .bad
    else .bad
  | .d (.tup xs), .d (.int i) => match atI xs i with
    | some d => .ok (.d d) cs
    | none => .bad
  | a, .d (.int i) => match dl cs a with
    | some xs => match atI xs i with
      | some d => .ok (.d d) cs
      | none => .bad
    | none => .bad
  | _, _ => .bad
theorem RepL.atI {g : G} {F : Hp} {ds : List D} {vs : List V} {i : Int} {d : D} (r : RepL g F ds vs) (h : atI ds i = some d) : ∃ v, L2.atI vs i = some v ∧ Rep g F d v := by
  unfold L2.atI at h ⊢
  rw [← r.length]
  cases e : ixN ds.length i with
  | none => rw [e] at h; cases h
  | some j =>
    rw [e] at h
    obtain ⟨v, h1, h2⟩ := r.get (show ds[j]? = some d from h)
    exact ⟨v, h1, h2⟩
section
variable {g : G} {w1 w2 : W} {cs : Cells} {ra : Ra} {H : Hp} {Q : VK} {E : XK} {v1 v2 : V}
theorem wIx_ok (R : Rel g ra cs H) (r1 : RepW g (frz H ra) ra w1 v1) (r2 : RepW g (frz H ra) ra w2 v2) (h : PostR g (rpW g ra) (wIx w1 w2 cs) ra H Q E) : rIx g.K v1 v2 H Q := by
  unfold wIx at h
  split at h
  · cases r1
    cases r2
    split at h
    · rename_i hl
      split at h
      · rename_i c e
        exact .inr (.inr ⟨_, _, c, rfl, rfl, by rw [line_lit]; exact hl, e, back R (.str _) h⟩)
      · exact h.elim
    · exact h.elim
  · cases r2
    split at h
    · rename_i d e
      obtain ⟨a, vs, rfl, h1, q1⟩ := tup_ok r1
      obtain ⟨v, e1, q2⟩ := q1.atI e
      exact .inr (.inl ⟨a, vs, _, v, rfl, rfl, h1, e1, back R q2 h⟩)
    · exact h.elim
  · cases r2
    split at h
    · rename_i xs e0
      split at h
      · rename_i d e
        obtain ⟨a, vs, rfl, h1, q1⟩ := dl_ok R r1 e0
        obtain ⟨v, e1, q2⟩ := q1.atI e
        exact .inl ⟨a, vs, _, v, rfl, rfl, h1, e1, back R q2 h⟩
      · exact h.elim
    · exact h.elim
  · exact h.elim
end

/-! ### slices -/
def cutD (xs : List D) (lo hi : Option Int) : List D := (xs.drop (HT.sIx xs.length 0 lo)).take (HT.sIx xs.length xs.length hi - HT.sIx xs.length 0 lo)
theorem RepL.cut {g : G} {F : Hp} {ds : List D} {vs : List V} (r : RepL g F ds vs) (lo hi : Option Int) : RepL g F (cutD ds lo hi) (cutV vs lo hi) := by
  unfold cutD cutV
  rw [← r.length]
  exact (r.drop _).take _
def wSl (w1 : W) (lo hi : Option Int) (cs : Cells) : R W := match w1 with
  | .d (.str z) => if z.length ≤ lit then .ok (.d (.str (cutS z lo hi))) cs else .bad
  | .d (.tup xs) => .ok (.d (.tup (cutD xs lo hi))) cs
  | a => match dl cs a with
    | some xs => .ok (.d (.lst (cutD xs lo hi))) cs
    | none => .bad
def rSl (K : PySem.W.Frag) : V → Option Int → Option Int → Hp → VK → Prop := fun x lo hi H Q => rSlS x lo hi H Q ∨ rSlA K x lo hi H Q ∨ rSlL K x lo hi H Q
theorem sl_all {X : Cx} : SlR X (rSl X.K) := sl_str.or (sl_tupA.or sl_list)
theorem cut_whole {ds : List D} {lo hi : Option Int} (h : HT.sIx ds.length 0 lo = 0 ∧ HT.sIx ds.length ds.length hi = ds.length) : cutD ds lo hi = ds := by
  unfold cutD
  rw [h.1, h.2]
  simp
section
variable {g : G} {w1 : W} {lo hi : Option Int} {cs : Cells} {ra : Ra} {H : Hp} {Q : VK} {E : XK} {v1 : V}
theorem wSl_ok (R : Rel g ra cs H) (r1 : RepW g (frz H ra) ra w1 v1) (h : PostR g (rpW g ra) (wSl w1 lo hi cs) ra H Q E) : rSl g.K v1 lo hi H Q := by
  unfold wSl at h
  split at h
  · cases r1
    split at h
    · rename_i hl
      exact .inl ⟨_, rfl, by rw [line_lit]; exact hl, back R (.str _) h⟩
    · exact h.elim
  · obtain ⟨a, vs, rfl, h1, q1⟩ := tup_ok r1
    refine .inr (.inl ⟨a, vs, rfl, h1, fun c => ?_, fun c => new_tup R (q1.cut lo hi) h⟩)
    rw [← q1.length] at c
    rw [cut_whole c] at h
    exact back R r1 h
  · split at h
    · rename_i xs e0
      obtain ⟨a, vs, rfl, h1, q1⟩ := dl_ok R r1 e0
      exact .inr (.inr ⟨a, vs, rfl, h1, new_lst R (q1.cut lo hi) h⟩)
    · exact h.elim
end

/-! ### built-in functions -/
inductive Bi where
  | len | max | min | str | int | tuple | list | sum | all | any | abs
  deriving DecidableEq
def Bi.name : Bi → Str
  | .len => "len" | .max => "max" | .min => "min" | .str => "str" | .int => "int" | .tuple => "tuple" | .list => "list" | .sum => "sum" | .all => "all" | .any => "any" | .abs => "abs"
def Bi.val : Bi → Value
  | .len => .builtin "len" | .max => .builtin "max" | .min => .builtin "min" | .str => .type "str" | .int => .type "int" | .tuple => .type "tuple" | .list => .type "list" | .sum => .builtin "sum" | .all => .builtin "all" | .any => .builtin "any" | .abs => .builtin "abs"
theorem Bi.boot (b : Bi) : bootBuiltins b.name = some b.val := by cases b <;> decide +kernel
def intsOf : List D → Option (List Int)
  | [] => some []
  | .int i :: r => (intsOf r).map (i :: ·)
  | _ :: _ => none
def blsOf : List D → Option (List Bool)
  | [] => some []
  | .bl i :: r => (blsOf r).map (i :: ·)
  | _ :: _ => none
def strsOf : List D → Option (List Str)
  | [] => some []
  | .str i :: r => (strsOf r).map (i :: ·)
  | _ :: _ => none
theorem intsOf_ok {g : G} {F : Hp} : ∀ {ds : List D} {vs : List V} {ns : List Int}, RepL g F ds vs → intsOf ds = some ns → vs = ns.map V.int
  | [], _, _, .nil, h => by simp only [intsOf, Option.some.injEq] at h; subst h; rfl
  | d :: ds, _, _, .cons r t, h => by
    cases r <;> simp only [intsOf, Option.map_eq_some_iff, reduceCtorEq] at h
    obtain ⟨ms, h1, rfl⟩ := h
    rw [intsOf_ok t h1]
    rfl
theorem blsOf_ok {g : G} {F : Hp} : ∀ {ds : List D} {vs : List V} {ns : List Bool}, RepL g F ds vs → blsOf ds = some ns → vs = ns.map V.bl
  | [], _, _, .nil, h => by simp only [blsOf, Option.some.injEq] at h; subst h; rfl
  | d :: ds, _, _, .cons r t, h => by
    cases r <;> simp only [blsOf, Option.map_eq_some_iff, reduceCtorEq] at h
    obtain ⟨ms, h1, rfl⟩ := h
    rw [blsOf_ok t h1]
    rfl
theorem strsOf_ok {g : G} {F : Hp} : ∀ {ds : List D} {vs : List V} {ns : List Str}, RepL g F ds vs → strsOf ds = some ns → vs = ns.map V.str
  | [], _, _, .nil, h => by simp only [strsOf, Option.some.injEq] at h; subst h; rfl
  | d :: ds, _, _, .cons r t, h => by
    cases r <;> simp only [strsOf, Option.map_eq_some_iff, reduceCtorEq] at h
    obtain ⟨ms, h1, rfl⟩ := h
    rw [strsOf_ok t h1]
    rfl
/-- the greatest of several ints, by the first -/
def maxI : Int → List Int → Int
  | m, [] => m
  | m, x :: r => maxI (if x > m then x else m) r
def wBi (b : Bi) (ws : List W) (cs : Cells) : R W := match b, ws with
  | .len, [.d (.str x)] => if x.length ≤ lit then .ok (.d (.int x.length)) cs else .bad
  | .len, [.d (.tup xs)] => .ok (.d (.int xs.length)) cs
  | .len, [w] => match dl cs w with
    | some xs => .ok (.d (.int xs.length)) cs
    | none => .bad
  | .max, [.d (.int i), .d (.int j)] => .ok (.d (.int (if j > i then j else i))) cs
  | .max, [.d (.int i), .d (.int j), .d (.int k)] => .ok (.d (.int (if j > i then (if k > j then k else j) else if k > i then k else i))) cs
  | .max, [.d (.int i), .d (.int j), .d (.int k), .d (.int l)] => .ok (.d (.int (maxI i [j, k, l]))) cs
  | .min, [.d (.int i), .d (.int j)] => .ok (.d (.int (if j < i then j else i))) cs
  | .str, [.d (.int i)] => if i.natAbs.log2 < 1920 then .ok (.d (.str (toString i))) cs else .bad
  | .int, [.d (.int i)] => .ok (.d (.int i)) cs
  | .int, [.d (.str x)] => if x.length ≤ 640 then match PySem.intText? x with
      | some n => .ok (.d (.int n)) cs
      | none => .bad
    else .bad
  | .tuple, [.d (.tup xs)] => .ok (.d (.tup xs)) cs
  | .tuple, [w] => match dl cs w with
    | some xs => .ok (.d (.tup xs)) cs
    | none => .bad
  | .list, [.d (.tup xs)] => .ok (.d (.lst xs)) cs
  | .list, [w] => match dl cs w with
    | some xs => .ok (.d (.lst xs)) cs
    | none => .bad
  | .sum, [w] => match (dl cs w).bind intsOf with
    | some ns => .ok (.d (.int ns.sum)) cs
    | none => .bad
  | .all, [w] => match (dl cs w).bind blsOf with
    | some ns => .ok (.d (.bl (ns.all id))) cs
    | none => .bad
  | .any, [w] => match (dl cs w).bind blsOf with
    | some ns => .ok (.d (.bl (ns.any id))) cs
    | none => .bad
  | .abs, [.d (.int i)] => .ok (.d (.int (if i < 0 then -i else i))) cs
  | _, _ => .bad
theorem vals3 {x y z : V} {us : List Value} (r : Vals [x, y, z] us) : ∃ u v w', us = [u, v, w'] ∧ RelV x u ∧ RelV y v ∧ RelV z w' := by
  cases r with
  | cons r1 r2 =>
    obtain ⟨v, w', rfl, h1, h2⟩ := vals2 r2
    exact ⟨_, v, w', rfl, r1, h1, h2⟩
theorem args_max4 (a b c d : Value) : argsOk "max" ⟨[a, b, c, d], []⟩ := by unfold argsOk; kernel_rfl
theorem call_max_four {prog : Program} {w : World} {A : Around} {E : Value → Shared → Prop} {s : Shared} {i j k l : Int} {t1 t2 t3 t4 : Tok} {Q : Value → Shared → Prop} (hh : A.handled = none)
    (h : ∀ h' tk t, (∀ d o, s.heap.get? d = some o → h'.get? d = some o) → Q (.int (maxI i [j, k, l]) t) { s with heap := h', toks := tk }) :
    wpAny (model prog w) A (call (.builtin "max") [.int i t1, .int j t2, .int k t3, .int l t4]) Q E s := by
  obtain ⟨ns, hns⟩ : ∃ ns : Array (Int × Tok), ns = #[(i, t1), (j, t2), (k, t3), (l, t4)] := ⟨_, rfl⟩
  have hit : intItems ns = #[.int i t1, .int j t2, .int k t3, .int l t4] := by rw [hns]; simp [intItems]
  have hT : (s.heap.push { cls := .type "tuple", data := .seq #[.int i t1, .int j t2, .int k t3, .int l t4] }).IsTuple s.heap.objs.size (intItems ns) := ⟨_, Heap.get?_push_size _ rfl, rfl, 0, by rw [hit]⟩
  refine call_function_tree F.kind_max F.plain_max F.entry_max (args_max4 _ _ _ _) ?_
  show wpAny _ A.in1 (Builtin.Builtins.bindParams "max" ["key", "default"] 0 ⟨[], []⟩ >>= _) _ _ s
  refine wpAny_bind (wpAny_of_eq (show Builtin.Builtins.bindParams "max" ["key", "default"] 0 ⟨[], []⟩ = pure [none, none] from rfl) ?_)
  show wpAny _ A.in1 (newTuple [.int i t1, .int j t2, .int k t3, .int l t4] >>= _) _ _ s
  refine wpAny_bind (wpAny_newObj_type ?_)
  have hsz : (s.heap.push { cls := .type "tuple", data := .seq #[.int i t1, .int j t2, .int k t3, .int l t4] }).objs.size = s.heap.objs.size + 1 := Heap.size_push ..
  refine wpAny_bind (wpAny_pyIter_tuple hT ?_)
  have W := Walks.tuple (prog := prog) (w := w) (A := A.in1) hh (s.heap.push { cls := .type "tuple", data := .seq #[.int i t1, .int j t2, .int k t3, .int l t4] }).objs.size s.heap.objs.size (by rw [hsz]; exact Nat.ne_of_lt (Nat.lt_succ_self _)) (intItems ns)
  refine wpAny_bind (wpAny_newObj_type ?_)
  have hname : (toString "max" ++ toString ".loop" : String) = "max.loop" := by decide
  rw [hname]
  refine wpAny_pure ⟨plainId_quiet F.plain_max_loop _, codeAny_max_loop_first W (fun i j => decide (numAt ns i > numAt ns j)) (CmpOf.ints_gt (numAt ns) (fun _ _ => intItems_at)) _ ?_ (by rw [hit]; simp) (W.frame _ _ _ ⟨⟨_, Heap.get?_push_size _ rfl, rfl, rfl⟩, hT.push _⟩ fun b _ o e => Heap.get?_push_of_some _ e) (Heap.get?_push_size _ rfl) fun v h' tk hP hk => ?_⟩
  · intro hm
    rcases List.mem_cons.mp hm with e | hm
    · rw [Heap.size_push] at e
      exact absurd e (Nat.succ_ne_self _)
    · have e := List.mem_singleton.mp hm
      rw [Heap.size_push, hsz] at e
      exact absurd e (Nat.ne_of_gt (Nat.lt_succ_of_lt (Nat.lt_succ_self _)))
  · have hold : ∀ d o, s.heap.get? d = some o → h'.get? d = some o := fun d o e => by
      have hlt := Heap.lt_size e
      refine hk d o (fun hm => ?_) ?_ (Heap.get?_push_of_some _ (Heap.get?_push_of_some _ (Heap.get?_push_of_some _ e)))
      · have := List.mem_singleton.mp hm
        rw [hsz] at this
        rw [this] at hlt
        exact absurd hlt (Nat.not_lt.mpr (Nat.le_succ _))
      · intro e2
        rw [Heap.size_push, hsz] at e2
        rw [e2] at hlt
        exact absurd hlt (Nat.not_lt.mpr (Nat.le_succ_of_le (Nat.le_succ _)))
    have hP' : (intItems ns)[argBest (fun i j => decide (numAt ns i > numAt ns j)) 3]? = some v := by
      have hsz2 : (intItems ns).size - 1 = 3 := by rw [hit]; simp
      rw [← hsz2]; exact hP
    obtain ⟨t, rfl⟩ := intItems_at hP'
    have e : numAt ns (argBest (fun i j => decide (numAt ns i > numAt ns j)) 3) = maxI i [j, k, l] := by
      have n0 : numAt ns 0 = i := by rw [hns]; rfl
      have n1 : numAt ns 1 = j := by rw [hns]; rfl
      have n2 : numAt ns 2 = k := by rw [hns]; rfl
      have n3 : numAt ns 3 = l := by rw [hns]; rfl
      have step : ∀ m, numAt ns (argBest (fun i j => decide (numAt ns i > numAt ns j)) (m + 1)) = if numAt ns (m + 1) > numAt ns (argBest (fun i j => decide (numAt ns i > numAt ns j)) m) then numAt ns (m + 1) else numAt ns (argBest (fun i j => decide (numAt ns i > numAt ns j)) m) := fun m => by
        rw [argBest]
        by_cases hc : numAt ns (m + 1) > numAt ns (argBest (fun i j => decide (numAt ns i > numAt ns j)) m)
        · rw [if_pos (decide_eq_true hc), if_pos hc]
        · rw [if_neg (by simpa using hc), if_neg hc]
      have s0 : numAt ns (argBest (fun i j => decide (numAt ns i > numAt ns j)) 0) = i := by rw [argBest, n0]
      have s1 := step 0
      rw [s0, n1] at s1
      have s2 := step 1
      rw [s1, n2] at s2
      have s3 := step 2
      rw [s2, n3] at s3
      rw [s3]
      rfl
    rw [e]
    exact h h' tk t hold
theorem vals4 {x y z z' : V} {us : List Value} (r : Vals [x, y, z, z'] us) : ∃ u v w' w2, us = [u, v, w', w2] ∧ RelV x u ∧ RelV y v ∧ RelV z w' ∧ RelV z' w2 := by
  cases r with
  | cons r1 r2 =>
    cases r2 with
    | cons r2 r3 =>
      obtain ⟨v, w', rfl, h1, h2⟩ := vals2 r3
      exact ⟨_, _, v, w', rfl, r1, r2, h1, h2⟩
def rMaxN : List V → Hp → VK → Prop := fun vs H Q => (∃ i j k l, vs = [.int i, .int j, .int k, .int l] ∧ Q (.int (maxI i [j, k, l])) H) ∨ (∃ i j, vs = [.int i, .int j] ∧ Q (.int (if j > i then j else i)) H) ∨ ∃ i j k, vs = [.int i, .int j, .int k] ∧ Q (.int (if j > i then (if k > j then k else j) else if k > i then k else i)) H
theorem call_maxN {X : Cx} (hc : X.calm = true) : CallR X (.builtin "max") rMaxN := by
  refine CallR.or (r := fun vs H Q => ∃ i j k l, vs = [.int i, .int j, .int k, .int l] ∧ Q (.int (maxI i [j, k, l])) H) ?_ (CallR.or (call_max2 hc) ?_)
  · intro pins s σ H xs us Q I r h
    obtain ⟨i, j, k, l, rfl, q⟩ := h
    obtain ⟨u, v, w', w2, rfl, ⟨t, rfl⟩, ⟨t', rfl⟩, ⟨t2, rfl⟩, ⟨t3, rfl⟩⟩ := vals4 r
    exact call_max_four (I.ok.hd hc) fun h' tk t kk => ⟨.int _, H, I.kept kk, ⟨_, rfl⟩, q⟩
  intro pins s σ H xs us Q I r h
  obtain ⟨i, j, k, rfl, q⟩ := h
  obtain ⟨u, v, w', rfl, ⟨t, rfl⟩, ⟨t', rfl⟩, ⟨t2, rfl⟩⟩ := vals3 r
  refine max_three_ints (I.ok.hd hc) fun h' tk kk => ⟨_, H, I.kept kk, ?_, q⟩
  by_cases hj : j > i
  · rw [if_pos hj, if_pos hj]
    by_cases hk : k > j
    · rw [if_pos hk, if_pos hk]; exact ⟨_, rfl⟩
    · rw [if_neg hk, if_neg hk]; exact ⟨_, rfl⟩
  · rw [if_neg hj, if_neg hj]
    by_cases hk : k > i
    · rw [if_pos hk, if_pos hk]; exact ⟨_, rfl⟩
    · rw [if_neg hk, if_neg hk]; exact ⟨_, rfl⟩
def rIntN : List V → Hp → VK → Prop := fun xs H Q => ((∃ i, xs = [.int i] ∧ Q (.int i) H) ∨ ∃ k, xs = [.bl k] ∧ Q (.int (if k then 1 else 0)) H) ∨ ∃ a n, xs = [.str a] ∧ PySem.intText? a = some n ∧ a.length ≤ 640 ∧ Q (.int n) H
def rBi (K : PySem.W.Frag) : Bi → List V → Hp → VK → Prop
  | .len => fun xs H Q => ∃ x n, xs = [x] ∧ LenV K x H n ∧ Q (.int n) H
  | .max => rMaxN
  | .min => fun xs H Q => ∃ i j, xs = [.int i, .int j] ∧ Q (.int (if j < i then j else i)) H
  | .str => fun xs H Q => ∃ i, xs = [.int i] ∧ i.natAbs.log2 < 1920 ∧ Q (.str (toString i)) H
  | .int => rIntN
  | .tuple => fun xs H Q => ∃ p ys, xs = [.ref p] ∧ ((SqL K H p ys ∧ ∀ l, H l = none → Q (.ref l) (upd H l (.tup ys))) ∨ (SqT K H p ys ∧ Q (.ref p) H))
  | .list => fun xs H Q => ∃ p ys, xs = [.ref p] ∧ (SqL K H p ys ∨ SqT K H p ys) ∧ ∀ l, H l = none → Q (.ref l) (upd H l (.lst ys))
  | .sum => rSum K
  | .all => rAll K
  | .any => rAny K
  | .abs => fun xs H Q => ∃ i, xs = [.int i] ∧ Q (.int (if i < 0 then -i else i)) H
theorem bi_rule {X : Cx} (hc : X.calm = true) (b : Bi) : CallR X b.val (rBi X.K b) := by
  cases b with
  | len => exact call_len
  | max => exact call_maxN hc
  | min => exact call_min2 hc
  | str => exact call_str_int
  | int => exact call_int1.or call_int_str
  | tuple => exact call_tuple_of
  | list => exact call_list_of
  | sum => exact cr_sum hc
  | all => exact cr_all hc
  | any => exact cr_any hc
  | abs => exact call_abs
section
variable {g : G} {cs : Cells} {ra : Ra} {H : Hp} {Q : VK} {E : XK}
theorem ws1 {F : Hp} {w : W} {vs : List V} (r : RepWs g F ra [w] vs) : ∃ v, vs = [v] ∧ RepW g F ra w v := by
  cases r with
  | cons h t => cases t; exact ⟨_, rfl, h⟩
theorem ws2 {F : Hp} {w w2 : W} {vs : List V} (r : RepWs g F ra [w, w2] vs) : ∃ v v2, vs = [v, v2] ∧ RepW g F ra w v ∧ RepW g F ra w2 v2 := by
  cases r with
  | cons h t =>
    obtain ⟨v2, rfl, h2⟩ := ws1 t
    exact ⟨_, _, rfl, h, h2⟩
theorem ws3 {F : Hp} {w w2 w3 : W} {vs : List V} (r : RepWs g F ra [w, w2, w3] vs) : ∃ v v2 v3, vs = [v, v2, v3] ∧ RepW g F ra w v ∧ RepW g F ra w2 v2 ∧ RepW g F ra w3 v3 := by
  cases r with
  | cons h t =>
    obtain ⟨v2, v3, rfl, h2, h3⟩ := ws2 t
    exact ⟨_, _, _, rfl, h, h2, h3⟩
theorem ws4 {F : Hp} {w w2 w3 w4 : W} {vs : List V} (r : RepWs g F ra [w, w2, w3, w4] vs) : ∃ v v2 v3 v4, vs = [v, v2, v3, v4] ∧ RepW g F ra w v ∧ RepW g F ra w2 v2 ∧ RepW g F ra w3 v3 ∧ RepW g F ra w4 v4 := by
  cases r with
  | cons h t =>
    obtain ⟨v2, v3, v4, rfl, h2, h3, h4⟩ := ws3 t
    exact ⟨_, _, _, _, rfl, h, h2, h3, h4⟩
theorem wBi_ok {b : Bi} {ws : List W} {vs : List V} (R : Rel g ra cs H) (r : RepWs g (frz H ra) ra ws vs) (h : PostR g (rpW g ra) (wBi b ws cs) ra H Q E) : rBi g.K b vs H Q := by
  unfold wBi at h
  split at h
  · obtain ⟨v, rfl, r1⟩ := ws1 r
    cases r1
    split at h
    · rename_i hl
      exact ⟨_, _, rfl, ⟨by rw [line_lit]; exact hl, rfl⟩, back R (.int _) h⟩
    · exact h.elim
  · obtain ⟨v, rfl, r1⟩ := ws1 r
    obtain ⟨a, us, rfl, h1, q1⟩ := tup_ok r1
    exact ⟨_, _, rfl, .inr ⟨us, h1, rfl⟩, back R (by rw [q1.length]; exact .int _) h⟩
  · obtain ⟨v, rfl, r1⟩ := ws1 r
    split at h
    · rename_i xs e
      obtain ⟨a, us, rfl, h1, q1⟩ := dl_ok R r1 e
      exact ⟨_, _, rfl, .inl ⟨us, h1, rfl⟩, back R (by rw [q1.length]; exact .int _) h⟩
    · exact h.elim
  · obtain ⟨v, v2, rfl, r1, r2⟩ := ws2 r
    cases r1
    cases r2
    exact .inr (.inl ⟨_, _, rfl, back R (.int _) h⟩)
  · obtain ⟨v, v2, v3, rfl, r1, r2, r3⟩ := ws3 r
    cases r1
    cases r2
    cases r3
    exact .inr (.inr ⟨_, _, _, rfl, back R (.int _) h⟩)
  · obtain ⟨v, v2, v3, v4, rfl, r1, r2, r3, r4⟩ := ws4 r
    cases r1
    cases r2
    cases r3
    cases r4
    exact .inl ⟨_, _, _, _, rfl, back R (.int _) h⟩
  · obtain ⟨v, v2, rfl, r1, r2⟩ := ws2 r
    cases r1
    cases r2
    exact ⟨_, _, rfl, back R (.int _) h⟩
  · obtain ⟨v, rfl, r1⟩ := ws1 r
    cases r1
    split at h
    · rename_i hl
      exact ⟨_, rfl, hl, back R (.str _) h⟩
    · exact h.elim
  · obtain ⟨v, rfl, r1⟩ := ws1 r
    cases r1
    exact .inl (.inl ⟨_, rfl, back R (.int _) h⟩)
  · obtain ⟨v, rfl, r1⟩ := ws1 r
    cases r1
    split at h
    · rename_i hl
      split at h
      · rename_i n e
        exact .inr ⟨_, _, rfl, e, hl, back R (.int _) h⟩
      · exact h.elim
    · exact h.elim
  · obtain ⟨v, rfl, r1⟩ := ws1 r
    obtain ⟨a, us, rfl, h1, q1⟩ := tup_ok r1
    exact ⟨_, us, rfl, .inr ⟨h1, back R r1 h⟩⟩
  · obtain ⟨v, rfl, r1⟩ := ws1 r
    split at h
    · rename_i xs e
      obtain ⟨a, us, rfl, h1, q1⟩ := dl_ok R r1 e
      exact ⟨_, us, rfl, .inl ⟨h1, new_tup R q1 h⟩⟩
    · exact h.elim
  · obtain ⟨v, rfl, r1⟩ := ws1 r
    obtain ⟨a, us, rfl, h1, q1⟩ := tup_ok r1
    exact ⟨_, us, rfl, .inr h1, new_lst R q1 h⟩
  · obtain ⟨v, rfl, r1⟩ := ws1 r
    split at h
    · rename_i xs e
      obtain ⟨a, us, rfl, h1, q1⟩ := dl_ok R r1 e
      exact ⟨_, us, rfl, .inl h1, new_lst R q1 h⟩
    · exact h.elim
  · obtain ⟨v, rfl, r1⟩ := ws1 r
    split at h
    · rename_i ns e
      obtain ⟨xs, e1, e2⟩ := Option.bind_eq_some_iff.mp e
      obtain ⟨a, us, rfl, h1, q1⟩ := dl_ok R r1 e1
      have e3 := intsOf_ok q1 e2
      subst e3
      exact ⟨a, ns, rfl, h1, back R (.int _) h⟩
    · exact h.elim
  · obtain ⟨v, rfl, r1⟩ := ws1 r
    split at h
    · rename_i ns e
      obtain ⟨xs, e1, e2⟩ := Option.bind_eq_some_iff.mp e
      obtain ⟨a, us, rfl, h1, q1⟩ := dl_ok R r1 e1
      have e3 := blsOf_ok q1 e2
      subst e3
      exact ⟨a, ns, rfl, h1, back R (.bl _) h⟩
    · exact h.elim
  · obtain ⟨v, rfl, r1⟩ := ws1 r
    split at h
    · rename_i ns e
      obtain ⟨xs, e1, e2⟩ := Option.bind_eq_some_iff.mp e
      obtain ⟨a, us, rfl, h1, q1⟩ := dl_ok R r1 e1
      have e3 := blsOf_ok q1 e2
      subst e3
      exact ⟨a, ns, rfl, h1, back R (.bl _) h⟩
    · exact h.elim
  · obtain ⟨v, rfl, r1⟩ := ws1 r
    cases r1
    exact ⟨_, rfl, back R (.int _) h⟩
  · exact h.elim
end

/-! ### built-in methods -/
inductive Bm where
  | append | extend | pop | popAt | join | partition | index | count
  deriving DecidableEq
def Bm.name : Bm → Str
  | .append => "append" | .extend => "extend" | .pop => "pop" | .popAt => "pop" | .join => "join" | .partition => "partition" | .index => "index" | .count => "count"
def Bm.ty : Bm → String
  | .append => "list" | .extend => "list" | .pop => "list" | .popAt => "list" | .join => "str" | .partition => "str" | .index => "list" | .count => "list"
def Bm.id : Bm → String
  | .append => "list.append" | .extend => "list.extend" | .pop => "list.pop" | .popAt => "list.pop" | .join => "str.join" | .partition => "str.partition" | .index => "list.index" | .count => "list.count"
theorem Bm.facts (m : Bm) : PlainAttrs m.ty ∧ Slot m.ty m.name m.id ∧ typeOf (.builtin m.id) = pure (.type "method_descriptor") := by
  cases m
  · exact ⟨PySem.F.plainAttrs_list, PySem.F.slot_list_append, PySem.F.type_list_append⟩
  · exact ⟨PySem.F.plainAttrs_list, PySem.F.slot_list_extend, PySem.F.type_list_extend⟩
  · exact ⟨PySem.F.plainAttrs_list, PySem.F.slot_list_pop, PySem.F.type_list_pop⟩
  · exact ⟨PySem.F.plainAttrs_list, PySem.F.slot_list_pop, PySem.F.type_list_pop⟩
  · exact ⟨PySem.F.plainAttrs_str, PySem.F.slot_str_join, PySem.F.type_str_join⟩
  · exact ⟨PySem.F.plainAttrs_str, PySem.F.slot_str_partition, PySem.F.type_str_partition⟩
  · exact ⟨PySem.F.plainAttrs_list, PySem.F.slot_list_index, PySem.F.type_list_index⟩
  · exact ⟨PySem.F.plainAttrs_list, PySem.F.slot_list_count, PySem.F.type_list_count⟩
def idxV (y : V) : List V → Option Nat
  | [] => none
  | z :: r => if eqV z y = true then some 0 else (idxV y r).map (· + 1)
theorem idxV_ok {y : V} : ∀ {l : List V} {j : Nat}, idxV y l = some j → (∃ z, l[j]? = some z ∧ eqV z y = true) ∧ ∀ (m : Nat) (z' : V), m < j → l[m]? = some z' → eqV z' y = false
  | [], _, e => by cases e
  | z :: r, j, e => by
    unfold idxV at e
    split at e
    · rename_i h
      cases e
      exact ⟨⟨z, rfl, h⟩, fun m z' h => absurd h (Nat.not_lt_zero _)⟩
    · rename_i h
      simp only [Option.map_eq_some_iff] at e
      obtain ⟨j', e1, rfl⟩ := e
      obtain ⟨⟨u, h1, h2⟩, h3⟩ := idxV_ok e1
      refine ⟨⟨u, by simpa using h1, h2⟩, fun m z' hm hz => ?_⟩
      cases m with
      | zero =>
        simp at hz
        subst hz
        simpa using h
      | succ m => exact h3 m z' (by omega) (by simpa using hz)
def rCntV (K : PySem.W.Frag) : V → List V → Hp → VK → Prop := fun x xs H Q => ∃ (a : Addr) (ys : List V) (y : V), x = .ref a ∧ xs = [y] ∧ SqL K H a ys ∧ flatV y = true ∧ ys.all flatV = true ∧ Q (.int (ys.countP fun z => eqV z y : Nat)) H
theorem cnt_vals {y : V} : ∀ {ys : List V} {us : List Value}, Vals ys us → ys.all flatV = true → us.countP (eqU y) = ys.countP fun z => eqV z y
  | _, _, .nil, _ => rfl
  | z :: ys, u :: us, .cons r t, f => by
    rw [List.all_cons, Bool.and_eq_true] at f
    rw [List.countP_cons, List.countP_cons, cnt_vals t f.2, eqU_of r f.1]
theorem mt_cntV {X : Cx} : MtR X "list.count" (rCntV X.K) := by
  intro pins s σ H x xs v us Q I rx rxs h
  obtain ⟨a, ys, y, rfl, rfl, hs, fy, fys, q⟩ := h
  cases rx
  obtain ⟨uy, rfl, ry⟩ := rxs.one
  obtain ⟨its, rv, ⟨⟨cls, dd, data, sl⟩, n, ho, hc, hdn, hd⟩, hlen⟩ := I.list hs
  simp only at hc hd
  subst hc hd
  refine call_meets PySem.F.slot_list_count ⟨_, ho, rfl⟩ PySem.F.entry_list_count (PySem.F.args_list_count_2 _ _)
    (SeqAt.list_countAt a its.toArray n dd sl uy (eqU y)) ⟨ho, fun u' hu' => mem_eqAt ry fy rv fys u' (by simpa using hu'), ?_⟩
  refine ⟨.int (ys.countP fun z => eqV z y : Nat), H, I.tok _, ⟨s.toks, ?_⟩, q⟩
  show Value.int ((its.toArray.toList.countP (eqU y) : Nat) : Int) s.toks = Value.int _ s.toks
  rw [show its.toArray.toList = its by simp, cnt_vals rv fys]
def joinLen (ys : List Str) : Nat := (ys.map (·.length)).sum
def seqOf (cs : Cells) : W → Option (List D)
  | .d (.tup xs) => some xs
  | w => dl cs w
theorem seqOf_ok {w : W} {xs : List D} {v : V} {g : G} {cs : Cells} {ra : Ra} {H : Hp} (R : Rel g ra cs H) (r : RepW g (frz H ra) ra w v) (e : seqOf cs w = some xs) : ∃ a vs, v = .ref a ∧ (SqL g.K H a vs ∨ SqT g.K H a vs) ∧ RepL g (frz H ra) xs vs := by
  unfold seqOf at e
  split at e
  · cases e
    obtain ⟨a, vs, h1, h2, h3⟩ := tup_ok r
    exact ⟨a, vs, h1, .inr h2, h3⟩
  · obtain ⟨a, vs, h1, h2, h3⟩ := dl_ok R r e
    exact ⟨a, vs, h1, .inl h2, h3⟩
def wBm (m : Bm) (w : W) (ws : List W) (cs : Cells) : R W := match m, w, ws with
  | .append, .loc n, [.d d] => match celL cs n with
    | some xs => if xs.length < lit then .ok (.d .non) (cs.set n (some (.lst (xs ++ [d])))) else .bad
    | none => .bad
  | .extend, .loc n, [w2] => match celL cs n, dlt cs w2 with
    | some xs, some ys => if xs.length + ys.length ≤ lit then .ok (.d .non) (cs.set n (some (.lst (xs ++ ys)))) else .bad
    | _, _ => .bad
  | .pop, .loc n, [] => match celL cs n with
    | some xs => match xs[xs.length - 1]? with
      | some d => .ok (.d d) (cs.set n (some (.lst xs.dropLast)))
      | none => .bad
    | none => .bad
  | .popAt, .loc n, [.d (.int i)] => match celL cs n with
    | some xs => if -1000000 ≤ i ∧ i ≤ 1000000 then match seqIndex? i xs.length with
        | some k => match xs[k]? with
          | some d => .ok (.d d) (cs.set n (some (.lst (xs.eraseIdx k))))
          | none => .bad
        | none => .bad
      else .bad
    | none => .bad
  | .join, .d (.str a), [w2] => match (seqOf cs w2).bind strsOf with
    | some ys => if joinLen ys + ys.length * a.length ≤ 16777216 then .ok (.d (.str (Txt.join a ys))) cs else .bad
    | none => .bad
  | .partition, .d (.str a), [.d (.str b)] => if (b.length == 0) = false ∧ a.length ≤ lit then .ok (.d (.tup [.str (Txt.partition a b).1, .str (Txt.partition a b).2.1, .str (Txt.partition a b).2.2])) cs else .bad
  | .index, w, [.d d] => match (dl cs w).bind flatL?, flatV? d with
    | some ys, some y => match idxV y ys with
      | some j => .ok (.d (.int (j : Nat))) cs
      | none => .bad
    | _, _ => .bad
  | .count, w, [.d d] => match (dl cs w).bind flatL?, flatV? d with
    | some ys, some y => .ok (.d (.int (ys.countP fun z => eqV z y : Nat))) cs
    | _, _ => .bad
  | _, _, _ => .bad
def rBm (K : PySem.W.Frag) : Bm → V → List V → Hp → VK → Prop
  | .append => rAppend
  | .extend => rExtend
  | .pop => rPop
  | .popAt => rPopAt
  | .join => fun x xs H Q => ∃ a p, ∃ ys : List Str, x = .str a ∧ xs = [.ref p] ∧ (SqL K H p (ys.map V.str) ∨ SqT K H p (ys.map V.str)) ∧ (ys.map (·.length)).sum + ys.length * a.length ≤ 16777216 ∧ Q (.str (Txt.join a ys)) H
  | .partition => fun x xs H Q => ∃ a b, x = .str a ∧ xs = [.str b] ∧ (b.length == 0) = false ∧ a.length ≤ sizeLine ∧ ∀ p, H p = none → Q (.ref p) (upd H p (.tup [.str (Txt.partition a b).1, .str (Txt.partition a b).2.1, .str (Txt.partition a b).2.2]))
  | .index => rIndex K
  | .count => rCntV K
theorem bm_rule {X : Cx} (m : Bm) : MtR X m.id (rBm X.K m) := by
  cases m with
  | append => exact mt_append
  | extend => exact mt_extend
  | pop => exact mt_pop
  | popAt => exact mt_popAt
  | join => exact mt_join
  | partition => exact mt_partition
  | index => exact mt_index
  | count => exact mt_cntV
section
variable {g : G} {cs : Cells} {ra : Ra} {H : Hp} {Q : VK} {E : XK}
theorem put_lst (R : Rel g ra cs H) {n : Nat} {a : Addr} {d : D} {v : V} {xs : List D} {vs : List V} (ha : ra[n]? = some (some a)) (r : Rep g (frz H ra) d v) (q : RepL g (frz H ra) xs vs) (h : PostR g (rpW g ra) (.ok (.d d) (cs.set n (some (.lst xs)))) ra H Q E) : Q v (upd H a (.lst vs)) := by
  obtain ⟨k, R'⟩ := R.put (o := .lst vs) (c' := .lst xs) ha ⟨vs, upd_same, q⟩
  exact h _ _ k R' (r.mono k.same)
theorem wBm_ok {m : Bm} {w : W} {ws : List W} {v : V} {vs : List V} (R : Rel g ra cs H) (r0 : RepW g (frz H ra) ra w v) (r : RepWs g (frz H ra) ra ws vs) (h : PostR g (rpW g ra) (wBm m w ws cs) ra H Q E) : tyV g.K m.ty v H ∧ rBm g.K m v vs H Q := by
  unfold wBm at h
  split at h
  · split at h
    · rename_i xs e
      split at h
      · rename_i hl
        obtain ⟨u, rfl, r1⟩ := ws1 r
        obtain ⟨a, us, rfl, ha, h1, q1⟩ := celL_ok R r0 e
        exact ⟨.inl ⟨rfl, us, SqL.of h1⟩, a, us, u, rfl, rfl, h1, by rw [line_lit, ← q1.length]; exact hl, put_lst R ha .non (q1.append (.cons r1 .nil)) h⟩
      · exact h.elim
    · exact h.elim
  · split at h
    · rename_i xs ys e e2
      split at h
      · rename_i hl
        obtain ⟨u, rfl, r1⟩ := ws1 r
        obtain ⟨a, us, rfl, ha, h1, q1⟩ := celL_ok R r0 e
        obtain ⟨b, us2, rfl, h2, q2⟩ := dlt_ok R r1 e2
        exact ⟨.inl ⟨rfl, us, SqL.of h1⟩, a, b, us, us2, rfl, rfl, h1, h2, by rw [line_lit, ← q1.length, ← q2.length]; exact hl, put_lst R ha .non (q1.append q2) h⟩
      · exact h.elim
    · exact h.elim
  · split at h
    · rename_i xs e
      split at h
      · rename_i d hd
        cases r
        obtain ⟨a, us, rfl, ha, h1, q1⟩ := celL_ok R r0 e
        obtain ⟨u, hu, ru⟩ := q1.get hd
        exact ⟨.inl ⟨rfl, us, SqL.of h1⟩, a, us, u, rfl, rfl, h1, by rw [← q1.length]; exact hu, put_lst R ha ru q1.dropLast h⟩
      · exact h.elim
    · exact h.elim
  · split at h
    · rename_i xs e
      split at h
      · rename_i hl
        split at h
        · rename_i k hk
          split at h
          · rename_i d hd
            obtain ⟨u0, rfl, r1⟩ := ws1 r
            cases r1
            obtain ⟨a, us, rfl, ha, h1, q1⟩ := celL_ok R r0 e
            obtain ⟨u, hu, ru⟩ := q1.get hd
            exact ⟨.inl ⟨rfl, us, SqL.of h1⟩, a, us, _, k, u, rfl, rfl, h1, by omega, by omega, by rw [← q1.length]; exact hk, hu, put_lst R ha ru (q1.eraseIdx k) h⟩
          · exact h.elim
        · exact h.elim
      · exact h.elim
    · exact h.elim
  · split at h
    · rename_i ys e
      split at h
      · rename_i hl
        obtain ⟨u0, rfl, r1⟩ := ws1 r
        cases r0
        obtain ⟨xs, e1, e2⟩ := Option.bind_eq_some_iff.mp e
        obtain ⟨p, us, rfl, h1, q1⟩ := seqOf_ok R r1 e1
        have e3 := strsOf_ok q1 e2
        subst e3
        exact ⟨rfl, _, p, ys, rfl, rfl, h1, hl, back R (.str _) h⟩
      · exact h.elim
    · exact h.elim
  · split at h
    · rename_i hl
      obtain ⟨u0, rfl, r1⟩ := ws1 r
      cases r0
      cases r1
      exact ⟨rfl, _, _, rfl, rfl, hl.1, by rw [line_lit]; exact hl.2, new_tup R (.cons (.str _) (.cons (.str _) (.cons (.str _) .nil))) h⟩
    · exact h.elim
  · split at h
    · rename_i ys y e1 e2
      split at h
      · rename_i j ej
        obtain ⟨xs, e3, e4⟩ := Option.bind_eq_some_iff.mp e1
        obtain ⟨u0, rfl, r1⟩ := ws1 r
        obtain ⟨a, us, rfl, h1, q1⟩ := dl_ok R r0 e3
        obtain ⟨rfl, f1⟩ := flatL_ok q1 e4
        obtain ⟨rfl, f2⟩ := flatV_ok r1 e2
        obtain ⟨⟨z, h2, h3⟩, h4⟩ := idxV_ok ej
        exact ⟨.inl ⟨rfl, _, h1⟩, a, _, _, j, z, rfl, rfl, h1, f2, f1, h2, h3, h4, back R (.int _) h⟩
      · exact h.elim
    · exact h.elim
  · split at h
    · rename_i ys y e1 e2
      obtain ⟨xs, e3, e4⟩ := Option.bind_eq_some_iff.mp e1
      obtain ⟨u0, rfl, r1⟩ := ws1 r
      obtain ⟨a, us, rfl, h1, q1⟩ := dl_ok R r0 e3
      obtain ⟨rfl, f1⟩ := flatL_ok q1 e4
      obtain ⟨rfl, f2⟩ := flatV_ok r1 e2
      exact ⟨.inl ⟨rfl, _, h1⟩, a, _, _, rfl, rfl, h1, f2, f1, back R (.int _) h⟩
    · exact h.elim
  · exact h.elim
end
end BV

namespace BV
open PySem L2

/-! ### the language -/
inductive Ty where
  | b (n : String) | c (k : Nat) | x (k : Nat)
  deriving DecidableEq
inductive Src where
  | p (i : Nat) | k (i : Nat) | d (x : D)
inductive E where
  | var (i : Nat) | cst (d : D) | gv (x : Str)
  | op (o : Operator) (a b : E)
  | cmp (o : CmpOp) (a b : E) | chain (o o' : CmpOp) (a b c : E)
  | and (as : E) | or (as : E) | not (a : E) | ife (t a b : E)
  | nil | cons (a as : E)
  | tup (as : E) | lst (as : E)
  | ix (a i : E) | sl (a lo hi : E)
  | bi (b : Bi) (as : E) | isi (a : E) (ts : List Ty) (many : Bool)
  | bm (m : Bm) (a as : E)
  | call (f p : Nat) (as ks : E)
  | make (c p : Nat) (as ks : E)
  | fld (a : E) (f : Str) | meth (a : E) (m : Str) (as : E)
  | lc (elt it conds : E) (tg : List Nat) (one : Bool) (own : List (Str × Nat))
  | lc2 (elt it conds it1 conds1 : E) (tg : List Nat) (one : Bool) (tg1 : List Nat) (one1 : Bool) (own : List (Str × Nat))
  | neg (a : E)
  | zips (a b : E) | lzip (a b : E) | rep (a : E)
  | sup (d : Nat) (m : Str) (as : E)
  | rng1 (a : E) | rng2 (a b : E) | itl (a : E) | itt (a : E) | its (a : E) | enum (a : E) | zip (a b : E)
  | fstr (as : E) | fmt (a : E) | lam (f : Nat) (t : E) | dct0
  | eqo (neg : Bool) (a b : E) | ino (neg : Bool) (a b : E) | methk (a : E) (m : Str) (p : Nat) (nms : List Str) (ks : E)
  deriving Inhabited
/-- the static part: names, patterns, classes -/
structure Ws where
  fnm : Nat → Option Str
  cnm : Nat → Option Str
  gd : Str → Option D
  pat : Nat → Nat → Option (Nat × List Str × List Src)
  init : Nat → Option Nat
  npar : Nat → Nat
  meth : Nat → Str → Option Nat
  sup : Nat → Nat → Str → Option Nat
  prop : Nat → Str → Option Nat
  fldk : Nat → Str → Bool
  kit : Ty → Ty → Option Bool
  exk : Nat → Option (Str × Str)
  exm : List Nat → Nat → Option Bool
  lams : List Scope
  oeq : Nat → Ty → Option Nat
  one : Nat → Ty → Option Nat
  oin : Nat → Option Nat
/-- what functions and classes do; phd: a def that is given a lambda; phc: a lambda's body -/
structure Wd extends Ws where
  phi : Nat → List W → Cells → R D
  phl : Nat → List W → Cells → R Unit
  phd : Nat → (Cells → R D) → Cells → R D
  phc : E → Fra → Cells → R D
instance : Coe Wd Ws := ⟨Wd.toWs⟩
def asB (r : R W) : R Bool := r.bind fun w cs => match w with
  | .d (.bl b) => .ok b cs
  | _ => .bad
def asI (r : R W) : R Int := r.bind fun w cs => match w with
  | .d (.int i) => .ok i cs
  | _ => .bad
def R.nox {α : Type} : R α → R α
  | .exc _ _ _ => .bad
  | r => r
def R.map {α β : Type} (f : α → β) (r : R α) : R β := r.bind fun a cs => .ok (f a) cs
def srcs (ws zs : List W) : List Src → Option (List W)
  | [] => some []
  | .p i :: r => match ws[i]?, srcs ws zs r with
    | some w, some l => some (w :: l)
    | _, _ => none
  | .k i :: r => match zs[i]?, srcs ws zs r with
    | some w, some l => some (w :: l)
    | _, _ => none
  | .d x :: r => (srcs ws zs r).map (.d x :: ·)
def clsOf (cs : Cells) : W → Option (Nat × List (Str × D))
  | .d (.ins c fs) => some (c, fs)
  | .loc n => match cs[n]? with
    | some (some (.ins c fs)) => some (c, fs)
    | _ => none
  | _ => none
def tyOf (cs : Cells) : W → Option Ty
  | .d .non => some (.b "NoneType") | .d (.bl _) => some (.b "bool") | .d (.int _) => some (.b "int") | .d (.str _) => some (.b "str")
  | .d (.tup _) => some (.b "tuple") | .d (.lst _) => some (.b "list") | .d (.flst _) => some (.b "list") | .d (.ins c _) => some (.c c) | .d (.exc c _) => some (.x c) | .d (.dct _) => some (.b "dict")
  | .loc n => match cs[n]? with
    | some (some (.lst _)) => some (.b "list")
    | some (some (.ins c _)) => some (.c c)
    | _ => none
  | _ => none
def kitAnyD (wd : Wd) (t : Ty) : List Ty → Option Bool
  | [] => some false
  | u :: r => match wd.kit t u with
    | some true => some true
    | some false => kitAnyD wd t r
    | none => none
def wIsi (wd : Wd) (w : W) (ts : List Ty) (cs : Cells) : R W := match tyOf cs w with
  | some t => match kitAnyD wd t ts with
    | some b => .ok (.d (.bl b)) cs
    | none => .bad
  | none => .bad
def callW (wd : Wd) (f : Nat) (ws : List W) (cs : Cells) : R W := (wd.phi f ws cs).map W.d
def live (cs : Cells) (n : Nat) : Bool := match cs[n]? with
  | some (some _) => true
  | _ => false
def R.trim {α : Type} (n : Nat) : R α → R α
  | .exc c x cs => .exc c x (cs.take n)
  | r => r
def madeW (c n : Nat) (d : D) (cs' : Cells) : R W := match d, cs'[n]? with
  | .non, some (some (.ins c' fs)) => if c' = c then .ok (.d (.ins c fs)) (cs'.take n) else .bad
  | _, _ => .bad
def makeW (wd : Wd) (c p : Nat) (ws zs : List W) (cs : Cells) : R W := match wd.init c with
  | some f => match (wd.pat f p).bind fun q => srcs (.loc cs.length :: ws) zs q.2.2 with
    | some l => ((wd.phi f l (cs ++ [some (.ins c [])])).trim cs.length).bind fun d cs' => madeW c cs.length d cs'
    | none => .bad
  | none => .bad
/-- the field of a held exception -/
def fldE (wd : Wd) (w : W) (f : Str) (cs : Cells) : R W := match w with
  | .d (.exc c x) => match wd.exk c with
    | some (_, fl) => if fl = f then .ok (.d x) cs else .bad
    | none => .bad
  | _ => .bad
def fldW (wd : Wd) (w : W) (f : Str) (cs : Cells) : R W := match clsOf cs w with
  | some (c, fs) => match wd.prop c f with
    | some p => (callW wd p [w] cs).nox
    | none => if wd.fldk c f then match fs.lookup f with
        | some d => .ok (.d d) cs
        | none => .bad
      else .bad
  | none => fldE wd w f cs
/-- which method: the class and the absent attribute are looked at ahead of the arguments -/
def mthW (wd : Wd) (w : W) (m : Str) (cs : Cells) : Option Nat := match clsOf cs w with
  | some (c, fs) => match wd.meth c m, fs.lookup m with
    | some f, none => some f
    | _, _ => none
  | none => none
/-- an own answer that is a bool -/
def asBn (neg : Bool) (r : R D) : R W := match r with
  | .ok (.bl b) cs => .ok (.d (.bl (if neg then !b else b))) cs
  | _ => .bad
/-- ==, != by the own __eq__ of the left side's class -/
def eqoW (wd : Wd) (neg : Bool) (w1 w2 : W) (cs : Cells) : R W := match clsOf cs w1, tyOf cs w2 with
  | some (c, _), some t => match (if neg then wd.one c t else wd.oeq c t), wd.kit t (.c c) with
    | some f, some _ => asBn neg (wd.phi f [w1, w2] cs)
    | _, _ => .bad
  | _, _ => .bad
/-- in, not in by the own __contains__ of the right side's class -/
def inoW (wd : Wd) (neg : Bool) (w1 w2 : W) (cs : Cells) : R W := match clsOf cs w2 with
  | some (c, _) => match wd.oin c with
    | some f => asBn neg (wd.phi f [w2, w1] cs)
    | none => .bad
  | none => .bad
/-- a method that is given by name -/
def methkW (wd : Wd) (f p : Nat) (nms : List Str) (w : W) (zs : List W) (cs : Cells) : R W := match wd.pat f p with
  | some (n, nms', pm) => if n = 1 ∧ nms' = nms then match srcs [w] zs pm with
      | some l => callW wd f l cs
      | none => .bad
    else .bad
  | none => .bad
/-- super().m of the first parameter, in a method of the class d -/
def supW (wd : Wd) (d : Nat) (m : Str) (fr : Fra) (cs : Cells) : Option (W × Nat) := match fr[0]? with
  | some (some w) => match clsOf cs w with
    | some (c, _) => match wd.sup d c m with
      | some f => some (w, f)
      | none => none
    | none => none
  | _ => none
def setTg (tg : List Nat) (one : Bool) (d : D) (fr : Fra) : Option Fra := match one, tg, d with
  | true, [i], d => some (fr.set i (some (.d d)))
  | false, is, .tup ds => if is.length = ds.length then some ((is.zip ds).foldl (fun fr p => fr.set p.1 (some (.d p.2))) fr) else none
  | false, is, .lst ds => if is.length = ds.length then some ((is.zip ds).foldl (fun fr p => fr.set p.1 (some (.d p.2))) fr) else none
  | _, _, _ => none
def wipeF (fr : Fra) : List Nat → Fra
  | [] => fr
  | v :: vs => (wipeF fr vs).set v none
def lcAdd (n : Nat) (w : W) (cs : Cells) : R Unit := match w, celL cs n with
  | .d x, some acc => if acc.length < lit then .ok () (cs.set n (some (.lst (acc ++ [x])))) else .bad
  | _, _ => .bad
def lcTurn (tst : Fra → Cells → R Bool) (elt : Fra → Cells → R W) (n : Nat) (fr1 : Fra) (cs : Cells) : R Unit :=
  (tst fr1 cs).nox.bind fun b c1 => if b then (elt fr1 c1).nox.bind fun w c2 => lcAdd n w c2 else .ok () c1
def lcGo (tst : Fra → Cells → R Bool) (elt : Fra → Cells → R W) (tg : List Nat) (one : Bool) (fr : Fra) (n : Nat) : List D → Cells → R Unit
  | [], cs => .ok () cs
  | d :: ds, cs => match setTg tg one d fr with
    | none => .bad
    | some fr1 => (lcTurn tst elt n fr1 cs).bind fun _ c2 => lcGo tst elt tg one fr n ds c2
def lcTurn2 (tst : Fra → Cells → R Bool) (it1 : Fra → Cells → R (List D)) (tst1 : Fra → Cells → R Bool) (elt : Fra → Cells → R W) (tg1 : List Nat) (one1 : Bool) (n : Nat) (fr1 : Fra) (cs : Cells) : R Unit :=
  (tst fr1 cs).nox.bind fun b c1 => if b then (it1 fr1 c1).nox.bind fun ds1 c2 => lcGo tst1 elt tg1 one1 (wipeF fr1 tg1) n ds1 c2 else .ok () c1
def lcGo2 (tst : Fra → Cells → R Bool) (it1 : Fra → Cells → R (List D)) (tst1 : Fra → Cells → R Bool) (elt : Fra → Cells → R W) (tg : List Nat) (one : Bool) (tg1 : List Nat) (one1 : Bool) (fr : Fra) (n : Nat) : List D → Cells → R Unit
  | [], cs => .ok () cs
  | d :: ds, cs => match setTg tg one d fr with
    | none => .bad
    | some fr1 => (lcTurn2 tst it1 tst1 elt tg1 one1 n fr1 cs).bind fun _ c2 => lcGo2 tst it1 tst1 elt tg one tg1 one1 fr n ds c2
def lcEnd (n : Nat) (cs : Cells) : R W := match celL cs n with
  | some xs => .ok (.d (.lst xs)) (cs.take n)
  | none => .bad
def tupW (ws : List W) (cs : Cells) : R W := match pureDs ws with
  | some ds => if ds.length ≤ lit then .ok (.d (.tup ds)) cs else .bad
  | none => .bad
def lstW (ws : List W) (cs : Cells) : R W := match pureDs ws with
  | some ds => if ds.length ≤ lit then .ok (.d (.lst ds)) cs else .bad
  | none => .bad
def fmtW (w : W) (cs : Cells) : R W := match w with
  | .d (.str x) => if x.length ≤ lit then .ok (.d (.str x)) cs else .bad
  | .d (.int i) => if i.natAbs.log2 < 1920 then .ok (.d (.str (toString i))) cs else .bad
  | _ => .bad
def wTy (m : Bm) (w : W) (cs : Cells) : Bool := match m with
  | .append | .extend | .pop | .popAt | .index | .count => (dl cs w).isSome
  | .join | .partition => match w with
    | .d (.str _) => true
    | _ => false
def rngD (a b : Int) : List D := (List.range (b - a).toNat).map fun i => .int (a + (i : Nat))
def small62 (i : Int) : Bool := decide (-4611686018427387904 ≤ i ∧ i < 4611686018427387904)
def enumD (xs : List D) : List D := xs.zipIdx.map fun p => .tup [.int (p.2 : Nat), p.1]
def zipD (xs ys : List D) : List D := (xs.zip ys).map fun p => .tup [p.1, p.2]
def zipsW (w1 w2 : W) (cs : Cells) : R (List D) := match w1, w2 with
  | .d (.tup xs), .d (.tup ys) => if xs.length = ys.length then .ok (zipD xs ys) cs else .bad
  | _, _ => .bad
def lzipW (w1 w2 : W) (cs : Cells) : R W := match w1, w2 with
  | .d (.tup xs), .d (.tup ys) => if xs.length = ys.length ∧ xs.length ≤ lit then .ok (.d (.lst (zipD xs ys))) cs else .bad
  | _, _ => .bad
mutual
/-- what repr() shows, empty dicts among it -/
def pyD : D → Option PyData
  | .non => some .none
  | .bl b => some (.bool b)
  | .int i => some (.int i)
  | .str x => some (.str x)
  | .tup xs => (pyDs xs).map .tuple
  | .lst xs => (pyDs xs).map .list
  | .flst xs => (pyDs xs).map .list
  | .dct [] => some (.dict [])
  | _ => none
def pyDs : List D → Option (List PyData)
  | [] => some []
  | d :: r => match pyD d, pyDs r with
    | some p, some q => some (p :: q)
    | _, _ => none
end
def wPr (cs : Cells) : W → Option PyData
  | .d d => pyD d
  | .loc n => (celL cs n).bind fun xs => (pyDs xs).map .list
def repW (w : W) (cs : Cells) : R W := match wPr cs w with
  | some p => if p.showable = true ∧ p.depth ≤ 60 ∧ p.shown.length ≤ lit then .ok (.d (.str p.shown)) cs else .bad
  | none => .bad
def strD (x : Str) : List D := x.cps.toList.map fun c => .str ⟨#[c]⟩
mutual
def ev (wd : Wd) : E → Fra → Cells → R W
  | .var i, fr, cs => match fr[i]? with
    | some (some w) => .ok w cs
    | _ => .bad
  | .cst d, _, cs => .ok (.d d) cs
  | .dct0, _, cs => .ok (.d (.dct [])) cs
  | .gv x, _, cs => match wd.gd x with
    | some d => .ok (.d d) cs
    | none => .bad
  | .op o a b, fr, cs => (ev wd a fr cs).bind fun w1 c1 => (ev wd b fr c1).bind fun w2 c2 => wOp o w1 w2 c2
  | .cmp o a b, fr, cs => (ev wd a fr cs).bind fun w1 c1 => (ev wd b fr c1).bind fun w2 c2 => wCmp o w1 w2 c2
  | .chain o o' a b c, fr, cs => (ev wd a fr cs).bind fun w1 c1 => (ev wd b fr c1).bind fun w2 c2 => (asB (wCmp o w1 w2 c2)).bind fun t c3 => if t then (ev wd c fr c3).bind fun w3 c4 => wCmp o' w2 w3 c4 else .ok (.d (.bl false)) c3
  | .and as, fr, cs => evAnd wd as fr cs
  | .or as, fr, cs => evOr wd as fr cs
  | .not a, fr, cs => (asB (ev wd a fr cs)).bind fun b c1 => .ok (.d (.bl (!b))) c1
  | .ife t a b, fr, cs => (asB (ev wd t fr cs)).bind fun x c1 => if x then ev wd a fr c1 else ev wd b fr c1
  | .tup as, fr, cs => (evA wd as fr cs).bind tupW
  | .lst as, fr, cs => (evA wd as fr cs).bind lstW
  | .ix a i, fr, cs => (ev wd a fr cs).bind fun w1 c1 => (ev wd i fr c1).bind fun w2 c2 => wIx w1 w2 c2
  | .sl a lo hi, fr, cs => (ev wd a fr cs).bind fun w1 c1 => (evO wd lo fr c1).bind fun l c2 => (evO wd hi fr c2).bind fun h c3 => wSl w1 l h c3
  | .bi b as, fr, cs => (evA wd as fr cs).bind fun ws c1 => wBi b ws c1
  | .isi a ts _, fr, cs => (ev wd a fr cs).bind fun w c1 => wIsi wd w ts c1
  | .bm m a as, fr, cs => (ev wd a fr cs).bind fun w c1 => if wTy m w c1 then (evA wd as fr c1).bind fun ws c2 => wBm m w ws c2 else .bad
  | .call f p as ks, fr, cs => (evA wd as fr cs).bind fun ws c1 => (evA wd ks fr c1).bind fun zs c2 => match (wd.pat f p).bind fun q => srcs ws zs q.2.2 with
    | some l => callW wd f l c2
    | none => .bad
  | .make c p as ks, fr, cs => (evA wd as fr cs).bind fun ws c1 => (evA wd ks fr c1).bind fun zs c2 => makeW wd c p ws zs c2
  | .lam f t, fr, cs => (wd.phd f (wd.phc t fr) cs).map W.d
  | .fld a f, fr, cs => (ev wd a fr cs).bind fun w c1 => fldW wd w f c1
  | .meth a m as, fr, cs => (ev wd a fr cs).bind fun w c1 => match mthW wd w m c1 with
    | some f => (evA wd as fr c1).bind fun ws c2 => if wd.npar f = ws.length + 1 then callW wd f (w :: ws) c2 else .bad
    | none => .bad
  | .eqo neg a b, fr, cs => (ev wd a fr cs).bind fun w1 c1 => (ev wd b fr c1).bind fun w2 c2 => eqoW wd neg w1 w2 c2
  | .ino neg a b, fr, cs => (ev wd a fr cs).bind fun w1 c1 => (ev wd b fr c1).bind fun w2 c2 => inoW wd neg w1 w2 c2
  | .methk a m p nms ks, fr, cs => (ev wd a fr cs).bind fun w c1 => match mthW wd w m c1 with
    | some f => (evA wd ks fr c1).bind fun zs c2 => methkW wd f p nms w zs c2
    | none => .bad
  | .lc elt it conds tg one own, fr, cs => (evI wd it fr cs).bind fun ds c1 => (lcGo (fun fr cs => asB (evAnd wd conds fr cs)) (ev wd elt) tg one (wipeF fr (own.map (·.2))) c1.length ds (c1 ++ [some (.lst [])])).nox.bind fun _ c2 => lcEnd c1.length c2
  | .lc2 elt it conds it1 conds1 tg one tg1 one1 own, fr, cs => (evI wd it fr cs).bind fun ds c1 => (lcGo2 (fun fr cs => asB (evAnd wd conds fr cs)) (evI wd it1) (fun fr cs => asB (evAnd wd conds1 fr cs)) (ev wd elt) tg one tg1 one1 (wipeF fr (own.map (·.2))) c1.length ds (c1 ++ [some (.lst [])])).nox.bind fun _ c2 => lcEnd c1.length c2
  | .sup d m as, fr, cs => match supW wd d m fr cs with
    | some (w, f) => (evA wd as fr cs).bind fun ws c1 => if wd.npar f = ws.length + 1 then callW wd f (w :: ws) c1 else .bad
    | none => .bad
  | .lzip a b, fr, cs => (ev wd a fr cs).bind fun w1 c1 => (ev wd b fr c1).bind fun w2 c2 => lzipW w1 w2 c2
  | .rep a, fr, cs => (ev wd a fr cs).bind fun w c1 => repW w c1
  | .neg a, fr, cs => (asI (ev wd a fr cs)).bind fun i c1 => .ok (.d (.int (-i))) c1
  | .fstr as, fr, cs => evJ wd as Str.empty fr cs
  | .fmt a, fr, cs => (ev wd a fr cs).bind fmtW
  | _, _, _ => .bad
def evA (wd : Wd) : E → Fra → Cells → R (List W)
  | .nil, _, cs => .ok [] cs
  | .cons a as, fr, cs => (ev wd a fr cs).bind fun w c1 => (evA wd as fr c1).bind fun ws c2 => .ok (w :: ws) c2
  | _, _, _ => .bad
def evO (wd : Wd) : E → Fra → Cells → R (Option Int)
  | .nil, _, cs => .ok none cs
  | .cons a .nil, fr, cs => (asI (ev wd a fr cs)).bind fun i c1 => .ok (some i) c1
  | _, _, _ => .bad
def evAnd (wd : Wd) : E → Fra → Cells → R W
  | .nil, _, cs => .ok (.d (.bl true)) cs
  | .cons a as, fr, cs => (asB (ev wd a fr cs)).bind fun b c1 => if b then evAnd wd as fr c1 else .ok (.d (.bl false)) c1
  | _, _, _ => .bad
def evOr (wd : Wd) : E → Fra → Cells → R W
  | .nil, _, cs => .ok (.d (.bl false)) cs
  | .cons a as, fr, cs => (asB (ev wd a fr cs)).bind fun b c1 => if b then .ok (.d (.bl true)) c1 else evOr wd as fr c1
  | _, _, _ => .bad
def evJ (wd : Wd) : E → Str → Fra → Cells → R W
  | .nil, acc, _, cs => .ok (.d (.str acc)) cs
  | .cons a as, acc, fr, cs => (ev wd a fr cs).bind fun w c1 => match w with
    | .d (.str y) => if (acc ++ y).length ≤ lit then evJ wd as (acc ++ y) fr c1 else .bad
    | _ => .bad
  | _, _, _, _ => .bad
def evI (wd : Wd) : E → Fra → Cells → R (List D)
  | .rng1 a, fr, cs => (asI (ev wd a fr cs)).bind fun i c1 => if small62 i then .ok (rngD 0 i) c1 else .bad
  | .rng2 a b, fr, cs => (asI (ev wd a fr cs)).bind fun i c1 => (asI (ev wd b fr c1)).bind fun j c2 => if small62 i && small62 j then .ok (rngD i j) c2 else .bad
  | .itl a, fr, cs => (ev wd a fr cs).bind fun w c1 => match w with
    | .d (.lst xs) => .ok xs c1
    | .d (.flst xs) => .ok xs c1
    | _ => .bad
  | .itt a, fr, cs => (ev wd a fr cs).bind fun w c1 => match w with
    | .d (.tup xs) => .ok xs c1
    | _ => .bad
  | .its a, fr, cs => (ev wd a fr cs).bind fun w c1 => match w with
    | .d (.str x) => .ok (strD x) c1
    | _ => .bad
  | .enum a, fr, cs => (ev wd a fr cs).bind fun w c1 => match w with
    | .d (.lst xs) => .ok (enumD xs) c1
    | _ => .bad
  | .zip a b, fr, cs => (ev wd a fr cs).bind fun w1 c1 => (ev wd b fr c1).bind fun w2 c2 => match w1, w2 with
    | .d (.lst xs), .d (.lst ys) => .ok (zipD xs ys) c2
    | _, _ => .bad
  | .zips a b, fr, cs => (ev wd a fr cs).bind fun w1 c1 => (ev wd b fr c1).bind fun w2 c2 => zipsW w1 w2 c2
  | _, _, _ => .bad
end
end BV

namespace BV
open PySem L2

/-! ### what is true of the written part -/
def tyVal (g : G) : Ty → Value
  | .b n => .type n
  | .c k => .ref (g.ca k)
  | .x k => .ref (g.ca k)
/-- the promise of a def, by value -/
def spOf (g : G) (n : Nat) (m : List W → Cells → R D) : Sp := fun vs H Q E => ∃ ws cs ra, Rel g ra cs H ∧ RepWs g (frz H ra) ra ws vs ∧ ws.length = n ∧ PostR g (fun H' d v => Rep g (frz H' ra) d v) (m ws cs) ra H Q E
def srcV (vs zs : List V) : List Src → List V
  | [] => []
  | .p i :: r => vs.getD i .non :: srcV vs zs r
  | .k i :: r => zs.getD i .non :: srcV vs zs r
  | .d x :: r => (flatV? x).getD .non :: srcV vs zs r
def PostL (g : G) (r : R Unit) (ra : Ra) (H : Hp) (Q : VK) (E : XK) : Prop := match r with
  | .ok _ cs => ∀ H' a, Keep ra H H' → H a = none → Rel g (ra ++ [some a]) cs H' → Q (.ref a) H'
  | .exc c x cs => ∀ H' dd v, Keep ra H H' → Rel g ra cs H' → H' dd = some (.xd [(g.efld c, v)]) → Rep g (frz H' ra) x v → E (.ref (g.ca c)) (some dd) H'
  | .bad => False
def spOfL (g : G) (n : Nat) (m : List W → Cells → R Unit) : Sp := fun vs H Q E => ∃ ws cs ra, Rel g ra cs H ∧ RepWs g (frz H ra) ra ws vs ∧ ws.length = n ∧ PostL g (m ws cs) ra H Q E
/-- a def's promise, with no repr of a container running around it -/
structure FnG (P : Program) (w : World) (K : PySem.W.Frag) (mg : Str → Option Value) (base : Heap) (CX : CXT) (k : Nat) (f : Addr) (fd : FuncData) (ps : List Str) (sp : Sp) : Prop where
  len : ∀ vs H Q E, sp vs H Q E → vs.length = ps.length
  run : ∀ (A : Around) (outer : List Env) (s : Shared) (H : Hp) (args : Args) (us : List Value) (vs : List V) (Q : VK) (E : XK), Room k A → A.guards = some [] → Env0 P w K mg base A outer s H → BindsTo s fd args (ps.zip us) → Vals vs us → sp vs H Q E →
    codeAny (model P w) A (.call (.ref f) args) (CR CX outer P w H s Q E) s
structure Okx (g : G) (N : List Str) (sc : Scope) (ac : Bool) (k : Nat) (X : Cx) (Wx : WX) : Prop where
  P : X.prog = g.P
  w : X.w = g.w
  K : X.K = g.K
  mg : X.mg = g.mg
  base : X.base = g.base
  hN : X.N = N
  nd : List.Nodup N
  calm : X.calm = true
  sc : X.env.scope = sc
  fn : ac = true → ∀ x, X.env.scope.names.lookup x = some .cell → X.fn x = true
  hr : Room (k + 2) X.A
  tk : Takes X Wx
  gd : X.A.guards = some []
  lam : X.env.scope ∈ g.lams → ∃ c P, X.env.code = .ref c ∧ LamX.TabB X.base X.mg c P ∧ (P, X.env.qual ++ "<lambda>") ∈ g.T ∧ ∀ p ∈ g.T, p.1 = P → p.2 = X.env.qual ++ "<lambda>"
  top : ac = true → X.stack = X.env :: X.outer ∧ X.env.frame = some X.env.locals ∧ X.ex = []

/-! ### the checker: does a written expression say what the term says -/
def notSliceB : Expr → Bool
  | .Slice _ _ _ _ => false
  | _ => true
def notSt : Expr → Bool
  | .Starred _ _ => false
  | _ => true
def notSet : Expr → Bool
  | .Set _ _ _ => false
  | _ => true
def notSup : Expr → Bool
  | .Call (.Name _ _) [] [] _ => false
  | _ => true
def visB (sc : Scope) (x : Str) : Bool := match sc.names.lookup x with
  | some .local => true | some .cell => true | some .free => true | _ => false
def glB (sc : Scope) (x : Str) : Bool := decide (sc.names.lookup x = some .globalImplicit)
def nodbg (x : Str) : Bool := !(x == ("__debug__" : Str)) && !(x == ("__classdict__" : Str))
def locB (sc : Scope) (ac : Bool) (x : Str) : Bool := match sc.names.lookup x with
  | some .local => true | some .cell => ac | _ => false
def chkNm (N : List Str) (sc : Scope) (ac : Bool) (i : Nat) : Expr → Bool
  | .Name x _ => decide (N[i]? = some x) && locB sc ac x
  | _ => false
def chkTgs (N : List Str) (sc : Scope) (ac : Bool) : List Nat → List Expr → Bool
  | [], [] => true
  | i :: is, e :: es => chkNm N sc ac i e && chkTgs N sc ac is es
  | _, _ => false
def chkTg (N : List Str) (sc : Scope) (ac : Bool) (tg : List Nat) (one : Bool) (e : Expr) : Bool := match one, tg, e with
  | true, [i], e => chkNm N sc ac i e
  | false, is, .Tuple es _ _ => chkTgs N sc ac is es
  | _, _, _ => false
def isTupE : Expr → Bool
  | .Tuple _ _ _ => true
  | _ => false
def chkTy (wd : Ws) (sc : Scope) : Ty → Expr → Bool
  | .b n, .Name x _ => (n == "int" || n == "str" || n == "bool" || n == "tuple" || n == "list") && decide (x = Str.ofString n) && glB sc x && nodbg x
  | .c k, .Name x _ => decide (wd.cnm k = some x) && glB sc x && nodbg x
  | _, _ => false
def chkTys (wd : Ws) (sc : Scope) : List Ty → List Expr → Bool
  | [], [] => true
  | t :: ts, e :: es => chkTy wd sc t e && chkTys wd sc ts es
  | _, _ => false
def tOK : E → Bool
  | .ife _ _ _ => false
  | _ => true
def tOKs : E → Bool
  | .nil => true
  | .cons a as => tOK a && tOKs as
  | _ => false
/-- a list comprehension's block that makes no lambda -/
def blkL (l : List Scope) (N : List Str) (sc scope : Scope) (own : List (Str × Nat)) : Bool := blkC N sc scope own && !decide (relS scope sc ∈ l)
theorem blkL_and {l : List Scope} {N : List Str} {sc scope : Scope} {own : List (Str × Nat)} (h : blkL l N sc scope own = true) : blkC N sc scope own = true ∧ relS scope sc ∉ l := by
  unfold blkL at h
  simp only [Bool.and_eq_true, Bool.not_eq_true', decide_eq_false_iff_not] at h
  exact h
/-- a lambda without parameters -/
def lamP (p : Arguments) : Bool := p.posonlyargs.isEmpty && p.args.isEmpty && p.vararg.isNone && p.kwonlyargs.isEmpty && p.kwarg.isNone && p.defaults.isEmpty && p.kw_defaults.isEmpty
mutual
def chk (wd : Ws) (N : List Str) (sc : Scope) : E → Expr → Bool
  | .var i, .Name x _ => decide (N[i]? = some x) && visB sc x && nodbg x
  | .cst (.int i), .Constant (.int j) _ _ => decide (i = j)
  | .cst (.str i), .Constant (.str j) _ _ => decide (i = j)
  | .cst (.bl i), .Constant (.bool j) _ _ => decide (i = j)
  | .cst .non, .Constant .none _ _ => true
  | .dct0, .Dict [] [] _ => true
  | .gv y, .Name x _ => decide (y = x) && glB sc x && nodbg x
  | .op o a b, .BinOp l o' r _ => decide (o = o') && chk wd N sc a l && chk wd N sc b r
  | .cmp o a b, .Compare l [o'] [r] _ => decide (o = o') && chk wd N sc a l && chk wd N sc b r
  | .chain o o2 a b c, .Compare l [o', o2'] [r, r2] _ => decide (o = o') && decide (o2 = o2') && chk wd N sc a l && chk wd N sc b r && chk wd N sc c r2
  | .and as, .BoolOp .And es _ => !es.isEmpty && tOKs as && chkA wd N sc as es
  | .or as, .BoolOp .Or es _ => !es.isEmpty && tOKs as && chkA wd N sc as es
  | .not a, .UnaryOp .Not e _ => tOK a && chk wd N sc a e
  | .ife t a b, .IfExp c e f _ => tOK t && chk wd N sc t c && chk wd N sc a e && chk wd N sc b f
  | .tup as, .Tuple es _ _ => chkA wd N sc as es
  | .lst as, .List es _ => chkA wd N sc as es
  | .ix a i, .Subscript e j _ => notSliceB j && chk wd N sc a e && chk wd N sc i j
  | .sl a lo hi, .Subscript e (.Slice l h none _) _ => chk wd N sc a e && chkO wd N sc lo l && chkO wd N sc hi h
  | .bi b as, .Call (.Name x _) es [] _ => decide (x = b.name) && glB sc x && nodbg x && !es.isEmpty && chkA wd N sc as es
  | .isi a ts true, .Call (.Name x _) [e, .Tuple es _ _] [] _ => decide (x = "isinstance") && glB sc x && decide (ts ≠ []) && decide (ts.length ≤ 100) && chk wd N sc a e && chkTys wd sc ts es
  | .isi a [t] false, .Call (.Name x _) [e, f] [] _ => decide (x = "isinstance") && glB sc x && chk wd N sc a e && chkTy wd sc t f
  | .bm m a as, .Call (.Attribute o x ap) es [] p => decide (x = m.name) && notSup o && (ap.endLine == p.line) && decide (es.length < 20) && chk wd N sc a o && chkA wd N sc as es
  | .call f p as ks, .Call (.Name x _) es kws _ => decide (wd.fnm f = some x) && glB sc x && nodbg x && (match wd.pat f p with
      | some (n, nms, _) => decide (es.length = n) && decide (kws.map (·.arg) = nms.map some) && chkA wd N sc as es && chkK wd N sc ks kws
      | none => false)
  | .make c p as ks, .Call (.Name x _) es kws _ => decide (wd.cnm c = some x) && glB sc x && nodbg x && (match wd.init c with
      | some f => (match wd.pat f p with
        | some (n, nms, _) => decide (es.length + 1 = n) && decide (kws.map (·.arg) = nms.map some) && chkA wd N sc as es && chkK wd N sc ks kws
        | none => false)
      | none => false)
  | .lam f t, .Call (.Name x _) [.Lambda params body scope _] [] _ => decide (wd.fnm f = some x) && glB sc x && nodbg x && lamP params && LamX.lamSB sc scope && decide (sc ∈ wd.lams) && !decide (scope ∈ wd.lams) && chk wd N scope t body
  | .fld a f, .Attribute o x _ => decide (f = x) && notSup o && chk wd N sc a o
  | .meth a m as, .Call (.Attribute o x ap) es [] p => decide (x = m) && notSup o && (ap.endLine == p.line) && decide (es.length < 20) && chk wd N sc a o && chkA wd N sc as es
  | .eqo neg a b, .Compare l [o'] [r] _ => decide (o' = if neg then .NotEq else .Eq) && chk wd N sc a l && chk wd N sc b r
  | .ino neg a b, .Compare l [o'] [r] _ => decide (o' = if neg then .NotIn else .In) && chk wd N sc a l && chk wd N sc b r
  | .methk a m _ nms ks, .Call (.Attribute o x ap) [] kws p => decide (x = m) && notSup o && (ap.endLine == p.line) && decide (kws.length < 20) && decide (kws.map (·.arg) = nms.map some) && chk wd N sc a o && chkK wd N sc ks kws
  | .lc elt it conds tg one own, .ListComp ee [⟨te, ie, ifs, 0⟩] scope _ => chkI wd N sc it ie te && blkL wd.lams N sc scope own && decide (ifs.length ≤ 1) && tOKs conds && chk wd N (relS scope sc) elt ee && chkA wd N (relS scope sc) conds ifs && chkTg N (relS scope sc) false tg one te &&
      tg.all (fun i => (own.map (·.2)).contains i)
  | .lc2 elt it conds it1 conds1 tg one tg1 one1 own, .ListComp ee [⟨te, ie, ifs, 0⟩, ⟨te1, ie1, ifs1, 0⟩] scope _ => chkI wd N sc it ie te && blkL wd.lams N sc scope own && decide (ifs.length ≤ 1) && decide (ifs1.length ≤ 1) && tOKs conds && tOKs conds1 && chk wd N (relS scope sc) elt ee && chkA wd N (relS scope sc) conds ifs && chkA wd N (relS scope sc) conds1 ifs1 &&
      chkTg N (relS scope sc) false tg one te && chkTg N (relS scope sc) false tg1 one1 te1 && chkI wd N (relS scope sc) it1 ie1 te1 && tg.all (fun i => (own.map (·.2)).contains i) && tg1.all (fun i => (own.map (·.2)).contains i)
  | .lzip a b, .Call (.Name y _) [.Call (.Name x _) [e, f] [⟨some st, .Constant (.bool true) _ _, _⟩] _] [] _ => decide (y = "list") && decide (x = "zip") && decide (st = "strict") && glB sc y && glB sc x && notSt e && notSt f && chk wd N sc a e && chk wd N sc b f
  | .rep a, .Call (.Name x _) [e] [] _ => decide (x = "repr") && glB sc x && notSt e && chk wd N sc a e
  | .neg a, .UnaryOp .USub e _ => chk wd N sc a e
  | .fstr as, .JoinedStr es _ => decide (2 ≤ es.length) && chkA wd N sc as es
  | .fmt a, .FormattedValue e c none _ => decide (c = -1) && chk wd N sc a e
  | _, _ => false
def chkA (wd : Ws) (N : List Str) (sc : Scope) : E → List Expr → Bool
  | .nil, [] => true
  | .cons a as, e :: es => notSt e && chk wd N sc a e && chkA wd N sc as es
  | _, _ => false
def chkK (wd : Ws) (N : List Str) (sc : Scope) : E → List Keyword → Bool
  | .nil, [] => true
  | .cons a as, k :: ks => k.arg.isSome && chk wd N sc a k.value && chkK wd N sc as ks
  | _, _ => false
def chkO (wd : Ws) (N : List Str) (sc : Scope) : E → Option Expr → Bool
  | .nil, none => true
  | .cons a .nil, some e => chk wd N sc a e
  | _, _ => false
def chkI (wd : Ws) (N : List Str) (sc : Scope) : E → Expr → Expr → Bool
  | .rng1 a, .Call (.Name x _) [e] [] _, _ => decide (x = "range") && glB sc x && notSt e && chk wd N sc a e
  | .rng2 a b, .Call (.Name x _) [e, f] [] _, _ => decide (x = "range") && glB sc x && notSt e && notSt f && chk wd N sc a e && chk wd N sc b f
  | .itl a, e, _ => notSet e && chk wd N sc a e
  | .itt a, e, _ => notSet e && chk wd N sc a e
  | .its a, e, _ => notSet e && chk wd N sc a e
  | .enum a, .Call (.Name x _) [e] [] _, t => decide (x = "enumerate") && glB sc x && notSt e && chk wd N sc a e && isTupE t
  | .zip a b, .Call (.Name x _) [e, f] [] _, t => decide (x = "zip") && glB sc x && notSt e && notSt f && chk wd N sc a e && chk wd N sc b f && isTupE t
  | .zips a b, .Call (.Name x _) [e, f] [⟨some st, .Constant (.bool true) _ _, _⟩] _, t => decide (x = "zip") && decide (st = "strict") && glB sc x && notSt e && notSt f && chk wd N sc a e && chk wd N sc b f && isTupE t
  | _, _, _ => false
end

structure Fx (g : G) (wd : Wd) (k : Nat) : Prop where
  fn : ∀ f, FnG g.P g.w g.K g.mg g.base (L2.CX g.P g.w) k (g.fa f) (g.fd f) (g.ps f) (spOf g (g.ps f).length (wd.phi f))
  fnl : ∀ f, FnG g.P g.w g.K g.mg g.base (L2.CX g.P g.w) k (g.fa f) (g.fd f) (g.ps f) (spOfL g (g.ps f).length (wd.phl f))
  nm : ∀ f x, wd.fnm f = some x → g.mg x = some (.ref (g.fa f)) ∧ PySem.W.keepIn g.K (.ref (g.fa f)) = true
  pat : ∀ f p n ks pm, wd.pat f p = some (n, ks, pm) → (∀ x, Src.d x ∈ pm → (flatV? x).isSome = true) ∧ pm.length = (g.ps f).length ∧ ∃ gg, KBn g.K (g.fd f) (g.ps f) n ks gg fun vs zs => srcV vs zs pm
  npar : ∀ f, wd.npar f = (g.ps f).length
  gd : ∀ x d, wd.gd x = some d → ∃ u v, g.mg x = some u ∧ RelV v u ∧ ∀ F, Rep g F d v
  bi : ∀ b : Bi, g.mg b.name = none
  bx : g.mg "range" = none ∧ g.mg "enumerate" = none ∧ g.mg "zip" = none ∧ g.mg "isinstance" = none
  br : g.mg "repr" = none
  bt : g.mg "int" = none ∧ g.mg "str" = none ∧ g.mg "bool" = none ∧ g.mg "tuple" = none ∧ g.mg "list" = none
  cnm : ∀ c x, wd.cnm c = some x → g.mg x = some (.ref (g.ca c))
  mk_ : ∀ c f, wd.init c = some f → Mk g.K (g.ca c) (g.fa f)
  fld : ∀ c f, wd.fldk c f = true → Cls g.K (g.ca c) ∧ NoAttr g.K (g.ca c) f
  meth : ∀ c m f, wd.meth c m = some f → Cls g.K (g.ca c) ∧ Meth g.K (g.ca c) m (g.fa f) ∧ Binds g.K (g.fd f) (g.ps f) []
  sup : ∀ d c m f, wd.sup d c m = some f → PySem.W.mroIn g.K (g.ca c) (.ref (g.ca d)) = some true ∧ PySem.W.ks_superIn g.K (g.ca c) (g.ca d) m = some (some (.ref (g.fa f))) ∧ PySem.W.typeIn g.K (.ref (g.fa f)) = some (.type "function") ∧ PySem.W.fnIn g.K (g.fa f) = true ∧ Binds g.K (g.fd f) (g.ps f) []
  prop : ∀ c m f, wd.prop c m = some f → Cls g.K (g.ca c) ∧ (∃ p, PropOf g.K (g.ca c) m p (g.fa f)) ∧ (g.ps f).length = 1 ∧ Binds g.K (g.fd f) (g.ps f) []
  kit : ∀ t u b, wd.kit t u = some b → PySem.W.kitOne g.K (tyVal g t) (tyVal g u) = some b
  kitc : ∀ c u b, wd.kit (.c c) u = some b → Cls g.K (g.ca c) ∧ PySem.W.findIn g.K (.ref (g.ca c)) "__class__" = some (some (.builtin "object.__class__")) ∧
    PySem.W.specialIn g.K (.builtin "object.__class__") "__get__" = some (some (.builtin "getset_descriptor.__get__")) ∧ PySem.W.takesIn g.K (.builtin "object.__class__") = some true ∧ PySem.W.mroIn g.K (g.ca c) (.type "object") = some true
  kitx : ∀ c u b, wd.kit (.x c) u = some b → ExcC g.K (g.ca c)
  exk : ∀ c x p, wd.exk c = some (x, p) → p = g.efld c ∧ g.mg x = some (.ref (g.ca c)) ∧ PySem.W.keepIn g.K (.ref (g.ca c)) = true ∧ MkX g.P g.w g.K g.mg (g.ca c) p ∧ PySem.W.typeIn g.K (.ref (g.ca c)) = some (.type "type") ∧ ExcC g.K (g.ca c) ∧ PySem.W.findIn g.K (.ref (g.ca c)) p = some none
  lams : wd.lams = g.lams
  oeq : ∀ c t f, wd.oeq c t = some f → PySem.W.findIn g.K (.ref (g.ca c)) "__eq__" = some (some (.ref (g.fa f))) ∧ PySem.W.isFn g.K (.ref (g.fa f)) = true ∧ Binds g.K (g.fd f) (g.ps f) [] ∧ (g.ps f).length = 2 ∧ PySem.W.notFirst g.K (g.ca c) (tyVal g t) = true
  one : ∀ c t f, wd.one c t = some f → (PySem.W.findIn g.K (.ref (g.ca c)) "__eq__" = some (some (.ref (g.fa f))) ∧ PySem.W.isFn g.K (.ref (g.fa f)) = true ∧ Binds g.K (g.fd f) (g.ps f) [] ∧ (g.ps f).length = 2 ∧ PySem.W.notFirst g.K (g.ca c) (tyVal g t) = true) ∧ PySem.W.findIn g.K (.ref (g.ca c)) "__ne__" = some (some (.builtin "object.__ne__")) ∧ PySem.W.subIn g.K (.ref (g.ca c)) (.type "object") = some true
  oin : ∀ c f, wd.oin c = some f → PySem.W.findIn g.K (.ref (g.ca c)) "__contains__" = some (some (.ref (g.fa f))) ∧ PySem.W.isFn g.K (.ref (g.fa f)) = true ∧ Binds g.K (g.fd f) (g.ps f) [] ∧ (g.ps f).length = 2
  exm : ∀ ks c b, wd.exm ks c = some b → PySem.W.exmAny g.K (.ref (g.ca c)) (ks.map fun k => .ref (g.ca k)) = some b
  fnd : ∀ f, FnD g g.P g.w g.K g.mg g.base (k + 1) f (wd.phd f)
  lamk : (∃ kk, kk + 3 = k) ∨ ∀ f th cs, wd.phd f th cs = .bad
  lamr : ∀ {t : E} {N : List Str} {scope : Scope} {body : Expr} {X : Cx} {Wx : WX} {kk : Nat}, kk + 3 = k → chk wd N scope t body = true → Okx g N scope false kk X Wx → PE X body (tE g Wx fun fr cs => (wd.phc t fr cs).map W.d)

/-! ### side conditions -/
theorem star_of {e : Expr} {es : List Expr} {env : Env} (h : notSt e = true) : starEach (e :: es) env = (false, eval e env) :: starEach es env := by
  cases e <;> first | rfl | cases h
theorem base_of {o : Expr} {a : Str} {env : Env} {w : Sem Value} (h : notSup o = true) : attributeBase o a env w = w := by
  unfold attributeBase
  split
  · cases h
  · rfl
theorem fold_of {e : Expr} {env : Env} (h : notSet e = true) (x : Value) : foldedSetIterable e env x = pure x := by
  cases e <;> first | rfl | cases h
theorem mark_of {e : Expr} {o : CmpOp} (h : notSet e = true) : behindInMarks o e = false := by
  cases e <;> first | rfl | cases h
theorem vis_of {sc : Scope} {x : Str} (h : visB sc x = true) : Vis sc x := by
  unfold visB at h
  split at h
  · exact .inl (by assumption)
  · exact .inr (.inl (by assumption))
  · exact .inr (.inr (by assumption))
  · cases h
theorem chk_set {wd : Ws} {N : List Str} {sc : Scope} {e : E} {a b c} : chk wd N sc e (.Set a b c) = false := by
  cases e <;> first | rfl | (rename_i d; cases d <;> rfl) | (unfold chk; rfl) | (unfold chk; split <;> simp_all)
theorem chk_star {wd : Ws} {N : List Str} {sc : Scope} {e : E} {a b} : chk wd N sc e (.Starred a b) = false := by
  cases e <;> first | rfl | (rename_i d; cases d <;> rfl) | (unfold chk; rfl) | (unfold chk; split <;> simp_all)
theorem chk_notSet {wd : Ws} {N : List Str} {sc : Scope} {e : E} {x : Expr} (h : chk wd N sc e x = true) : notSet x = true := by
  cases x <;> first | rfl | (rw [chk_set] at h; cases h)
theorem chk_notSt {wd : Ws} {N : List Str} {sc : Scope} {e : E} {x : Expr} (h : chk wd N sc e x = true) : notSt x = true := by
  cases x <;> first | rfl | (rw [chk_star] at h; cases h)
end BV

namespace BV
open PySem L2

theorem PE.eqf {g : G} {Wx : WX} {X : Cx} {ex : Expr} {f f' : Fra → Cells → R W} (e : ∀ fr cs, f fr cs = f' fr cs) (h : PE X ex (tE g Wx f)) : PE X ex (tE g Wx f') := by
  have : f = f' := funext fun a => funext fun b => e a b
  rw [← this]
  exact h
theorem PT.eqf {g : G} {Wx : WX} {X : Cx} {ex : Expr} {f f' : Fra → Cells → R Bool} (e : ∀ fr cs, f fr cs = f' fr cs) (h : PT X ex (tT g Wx f)) : PT X ex (tT g Wx f') := by
  have : f = f' := funext fun a => funext fun b => e a b
  rw [← this]
  exact h
theorem PA.eqf {g : G} {Wx : WX} {X : Cx} {ex : List Expr} {f f' : Fra → Cells → R (List W)} (e : ∀ fr cs, f fr cs = f' fr cs) (h : PA X ex (tA g Wx f)) : PA X ex (tA g Wx f') := by
  have : f = f' := funext fun a => funext fun b => e a b
  rw [← this]
  exact h
/-- a bool's value as a test -/
theorem asB_post {g : G} {ra : Ra} {H : Hp} {Q : Bool → Hp → Prop} {E : XK} {r : R W} (h : PostR g (fun _ (a b : Bool) => a = b) (asB r) ra H Q E) : PostR g (rpW g ra) r ra H (fun x H' => ∃ k, x = .bl k ∧ Q k H') E := by
  refine PostR.imp (PostR.bind (rp := rpW g ra) h) ?_
  rintro x H1 ⟨w1, c1, k1, R1, r1, p1⟩
  split at p1
  · cases r1
    exact ⟨_, rfl, p1 H1 _ (Keep.refl _ _) R1 rfl⟩
  · exact p1.elim
theorem c_test {g : G} {Wx : WX} {X : Cx} {ex : Expr} {f : Fra → Cells → R W} (h : PE X ex (tE g Wx f)) (he : ∀ whole, isTrue ex X.env whole = (do let v ← whole; standAt ex.pos; holding [v] (truthy v))) : PT X ex (tT g Wx fun fr cs => asB (f fr cs)) :=
  PT.imp (pt_val h he) fun σ H Q ⟨fr, cs, ra, R, F, p⟩ => ⟨fr, cs, ra, R, F, asB_post p⟩
section
variable {g : G} {wd : Wd} {N : List Str} {sc : Scope} {ac : Bool} {k : Nat} {X : Cx} {Wx : WX} {fa fb fc : Fra → Cells → R W} {fl fm : Fra → Cells → R (List W)} {l r e : Expr} {es : List Expr} {p : Pos}
theorem c_var (ok : Okx g N sc ac k X Wx) {i : Nat} {x : Str} (h1 : N[i]? = some x) (h2 : visB sc x = true) (h3 : nodbg x = true) : PE X (.Name x p) (tE g Wx fun fr cs => match fr[i]? with
    | some (some w) => .ok w cs
    | _ => .bad) := by
  unfold nodbg at h3
  simp only [Bool.and_eq_true, Bool.not_eq_true'] at h3
  refine PE.imp (pe_var (i := i) (by rw [ok.hN]; exact h1) (by rw [ok.sc]; exact vis_of h2) h3.1 h3.2) fun σ H Q h => ?_
  obtain ⟨fr, cs, ra, R, F, q⟩ := h
  dsimp only at q
  split at q
  · rename_i w e
    obtain ⟨v, e1, r1⟩ := F.2 i w e
    exact ⟨v, e1, q H v (Keep.refl _ _) R r1⟩
  · exact q.elim
theorem c_dct0 {pos : Pos} : PE X (.Dict [] [] pos) (tE g Wx fun _ cs => .ok (.d (.dct [])) cs) := PE.imp pe_dnewK fun σ H Q h => by
  obtain ⟨fr, cs, ra, R, F, p⟩ := h
  intro a ha
  obtain ⟨k, R', e⟩ := R.new (o := .dK []) ha
  exact p _ _ k R' (.dct (vs := []) e .nil)
theorem c_cst {d : D} {v : V} (hr : ∀ F, Rep g F d v) (h : PE X e (tC v)) : PE X e (tE g Wx fun _ cs => .ok (.d d) cs) := PE.imp h fun σ H Q h => by
  obtain ⟨fr, cs, ra, R, F, q⟩ := h
  exact q H v (Keep.refl _ _) R (hr _)
theorem c_op {o : Operator} (ok : Okx g N sc ac k X Wx) (ha : PE X l (tE g Wx fa)) (hb : PE X r (tE g Wx fb)) : PE X (.BinOp l o r p) (tE g Wx fun fr cs => (fa fr cs).bind fun w1 c1 => (fb fr c1).bind fun w2 c2 => wOp o w1 w2 c2) :=
  PE.imp (pe_op (op_all o) ha hb) fun σ H Q h => tE_bin (fun R r1 r2 h => by rw [ok.K]; exact wOp_ok R r1 r2 h) h
theorem Okx.units (ok : Okx g N sc ac k X Wx) : X.A.units + 65 < cLine := by
  have := ok.hr.un
  omega
theorem c_cmp {o : CmpOp} (ok : Okx g N sc ac k X Wx) (ha : PE X l (tE g Wx fa)) (hb : PE X r (tE g Wx fb)) (hs : notSet r = true) : PE X (.Compare l [o] [r] p) (tE g Wx fun fr cs => (fa fr cs).bind fun w1 c1 => (fb fr c1).bind fun w2 c2 => wCmp o w1 w2 c2) :=
  PE.imp (pe_cmpR (op_cmp ok.units o) ha hb (mark_of hs)) fun σ H Q h => tE_bin (fun R r1 r2 h => by rw [ok.K]; exact wCmp_ok R r1 r2 h) h
/-- a value that is a bool -/
theorem tT_bin {op : W → W → Cells → R W} {r : R2}
    (hop : ∀ {w1 w2 : W} {cs : Cells} {ra : Ra} {H : Hp} {Q : VK} {E : XK} {v1 v2 : V}, Rel g ra cs H → RepW g (frz H ra) ra w1 v1 → RepW g (frz H ra) ra w2 v2 → PostR g (rpW g ra) (op w1 w2 cs) ra H Q E → r v1 v2 H Q)
    {σ : L2.St} {H : Hp} {Q : Bool → Hp → Prop} (h : tT g Wx (fun fr cs => asB ((fa fr cs).bind fun w1 c1 => (fb fr c1).bind fun w2 c2 => op w1 w2 c2)) σ H Q) : tTest (tOp r (tE g Wx fa) (tE g Wx fb)) σ H Q := by
  obtain ⟨fr, cs, ra, R, F, q⟩ := h
  exact tE_bin hop ⟨fr, cs, ra, R, F, asB_post q⟩
theorem c_cmpT {o : CmpOp} (ok : Okx g N sc ac k X Wx) (ha : PE X l (tE g Wx fa)) (hb : PE X r (tE g Wx fb)) (hs : notSet r = true) : PT X (.Compare l [o] [r] p) (tT g Wx fun fr cs => asB ((fa fr cs).bind fun w1 c1 => (fb fr c1).bind fun w2 c2 => wCmp o w1 w2 c2)) :=
  PT.imp (pt_cmpR (op_cmp ok.units o) ha hb (mark_of hs)) fun σ H Q h => tT_bin (fun R r1 r2 h => by rw [ok.K]; exact wCmp_ok R r1 r2 h) h
theorem chain_post {o o2 : CmpOp} {σ : L2.St} {H : Hp} {Q : VK} (K : X.K = g.K) (h : tE g Wx (fun fr cs => (fa fr cs).bind fun w1 c1 => (fb fr c1).bind fun w2 c2 => (asB (wCmp o w1 w2 c2)).bind fun t c3 => if t then (fc fr c3).bind fun w3 c4 => wCmp o2 w2 w3 c4 else .ok (.d (.bl false)) c3) σ H Q) :
    tChain (rCmp X.K o) (rCmp X.K o2) (tE g Wx fa) (tE g Wx fb) (tE g Wx fc) σ H Q := by
  obtain ⟨fr, cs, ra, R, F, q⟩ := h
  rw [K]
  refine ⟨fr, cs, ra, R, F, PostR.imp (PostR.bind (rp := rpW g ra) q) ?_⟩
  rintro x H1 ⟨w1, c1, k1, R1, r1, p1⟩
  refine ⟨fr, c1, ra, R1, F.mono k1, PostR.imp (PostR.bind (rp := rpW g ra) p1) ?_⟩
  rintro y H2 ⟨w2, c2, k2, R2, r2, p2⟩
  refine wCmp_ok R2 (r1.mono k2.same) r2 (PostR.imp (asB_post (PostR.bind (rp := fun _ (a b : Bool) => a = b) p2)) ?_)
  rintro z H3 ⟨t, rfl, t', c3, k3, R3, rfl, p3⟩
  refine ⟨t', rfl, ?_⟩
  cases t' with
  | false => exact p3 H3 _ (Keep.refl _ _) R3 (.bl _)
  | true =>
    rw [if_pos rfl] at p3 ⊢
    refine ⟨fr, c3, ra, R3, (F.mono k1).mono (k2.trans k3), PostR.imp (PostR.bind (rp := rpW g ra) p3) ?_⟩
    rintro u H4 ⟨w3, c4, k4, R4, r4, p4⟩
    exact wCmp_ok R4 (r2.mono (k3.trans k4).same) r4 p4
theorem last_of {o o2 : CmpOp} {b c : Expr} (h : notSet c = true) : lastMarks [o, o2] [b, c] = false := by
  show behindInMarks o2 c = false
  exact mark_of h
theorem c_chain {o o2 : CmpOp} {e2 : Expr} (ok : Okx g N sc ac k X Wx) (ha : PE X l (tE g Wx fa)) (hb : PE X r (tE g Wx fb)) (hc : PE X e2 (tE g Wx fc)) (hs : notSet e2 = true) :
    PE X (.Compare l [o, o2] [r, e2] p) (tE g Wx fun fr cs => (fa fr cs).bind fun w1 c1 => (fb fr c1).bind fun w2 c2 => (asB (wCmp o w1 w2 c2)).bind fun t c3 => if t then (fc fr c3).bind fun w3 c4 => wCmp o2 w2 w3 c4 else .ok (.d (.bl false)) c3) :=
  PE.imp (pe_chain (op_cmp ok.units o) (op_cmp ok.units o2) ha hb hc (last_of hs)) fun σ H Q h => chain_post ok.K h
theorem c_chainT {o o2 : CmpOp} {e2 : Expr} (ok : Okx g N sc ac k X Wx) (ha : PE X l (tE g Wx fa)) (hb : PE X r (tE g Wx fb)) (hc : PE X e2 (tE g Wx fc)) (hs : notSet e2 = true) :
    PT X (.Compare l [o, o2] [r, e2] p) (tT g Wx fun fr cs => asB ((fa fr cs).bind fun w1 c1 => (fb fr c1).bind fun w2 c2 => (asB (wCmp o w1 w2 c2)).bind fun t c3 => if t then (fc fr c3).bind fun w3 c4 => wCmp o2 w2 w3 c4 else .ok (.d (.bl false)) c3)) :=
  PT.imp (pt_chain (op_cmp ok.units o) (op_cmp ok.units o2) ha hb hc (last_of hs)) fun σ H Q ⟨fr, cs, ra, R, F, q⟩ => chain_post ok.K ⟨fr, cs, ra, R, F, asB_post q⟩
theorem c_notT {fb : Fra → Cells → R Bool} (h : PT X e (tT g Wx fb)) : PT X (.UnaryOp .Not e p) (tT g Wx fun fr cs => asB ((fb fr cs).bind fun b c1 => .ok (.d (.bl (!b))) c1)) := PT.imp (pt_not h) fun σ H Q ⟨fr, cs, ra, R, F, q⟩ => by
  refine ⟨fr, cs, ra, R, F, PostR.imp (PostR.bind (rp := fun _ (a b : Bool) => a = b) (asB_post q)) ?_⟩
  rintro b H1 ⟨b', c1, k1, R1, rfl, p1⟩
  obtain ⟨z, e1, q1⟩ := p1 H1 _ (Keep.refl _ _) R1 (.bl _)
  cases e1
  exact q1
theorem c_not (h : PE X e (tE g Wx fa)) : PE X (.UnaryOp .Not e p) (tE g Wx fun fr cs => (asB (fa fr cs)).bind fun b c1 => .ok (.d (.bl (!b))) c1) := PE.imp (pe_not h) fun σ H Q ⟨fr, cs, ra, R, F, q⟩ => by
  refine ⟨fr, cs, ra, R, F, PostR.imp (asB_post (PostR.bind (rp := fun _ (a b : Bool) => a = b) q)) ?_⟩
  rintro x H1 ⟨b, rfl, b', c1, k1, R1, rfl, p1⟩
  exact ⟨_, rfl, p1 H1 _ (Keep.refl _ _) R1 (.bl _)⟩
theorem c_ife {ft : Fra → Cells → R Bool} {c : Expr} (ht : PT X c (tT g Wx ft)) (ha : PE X l (tE g Wx fa)) (hb : PE X r (tE g Wx fb)) : PE X (.IfExp c l r p) (tE g Wx fun fr cs => (ft fr cs).bind fun x c1 => if x then fa fr c1 else fb fr c1) := PE.imp (pe_ifExp ht ha hb) fun σ H Q ⟨fr, cs, ra, R, F, q⟩ => by
  refine ⟨fr, cs, ra, R, F, PostR.imp (PostR.bind (rp := fun _ (a b : Bool) => a = b) q) ?_⟩
  rintro b H1 ⟨b', c1, k1, R1, rfl, p1⟩
  cases b' with
  | true => exact ⟨fr, c1, ra, R1, F.mono k1, p1⟩
  | false => exact ⟨fr, c1, ra, R1, F.mono k1, p1⟩
/-! and, or -/
def fAnd (f : Fra → Cells → R W) (rest : Fra → Cells → R W) : Fra → Cells → R W := fun fr cs => (asB (f fr cs)).bind fun b c1 => if b then rest fr c1 else .ok (.d (.bl false)) c1
def fOr (f : Fra → Cells → R W) (rest : Fra → Cells → R W) : Fra → Cells → R W := fun fr cs => (asB (f fr cs)).bind fun b c1 => if b then .ok (.d (.bl true)) c1 else rest fr c1
def fTrue : Fra → Cells → R W := fun _ cs => .ok (.d (.bl true)) cs
def fFalse : Fra → Cells → R W := fun _ cs => .ok (.d (.bl false)) cs
theorem c_and1 (h : PE X e (tE g Wx fa)) : PE X (.BoolOp .And [e] p) (tE g Wx (fAnd fa fTrue)) := PE.imp (pe_one h) fun σ H Q ⟨fr, cs, ra, R, F, q⟩ => by
  refine ⟨fr, cs, ra, R, F, PostR.imp (asB_post (PostR.bind (rp := fun _ (a b : Bool) => a = b) q)) ?_⟩
  rintro x H1 ⟨b, rfl, b', c1, k1, R1, rfl, p1⟩
  cases b' with
  | true => exact p1 H1 _ (Keep.refl _ _) R1 (.bl _)
  | false => exact p1 H1 _ (Keep.refl _ _) R1 (.bl _)
theorem c_or1 (h : PE X e (tE g Wx fa)) : PE X (.BoolOp .Or [e] p) (tE g Wx (fOr fa fFalse)) := PE.imp (pe_one h) fun σ H Q ⟨fr, cs, ra, R, F, q⟩ => by
  refine ⟨fr, cs, ra, R, F, PostR.imp (asB_post (PostR.bind (rp := fun _ (a b : Bool) => a = b) q)) ?_⟩
  rintro x H1 ⟨b, rfl, b', c1, k1, R1, rfl, p1⟩
  cases b' with
  | true => exact p1 H1 _ (Keep.refl _ _) R1 (.bl _)
  | false => exact p1 H1 _ (Keep.refl _ _) R1 (.bl _)
theorem c_and {e2 : Expr} (h : PE X e (tE g Wx fa)) (h2 : PE X (.BoolOp .And (e2 :: es) p) (tE g Wx fb)) : PE X (.BoolOp .And (e :: e2 :: es) p) (tE g Wx (fAnd fa fb)) := PE.imp (pe_and h h2) fun σ H Q ⟨fr, cs, ra, R, F, q⟩ => by
  refine ⟨fr, cs, ra, R, F, PostR.imp (asB_post (PostR.bind (rp := fun _ (a b : Bool) => a = b) q)) ?_⟩
  rintro x H1 ⟨b, rfl, b', c1, k1, R1, rfl, p1⟩
  refine ⟨b', rfl, ?_⟩
  cases b' with
  | true => exact ⟨fr, c1, ra, R1, F.mono k1, p1⟩
  | false => exact p1 H1 _ (Keep.refl _ _) R1 (.bl _)
theorem c_or {e2 : Expr} (h : PE X e (tE g Wx fa)) (h2 : PE X (.BoolOp .Or (e2 :: es) p) (tE g Wx fb)) : PE X (.BoolOp .Or (e :: e2 :: es) p) (tE g Wx (fOr fa fb)) := PE.imp (pe_or h h2) fun σ H Q ⟨fr, cs, ra, R, F, q⟩ => by
  refine ⟨fr, cs, ra, R, F, PostR.imp (asB_post (PostR.bind (rp := fun _ (a b : Bool) => a = b) q)) ?_⟩
  rintro x H1 ⟨b, rfl, b', c1, k1, R1, rfl, p1⟩
  refine ⟨b', rfl, ?_⟩
  cases b' with
  | true => exact p1 H1 _ (Keep.refl _ _) R1 (.bl _)
  | false => exact ⟨fr, c1, ra, R1, F.mono k1, p1⟩
theorem c_and1T (h : PT X e (tT g Wx fun fr cs => asB (fa fr cs))) : PW X (.BoolOp .And [e] p) (tT g Wx fun fr cs => asB (fAnd fa fTrue fr cs)) := PW.imp (pw_and1 h) fun σ H Q ⟨fr, cs, ra, R, F, q⟩ => by
  refine ⟨fr, cs, ra, R, F, PostR.imp (PostR.bind (rp := fun _ (a b : Bool) => a = b) (asB_post q)) ?_⟩
  rintro b H1 ⟨b', c1, k1, R1, rfl, p1⟩
  cases b' with
  | true => obtain ⟨z, e1, q1⟩ := p1 H1 _ (Keep.refl _ _) R1 (.bl _); cases e1; exact q1
  | false => obtain ⟨z, e1, q1⟩ := p1 H1 _ (Keep.refl _ _) R1 (.bl _); cases e1; exact q1
theorem c_or1T (h : PT X e (tT g Wx fun fr cs => asB (fa fr cs))) : PW X (.BoolOp .Or [e] p) (tT g Wx fun fr cs => asB (fOr fa fFalse fr cs)) := PW.imp (pw_or1 h) fun σ H Q ⟨fr, cs, ra, R, F, q⟩ => by
  refine ⟨fr, cs, ra, R, F, PostR.imp (PostR.bind (rp := fun _ (a b : Bool) => a = b) (asB_post q)) ?_⟩
  rintro b H1 ⟨b', c1, k1, R1, rfl, p1⟩
  cases b' with
  | true => obtain ⟨z, e1, q1⟩ := p1 H1 _ (Keep.refl _ _) R1 (.bl _); cases e1; exact q1
  | false => obtain ⟨z, e1, q1⟩ := p1 H1 _ (Keep.refl _ _) R1 (.bl _); cases e1; exact q1
theorem asB_bind {α : Type} {r : R α} {k : α → Cells → R W} : asB (r.bind k) = r.bind fun a c => asB (k a c) := by
  cases r <;> rfl
theorem c_andT {e2 : Expr} (h : PT X e (tT g Wx fun fr cs => asB (fa fr cs))) (h2 : PW X (.BoolOp .And (e2 :: es) p) (tT g Wx fun fr cs => asB (fb fr cs))) : PW X (.BoolOp .And (e :: e2 :: es) p) (tT g Wx fun fr cs => asB (fAnd fa fb fr cs)) := PW.imp (pw_and h h2) fun σ H Q ⟨fr, cs, ra, R, F, q⟩ => by
  unfold fAnd at q
  dsimp only at q
  rw [asB_bind] at q
  refine ⟨fr, cs, ra, R, F, PostR.imp (PostR.bind (rp := fun _ (a b : Bool) => a = b) q) ?_⟩
  rintro b H1 ⟨b', c1, k1, R1, rfl, p1⟩
  cases b' with
  | true => exact ⟨fr, c1, ra, R1, F.mono k1, p1⟩
  | false => exact p1 H1 _ (Keep.refl _ _) R1 rfl
theorem c_orT {e2 : Expr} (h : PT X e (tT g Wx fun fr cs => asB (fa fr cs))) (h2 : PW X (.BoolOp .Or (e2 :: es) p) (tT g Wx fun fr cs => asB (fb fr cs))) : PW X (.BoolOp .Or (e :: e2 :: es) p) (tT g Wx fun fr cs => asB (fOr fa fb fr cs)) := PW.imp (pw_or h h2) fun σ H Q ⟨fr, cs, ra, R, F, q⟩ => by
  unfold fOr at q
  dsimp only at q
  rw [asB_bind] at q
  refine ⟨fr, cs, ra, R, F, PostR.imp (PostR.bind (rp := fun _ (a b : Bool) => a = b) q) ?_⟩
  rintro b H1 ⟨b', c1, k1, R1, rfl, p1⟩
  cases b' with
  | true => exact p1 H1 _ (Keep.refl _ _) R1 rfl
  | false => exact ⟨fr, c1, ra, R1, F.mono k1, p1⟩
/-! displays, subscripts, slices -/
theorem c_tup {k2 : Nat} (h : PA X es (tA g Wx fl)) : PE X (.Tuple es k2 p) (tE g Wx fun fr cs => (fl fr cs).bind tupW) := PE.imp (pe_tup h) fun σ H Q ⟨fr, cs, ra, R, F, q⟩ => by
  refine ⟨fr, cs, ra, R, F, PostR.imp (PostR.bind (rp := rpA g ra) q) ?_⟩
  rintro vs H1 ⟨ws, c1, k1, R1, r1, p1⟩
  unfold tupW at p1
  split at p1
  · rename_i ds e
    split at p1
    · rename_i hl
      have r2 := r1.pure e
      exact ⟨by rw [line_lit, ← r2.length]; exact hl, new_tup R1 r2 p1⟩
    · exact p1.elim
  · exact p1.elim
theorem c_lst (h : PA X es (tA g Wx fl)) : PE X (.List es p) (tE g Wx fun fr cs => (fl fr cs).bind lstW) := PE.imp (pe_lst h) fun σ H Q ⟨fr, cs, ra, R, F, q⟩ => by
  refine ⟨fr, cs, ra, R, F, PostR.imp (PostR.bind (rp := rpA g ra) q) ?_⟩
  rintro vs H1 ⟨ws, c1, k1, R1, r1, p1⟩
  unfold lstW at p1
  split at p1
  · rename_i ds e
    split at p1
    · rename_i hl
      have r2 := r1.pure e
      exact ⟨by rw [line_lit, ← r2.length]; exact hl, new_lst R1 r2 p1⟩
    · exact p1.elim
  · exact p1.elim
theorem plain_ix {b : Expr} (h : notSliceB b = true) : PlainIx b := by
  intro o i
  cases b <;> first | rfl | cases h
theorem c_ix (ok : Okx g N sc ac k X Wx) (ha : PE X l (tE g Wx fa)) (hb : PE X r (tE g Wx fb)) (hs : notSliceB r = true) : PE X (.Subscript l r p) (tE g Wx fun fr cs => (fa fr cs).bind fun w1 c1 => (fb fr c1).bind fun w2 c2 => wIx w1 w2 c2) :=
  PE.imp (pe_ix ix_seq ha hb (plain_ix hs)) fun σ H Q h => tE_bin (fun R r1 r2 h => by rw [ok.K]; exact wIx_ok R r1 r2 h) h
def tO (g : G) (Wx : WX) (f : Fra → Cells → R (Option Int)) : TO := fun σ H Q => ∃ fr cs ra, Rel g ra cs H ∧ FrR g H ra fr σ ∧ PostR g (fun _ (a b : Option Int) => a = b) (f fr cs) ra H Q (fun c d H' => Wx c d σ H')
theorem PO.imp {X : Cx} {e : Option Expr} {t t' : TO} (h : PO X e t) (i : ∀ σ H Q, t' σ H Q → t σ H Q) : PO X e t' := ⟨fun pins s σ H Q I q => h.run pins s σ H Q I (i σ H Q q)⟩
theorem c_onone : PO X none (tO g Wx fun _ cs => .ok none cs) := PO.imp po_none fun σ H Q ⟨fr, cs, ra, R, F, q⟩ => q H none (Keep.refl _ _) R rfl
theorem asI_post {ra : Ra} {H : Hp} {Q : Int → Hp → Prop} {E : XK} {r : R W} (h : PostR g (fun _ (a b : Int) => a = b) (asI r) ra H Q E) : PostR g (rpW g ra) r ra H (fun x H' => ∃ i, x = .int i ∧ Q i H') E := by
  refine PostR.imp (PostR.bind (rp := rpW g ra) h) ?_
  rintro x H1 ⟨w1, c1, k1, R1, r1, p1⟩
  split at p1
  · cases r1
    exact ⟨_, rfl, p1 H1 _ (Keep.refl _ _) R1 rfl⟩
  · exact p1.elim
theorem c_osome (h : PE X e (tE g Wx fa)) : PO X (some e) (tO g Wx fun fr cs => (asI (fa fr cs)).bind fun i c1 => .ok (some i) c1) := PO.imp (po_some h) fun σ H Q ⟨fr, cs, ra, R, F, q⟩ => by
  refine ⟨fr, cs, ra, R, F, PostR.imp (asI_post (PostR.bind (rp := fun _ (a b : Int) => a = b) q)) ?_⟩
  rintro x H1 ⟨i, rfl, i', c1, k1, R1, rfl, p1⟩
  exact ⟨_, rfl, p1 H1 _ (Keep.refl _ _) R1 rfl⟩
theorem c_sl {lo hi : Option Expr} {p2 : Pos} {fo fh : Fra → Cells → R (Option Int)} (ok : Okx g N sc ac k X Wx) (ha : PE X l (tE g Wx fa)) (h1 : PO X lo (tO g Wx fo)) (h2 : PO X hi (tO g Wx fh)) :
    PE X (.Subscript l (.Slice lo hi none p2) p) (tE g Wx fun fr cs => (fa fr cs).bind fun w1 c1 => (fo fr c1).bind fun lv c2 => (fh fr c2).bind fun hv c3 => wSl w1 lv hv c3) := PE.imp (pe_slice sl_all ha h1 h2) fun σ H Q ⟨fr, cs, ra, R, F, q⟩ => by
  refine ⟨fr, cs, ra, R, F, PostR.imp (PostR.bind (rp := rpW g ra) q) ?_⟩
  rintro x H1 ⟨w1, c1, k1, R1, r1, p1⟩
  refine ⟨fr, c1, ra, R1, F.mono k1, PostR.imp (PostR.bind (rp := fun _ (a b : Option Int) => a = b) p1) ?_⟩
  rintro lv H2 ⟨lv', c2, k2, R2, rfl, p2⟩
  refine ⟨fr, c2, ra, R2, (F.mono k1).mono k2, PostR.imp (PostR.bind (rp := fun _ (a b : Option Int) => a = b) p2) ?_⟩
  rintro hv H3 ⟨hv', c3, k3, R3, rfl, p3⟩
  rw [ok.K]
  exact wSl_ok R3 (r1.mono (k2.trans k3).same) p3
/-! built-ins -/
theorem gl_of (ok : Okx g N sc ac k X Wx) {x : Str} (h : glB sc x = true) : Gl X x := by
  unfold glB at h
  show X.env.scope.names.lookup x = _
  rw [ok.sc]
  exact of_decide_eq_true h
theorem nostar_any : ∀ {es : List Expr} {env : Env} {pos : Pos}, (∀ e ∈ es, notSt e = true) → (backTo pos (starEach es env)).any (·.1) = false ∧ (backTo pos (starEach es env)).all (fun x => !x.1) = true
  | [], _, _, _ => ⟨rfl, rfl⟩
  | e :: es, env, pos, h => by
    rw [star_of (h e (List.mem_cons_self ..))]
    obtain ⟨h1, h2⟩ := nostar_any (env := env) (pos := pos) fun e' he => h e' (List.mem_cons_of_mem _ he)
    exact ⟨h1, h2⟩
theorem ne_name {b : Bi} : b.name ≠ "__name__" ∧ (b.name == ("__debug__" : Str)) = false := by cases b <;> exact ⟨by decide +kernel, by decide +kernel⟩
theorem c_bi (ok : Okx g N sc ac k X Wx) (F : Fx g wd k) {b : Bi} {pn : Pos} (hg : glB sc b.name = true) (hs : ∀ x ∈ e :: es, notSt x = true) (h : PA X (e :: es) (tA g Wx fl)) :
    PE X (.Call (.Name b.name pn) (e :: es) [] p) (tE g Wx fun fr cs => (fl fr cs).bind fun ws c1 => wBi b ws c1) := by
  have hm : X.mg b.name = none := by rw [ok.mg]; exact F.bi b
  have go : ∀ σ H Q, tE g Wx (fun fr cs => (fl fr cs).bind fun ws c1 => wBi b ws c1) σ H Q → tCB (rBi X.K b) (tA g Wx fl) σ H Q := fun σ H Q h => tE_call (fun R r h => by rw [ok.K]; exact wBi_ok R r h) h
  have hst := star_of (es := es) (env := X.env) (hs e (List.mem_cons_self ..))
  have hpl := (nostar_any (env := X.env) (pos := p) fun x hx => hs x (List.mem_cons_of_mem _ hx)).1
  have rule := bi_rule ok.calm b
  have boot := b.boot
  cases hb : b.val with
  | builtin id =>
    rw [hb] at rule boot
    exact PE.imp (pe_callB rule (gl_of ok hg) hm boot h ne_name.1 ne_name.2 hst hpl) go
  | type T =>
    rw [hb] at rule boot
    exact PE.imp (pe_callTy rule (gl_of ok hg) hm boot h ne_name.1 ne_name.2 hst hpl) go
  | _ => exact absurd hb (by cases b <;> simp [Bi.val])
theorem wTy_ok {m : Bm} {w : W} {cs : Cells} {ra : Ra} {H : Hp} {v : V} (R : Rel g ra cs H) (r : RepW g (frz H ra) ra w v) (h : wTy m w cs = true) : tyV g.K m.ty v H := by
  have hl : (dl cs w).isSome = true → tyV g.K "list" v H := fun h => by
    obtain ⟨xs, e⟩ := Option.isSome_iff_exists.mp h
    obtain ⟨a, us, rfl, h1, _⟩ := dl_ok R r e
    exact .inl ⟨rfl, us, h1⟩
  have hs : ∀ {m : Bm}, m = .join ∨ m = .partition → wTy m w cs = true → tyV g.K "str" v H := fun {m} hm h => by
    have e : ∃ z, w = .d (.str z) := by
      rcases hm with rfl | rfl
      all_goals
        simp only [wTy] at h
        split at h
        · exact ⟨_, rfl⟩
        · cases h
    obtain ⟨z, rfl⟩ := e
    cases r
    rfl
  cases m with
  | append => exact hl h
  | extend => exact hl h
  | pop => exact hl h
  | popAt => exact hl h
  | join => exact hs (.inl rfl) h
  | partition => exact hs (.inr rfl) h
  | index => exact hl h
  | count => exact hl h
theorem c_bm0 (ok : Okx g N sc ac k X Wx) {m : Bm} {ap : Pos} (hsup : notSup l = true) (hline : (ap.endLine == p.line) = true) (ha : PE X l (tE g Wx fa)) :
    PE X (.Call (.Attribute l m.name ap) [] [] p) (tE g Wx fun fr cs => (fa fr cs).bind fun w c1 => if wTy m w c1 then wBm m w [] c1 else .bad) := by
  obtain ⟨f1, f2, f3⟩ := m.facts
  refine PE.imp (pe_bm0 f1 f2 f3 (bm_rule (X := X) m) ha (base_of hsup) hline) ?_
  rintro σ H Q ⟨fr, cs, ra, R, F, q⟩
  refine ⟨fr, cs, ra, R, F, PostR.imp (PostR.bind (rp := rpW g ra) q) ?_⟩
  rintro x H1 ⟨w1, c1, k1, R1, r1, p1⟩
  split at p1
  · rename_i ht
    rw [ok.K]
    exact ⟨wTy_ok R1 r1 ht, (wBm_ok R1 r1 .nil p1).2⟩
  · exact p1.elim
theorem c_bm (ok : Okx g N sc ac k X Wx) {m : Bm} {ap : Pos} (hsup : notSup l = true) (hline : (ap.endLine == p.line) = true) (hlen : (e :: es).length < 20) (hs : ∀ x ∈ e :: es, notSt x = true) (ha : PE X l (tE g Wx fa)) (h : PA X (e :: es) (tA g Wx fl)) :
    PE X (.Call (.Attribute l m.name ap) (e :: es) [] p) (tE g Wx fun fr cs => (fa fr cs).bind fun w c1 => if wTy m w c1 then (fl fr c1).bind fun ws c2 => wBm m w ws c2 else .bad) := by
  obtain ⟨f1, f2, f3⟩ := m.facts
  have hst := star_of (es := es) (env := X.env) (hs e (List.mem_cons_self ..))
  have hpl := (nostar_any (env := X.env) (pos := p) fun x hx => hs x (List.mem_cons_of_mem _ hx)).1
  have hal := (nostar_any (env := X.env) (pos := p) hs).2
  refine PE.imp (pe_bm f1 f2 f3 (bm_rule (X := X) m) ha h (base_of hsup) ?_ hline hst hpl) ?_
  · rw [hal]
    have : (e :: es).length + 0 + 0 < 30 := by omega
    show (true && true && decide ((e :: es).length + 0 + 0 < 30)) = true
    rw [decide_eq_true this]
    rfl
  · rintro σ H Q ⟨fr, cs, ra, R, F, q⟩
    refine ⟨fr, cs, ra, R, F, PostR.imp (PostR.bind (rp := rpW g ra) q) ?_⟩
    rintro x H1 ⟨w1, c1, k1, R1, r1, p1⟩
    split at p1
    · rename_i ht
      rw [ok.K]
      refine ⟨wTy_ok R1 r1 ht, fr, c1, ra, R1, F.mono k1, PostR.imp (PostR.bind (rp := rpA g ra) p1) ?_⟩
      rintro vs H2 ⟨ws, c2, k2, R2, r2, p2⟩
      exact (wBm_ok R2 (r1.mono k2.same) r2 p2).2
    · exact p1.elim
/-! f-strings -/
theorem c_fmt (h : PE X e (tE g Wx fa)) : PE X (.FormattedValue e (-1) none p) (tE g Wx fun fr cs => (fa fr cs).bind fmtW) := PE.imp (pe_fmt h) fun σ H Q ⟨fr, cs, ra, R, F, q⟩ => by
  refine ⟨fr, cs, ra, R, F, PostR.imp (PostR.bind (rp := rpW g ra) q) ?_⟩
  rintro x H1 ⟨w1, c1, k1, R1, r1, p1⟩
  unfold fmtW at p1
  split at p1
  · cases r1
    split at p1
    · rename_i hl
      exact .inl ⟨_, rfl, by rw [line_lit]; exact hl, back R1 (.str _) p1⟩
    · exact p1.elim
  · cases r1
    split at p1
    · rename_i hl
      exact .inr ⟨_, rfl, hl, back R1 (.str _) p1⟩
    · exact p1.elim
  · exact p1.elim
/-! isinstance -/
theorem tyOf_ok (F : Fx g wd k) {w : W} {v : V} {cs : Cells} {ra : Ra} {H : Hp} {t u : Ty} {b : Bool} (R : Rel g ra cs H) (r : RepW g (frz H ra) ra w v) (h : tyOf cs w = some t) (hk : wd.kit t u = some b) : TyB g.K H v (tyVal g t) := by
  have own : ∀ {c : Nat} {a dx : Addr} {fs : List (Str × V)}, t = .c c → H a = some (.ins (g.ca c) dx fs) → TyB g.K H (.ref a) (tyVal g t) := fun e ha => by
    subst e
    obtain ⟨h1, h2, h3, h4, h5⟩ := F.kitc _ _ _ hk
    exact .inl <| .base (.ins ha h1 h2 h3 h4 h5)
  have seqL : ∀ {a : Addr} {vs : List V}, SqL g.K H a vs → TyB g.K H (.ref a) (.type "list") := fun h => by
    rcases h with (h | ⟨o, h⟩) | ⟨o, its, n, h1, h2, _⟩
    · exact .inl <| .base (.lst h)
    · exact .inl <| .base (.frz h)
    · exact .inl <| .kList h1 h2
  unfold tyOf at h
  split at h
  case h_1 => cases h; cases r; exact .inl <| .base .non
  case h_2 => cases h; cases r; exact .inl <| .base (.bl _)
  case h_3 => cases h; cases r; exact .inl <| .base (.int _)
  case h_4 => cases h; cases r; exact .inl <| .base (.str _)
  case h_5 =>
    cases h
    obtain ⟨a, vs, rfl, h1, _⟩ := tup_ok r
    rcases h1 with (h1 | ⟨o, h1⟩) | ⟨o, its, n, h1, h2, _⟩
    · exact .inl <| .base (.tup h1)
    · exact .inl <| .fTuple h1
    · exact .inl <| .kTuple h1 h2
  case h_6 =>
    cases h
    obtain ⟨a, vs, rfl, h1, _⟩ := dl_ok (w := .d (.lst _)) R r rfl
    exact seqL h1
  case h_7 =>
    cases h
    obtain ⟨a, vs, rfl, h1, _⟩ := dl_ok (w := .d (.flst _)) R r rfl
    exact seqL h1
  case h_8 =>
    cases h
    cases r with
    | ins h1 _ => exact own rfl (frz_same H ra _ _ h1)
  case h_9 =>
    cases h
    cases r with
    | exc h1 h2 _ => exact .inr ⟨_, _, _, _, _, rfl, rfl, frz_same H ra _ _ h1, frz_same H ra _ _ h2, F.kitx _ _ _ hk⟩
  case h_10 =>
    cases h
    cases r with
    | dct h1 _ => exact .inl <| .base (.dK (frz_same H ra _ _ h1))
  case h_11 =>
    obtain ⟨a, rfl, ha⟩ := r
    split at h
    · rename_i hc
      cases h
      obtain ⟨a', h1, vs, h2, _⟩ := R.cell _ _ hc
      rw [ha] at h1
      cases h1
      exact .inl <| .base (.lst h2)
    · rename_i hc
      cases h
      obtain ⟨a', h1, dx, vs, h2, _⟩ := R.cell _ _ hc
      rw [ha] at h1
      cases h1
      exact own rfl h2
    · cases h
  case h_12 => cases h
theorem kitAnyD_ok (F : Fx g wd k) {t : Ty} : ∀ {ts : List Ty} {b : Bool}, kitAnyD wd t ts = some b → PySem.W.kitAny g.K (tyVal g t) (ts.map (tyVal g)) = some b
  | [], b, h => h
  | u :: ts, b, h => by
    unfold kitAnyD at h
    split at h
    · rename_i e
      cases h
      show (match PySem.W.kitOne g.K (tyVal g t) (tyVal g u) with | some true => some true | some false => _ | none => none) = some true
      rw [F.kit _ _ _ e]
    · rename_i e
      show (match PySem.W.kitOne g.K (tyVal g t) (tyVal g u) with | some true => some true | some false => PySem.W.kitAny g.K (tyVal g t) (ts.map (tyVal g)) | none => none) = some b
      rw [F.kit _ _ _ e]
      exact kitAnyD_ok F h
    · cases h
theorem kitAnyD_ty (F : Fx g wd k) {t : Ty} {w : W} {v : V} {cs : Cells} {ra : Ra} {H : Hp} (R : Rel g ra cs H) (r : RepW g (frz H ra) ra w v) (h : tyOf cs w = some t) : ∀ {ts : List Ty} {b : Bool}, ts ≠ [] → kitAnyD wd t ts = some b → TyB g.K H v (tyVal g t)
  | [], _, hn, _ => absurd rfl hn
  | u :: ts, b, _, hk => by
    unfold kitAnyD at hk
    split at hk
    · rename_i e
      exact tyOf_ok F R r h e
    · rename_i e
      exact tyOf_ok F R r h e
    · cases hk
def tyV' (g : G) : Ty → V
  | .b n => .ty n
  | .c k => .ref (g.ca k)
  | .x k => .ref (g.ca k)
theorem pe_ty (ok : Okx g N sc ac k X Wx) (F : Fx g wd k) {t : Ty} (h : chkTy wd sc t e = true) : PE X e (tC (tyV' g t)) := by
  cases t with
  | b n =>
    cases e <;> simp only [chkTy, Bool.and_eq_true, Bool.or_eq_true, beq_iff_eq, decide_eq_true_eq, Bool.false_eq_true] at h
    rename_i x pp
    obtain ⟨⟨⟨hn, rfl⟩, hg⟩, hd⟩ := h
    unfold nodbg at hd
    simp only [Bool.and_eq_true, Bool.not_eq_true'] at hd
    obtain ⟨b1, b2, b3, b4, b5⟩ := F.bt
    have hm : X.mg (Str.ofString n) = none := by
      rw [ok.mg]
      rcases hn with ((((rfl | rfl) | rfl) | rfl) | rfl) <;> assumption
    have hv : bootBuiltins (Str.ofString n) = some (.type n) := by rcases hn with ((((rfl | rfl) | rfl) | rfl) | rfl) <;> decide +kernel
    have hnn : Str.ofString n ≠ "__name__" := by rcases hn with ((((rfl | rfl) | rfl) | rfl) | rfl) <;> decide +kernel
    exact pe_bltn (gl_of ok hg) hm hv rfl hnn hd.1
  | c c =>
    cases e <;> simp only [chkTy, Bool.and_eq_true, decide_eq_true_eq, Bool.false_eq_true] at h
    rename_i x pp
    obtain ⟨⟨h1, hg⟩, hd⟩ := h
    unfold nodbg at hd
    simp only [Bool.and_eq_true, Bool.not_eq_true'] at hd
    exact pe_glob (gl_of ok hg) (by rw [ok.mg]; exact F.cnm _ _ h1) rfl hd.1
  | x c => cases e <;> simp [chkTy] at h
theorem clsV_of {t : Ty} : ClsV (tyV' g t) (tyVal g t) := by
  cases t with
  | b n => exact .ty n
  | c c => exact .own _
  | x c => exact .own _
theorem clsVs : ∀ ts : List Ty, Paired ClsV (ts.map (tyV' g)) (ts.map (tyVal g))
  | [] => .nil
  | t :: ts => .cons clsV_of (clsVs ts)
theorem isi_glob (ok : Okx g N sc ac k X Wx) (F : Fx g wd k) : X.mg "isinstance" = none := by
  rw [ok.mg]
  exact F.bx.2.2.2
theorem c_isi {t : Ty} {pn : Pos} (ok : Okx g N sc ac k X Wx) (F : Fx g wd k) (hg : glB sc "isinstance" = true) (hst : notSt l = true) (ha : PE X l (tE g Wx fa)) (ht : chkTy wd sc t r = true) :
    PE X (.Call (.Name "isinstance" pn) [l, r] [] p) (tE g Wx fun fr cs => (fa fr cs).bind fun w c1 => wIsi wd w [t] c1) := by
  have hst2 : notSt r = true := by cases t <;> cases r <;> first | rfl | (simp [chkTy] at ht)
  have s1 := star_of (es := [r]) (env := X.env) hst
  have s2 := star_of (es := []) (env := X.env) hst2
  refine PE.imp (pe_callB call_isiB (gl_of ok hg) (isi_glob ok F) (by decide +kernel) (pa_cons ha (pa_cons (pe_ty ok F ht) pa_nil s2) s1) (by decide +kernel) (by decide +kernel) s1 (nostar_any (es := [r]) fun x hx => by cases List.mem_singleton.mp hx; exact hst2).1) ?_
  rintro σ H Q ⟨fr, cs, ra, R, Fr, q⟩
  refine ⟨fr, cs, ra, R, Fr, PostR.imp (PostR.bind (rp := rpW g ra) q) ?_⟩
  rintro x H1 ⟨w1, c1, k1, R1, r1, p1⟩
  unfold wIsi at p1
  split at p1
  · rename_i t' e
    split at p1
    · rename_i b hb
      have hty := kitAnyD_ty F R1 r1 e (by simp) hb
      have hk := kitAnyD_ok F hb
      have hk1 : PySem.W.kitOne g.K (tyVal g t') (tyVal g t) = some b := by
        unfold kitAnyD at hb
        split at hb
        · rename_i e2; cases hb; exact F.kit _ _ _ e2
        · rename_i e2
          have : b = false := by simpa [kitAnyD] using hb.symm
          rw [this]; exact F.kit _ _ _ e2
        · cases hb
      rw [ok.K]
      exact ⟨x, tyV' g t, tyVal g t', tyVal g t, b, rfl, clsV_of, hty, hk1, back R1 (.bl _) p1⟩
    · exact p1.elim
  · exact p1.elim
theorem pa_tys (ok : Okx g N sc ac k X Wx) (F : Fx g wd k) : ∀ {ts : List Ty} {es : List Expr}, chkTys wd sc ts es = true → ∃ t : TA, PA X es t ∧ ∀ σ H Q, Q (ts.map (tyV' g)) H → t σ H Q
  | [], [], _ => ⟨_, pa_nil, fun σ H Q h => h⟩
  | t :: ts, e :: es, h => by
    simp only [chkTys, Bool.and_eq_true] at h
    have hst2 : notSt e = true := by cases t <;> cases e <;> first | rfl | (simp [chkTy] at h)
    obtain ⟨tt, h1, h2⟩ := pa_tys ok F h.2
    exact ⟨_, pa_cons (pe_ty ok F h.1) h1 (star_of hst2), fun σ H Q q => h2 σ H _ q⟩
  | [], _ :: _, h => by simp [chkTys] at h
  | _ :: _, [], h => by simp [chkTys] at h
theorem c_isiT {ts : List Ty} {pn pt : Pos} {k2 : Nat} (ok : Okx g N sc ac k X Wx) (F : Fx g wd k) (hg : glB sc "isinstance" = true) (hst : notSt l = true) (ha : PE X l (tE g Wx fa)) (ht : chkTys wd sc ts es = true) (hne : ts ≠ []) (hlen : ts.length ≤ 100) :
    PE X (.Call (.Name "isinstance" pn) [l, .Tuple es k2 pt] [] p) (tE g Wx fun fr cs => (fa fr cs).bind fun w c1 => wIsi wd w ts c1) := by
  have s1 := star_of (es := [.Tuple es k2 pt]) (env := X.env) hst
  have s2 := star_of (e := .Tuple es k2 pt) (es := []) (env := X.env) rfl
  obtain ⟨tt, h1, h2⟩ := pa_tys ok F ht
  refine PE.imp (pe_callB call_isiTB (gl_of ok hg) (isi_glob ok F) (by decide +kernel) (pa_cons ha (pa_cons (pe_tup h1) pa_nil s2) s1) (by decide +kernel) (by decide +kernel) s1 (nostar_any (es := [.Tuple es k2 pt]) fun x hx => by cases List.mem_singleton.mp hx; rfl).1) ?_
  rintro σ H Q ⟨fr, cs, ra, R, Fr, q⟩
  refine ⟨fr, cs, ra, R, Fr, PostR.imp (PostR.bind (rp := rpW g ra) q) ?_⟩
  rintro x H1 ⟨w1, c1, k1, R1, r1, p1⟩
  refine h2 σ H1 _ ⟨by rw [List.length_map]; exact line_small (by omega), fun tp htp => ?_⟩
  unfold wIsi at p1
  split at p1
  · rename_i t' e
    split at p1
    · rename_i b hb
      obtain ⟨k2', R2, _⟩ := R1.new (o := .tup (ts.map (tyV' g))) htp
      have hty := kitAnyD_ty F R2 (r1.mono k2'.same) e hne hb
      rw [ok.K]
      refine ⟨x, tp, ts.map (tyV' g), tyVal g t', ts.map (tyVal g), b, rfl, upd_same, ?_, hty, kitAnyD_ok F hb, p1 _ _ k2' R2 (.bl _)⟩
      exact clsVs ts
    · exact p1.elim
  · exact p1.elim
section
variable {pins : List (Addr × Obj)} {σ : L2.St} {H : Hp} {s : Shared}
mutual
theorem pyD_sh (I : Inv X pins σ H s) (eK : X.K = g.K) {F : Hp} (e : Same F H) : ∀ {d : D} {v : V} {p : PyData} {u : Value}, Rep g F d v → pyD d = some p → RelV v u → p.showable = true → p.shown.length ≤ sizeLine → Sh X.prog X.w s.heap u p
  | .non, _, _, _, .non, h, r, _, _ => by
    simp only [pyD, Option.some.injEq] at h; subst h
    cases r
    exact .non
  | .bl b, _, _, _, .bl _, h, r, _, _ => by
    simp only [pyD, Option.some.injEq] at h; subst h
    cases r
    exact .bl b
  | .int i, _, _, _, .int _, h, r, hs, _ => by
    simp only [pyD, Option.some.injEq] at h; subst h
    obtain ⟨t, rfl⟩ := r
    exact .int (by simpa [PyData.showable] using hs)
  | .str x, _, _, _, .str _, h, r, _, hz => by
    simp only [pyD, Option.some.injEq] at h; subst h
    obtain ⟨t, rfl⟩ := r
    exact .str (by simpa only [PyData.shown] using hz)
  | .tup xs, _, _, _, .tup q rl, h, r, hs, hz => by
    simp only [pyD, Option.map_eq_some_iff] at h
    obtain ⟨ps, h1, rfl⟩ := h
    cases r
    obtain ⟨its, rv, ⟨o, ho, hc, n, hd⟩, _⟩ := I.tuple (by rw [eK]; exact sqT_mono e q)
    simp only [PyData.showable] at hs
    simp only [PyData.shown] at hz
    exact .tuple ho hc hd (pyDs_sh I eK e rl h1 rv hs fun t ht => Nat.le_trans (tupleText_mem_le ht) hz)
  | .lst xs, _, _, _, .lst q rl, h, r, hs, hz => by
    simp only [pyD, Option.map_eq_some_iff] at h
    obtain ⟨ps, h1, rfl⟩ := h
    cases r
    obtain ⟨its, rv, ⟨o, n, ho, hc, _, hd⟩, _⟩ := I.list (SqL.of (e _ _ q))
    simp only [PyData.showable] at hs
    simp only [PyData.shown] at hz
    exact .list ho hc hd (pyDs_sh I eK e rl h1 rv hs fun t ht => Nat.le_trans (listText_mem_le ht) hz)
  | .flst xs, _, _, _, .flst q rl, h, r, hs, hz => by
    simp only [pyD, Option.map_eq_some_iff] at h
    obtain ⟨ps, h1, rfl⟩ := h
    cases r
    obtain ⟨its, rv, ⟨o, n, ho, hc, _, hd⟩, _⟩ := I.list (by rw [eK]; exact e.seq q)
    simp only [PyData.showable] at hs
    simp only [PyData.shown] at hz
    exact .list ho hc hd (pyDs_sh I eK e rl h1 rv hs fun t ht => Nat.le_trans (listText_mem_le ht) hz)
  | .dct [], _, _, _, .dct q rf, h, r, hs, hz => by
    simp only [pyD, Option.some.injEq] at h; subst h
    cases r
    cases rf
    obtain ⟨_, lo, vs, kv, o, es, ep, ho, hc, hd, _, hp, _⟩ := (show ObjOk X.prog X.w H s.heap _ (.dK []) from I.hok _ _ (e _ _ q))
    cases kv
    cases es with
    | mk l =>
      cases (show Pairs _ l [] from hp)
      exact .dict0 ho hc.1 hd lo
  | .dct (x :: xs), _, _, _, .dct q rf, h, _, _, _ => by simp [pyD] at h
  | .ty _, _, _, _, .ty _, h, _, _, _ => by simp [pyD] at h
  | .cls _, _, _, _, .cls _, h, _, _, _ => by simp [pyD] at h
  | .ins _ _, _, _, _, .ins _ _, h, _, _, _ => by simp [pyD] at h
  | .exc _ _, _, _, _, .exc _ _ _, h, _, _, _ => by simp [pyD] at h
theorem pyDs_sh (I : Inv X pins σ H s) (eK : X.K = g.K) {F : Hp} (e : Same F H) : ∀ {ds : List D} {vs : List V} {ps : List PyData} {us : List Value}, RepL g F ds vs → pyDs ds = some ps → Vals vs us → PyData.showableAll ps = true → (∀ t ∈ PyData.shownAll ps, t.length ≤ sizeLine) → ShAll X.prog X.w s.heap us ps
  | [], _, _, _, .nil, h, r, _, _ => by
    simp only [pyDs, Option.some.injEq] at h; subst h
    cases r
    exact .nil
  | d :: ds, _, _, _, .cons q t, h, r, hs, hz => by
    simp only [pyDs] at h
    split at h
    · rename_i p ps h1 h2
      cases h
      cases r with
      | cons r1 r2 =>
        simp only [PyData.showableAll, Bool.and_eq_true] at hs
        simp only [PyData.shownAll] at hz
        exact .cons (pyD_sh I eK e q h1 r1 hs.1 (hz _ (List.mem_cons_self ..))) (pyDs_sh I eK e t h2 r2 hs.2 fun t ht => hz t (List.mem_cons_of_mem _ ht))
    · cases h
end
theorem wPr_top (I : Inv X pins σ H s) (eK : X.K = g.K) {ra : Ra} {cs : Cells} {w : W} {v : V} {p : PyData} {u : Value} (R : Rel g ra cs H) (r : RepW g (frz H ra) ra w v) (h : wPr cs w = some p) (ru : RelV v u) (hs : p.showable = true) (hz : p.shown.length ≤ sizeLine) : TopR X.prog X.w s.heap u p := by
  have lists : ∀ {a : Addr} {xs : List D} {vs : List V} {ps : List PyData}, SqL g.K H a vs → RepL g (frz H ra) xs vs → pyDs xs = some ps → (PyData.list ps).showable = true → (PyData.list ps).shown.length ≤ sizeLine → TopR X.prog X.w s.heap (.ref a) (.list ps) := fun {a xs vs ps} q rl h1 hs hz => by
    obtain ⟨its, rv, ⟨o, n, ho, hc, _, hd⟩, _⟩ := I.list (by rw [eK]; exact q)
    simp only [PyData.showable] at hs
    simp only [PyData.shown] at hz
    exact .list ho hc hd (pyDs_sh I eK (frz_same H ra) rl h1 rv hs fun t ht => Nat.le_trans (listText_mem_le ht) hz)
  cases w with
  | loc n =>
    simp only [wPr] at h
    cases e : celL cs n with
    | none => rw [e] at h; cases h
    | some xs =>
      rw [e] at h
      simp only [Option.bind_some, Option.map_eq_some_iff] at h
      obtain ⟨ps, h1, rfl⟩ := h
      obtain ⟨a, vs, rfl, _, h2, h3⟩ := celL_ok R r e
      cases ru
      exact lists (SqL.of h2) h3 h1 hs hz
  | d d =>
    simp only [wPr] at h
    have r : Rep g (frz H ra) d v := r
    cases r with
    | non => simp only [pyD, Option.some.injEq] at h; subst h; cases ru; exact .non
    | bl b => simp only [pyD, Option.some.injEq] at h; subst h; cases ru; exact .bl b
    | int i => simp only [pyD, Option.some.injEq] at h; subst h; obtain ⟨t, rfl⟩ := ru; exact .int i t
    | str x => simp only [pyD, Option.some.injEq] at h; subst h; obtain ⟨t, rfl⟩ := ru; exact .str x t
    | tup q rl =>
      simp only [pyD, Option.map_eq_some_iff] at h
      obtain ⟨ps, h1, rfl⟩ := h
      cases ru
      obtain ⟨its, rv, ⟨o, ho, hc, n, hd⟩, _⟩ := I.tuple (by rw [eK]; exact sqT_mono (frz_same H ra) q)
      simp only [PyData.showable] at hs
      simp only [PyData.shown] at hz
      exact .tuple ho hc hd (pyDs_sh I eK (frz_same H ra) rl h1 rv hs fun t ht => Nat.le_trans (tupleText_mem_le ht) hz)
    | lst q rl =>
      simp only [pyD, Option.map_eq_some_iff] at h
      obtain ⟨ps, h1, rfl⟩ := h
      cases ru
      exact lists (SqL.of (frz_same H ra _ _ q)) rl h1 hs hz
    | flst q rl =>
      simp only [pyD, Option.map_eq_some_iff] at h
      obtain ⟨ps, h1, rfl⟩ := h
      cases ru
      exact lists ((frz_same H ra).seq q) rl h1 hs hz
    | @dct fs _ _ q rf =>
      cases fs with
      | cons x xs => simp [pyD] at h
      | nil =>
        simp only [pyD, Option.some.injEq] at h; subst h
        cases ru
        cases rf
        obtain ⟨_, lo, vs, kv, o, es, ep, ho, hc, hd, _, hp, _⟩ := (show ObjOk X.prog X.w H s.heap _ (.dK []) from I.hok _ _ (frz_same H ra _ _ q))
        cases kv
        cases es with
        | mk l =>
          cases (show Pairs _ l [] from hp)
          exact .dict0 ho hc.1 hd lo
    | ty n => simp [pyD] at h
    | cls c => simp [pyD] at h
    | ins q rf => simp [pyD] at h
    | exc q q2 rf => simp [pyD] at h
end
theorem call_reprD (hgd : X.A.guards = some []) (hu : X.A.units + 65 < cLine) (eK : X.K = g.K) : CallR X (.builtin "repr") (fun xs H Q => ∃ x d ra cs w, xs = [x] ∧ Rel g ra cs H ∧ RepW g (frz H ra) ra w x ∧ wPr cs w = some d ∧ d.showable = true ∧ d.depth ≤ 60 ∧ d.shown.length ≤ sizeLine ∧ Q (.str d.shown) H) := by
  intro pins s σ H xs us Q I r h
  obtain ⟨x, d, ra, cs, w, rfl, R, h1, h2, h3, h4, h5, q⟩ := h
  cases r with
  | cons rv rn =>
    cases rn
    exact call_reprV (wPr_top I eK R h1 h2 rv h3 h5) h3 hgd (by omega) h5 fun h' u tk hk => ⟨.str d.shown, H, I.kept hk, ⟨u, rfl⟩, q⟩
theorem c_rep (ok : Okx g N sc ac k X Wx) (F : Fx g wd k) {pn : Pos} (hg : glB sc "repr" = true) (hst : notSt e = true) (ha : PE X e (tE g Wx fa)) :
    PE X (.Call (.Name "repr" pn) [e] [] p) (tE g Wx fun fr cs => (fa fr cs).bind fun w c1 => repW w c1) := by
  have hm : X.mg "repr" = none := by rw [ok.mg]; exact F.br
  refine PE.imp (pe_callB (call_reprD (g := g) ok.gd ok.units ok.K) (gl_of ok hg) hm (show bootBuiltins "repr" = some (.builtin "repr") by decide +kernel) (pa_cons ha pa_nil (star_of hst)) (by decide +kernel) (by decide +kernel) (star_of (es := []) hst) rfl) ?_
  rintro σ H Q ⟨fr, cs, ra, R, Fr, q⟩
  refine ⟨fr, cs, ra, R, Fr, PostR.imp (PostR.bind (rp := rpW g ra) q) ?_⟩
  rintro x H1 ⟨w, c1, k1, R1, r1, p1⟩
  unfold repW at p1
  split at p1
  · rename_i pd e1
    split at p1
    · rename_i hc
      exact ⟨x, pd, ra, c1, w, rfl, R1, r1, e1, hc.1, hc.2.1, by rw [line_lit]; exact hc.2.2, p1 H1 _ (Keep.refl _ _) R1 (.str _)⟩
    · exact p1.elim
  · exact p1.elim
end
end BV

namespace BV
open PySem L2
section
variable {g : G} {wd : Wd} {N : List Str} {sc : Scope} {ac : Bool} {k : Nat} {X : Cx} {Wx : WX} {fa fb fc : Fra → Cells → R W} {fl fm : Fra → Cells → R (List W)} {l r e : Expr} {es : List Expr} {kws : List Keyword} {p : Pos}
theorem RepWs.get {F : Hp} {ra : Ra} {ws : List W} {vs : List V} (h : RepWs g F ra ws vs) : ∀ {i : Nat} {w : W}, ws[i]? = some w → RepW g F ra w (vs.getD i .non) := by
  induction h with
  | nil => intro i w e; simp at e
  | cons h _ ih =>
    intro i w e
    cases i with
    | zero => simp at e; subst e; simpa using h
    | succ i => simpa using ih (by simpa using e)
theorem flat_rep {F : Hp} {d : D} (h : (flatV? d).isSome = true) : Rep g F d ((flatV? d).getD .non) := by
  cases d <;> first | (simp [flatV?] at h; done) | (simp only [flatV?, Option.getD_some]; constructor)
theorem srcs_ok {F : Hp} {ra : Ra} {ws zs : List W} {vs us : List V} (h1 : RepWs g F ra ws vs) (h2 : RepWs g F ra zs us) : ∀ {pm : List Src} {l : List W}, (∀ x, Src.d x ∈ pm → (flatV? x).isSome = true) → srcs ws zs pm = some l → RepWs g F ra l (srcV vs us pm) ∧ l.length = pm.length
  | [], l, _, e => by
    simp only [srcs, Option.some.injEq] at e
    subst e
    exact ⟨.nil, rfl⟩
  | .p i :: pm, l, hf, e => by
    simp only [srcs] at e
    split at e
    · rename_i w l' e1 e2
      cases e
      obtain ⟨q1, q2⟩ := srcs_ok h1 h2 (fun x hx => hf x (List.mem_cons_of_mem _ hx)) e2
      exact ⟨.cons (h1.get e1) q1, congrArg Nat.succ q2⟩
    · cases e
  | .k i :: pm, l, hf, e => by
    simp only [srcs] at e
    split at e
    · rename_i w l' e1 e2
      cases e
      obtain ⟨q1, q2⟩ := srcs_ok h1 h2 (fun x hx => hf x (List.mem_cons_of_mem _ hx)) e2
      exact ⟨.cons (h2.get e1) q1, congrArg Nat.succ q2⟩
    · cases e
  | .d x :: pm, l, hf, e => by
    simp only [srcs, Option.map_eq_some_iff] at e
    obtain ⟨l', e2, rfl⟩ := e
    obtain ⟨q1, q2⟩ := srcs_ok h1 h2 (fun x hx => hf x (List.mem_cons_of_mem _ hx)) e2
    exact ⟨.cons (flat_rep (hf x (List.mem_cons_self ..))) q1, congrArg Nat.succ q2⟩
theorem kw_facts {env : Env} {pos : Pos} : ∀ {kws : List Keyword} {nms : List Str}, kws.map (·.arg) = nms.map some →
    (backToKw pos (keywordEach kws env)).all (·.1.isSome) = true ∧ (backToKw pos (keywordEach kws env)).filterMap (·.1) = nms ∧ (backToKw pos (keywordEach kws env)).any (·.1.isNone) = false
  | [], [], _ => ⟨rfl, rfl, rfl⟩
  | ⟨a, v, kp⟩ :: kws, nm :: nms, h => by
    simp only [List.map_cons, List.cons.injEq] at h
    obtain ⟨rfl, h⟩ := h
    obtain ⟨h1, h2, h3⟩ := kw_facts (env := env) (pos := pos) h
    refine ⟨?_, ?_, ?_⟩
    · show (true && (backToKw pos (keywordEach kws env)).all (·.1.isSome)) = true
      rw [h1]; rfl
    · show nm :: (backToKw pos (keywordEach kws env)).filterMap (·.1) = nm :: nms
      rw [h2]
    · show (false || (backToKw pos (keywordEach kws env)).any (·.1.isNone)) = false
      rw [h3]; rfl
  | [], _ :: _, h => by simp at h
  | _ :: _, [], h => by simp at h
theorem pk_nilB : PK X [] (tA g Wx fun _ cs => .ok [] cs) := ⟨fun pos pins s σ H Q I ⟨fr, cs, ra, R, F, q⟩ => (pk_nil (X := X)).run pos pins s σ H Q I (q H [] (Keep.refl _ _) R .nil)⟩
theorem pk_consB {nm : Option Str} {kp : Pos} (h1 : PE X e (tE g Wx fa)) (h2 : PK X kws (tA g Wx fl)) : PK X (⟨nm, e, kp⟩ :: kws) (tA g Wx fun fr cs => (fa fr cs).bind fun w c1 => (fl fr c1).bind fun ws c2 => .ok (w :: ws) c2) :=
  ⟨fun pos pins s σ H Q I h => (pk_cons h1 h2).run pos pins s σ H Q I (by
    obtain ⟨fr, cs, ra, R, F, q⟩ := h
    refine ⟨fr, cs, ra, R, F, PostR.imp (PostR.bind (rp := rpW g ra) q) ?_⟩
    rintro x H1 ⟨w1, c1, k1, R1, r1, p1⟩
    refine ⟨fr, c1, ra, R1, F.mono k1, PostR.imp (PostR.bind (rp := rpA g ra) p1) ?_⟩
    rintro xs H2 ⟨ws, c2, k2, R2, r2, p2⟩
    exact p2 H2 _ (Keep.refl _ _) R2 (.cons (r1.mono k2.same) r2))⟩
/-- the callee runs; what it lets out is wished for at the caller's slots -/
theorem run_N {CX : CXT} {n : Nat} {f : Addr} {fd : FuncData} {ps ks : List Str} {sp : Sp} {E : XK} {gg : List Value → List Value → List Value} {gV : List V → List V → List V} {pins : List (Addr × Obj)} {σ : L2.St} {H : Hp} {s : Shared} {Q : VK} {us ws : List Value} {vs zs : List V}
    (F : FnG X.prog X.w X.K X.mg X.base CX k f fd ps sp) (hr : Room k X.A) (hgd : X.A.guards = some []) (hb : KBn X.K fd ps n ks gg gV) (hx : PassesAt CX X σ E)
    (I : Inv X pins σ H s) (r : Vals vs us) (rz : Vals zs ws) (l1 : vs.length = n) (l2 : zs.length = ks.length) (h : sp (gV vs zs) H Q E) : wpAny (model X.prog X.w) X.A (call (.ref f) us (ks.zip ws)) (EP X pins σ Q) X.xe s := by
  have r2 := hb.rel r rz
  refine wpAny_call (codeAny_mono (F.run X.A X.stack s H ⟨us, ks.zip ws⟩ (gg us ws) (gV vs zs) Q E hr hgd I.env0 (hb.to s us ws I.kIn (r.length.symm.trans l1) (rz.length.symm.trans l2)) r2 h) fun r s' hq => ?_)
  cases r with
  | error e => exact hx pins H s e s' I hq
  | ok fl =>
    cases fl with
    | ret u => exact I.after hq
    | next => exact False.elim hq
    | brk => exact False.elim hq
    | cont => exact False.elim hq
theorem Fx.fn' (F : Fx g wd k) (ok : Okx g N sc ac k X Wx) (f : Nat) : FnG X.prog X.w X.K X.mg X.base (L2.CX X.prog X.w) k (g.fa f) (g.fd f) (g.ps f) (spOf g (g.ps f).length (wd.phi f)) := by
  rw [ok.P, ok.w, ok.K, ok.mg, ok.base]
  exact F.fn f
theorem callW_post {ra : Ra} {H : Hp} {Q : VK} {E : XK} {f : Nat} {ws : List W} {cs : Cells} (h : PostR g (rpW g ra) (callW wd f ws cs) ra H Q E) : PostR g (fun H' d v => Rep g (frz H' ra) d v) (wd.phi f ws cs) ra H Q E := by
  unfold callW R.map at h
  cases e : wd.phi f ws cs with
  | ok d c => rw [e] at h; exact h
  | exc c x cc => rw [e] at h; exact h
  | bad => rw [e] at h; exact h
def evCall (wd : Wd) (f q : Nat) (fl fm : Fra → Cells → R (List W)) : Fra → Cells → R W := fun fr cs => (fl fr cs).bind fun ws c1 => (fm fr c1).bind fun zs c2 => match (wd.pat f q).bind fun q => srcs ws zs q.2.2 with
    | some l => callW wd f l c2
    | none => .bad
/-- behind the arguments: the call -/
theorem go_call {f q n : Nat} {nms : List Str} {pm : List Src} {pins : List (Addr × Obj)} {σ : L2.St} {s : Shared} {us ws' : List Value} {vs zs : List V} {ws ys : List W} {cs : Cells} {ra : Ra} {H : Hp} {Q : VK} (ok : Okx g N sc ac k X Wx) (F : Fx g wd k) (hp : wd.pat f q = some (n, nms, pm))
    (I : Inv X pins σ H s) (R : Rel g ra cs H) (r1 : RepWs g (frz H ra) ra ws vs) (r2 : RepWs g (frz H ra) ra ys zs) (v1 : Vals vs us) (v2 : Vals zs ws') (l1 : vs.length = n) (l2 : zs.length = nms.length)
    (h : PostR g (rpW g ra) (match (wd.pat f q).bind fun q => srcs ws ys q.2.2 with
      | some l => callW wd f l cs
      | none => .bad) ra H Q (fun c d H' => Wx c d σ H')) : wpAny (model X.prog X.w) X.A (call (.ref (g.fa f)) us (nms.zip ws')) (EP X pins σ Q) X.xe s := by
  obtain ⟨hf, hl, gg, hb⟩ := F.pat _ _ _ _ _ hp
  rw [hp] at h
  simp only [Option.bind_some] at h
  split at h
  · rename_i l e
    obtain ⟨q1, q2⟩ := srcs_ok r1 r2 hf e
    exact run_N (F.fn' ok f) (ok.hr.mono (by omega)) ok.gd (by rw [ok.K]; exact hb) (passAt ok.tk σ) I v1 v2 l1 l2 ⟨l, cs, ra, R, q1, by rw [q2, hl], callW_post h⟩
  · exact h.elim
theorem zs_len {F : Hp} {ra : Ra} {ys : List W} {zs : List V} {nms : List Str} {kws : List Keyword} (h : kws.map (·.arg) = nms.map some) (r : zs.length = kws.length) : zs.length = nms.length := by
  have := congrArg List.length h
  simp only [List.length_map] at this
  omega
theorem PostR.bindE {α β γ δ : Type} {rp : Hp → α → β → Prop} {rq : Hp → γ → δ → Prop} {ra : Ra} {H : Hp} {Q2 : δ → Hp → Prop} {E : XK} {r : R α} {k : α → Cells → R γ} (h : PostR g rq (r.bind k) ra H Q2 E) :
    PostR g rp r ra H (fun v H1 => ∃ a cs1, r = .ok a cs1 ∧ Keep ra H H1 ∧ Rel g ra cs1 H1 ∧ rp H1 a v ∧ PostR g rq (k a cs1) ra H1 Q2 E) E := by
  cases r with
  | ok a cs => exact fun H1 v k1 R1 p => ⟨a, cs, rfl, k1, R1, p, PostR.from k1 h⟩
  | exc c x cs => exact h
  | bad => exact h
theorem dbg_of {x : Str} (h : nodbg x = true) : (x == ("__debug__" : Str)) = false := by
  unfold nodbg at h
  simp only [Bool.and_eq_true, Bool.not_eq_true'] at h
  exact h.1
/-- the arguments, then what is wanted of the values -/
theorem args_call {f q n : Nat} {nms : List Str} {pm : List Src} {pn : Pos} {v : Value} (hkeep : PySem.W.keepIn X.K v = true) (ok : Okx g N sc ac k X Wx) (hn : (e :: es).length = n) (hk : kws.map (·.arg) = nms.map some) (hs : ∀ x ∈ e :: es, notSt x = true)
    (ha : PA X (e :: es) (tA g Wx fl)) (hkw : PK X kws (tA g Wx fm)) (l1 : ∀ fr cs ws c, fl fr cs = .ok ws c → ws.length = (e :: es).length) (l2 : ∀ fr cs ws c, fm fr cs = .ok ws c → ws.length = kws.length)
    {pins : List (Addr × Obj)} {σ : L2.St} {H : Hp} {s : Shared} {Q : VK} {G : List W → List W → Cells → R W} (I : Inv X pins σ H s) (h : tE g Wx (fun fr cs => (fl fr cs).bind fun ws c1 => (fm fr c1).bind fun zs c2 => G ws zs c2) σ H Q)
    (go : ∀ {s : Shared} {us ws' : List Value} {vs zs : List V} {ws ys : List W} {cs : Cells} {ra : Ra} {H : Hp}, Inv X pins σ H s → Rel g ra cs H → RepWs g (frz H ra) ra ws vs → RepWs g (frz H ra) ra ys zs → Vals vs us → Vals zs ws' → vs.length = n → zs.length = nms.length →
      PostR g (rpW g ra) (G ws ys cs) ra H Q (fun c d H' => Wx c d σ H') → wpAny (model X.prog X.w) X.A (call v us (nms.zip ws')) (EP X pins σ Q) X.xe s) :
    wpAny (model X.prog X.w) X.A (callWith p v [] (backTo p (starEach (e :: es) X.env)) (backToKw p (keywordEach kws X.env))) (EP X pins σ Q) X.xe s := by
  obtain ⟨k1, k2, k3⟩ := kw_facts (env := X.env) (pos := p) hk
  have hpl := (nostar_any (env := X.env) (pos := p) hs).1
  obtain ⟨fr, cs, ra, R, Fr, q1⟩ := h
  refine PySem.W.callWith_KW (h₀ := X.base) I.ok.mod.kin hkeep k1 (thn (ha.run p pins s σ H _ I ⟨fr, cs, ra, R, Fr, PostR.bindE (rp := rpA g ra) q1⟩) fun us s1 ⟨vs, H1, I1, rv, ws, c1, e1, kk1, R1, r1, p1⟩ => ?_) (by rw [hpl, k3]; rfl) (star_of (hs e (List.mem_cons_self ..)))
  refine thn (hkw.run p pins s1 σ H1 _ I1 ⟨fr, c1, ra, R1, Fr.mono kk1, PostR.bindE (rp := rpA g ra) p1⟩) fun ws2 s2 ⟨zs, H2, I2, rz, ys, c2, e2, kk2, R2, r2, p2⟩ => ⟨I2.kIn, ?_⟩
  rw [k2]
  refine go I2 R2 (r1.mono kk2.same) r2 rv rz ?_ ?_ p2
  · rw [← r1.length, l1 _ _ _ _ e1]; exact hn
  · have a1 := r2.length
    have a2 := l2 _ _ _ _ e2
    have a3 := congrArg List.length hk
    simp only [List.length_map] at a3
    omega
theorem args_call0 {nms : List Str} {pn : Pos} {v : Value} (hkeep : PySem.W.keepIn X.K v = true) (ok : Okx g N sc ac k X Wx) (hk : kws.map (·.arg) = nms.map some)
    (hkw : PK X kws (tA g Wx fm)) (l2 : ∀ fr cs ws c, fm fr cs = .ok ws c → ws.length = kws.length)
    {pins : List (Addr × Obj)} {σ : L2.St} {H : Hp} {s : Shared} {Q : VK} {G : List W → List W → Cells → R W} (I : Inv X pins σ H s) (h : tE g Wx (fun fr cs => (fm fr cs).bind fun zs c2 => G [] zs c2) σ H Q)
    (go : ∀ {s : Shared} {us ws' : List Value} {vs zs : List V} {ws ys : List W} {cs : Cells} {ra : Ra} {H : Hp}, Inv X pins σ H s → Rel g ra cs H → RepWs g (frz H ra) ra ws vs → RepWs g (frz H ra) ra ys zs → Vals vs us → Vals zs ws' → vs.length = 0 → zs.length = nms.length →
      PostR g (rpW g ra) (G ws ys cs) ra H Q (fun c d H' => Wx c d σ H') → wpAny (model X.prog X.w) X.A (call v us (nms.zip ws')) (EP X pins σ Q) X.xe s) :
    wpAny (model X.prog X.w) X.A (callWith p v [] (backTo p (starEach [] X.env)) (backToKw p (keywordEach kws X.env))) (EP X pins σ Q) X.xe s := by
  obtain ⟨k1, k2, k3⟩ := kw_facts (env := X.env) (pos := p) hk
  obtain ⟨fr, cs, ra, R, Fr, q1⟩ := h
  refine PySem.W.callWith_KW0 (h₀ := X.base) I.ok.mod.kin hkeep k1 ?_ (by rw [k3]; rfl)
  refine thn (hkw.run p pins s σ H _ I ⟨fr, cs, ra, R, Fr, PostR.bindE (rp := rpA g ra) q1⟩) fun ws2 s2 ⟨zs, H2, I2, rz, ys, c2, e2, kk2, R2, r2, p2⟩ => ⟨I2.kIn, ?_⟩
  rw [k2]
  refine go (vs := []) I2 R2 .nil r2 .nil rz rfl ?_ p2
  have a1 := r2.length
  have a2 := l2 _ _ _ _ e2
  have a3 := congrArg List.length hk
  simp only [List.length_map] at a3
  omega
theorem c_call {f q n : Nat} {nms : List Str} {pm : List Src} {x : Str} {pn : Pos} (ok : Okx g N sc ac k X Wx) (F : Fx g wd k) (hx : wd.fnm f = some x) (hg : glB sc x = true) (hd : nodbg x = true) (hp : wd.pat f q = some (n, nms, pm)) (hn : (e :: es).length = n) (hk : kws.map (·.arg) = nms.map some) (hs : ∀ x ∈ e :: es, notSt x = true)
    (ha : PA X (e :: es) (tA g Wx fl)) (hkw : PK X kws (tA g Wx fm)) (l1 : ∀ fr cs ws c, fl fr cs = .ok ws c → ws.length = (e :: es).length) (l2 : ∀ fr cs ws c, fm fr cs = .ok ws c → ws.length = kws.length) :
    PE X (.Call (.Name x pn) (e :: es) kws p) (tE g Wx (evCall wd f q fl fm)) := by
  refine ⟨fun pins s σ H Q I h => ?_⟩
  obtain ⟨hm, hkp⟩ := F.nm f x hx
  refine wpAny_Call_Name_kw (ld_glob I (gl_of ok hg) (by rw [ok.mg]; exact hm) ?_ (dbg_of hd))
  exact args_call (f := f) (q := q) (pm := pm) (pn := pn) (by rw [ok.K]; exact hkp) ok hn hk hs ha hkw l1 l2 I h fun I2 R2 r1 r2 v1 v2 a1 a2 p2 => go_call ok F hp I2 R2 r1 r2 v1 v2 a1 a2 p2
theorem c_call0 {f q : Nat} {nms : List Str} {pm : List Src} {x : Str} {pn : Pos} (ok : Okx g N sc ac k X Wx) (F : Fx g wd k) (hx : wd.fnm f = some x) (hg : glB sc x = true) (hd : nodbg x = true) (hp : wd.pat f q = some (0, nms, pm)) (hk : kws.map (·.arg) = nms.map some)
    (hkw : PK X kws (tA g Wx fm)) (l2 : ∀ fr cs ws c, fm fr cs = .ok ws c → ws.length = kws.length) :
    PE X (.Call (.Name x pn) [] kws p) (tE g Wx (evCall wd f q (fun _ cs => .ok [] cs) fm)) := by
  refine ⟨fun pins s σ H Q I h => ?_⟩
  obtain ⟨hm, hkp⟩ := F.nm f x hx
  refine wpAny_Call_Name_kw (ld_glob I (gl_of ok hg) (by rw [ok.mg]; exact hm) ?_ (dbg_of hd))
  exact args_call0 (pn := pn) (G := fun ws zs c2 => match (wd.pat f q).bind fun q => srcs ws zs q.2.2 with | some l => callW wd f l c2 | none => .bad) (by rw [ok.K]; exact hkp) ok hk hkw l2 I h fun I2 R2 r1 r2 v1 v2 a1 a2 p2 => go_call ok F hp I2 R2 r1 r2 v1 v2 a1 a2 p2
/-! making an instance -/
def evMake (wd : Wd) (c q : Nat) (fl fm : Fra → Cells → R (List W)) : Fra → Cells → R W := fun fr cs => (fl fr cs).bind fun ws c1 => (fm fr c1).bind fun zs c2 => makeW wd c q ws zs c2
theorem ra_app {ra : Ra} {x : Addr} {n : Nat} {a : Addr} (h : ra[n]? = some (some a)) : (ra ++ [some x])[n]? = some (some a) := by
  rw [List.getElem?_append_left (List.getElem?_eq_some_iff.mp h).1]
  exact h
theorem RepW.app {F : Hp} {ra : Ra} {x : Addr} {w : W} {v : V} (h : RepW g F ra w v) : RepW g F (ra ++ [some x]) w v := by
  cases w with
  | d d => exact h
  | loc n => obtain ⟨a, h1, h2⟩ := h; exact ⟨a, h1, ra_app h2⟩
theorem RepWs.app {F : Hp} {ra : Ra} {x : Addr} {w : List W} {v : List V} (h : RepWs g F ra w v) : RepWs g F (ra ++ [some x]) w v := by
  induction h with
  | nil => exact .nil
  | cons h _ ih => exact .cons h.app ih
theorem frz_app {H : Hp} {ra : Ra} {x : Addr} : Same (frz H (ra ++ [some x])) (frz H ra) := fun b o h => by
  obtain ⟨hn, h1, t⟩ := frz_some h
  exact frz_at h1 (fun z => hn (List.mem_append_left _ z)) t
theorem frz_new {H H' : Hp} {ra : Ra} {x : Addr} (hx : H x = none) (hs : ∀ b o, H b = some o → noTbl o → H' b = some o) : Same (frz H ra) (frz H' (ra ++ [some x])) := fun b o h => by
  obtain ⟨hn, h1, t⟩ := frz_some h
  refine frz_at (hs b o h1 t) (fun z => ?_) t
  rcases List.mem_append.mp z with z | z
  · exact hn z
  · cases List.mem_singleton.mp z
    rw [hx] at h1
    cases h1
/-- a new cell: the object at x, behind the others -/
theorem Rel.grow {ra : Ra} {cs : Cells} {H H' : Hp} {x : Addr} {c : Cell} (R : Rel g ra cs H) (hx : H x = none) (hs : ∀ b o, H b = some o → H' b = some o) (hc : CellAt g (frz H' (ra ++ [some x])) H' x c) : Rel g (ra ++ [some x]) (cs ++ [some c]) H' := by
  have hnx : ∀ {n : Nat} {a : Addr}, ra[n]? = some (some a) → a ≠ x := fun {n a} h e => R.there (ra_mem h) (e ▸ hx)
  have hsame : Same (frz H ra) (frz H' (ra ++ [some x])) := frz_new hx fun b o h _ => hs b o h
  refine ⟨by rw [List.length_append, List.length_append, R.len]; rfl, fun n c' e => ?_, fun n e => ?_, fun n m a h1 h2 => ?_, R.tabs.ext hs⟩
  · by_cases hn : n < cs.length
    · rw [List.getElem?_append_left hn] at e
      obtain ⟨a, h1, h2⟩ := R.cell n c' e
      refine ⟨a, ra_app h1, h2.mono hsame ?_⟩
      cases q : H a with
      | none => exact absurd q h2.there
      | some o => exact hs a o q
    · rw [List.getElem?_append_right (Nat.le_of_not_lt hn)] at e
      have e0 : n - cs.length = 0 := by
        cases z : n - cs.length with
        | zero => rfl
        | succ z' => rw [z] at e; simp at e
      rw [e0] at e
      simp at e
      subst e
      have en : n = ra.length := by rw [R.len]; omega
      subst en
      exact ⟨x, by simp, hc⟩
  · by_cases hn : n < cs.length
    · rw [List.getElem?_append_left hn] at e
      have := R.dead n e
      rw [List.getElem?_append_left (by rw [R.len]; exact hn)]
      exact this
    · rw [List.getElem?_append_right (Nat.le_of_not_lt hn)] at e
      cases z : n - cs.length with
      | zero => rw [z] at e; simp at e
      | succ z' => rw [z] at e; simp at e
  · have cs1 : ∀ {n : Nat} {a : Addr}, (ra ++ [some x])[n]? = some (some a) → (n < ra.length ∧ ra[n]? = some (some a)) ∨ (n = ra.length ∧ a = x) := fun {n a} h => by
      by_cases hn : n < ra.length
      · rw [List.getElem?_append_left hn] at h
        exact .inl ⟨hn, h⟩
      · rw [List.getElem?_append_right (Nat.le_of_not_lt hn)] at h
        cases z : n - ra.length with
        | zero => rw [z] at h; simp at h; exact .inr ⟨by omega, h.symm⟩
        | succ z' => rw [z] at h; simp at h
    rcases cs1 h1 with ⟨l1, q1⟩ | ⟨l1, q1⟩ <;> rcases cs1 h2 with ⟨l2, q2⟩ | ⟨l2, q2⟩
    · exact R.inj n m a q1 q2
    · exact absurd q2 (hnx q1)
    · exact absurd q1 (hnx q2)
    · omega
/-- the last cell goes, its object stands from now on -/
theorem Rel.drop {ra : Ra} {cs : Cells} {H : Hp} {x : Addr} {n : Nat} (R : Rel g (ra ++ [some x]) cs H) (hn : ra.length = n) : Rel g ra (cs.take n) H := by
  subst hn
  refine ⟨?_, fun n c e => ?_, fun n e => ?_, fun n m a h1 h2 => R.inj n m a (ra_app h1) (ra_app h2), R.tabs⟩
  · have := R.len
    simp only [List.length_append, List.length_singleton] at this
    rw [List.length_take]
    omega
  · have hl : n < ra.length := by
      have := (List.getElem?_eq_some_iff.mp e).1
      rw [List.length_take] at this
      omega
    rw [List.getElem?_take_of_lt hl] at e
    obtain ⟨a, h1, h2⟩ := R.cell n c e
    rw [List.getElem?_append_left hl] at h1
    exact ⟨a, h1, h2.mono frz_app rfl⟩
  · have hl : n < ra.length := by
      have := (List.getElem?_eq_some_iff.mp e).1
      rw [List.length_take] at this
      omega
    rw [List.getElem?_take_of_lt hl] at e
    have := R.dead n e
    rw [List.getElem?_append_left hl] at this
    exact this
theorem upd2_keep {H : Hp} {x dx : Addr} {o o' : HO} (hx : H x = none) (hd : H dx = none) : ∀ b u, H b = some u → upd (upd H dx o) x o' b = some u := fun b u e => by
  rw [upd_ne (ne_of_none e hx), upd_ne (ne_of_none e hd)]
  exact e
theorem make_sp {c q f n : Nat} {nms : List Str} {pm : List Src} {vs zs : List V} {ws ys : List W} {cs : Cells} {ra : Ra} {H : Hp} {Q : VK} {E : XK} (F : Fx g wd k) (hi : wd.init c = some f) (hp : wd.pat f q = some (n, nms, pm))
    (R : Rel g ra cs H) (r1 : RepWs g (frz H ra) ra ws vs) (r2 : RepWs g (frz H ra) ra ys zs) (h : PostR g (rpW g ra) (makeW wd c q ws ys cs) ra H Q E) (x dx : Addr) (hx : H x = none) (hd : H dx = none) (hne : dx ≠ x) :
    spOf g (g.ps f).length (wd.phi f) (srcV (.ref x :: vs) zs pm) (upd (upd H dx (.own x)) x (.ins (g.ca c) dx [])) (fun v H2 => v = .non ∧ Q (.ref x) H2) E := by
  obtain ⟨hf, hl, _⟩ := F.pat _ _ _ _ _ hp
  have hk := upd2_keep (o := .own x) (o' := .ins (g.ca c) dx []) hx hd
  have R' : Rel g (ra ++ [some x]) (cs ++ [some (.ins c [])]) (upd (upd H dx (.own x)) x (.ins (g.ca c) dx [])) := R.grow hx hk ⟨dx, [], upd_same, .nil⟩
  have hs : Same (frz H ra) (frz (upd (upd H dx (.own x)) x (.ins (g.ca c) dx [])) (ra ++ [some x])) := frz_new hx fun b o h _ => hk b o h
  have nx : some x ∉ ra := R.fresh hx
  have keep : ∀ {H' : Hp}, Keep (ra ++ [some x]) (upd (upd H dx (.own x)) x (.ins (g.ca c) dx [])) H' → Keep ra H H' := fun kk b o e nb => by
    refine kk b o (hk b o e) (fun z => ?_)
    rcases List.mem_append.mp z with z | z
    · exact nb z
    · cases List.mem_singleton.mp z
      rw [hx] at e
      cases e
  unfold makeW at h
  rw [hi] at h
  dsimp only at h
  rw [hp] at h
  simp only [Option.bind_some] at h
  split at h
  · rename_i l e
    have rx : RepWs g (frz (upd (upd H dx (.own x)) x (.ins (g.ca c) dx [])) (ra ++ [some x])) (ra ++ [some x]) (.loc cs.length :: ws) (.ref x :: vs) := .cons ⟨x, rfl, by rw [← R.len]; simp⟩ (r1.app.mono hs)
    obtain ⟨q1, q2⟩ := srcs_ok rx (r2.app.mono hs) hf e
    refine ⟨l, _, _, R', q1, by rw [q2, hl], ?_⟩
    cases e2 : wd.phi f l (cs ++ [some (.ins c [])]) with
    | bad => rw [e2] at h; exact h
    | exc c' x' cs' =>
      rw [e2] at h
      intro H' dd v kk R2 hdd rr
      exact h H' dd v (keep kk) (R2.drop R.len) hdd (rr.mono frz_app)
    | ok d cs' =>
      rw [e2] at h
      intro H' v kk R2 rr
      have h' : PostR g (rpW g ra) (madeW c cs.length d cs') ra H Q E := h
      unfold madeW at h'
      split at h'
      · rename_i c' fs hc
        split at h'
        · rename_i ec
          subst ec
          cases rr
          refine ⟨rfl, h' H' (.ref x) (keep kk) (R2.drop R.len) ?_⟩
          obtain ⟨a, ha, dx', vs', h3, h4⟩ := R2.cell _ _ hc
          have ea : a = x := by
            rw [← R.len] at ha
            simp at ha
            exact ha.symm
          subst ea
          exact .ins (frz_at h3 nx) (h4.mono frz_app)
        · exact h'.elim
      · exact h'.elim
  · exact h.elim
theorem mk_guards {A : Around} {a : Args} (h : A.guards = some []) : (A.under (.builtin "type.__call__" a)).guards = some [] := by
  show pushGuards (Code.guards (.builtin "type.__call__" a)) A.guards = _
  have e : Code.isGuard (.builtin "type.__call__" a) = false := by
    unfold Code.isGuard
    first | rfl | decide +kernel | simp | kernel_rfl
  rw [show Code.guards (.builtin "type.__call__" a) = [] by unfold Code.guards; rw [e]; rfl, h]
  rfl
theorem go_make {c q f n : Nat} {nms : List Str} {pm : List Src} {pins : List (Addr × Obj)} {σ : L2.St} {s : Shared} {us ws' : List Value} {vs zs : List V} {ws ys : List W} {cs : Cells} {ra : Ra} {H : Hp} {Q : VK} (ok : Okx g N sc ac k X Wx) (F : Fx g wd k) (hi : wd.init c = some f) (hp : wd.pat f q = some (n, nms, pm))
    (I : Inv X pins σ H s) (R : Rel g ra cs H) (r1 : RepWs g (frz H ra) ra ws vs) (r2 : RepWs g (frz H ra) ra ys zs) (v1 : Vals vs us) (v2 : Vals zs ws') (l1 : vs.length + 1 = n) (l2 : zs.length = nms.length)
    (h : PostR g (rpW g ra) (makeW wd c q ws ys cs) ra H Q (fun c d H' => Wx c d σ H')) : wpAny (model X.prog X.w) X.A (call (.ref (g.ca c)) us (nms.zip ws')) (EP X pins σ Q) X.xe s := by
  obtain ⟨hf, hl, gg, hb⟩ := F.pat _ _ _ _ _ hp
  have M : Mk X.K (g.ca c) (g.fa f) := by rw [ok.K]; exact F.mk_ _ _ hi
  have hb' : KBn X.K (g.fd f) (g.ps f) n nms gg fun vs zs => srcV vs zs pm := by rw [ok.K]; exact hb
  have hq := make_sp F hi hp R r1 r2 h (s.heap.objs.size + 1) s.heap.objs.size (I.hok.fresh (Nat.le_succ _)) (I.hok.fresh (Nat.le_refl _)) (Nat.ne_of_lt (Nat.lt_succ_self _))
  have I2 := Inv.made (C := g.ca c) I
  have rr1 : Vals (V.ref (s.heap.objs.size + 1) :: vs) (Value.ref (s.heap.objs.size + 1) :: us) := .cons rfl v1
  have rr2 := hb'.rel rr1 v2
  have n1 : (Value.ref (s.heap.objs.size + 1) :: us).length = n := by
    rw [List.length_cons, ← v1.length]
    exact l1
  have FF := F.fn' ok f
  refine wpAny_call (make_map (f := g.fa f) I.kIn M.makes M.init (beq_iff_eq.mp M.fn) (codeAny_mono (FF.run _ X.stack _ _ ⟨Value.ref (s.heap.objs.size + 1) :: us, nms.zip ws'⟩ (gg (Value.ref (s.heap.objs.size + 1) :: us) ws') _ _ (WE Wx σ) ((ok.hr.mono (by omega : k + 1 ≤ k + 2)).make (g.ca c) us (nms.zip ws')) (mk_guards ok.gd)
    (I2.env0.make (g.ca c) us (nms.zip ws')) (hb'.to _ (Value.ref (s.heap.objs.size + 1) :: us) ws' I2.kIn n1 (v2.length.symm.trans l2)) rr2 hq) fun r s' hq' => ?_))
  cases r with
  | error e => exact passAt ok.tk σ pins _ _ e s' I2 hq'
  | ok fl =>
    cases fl with
    | ret u =>
      obtain ⟨v, H', I3, rv, ev, q3⟩ := I2.after hq'
      subst ev
      exact ⟨rv, ⟨V.ref (s.heap.objs.size + 1), H', I3, rfl, q3⟩⟩
    | next => exact False.elim hq'
    | brk => exact False.elim hq'
    | cont => exact False.elim hq'
theorem c_make {c f q n : Nat} {nms : List Str} {pm : List Src} {x : Str} {pn : Pos} (ok : Okx g N sc ac k X Wx) (F : Fx g wd k) (hx : wd.cnm c = some x) (hi : wd.init c = some f) (hg : glB sc x = true) (hd : nodbg x = true) (hp : wd.pat f q = some (n, nms, pm)) (hn : (e :: es).length + 1 = n) (hk : kws.map (·.arg) = nms.map some) (hs : ∀ x ∈ e :: es, notSt x = true)
    (ha : PA X (e :: es) (tA g Wx fl)) (hkw : PK X kws (tA g Wx fm)) (l1 : ∀ fr cs ws c, fl fr cs = .ok ws c → ws.length = (e :: es).length) (l2 : ∀ fr cs ws c, fm fr cs = .ok ws c → ws.length = kws.length) :
    PE X (.Call (.Name x pn) (e :: es) kws p) (tE g Wx (evMake wd c q fl fm)) := by
  refine ⟨fun pins s σ H Q I h => ?_⟩
  refine wpAny_Call_Name_kw (ld_glob I (gl_of ok hg) (by rw [ok.mg]; exact F.cnm _ _ hx) ?_ (dbg_of hd))
  refine args_call (n := (e :: es).length) (f := f) (q := q) (pm := pm) (pn := pn) (by rw [ok.K]; exact (F.mk_ _ _ hi).kp) ok rfl hk hs ha hkw l1 l2 I h fun I2 R2 r1 r2 v1 v2 a1 a2 p2 => go_make ok F hi hp I2 R2 r1 r2 v1 v2 (by rw [a1]; exact hn) a2 p2
theorem c_make0 {c f q : Nat} {nms : List Str} {pm : List Src} {x : Str} {pn : Pos} (ok : Okx g N sc ac k X Wx) (F : Fx g wd k) (hx : wd.cnm c = some x) (hi : wd.init c = some f) (hg : glB sc x = true) (hd : nodbg x = true) (hp : wd.pat f q = some (1, nms, pm)) (hk : kws.map (·.arg) = nms.map some)
    (hkw : PK X kws (tA g Wx fm)) (l2 : ∀ fr cs ws c, fm fr cs = .ok ws c → ws.length = kws.length) :
    PE X (.Call (.Name x pn) [] kws p) (tE g Wx (evMake wd c q (fun _ cs => .ok [] cs) fm)) := by
  refine ⟨fun pins s σ H Q I h => ?_⟩
  refine wpAny_Call_Name_kw (ld_glob I (gl_of ok hg) (by rw [ok.mg]; exact F.cnm _ _ hx) ?_ (dbg_of hd))
  exact args_call0 (pn := pn) (G := fun ws zs c2 => makeW wd c q ws zs c2) (by rw [ok.K]; exact (F.mk_ _ _ hi).kp) ok hk hkw l2 I h fun I2 R2 r1 r2 v1 v2 a1 a2 p2 => go_make ok F hi hp I2 R2 r1 r2 v1 v2 (by rw [a1]) a2 p2
end
end BV

namespace BV
open PySem L2
section
variable {g : G} {wd : Wd} {N : List Str} {sc : Scope} {ac : Bool} {k : Nat} {X : Cx} {Wx : WX} {fa fb fc : Fra → Cells → R W} {fl fm : Fra → Cells → R (List W)} {l r e : Expr} {es : List Expr} {kws : List Keyword} {p : Pos}
/-! fields, properties, methods -/
theorem clsOf_ok {w : W} {v : V} {cs : Cells} {ra : Ra} {H : Hp} {c : Nat} {fs : List (Str × D)} (R : Rel g ra cs H) (r : RepW g (frz H ra) ra w v) (h : clsOf cs w = some (c, fs)) : ∃ a dx vs, v = .ref a ∧ H a = some (.ins (g.ca c) dx vs) ∧ RepF g (frz H ra) fs vs := by
  unfold clsOf at h
  split at h
  · cases h
    cases r with
    | ins h1 h2 => exact ⟨_, _, _, rfl, frz_same H ra _ _ h1, h2⟩
  · split at h
    · rename_i hc
      cases h
      obtain ⟨a, rfl, ha⟩ := r
      obtain ⟨a', h1, dx, vs, h2, h3⟩ := R.cell _ _ hc
      rw [ha] at h1
      cases h1
      exact ⟨a, dx, vs, rfl, h2, h3⟩
    · cases h
  · cases h
theorem nox_post {α β : Type} {rp : Hp → α → β → Prop} {ra : Ra} {H : Hp} {Q : β → Hp → Prop} {E E' : XK} {r : R α} (h : PostR g rp r.nox ra H Q E) : PostR g rp r ra H Q E' := by
  cases r with
  | ok a cs => exact h
  | exc c x cs => exact h.elim
  | bad => exact h.elim
/-- positional arguments only -/
theorem run_B {CX : CXT} {n : Nat} {f : Addr} {fd : FuncData} {ps : List Str} {sp : Sp} {E : XK} {pins : List (Addr × Obj)} {σ : L2.St} {H : Hp} {s : Shared} {Q : VK} {us : List Value} {vs : List V}
    (F : FnG X.prog X.w X.K X.mg X.base CX n f fd ps sp) (hr : Room n X.A) (hgd : X.A.guards = some []) (hb : Binds X.K fd ps []) (hx : PassesAt CX X σ E) (I : Inv X pins σ H s) (r : Vals vs us) (h : sp vs H Q E) :
    wpAny (model X.prog X.w) X.A (call (.ref f) us) (EP X pins σ Q) X.xe s := by
  have hl : us.length = ps.length := by rw [← r.length]; exact F.len _ _ _ _ h
  have b2 := hb s us I.kIn (by rw [List.append_nil]; exact hl)
  rw [List.append_nil] at b2
  refine wpAny_call (codeAny_mono (F.run X.A X.stack s H ⟨us, []⟩ us vs Q E hr hgd I.env0 b2 r h) fun r s' hq => ?_)
  cases r with
  | error e => exact hx pins H s e s' I hq
  | ok fl =>
    cases fl with
    | ret u => exact I.after hq
    | next => exact False.elim hq
    | brk => exact False.elim hq
    | cont => exact False.elim hq
/-- a property is read -/
theorem getpropG {CX : CXT} {n : Nat} {f : Str} {a C dx p gg : Addr} {fs : List (Str × V)} {fd : FuncData} {ps : List Str} {sp : Sp} {E : XK} {pins : List (Addr × Obj)} {σ : L2.St} {H : Hp} {s : Shared} {Q : VK} {b : Bool} {E' : Value → Shared → Prop} (I : Inv X pins σ H s) (ea : H a = some (.ins C dx fs)) (c : Cls X.K C) (hp : PropOf X.K C f p gg)
    (F : FnG X.prog X.w X.K X.mg X.base CX n gg fd ps sp) (hr : Room (n + 1) X.A) (hgd : X.A.guards = some []) (hb : Binds X.K fd ps []) (hx : Passes CX X.nox E) (h : sp [.ref a] H Q E) :
    wpAny (model X.prog X.w) X.A (getAttr (.ref a) f b) (EP X pins σ Q) E' s := by
  obtain ⟨mA, O, _, _, _, _⟩ := ins_get I.hok ea
  obtain ⟨od, J, _⟩ := O.look
  obtain ⟨rest, hrec⟩ := hp.rec_
  have I1 := I.tok (s.toks + 1)
  have b2 := hb { s with toks := s.toks + 1 } [.ref a] I1.kIn (by rw [List.append_nil]; exact F.len _ _ _ _ h)
  rw [List.append_nil] at b2
  have hc : (PySem.W.clsIn X.K C).isSome = true := by
    obtain ⟨cd, hc, _⟩ := PySem.W.any_some c.hd
    rw [hc]
    rfl
  refine PySem.W.get_bind I.kIn J (PySem.W.plainGet_of (c.get f)).1 (PySem.W.findObj_data hc hp.at_ hp.get hp.tak) (PySem.W.plainGet_of (c.get f)).2 (wpAny_call (PySem.W.prop_get (s := { s with toks := s.toks + 1 }) I.kIn hrec ?_))
  refine codeAny_mono (F.run X.A.in1 X.stack { s with toks := s.toks + 1 } H ⟨[.ref a], []⟩ [.ref a] [.ref a] Q E hr.in1 hgd I1.env0.in1 b2 (.cons rfl .nil) h) fun r s' hq => ?_
  cases r with
  | error er => exact False.elim (hx pins σ H { s with toks := s.toks + 1 } er s' (I1.wish _) hq)
  | ok fl =>
    cases fl with
    | ret u =>
      obtain ⟨v, H', I3, rv, q3⟩ := I1.after hq
      show wpAny _ _ (handedOut u) _ _ _
      rw [PySem.W.handedOut_of (handed_of rv)]
      exact wpAny_pure ⟨v, H', I3, rv, q3⟩
    | next => exact False.elim hq
    | brk => exact False.elim hq
    | cont => exact False.elim hq
theorem c_fld {f : Str} (ok : Okx g N sc ac k X Wx) (F : Fx g wd k) (hsup : notSup l = true) (ha : PE X l (tE g Wx fa)) : PE X (.Attribute l f p) (tE g Wx fun fr cs => (fa fr cs).bind fun w c1 => fldW wd w f c1) := by
  refine ⟨fun pins s σ H Q I h => ?_⟩
  obtain ⟨fr, cs, ra, R, Fr, q⟩ := h
  refine attr_of (base_of hsup) (thn (ha.run pins s σ H _ I ⟨fr, cs, ra, R, Fr, PostR.bind (rp := rpW g ra) q⟩) fun u s1 ⟨x, H1, I1, ru, w, c1, k1, R1, rw', p1⟩ => ?_)
  unfold fldW at p1
  split at p1
  · rename_i c fs e
    obtain ⟨a, dx, vs, rfl, ea, rf⟩ := clsOf_ok R1 rw' e
    obtain rfl : u = Value.ref a := ru
    split at p1
    · rename_i pf ep
      obtain ⟨hc, ⟨pp, hp⟩, hl, hb⟩ := F.prop _ _ _ ep
      have hc' : Cls X.K (g.ca c) := by rw [ok.K]; exact hc
      have hp' : PropOf X.K (g.ca c) f pp (g.fa pf) := by rw [ok.K]; exact hp
      have hb' : Binds X.K (g.fd pf) (g.ps pf) [] := by rw [ok.K]; exact hb
      refine getpropG I1 ea hc' hp' (F.fn' ok pf) (ok.hr.mono (by omega)) ok.gd hb' (E := E0) passL ?_
      refine ⟨[w], c1, ra, R1, .cons rw' .nil, hl.symm, callW_post (nox_post p1)⟩
    · split at p1
      · rename_i hk
        obtain ⟨hc, hn⟩ := F.fld _ _ hk
        have hc' : Cls X.K (g.ca c) := by rw [ok.K]; exact hc
        have hn' : NoAttr X.K (g.ca c) f := by rw [ok.K]; exact hn
        split at p1
        · rename_i d ed
          obtain ⟨v, ev, rv⟩ := rf.lookup ed
          exact getattr_ok I1 ea hc' hn' ev fun u s' I' ru => ⟨v, H1, I', ru, back R1 rv p1⟩
        · exact p1.elim
      · exact p1.elim
  · unfold fldE at p1
    split at p1
    · rename_i c x
      split at p1
      · rename_i nm fl ex
        split at p1
        · rename_i ef
          subst ef
          obtain ⟨e0, _, _, _, _, hC, hN⟩ := F.exk _ _ _ ex
          cases rw' with
          | @exc c x v a dd h1 h2 rx =>
            obtain rfl : u = Value.ref a := ru
            exact held_get I1 (frz_same _ _ _ _ h1) (by rw [e0]; exact frz_same _ _ _ _ h2) (by rw [ok.K]; exact hC) (by rw [ok.K]; exact hN) (back R1 rx p1)
        · exact p1.elim
      · exact p1.elim
    · exact p1.elim
theorem meth_rule {m : Str} {apos : Pos} {pins : List (Addr × Obj)} {s : Shared} {Q : Value → Shared → Prop} (hsup : notSup l = true) (hline : (apos.endLine == p.line) = true) (hlen : es.length < 20) (hs : ∀ x ∈ es, notSt x = true)
    (h : wpAny (model X.prog X.w) X.A (eval l X.env) (fun ov s₁ => wpAny (model X.prog X.w) X.A (getMethod ov m (do return (← importBound l X.env).getD true)) (fun fx s2 => wpAny (model X.prog X.w) X.A (callWith p fx.1 fx.2 (backTo p (starEach es X.env)) []) Q X.xe s2) X.xe s₁) X.xe s) :
    wpAny (model X.prog X.w) X.A (eval (.Call (.Attribute l m apos) es [] p) X.env) Q X.xe s := by
  rw [PySem.arm_eval_Call, base_of hsup]
  refine wpAny_bind (thn h fun ov s1 h1 => ?_)
  have hal := (nostar_any (env := X.env) (pos := p) hs).2
  have hform : methodCallForm (es.length + ([] : List Keyword).length) (backTo p (starEach es X.env)) (backToKw p (keywordEach [] X.env)) = true := by
    unfold methodCallForm
    rw [hal]
    have : es.length + 0 + 0 < 30 := by omega
    show (true && true && decide (es.length + 0 + 0 < 30)) = true
    rw [decide_eq_true this]
    rfl
  have hpos : methodCallPos true l X.env apos p = pure p := by unfold methodCallPos; simp [hline]
  refine wpAny_bind (wpAny_standAt ?_)
  unfold methodCall
  rw [hform]
  refine wpAny_bind (wpAny_holding (thn (show wpAny _ _ (getMethod ov m _) _ _ _ from h1) fun fx s2 h2 => ?_))
  exact wpAny_bind (wpAny_of_eq hpos h2)
theorem meth_go {m : Str} {pins : List (Addr × Obj)} {σ : L2.St} {s : Shared} {us : List Value} {vs : List V} {ws : List W} {w : W} {a : Addr} {cs : Cells} {ra : Ra} {H : Hp} {Q : VK} {c f : Nat} (ok : Okx g N sc ac k X Wx) (F : Fx g wd k) (hm : wd.meth c m = some f)
    (I : Inv X pins σ H s) (R : Rel g ra cs H) (r0 : RepW g (frz H ra) ra w (.ref a)) (r1 : RepWs g (frz H ra) ra ws vs) (v1 : Vals vs us) (hl : (g.ps f).length = ws.length + 1)
    (h : PostR g (rpW g ra) (callW wd f (w :: ws) cs) ra H Q (fun c d H' => Wx c d σ H')) : wpAny (model X.prog X.w) X.A (call (.ref (g.fa f)) (.ref a :: us)) (EP X pins σ Q) X.xe s := by
  obtain ⟨_, _, hb⟩ := F.meth _ _ _ hm
  have hb' : Binds X.K (g.fd f) (g.ps f) [] := by rw [ok.K]; exact hb
  exact run_B (vs := .ref a :: vs) (us := .ref a :: us) (E := WE Wx σ) (F.fn' ok f) (ok.hr.mono (by omega)) ok.gd hb' (passAt ok.tk σ) I (.cons rfl v1) (by
    exact ⟨w :: ws, cs, ra, R, .cons r0 r1, by rw [hl]; rfl, callW_post h⟩)
def evMeth (wd : Wd) (m : Str) (fa : Fra → Cells → R W) (fl : Fra → Cells → R (List W)) : Fra → Cells → R W := fun fr cs => (fa fr cs).bind fun w c1 => match mthW wd w m c1 with
  | some f => (fl fr c1).bind fun ws c2 => if wd.npar f = ws.length + 1 then callW wd f (w :: ws) c2 else .bad
  | none => .bad
theorem mthW_ok {w : W} {m : Str} {f : Nat} {cs : Cells} {ra : Ra} {H : Hp} {v : V} (R : Rel g ra cs H) (r : RepW g (frz H ra) ra w v) (h : mthW wd w m cs = some f) :
    ∃ a c dx vs, v = .ref a ∧ H a = some (.ins (g.ca c) dx vs) ∧ vs.lookup m = none ∧ wd.meth c m = some f := by
  unfold mthW at h
  split at h
  · rename_i c fs e
    obtain ⟨a, dx, vs, rfl, ea, rf⟩ := clsOf_ok R r e
    split at h
    · rename_i f' e1 e2
      cases h
      exact ⟨a, c, dx, vs, rfl, ea, rf.lookup_none e2, e1⟩
    · cases h
  · cases h
theorem c_meth {m : Str} {apos : Pos} (ok : Okx g N sc ac k X Wx) (F : Fx g wd k) (hsup : notSup l = true) (hline : (apos.endLine == p.line) = true) (hlen : (e :: es).length < 20) (hs : ∀ x ∈ e :: es, notSt x = true) (ha : PE X l (tE g Wx fa)) (hl : PA X (e :: es) (tA g Wx fl)) :
    PE X (.Call (.Attribute l m apos) (e :: es) [] p) (tE g Wx (evMeth wd m fa fl)) := by
  refine ⟨fun pins s σ H Q I h => ?_⟩
  obtain ⟨fr, cs, ra, R, Fr, q⟩ := h
  refine meth_rule (pins := pins) hsup hline hlen hs (thn (ha.run pins s σ H _ I ⟨fr, cs, ra, R, Fr, PostR.bind (rp := rpW g ra) q⟩) fun u s1 ⟨x, H1, I1, ru, w, c1, k1, R1, rw', p1⟩ => ?_)
  split at p1
  · rename_i f ef
    obtain ⟨a, c, dx, vs, rfl, ea, hno, hm⟩ := mthW_ok R1 rw' ef
    obtain rfl : u = Value.ref a := ru
    obtain ⟨hc, hme, _⟩ := F.meth _ _ _ hm
    have hc' : Cls X.K (g.ca c) := by rw [ok.K]; exact hc
    have hme' : Meth X.K (g.ca c) m (g.fa f) := by rw [ok.K]; exact hme
    refine getmeth_ok I1 ea hc' hme' hno ?_
    have hst := star_of (es := es) (env := X.env) (hs e (List.mem_cons_self ..))
    have hpl := (nostar_any (env := X.env) (pos := p) fun x hx => hs x (List.mem_cons_of_mem _ hx)).1
    refine PySem.W.callWith_K (first := [.ref a]) (h₀ := X.base) I1.ok.mod.kin hme'.kp (thn (hl.run p pins s1 σ H1 _ I1 ⟨fr, c1, ra, R1, Fr.mono k1, PostR.bind (rp := rpA g ra) p1⟩) fun us s2 ⟨vs2, H2, I2, r2, ws, c2, k2, R2, rws, p2⟩ => ⟨I2.kIn, ?_⟩) hst hpl
    split at p2
    · rename_i hn
      exact meth_go (m := m) ok F hm I2 R2 (rw'.mono k2.same) rws r2 ((F.npar f).symm.trans hn) p2
    · exact p2.elim
  · exact p1.elim
theorem c_meth0 {m : Str} {apos : Pos} (ok : Okx g N sc ac k X Wx) (F : Fx g wd k) (hsup : notSup l = true) (hline : (apos.endLine == p.line) = true) (ha : PE X l (tE g Wx fa)) :
    PE X (.Call (.Attribute l m apos) [] [] p) (tE g Wx (evMeth wd m fa fun _ cs => .ok [] cs)) := by
  refine ⟨fun pins s σ H Q I h => ?_⟩
  obtain ⟨fr, cs, ra, R, Fr, q⟩ := h
  refine meth_rule (pins := pins) hsup hline (by show 0 < 20; decide) (fun x hx => by cases hx) (thn (ha.run pins s σ H _ I ⟨fr, cs, ra, R, Fr, PostR.bind (rp := rpW g ra) q⟩) fun u s1 ⟨x, H1, I1, ru, w, c1, k1, R1, rw', p1⟩ => ?_)
  split at p1
  · rename_i f ef
    obtain ⟨a, c, dx, vs, rfl, ea, hno, hm⟩ := mthW_ok R1 rw' ef
    obtain rfl : u = Value.ref a := ru
    obtain ⟨hc, hme, _⟩ := F.meth _ _ _ hm
    have hc' : Cls X.K (g.ca c) := by rw [ok.K]; exact hc
    have hme' : Meth X.K (g.ca c) m (g.fa f) := by rw [ok.K]; exact hme
    refine getmeth_ok I1 ea hc' hme' hno ?_
    have p1' : PostR g (rpW g ra) (if wd.npar f = ([] : List W).length + 1 then callW wd f [w] c1 else .bad) ra H1 Q (fun c d H' => Wx c d σ H') := p1
    split at p1'
    · rename_i hn
      exact PySem.W.callWith_K0 (first := [.ref a]) I1.kIn hme'.kp (meth_go (m := m) (us := []) (vs := []) (ws := []) ok F hm I1 R1 rw' .nil .nil ((F.npar f).symm.trans hn) p1')
    · exact p1'.elim
  · exact p1.elim
/-! what is walked -/
def WalksD (g : G) (F : Hp) (J : It) (ds : List D) : Prop := ∀ H2, Same F H2 → (∀ i d, ds[i]? = some d → J.go i H2 ∧ ∀ x H3, J.yld i H2 x H3 → Same H2 H3 ∧ ∀ F3, Same F F3 → (∀ b o, H2 b = none → H3 b = some o → noTbl o → F3 b = some o) → Rep g F3 d x) ∧ J.stop ds.length H2
def tI (g : G) (Wx : WX) (fi : Fra → Cells → R (List D)) : TI := fun σ H RR => ∃ fr cs ra, Rel g ra cs H ∧ FrR g H ra fr σ ∧ PostR g (fun H1 ds J => WalksD g (frz H1 ra) J ds) (fi fr cs) ra H RR (fun c d H' => Wx c d σ H')
theorem PI.imp {X : Cx} {tg e : Expr} {t t' : TI} (h : PI X tg e t) (i : ∀ σ H Q, t' σ H Q → t σ H Q) : PI X tg e t' := ⟨fun pins s σ H Q I q => h.run pins s σ H Q I (i σ H Q q)⟩
theorem walks_rng {F : Hp} {a : Int} {n : Nat} : WalksD g F (Itr a n) ((List.range n).map fun i => .int (a + (i : Nat))) := by
  intro H2 hs
  refine ⟨fun i d h => ?_, ?_⟩
  · rw [List.getElem?_map] at h
    cases e : (List.range n)[i]? with
    | none => rw [e] at h; cases h
    | some j =>
      rw [e] at h
      have hi : i < n := by
        have := (List.getElem?_eq_some_iff.mp e).1
        rwa [List.length_range] at this
      have ej : j = i := by
        rw [List.getElem?_range hi] at e
        exact (Option.some.inj e).symm
      subst ej
      cases h
      exact ⟨hi, fun x H3 ⟨e1, e2⟩ => ⟨by rw [e1]; exact Same.refl _, fun F3 _ _ => by rw [e2]; exact .int _⟩⟩
  · show n ≤ _
    rw [List.length_map, List.length_range]
    exact Nat.le_refl _
theorem small62_ok {i : Int} (h : small62 i = true) : -(2 ^ 62) ≤ i ∧ i < 2 ^ 62 := by
  unfold small62 at h
  have := of_decide_eq_true h
  omega
theorem c_rng1 {tg : Expr} {pn : Pos} (ok : Okx g N sc ac k X Wx) (F : Fx g wd k) (hg : glB sc "range" = true) (hst : notSt e = true) (ha : PE X e (tE g Wx fa)) :
    PI X tg (.Call (.Name "range" pn) [e] [] p) (tI g Wx fun fr cs => (asI (fa fr cs)).bind fun i c1 => if small62 i then .ok (rngD 0 i) c1 else .bad) := by
  refine PI.imp (pi_range1 (gl_of ok hg) (by rw [ok.mg]; exact F.bx.1) (pa_cons ha pa_nil (star_of hst)) (star_of (es := []) hst)) ?_
  rintro σ H RR ⟨fr, cs, ra, R, Fr, q⟩
  refine ⟨fr, cs, ra, R, Fr, PostR.imp (asI_post (PostR.bind (rp := fun _ (a b : Int) => a = b) q)) ?_⟩
  rintro x H1 ⟨i, rfl, i', c1, k1, R1, rfl, p1⟩
  split at p1
  · rename_i hs
    obtain ⟨h1, h2⟩ := small62_ok hs
    refine ⟨i', rfl, h1, h2, p1 H1 _ (Keep.refl _ _) R1 ?_⟩
    unfold rngD
    rw [Int.sub_zero]
    exact walks_rng
  · exact p1.elim
theorem c_rng2 {tg : Expr} {pn : Pos} (ok : Okx g N sc ac k X Wx) (F : Fx g wd k) (hg : glB sc "range" = true) (hst : notSt l = true) (hst2 : notSt r = true) (ha : PE X l (tE g Wx fa)) (hb : PE X r (tE g Wx fb)) :
    PI X tg (.Call (.Name "range" pn) [l, r] [] p) (tI g Wx fun fr cs => (asI (fa fr cs)).bind fun i c1 => (asI (fb fr c1)).bind fun j c2 => if small62 i && small62 j then .ok (rngD i j) c2 else .bad) := by
  have s2 := star_of (es := []) (env := X.env) hst2
  have s1 := star_of (es := [r]) (env := X.env) hst
  refine PI.imp (pi_range2 (gl_of ok hg) (by rw [ok.mg]; exact F.bx.1) (pa_cons ha (pa_cons hb pa_nil s2) s1) (by rw [s1, s2]; rfl) (by rw [s2]; rfl)) ?_
  rintro σ H RR ⟨fr, cs, ra, R, Fr, q⟩
  refine ⟨fr, cs, ra, R, Fr, PostR.imp (asI_post (PostR.bind (rp := fun _ (a b : Int) => a = b) q)) ?_⟩
  rintro x H1 ⟨i, rfl, i', c1, k1, R1, rfl, p1⟩
  refine ⟨fr, c1, ra, R1, Fr.mono k1, PostR.imp (asI_post (PostR.bind (rp := fun _ (a b : Int) => a = b) p1)) ?_⟩
  rintro y H2 ⟨j, rfl, j', c2, k2, R2, rfl, p2⟩
  split at p2
  · rename_i hs
    simp only [Bool.and_eq_true] at hs
    obtain ⟨h1, h2⟩ := small62_ok hs.1
    obtain ⟨h3, h4⟩ := small62_ok hs.2
    exact ⟨i', j', rfl, ⟨h1, h2, h3, h4⟩, p2 H2 _ (Keep.refl _ _) R2 walks_rng⟩
  · exact p2.elim
theorem walks_list {F : Hp} {a : Addr} {ds : List D} {vs : List V} (h : SqL g.K F a vs) (r : RepL g F ds vs) : WalksD g F (Itl g.K a) ds := by
  intro H2 hs
  refine ⟨fun i d hd => ?_, vs, hs.seq h, by rw [r.length]; exact Nat.le_refl _⟩
  obtain ⟨v, e1, e2⟩ := r.get hd
  refine ⟨⟨vs, v, hs.seq h, e1⟩, fun x H3 ⟨e3, e4⟩ => ?_⟩
  subst e3
  refine ⟨Same.refl _, fun F3 hF _ => ?_⟩
  have := e4 vs (hs.seq h)
  rw [e1] at this
  cases this
  exact e2.mono hF
theorem walks_tup {F : Hp} {a : Addr} {ds : List D} {vs : List V} (h : SqT g.K F a vs) (r : RepL g F ds vs) : WalksD g F (Itt g.K a) ds := by
  intro H2 hs
  refine ⟨fun i d hd => ?_, vs, sqT_mono hs h, by rw [r.length]; exact Nat.le_refl _⟩
  obtain ⟨v, e1, e2⟩ := r.get hd
  refine ⟨⟨vs, v, sqT_mono hs h, e1⟩, fun x H3 ⟨e3, e4⟩ => ?_⟩
  subst e3
  refine ⟨Same.refl _, fun F3 hF _ => ?_⟩
  have := e4 vs (sqT_mono hs h)
  rw [e1] at this
  cases this
  exact e2.mono hF
theorem c_itl {tg : Expr} (ok : Okx g N sc ac k X Wx) (ha : PE X e (tE g Wx fa)) : PI X tg e (tI g Wx fun fr cs => (fa fr cs).bind fun w c1 => match w with
    | .d (.lst xs) => .ok xs c1
    | .d (.flst xs) => .ok xs c1
    | _ => .bad) := by
  refine PI.imp (pi_list ha) ?_
  rintro σ H RR ⟨fr, cs, ra, R, Fr, q⟩
  refine ⟨fr, cs, ra, R, Fr, PostR.imp (PostR.bind (rp := rpW g ra) q) ?_⟩
  rintro x H1 ⟨w, c1, k1, R1, r1, p1⟩
  rw [ok.K]
  split at p1
  · cases r1 with
    | lst h rr => exact ⟨_, rfl, ⟨_, SqL.of (frz_same _ _ _ _ h)⟩, p1 H1 _ (Keep.refl _ _) R1 (walks_list (SqL.of h) rr)⟩
  · cases r1 with
    | flst h rr => exact ⟨_, rfl, ⟨_, (frz_same H1 ra).seq h⟩, p1 H1 _ (Keep.refl _ _) R1 (walks_list h rr)⟩
  · exact p1.elim
theorem c_itt {tg : Expr} (ok : Okx g N sc ac k X Wx) (ha : PE X e (tE g Wx fa)) : PI X tg e (tI g Wx fun fr cs => (fa fr cs).bind fun w c1 => match w with
    | .d (.tup xs) => .ok xs c1
    | _ => .bad) := by
  refine PI.imp (pi_tup ha) ?_
  rintro σ H RR ⟨fr, cs, ra, R, Fr, q⟩
  refine ⟨fr, cs, ra, R, Fr, PostR.imp (PostR.bind (rp := rpW g ra) q) ?_⟩
  rintro x H1 ⟨w, c1, k1, R1, r1, p1⟩
  rw [ok.K]
  split at p1
  · cases r1 with
    | tup h rr => exact ⟨_, rfl, ⟨_, sqT_mono (frz_same _ _) h⟩, p1 H1 _ (Keep.refl _ _) R1 (walks_tup h rr)⟩
  · exact p1.elim
theorem c_its {tg : Expr} (ok : Okx g N sc ac k X Wx) (ha : PE X e (tE g Wx fa)) : PI X tg e (tI g Wx fun fr cs => (fa fr cs).bind fun w c1 => match w with
    | .d (.str x) => .ok (strD x) c1
    | _ => .bad) := by
  refine PI.imp (pi_str ha) ?_
  rintro σ H RR ⟨fr, cs, ra, R, Fr, q⟩
  refine ⟨fr, cs, ra, R, Fr, PostR.imp (PostR.bind (rp := rpW g ra) q) ?_⟩
  rintro x H1 ⟨w, c1, k1, R1, r1, p1⟩
  split at p1
  · rename_i z
    cases r1
    refine ⟨z, rfl, p1 H1 _ (Keep.refl _ _) R1 fun H2 hs => ⟨fun i d hd => ?_, ?_⟩⟩
    · unfold strD at hd
      rw [List.getElem?_map] at hd
      cases e1 : z.cps.toList[i]? with
      | none => rw [e1] at hd; cases hd
      | some c =>
        rw [e1] at hd
        cases hd
        have hi := (List.getElem?_eq_some_iff.mp e1).1
        rw [Array.length_toList] at hi
        refine ⟨hi, fun x H3 ⟨e3, c', e4, e5⟩ => ?_⟩
        subst e3
        rw [Array.getElem?_toList] at e1
        rw [e1] at e4
        cases e4
        subst e5
        exact ⟨Same.refl _, fun F3 _ _ => .str _⟩
    · show z.cps.size ≤ _
      unfold strD
      rw [List.length_map, Array.length_toList]
      exact Nat.le_refl _
  · exact p1.elim
theorem c_enum {tg : Expr} {pn : Pos} (ok : Okx g N sc ac k X Wx) (F : Fx g wd k) (hg : glB sc "enumerate" = true) (hst : notSt e = true) (ht : isTupE tg = true) (ha : PE X e (tE g Wx fa)) :
    PI X tg (.Call (.Name "enumerate" pn) [e] [] p) (tI g Wx fun fr cs => (fa fr cs).bind fun w c1 => match w with
    | .d (.lst xs) => .ok (enumD xs) c1
    | _ => .bad) := by
  cases tg <;> first | (cases ht; done) | skip
  refine PI.imp (pi_enum (gl_of ok hg) (by rw [ok.mg]; exact F.bx.2.1) (pa_cons ha pa_nil (star_of hst)) (star_of (es := []) hst)) ?_
  rintro σ H RR ⟨fr, cs, ra, R, Fr, q⟩
  refine ⟨fr, cs, ra, R, Fr, PostR.imp (PostR.bind (rp := rpW g ra) q) ?_⟩
  rintro x H1 ⟨w, c1, k1, R1, r1, p1⟩
  rw [ok.K]
  split at p1
  · rename_i xs
    cases r1 with
    | lst h rr =>
      rename_i vs a
      refine ⟨a, vs, rfl, SqL.of (frz_same _ _ _ _ h), p1 H1 _ (Keep.refl _ _) R1 fun H2 hs => ⟨fun i d hd => ?_, vs, hs.seq (SqL.of h), ?_⟩⟩
      · unfold enumD at hd
        rw [List.getElem?_map, List.getElem?_zipIdx] at hd
        cases e1 : xs[i]? with
        | none => rw [e1] at hd; cases hd
        | some d' =>
          rw [e1] at hd
          simp only [Option.map_some, Option.some.injEq] at hd
          subst hd
          obtain ⟨v, e2, e3⟩ := rr.get e1
          refine ⟨⟨vs, v, hs.seq (SqL.of h), e2⟩, fun x H3 ⟨T, y, e4, e5, e6, e7⟩ => ?_⟩
          have e8 := e7 vs (hs.seq (SqL.of h))
          rw [e2] at e8
          cases e8
          subst e4 e6
          refine ⟨fun b o hb => by rw [upd_ne (ne_of_none hb e5)]; exact hb, fun F3 hF hn => ?_⟩
          refine .tup (SqT.of (hn T _ e5 upd_same (fun _ z => by cases z))) (.cons ?_ (.cons (e3.mono hF) .nil))
          rw [Nat.zero_add]
          exact .int _
      · unfold enumD
        rw [List.length_map, List.length_zipIdx, rr.length]
        exact Nat.le_refl _
  · exact p1.elim
theorem c_zip {tg : Expr} {pn : Pos} (ok : Okx g N sc ac k X Wx) (F : Fx g wd k) (hg : glB sc "zip" = true) (hst : notSt l = true) (hst2 : notSt r = true) (ht : isTupE tg = true) (ha : PE X l (tE g Wx fa)) (hb : PE X r (tE g Wx fb)) :
    PI X tg (.Call (.Name "zip" pn) [l, r] [] p) (tI g Wx fun fr cs => (fa fr cs).bind fun w1 c1 => (fb fr c1).bind fun w2 c2 => match w1, w2 with
    | .d (.lst xs), .d (.lst ys) => .ok (zipD xs ys) c2
    | _, _ => .bad) := by
  cases tg <;> first | (cases ht; done) | skip
  have s2 := star_of (es := []) (env := X.env) hst2
  have s1 := star_of (es := [r]) (env := X.env) hst
  refine PI.imp (pi_zip (gl_of ok hg) (by rw [ok.mg]; exact F.bx.2.2.1) (pa_cons ha (pa_cons hb pa_nil s2) s1) s1 (nostar_any (es := [r]) fun x hx => by cases List.mem_singleton.mp hx; exact hst2).1) ?_
  rintro σ H RR ⟨fr, cs, ra, R, Fr, q⟩
  refine ⟨fr, cs, ra, R, Fr, PostR.imp (PostR.bind (rp := rpW g ra) q) ?_⟩
  rintro x H1 ⟨w1, c1, k1, R1, r1, p1⟩
  refine ⟨fr, c1, ra, R1, Fr.mono k1, PostR.imp (PostR.bind (rp := rpW g ra) p1) ?_⟩
  rintro y H2 ⟨w2, c2, k2, R2, r2, p2⟩
  rw [ok.K]
  split at p2
  · rename_i xs ys
    have r1' := r1.mono k2.same
    cases r1' with
    | lst h rr =>
      rename_i vs a
      cases r2 with
      | lst h' rr' =>
        rename_i us b
        refine ⟨a, b, vs, us, rfl, SqL.of (frz_same _ _ _ _ h), SqL.of (frz_same _ _ _ _ h'), p2 H2 _ (Keep.refl _ _) R2 fun H3 hs => ⟨fun i d hd => ?_, vs, us, hs.seq (SqL.of h), hs.seq (SqL.of h'), ?_⟩⟩
        · unfold zipD at hd
          rw [List.getElem?_map] at hd
          cases e1 : (xs.zip ys)[i]? with
          | none => rw [e1] at hd; cases hd
          | some d' =>
            rw [e1] at hd
            cases hd
            obtain ⟨e2, e3⟩ := List.getElem?_zip_eq_some.mp e1
            obtain ⟨v, f1, f2⟩ := rr.get e2
            obtain ⟨u, f3, f4⟩ := rr'.get e3
            refine ⟨⟨vs, us, v, u, hs.seq (SqL.of h), hs.seq (SqL.of h'), f1, f3⟩, fun x H4 ⟨T, y1, y2, g1, g2, g3, g4, g5⟩ => ?_⟩
            have e4 := g4 vs (hs.seq (SqL.of h))
            have e5 := g5 us (hs.seq (SqL.of h'))
            rw [f1] at e4
            rw [f3] at e5
            cases e4
            cases e5
            subst g1 g3
            refine ⟨fun b o hb => by rw [upd_ne (ne_of_none hb g2)]; exact hb, fun F3 hF hn => ?_⟩
            exact .tup (SqT.of (hn T _ g2 upd_same (fun _ z => by cases z))) (.cons (f2.mono hF) (.cons (f4.mono hF) .nil))
        · unfold zipD
          rw [List.length_map, List.length_zip, rr.length, rr'.length]
          omega
  · exact p2.elim
theorem tupF {xs : List D} {v : V} {F : Hp} {ra : Ra} (r : RepW g F ra (.d (.tup xs)) v) : ∃ a vs, v = .ref a ∧ SqT g.K F a vs ∧ RepL g F xs vs := by
  cases r with
  | tup h r => exact ⟨_, _, rfl, h, r⟩
theorem repL_of {F : Hp} : ∀ {ds : List D} {vs : List V}, ds.length = vs.length → (∀ (i : Nat) d v, ds[i]? = some d → vs[i]? = some v → Rep g F d v) → RepL g F ds vs
  | [], [], _, _ => .nil
  | d :: ds, v :: vs, h, q => .cons (q 0 d v rfl rfl) (repL_of (by simpa using h) fun i d v e1 e2 => q (i + 1) d v (by simpa using e1) (by simpa using e2))
theorem c_zips {tg : Expr} {pn p1 kp : Pos} {jj} (ok : Okx g N sc ac k X Wx) (F : Fx g wd k) (hg : glB sc "zip" = true) (hst : notSt l = true) (hst2 : notSt r = true) (ht : isTupE tg = true) (ha : PE X l (tE g Wx fa)) (hb : PE X r (tE g Wx fb)) :
    PI X tg (.Call (.Name "zip" pn) [l, r] [⟨some "strict", .Constant (.bool true) jj p1, kp⟩] p) (tI g Wx fun fr cs => (fa fr cs).bind fun w1 c1 => (fb fr c1).bind fun w2 c2 => zipsW w1 w2 c2) := by
  cases tg <;> first | (cases ht; done) | skip
  have s2 := star_of (es := []) (env := X.env) hst2
  have s1 := star_of (es := [r]) (env := X.env) hst
  refine PI.imp (pi_zipS (gl_of ok hg) (by rw [ok.mg]; exact F.bx.2.2.1) (pa_cons ha (pa_cons hb pa_nil s2) s1) s1 (nostar_any (es := [l, r]) fun x hx => by
    rcases List.mem_cons.mp hx with rfl | hx
    · exact hst
    · cases List.mem_singleton.mp hx; exact hst2).1) ?_
  rintro σ H RR ⟨fr, cs, ra, R, Fr, q⟩
  refine ⟨fr, cs, ra, R, Fr, PostR.imp (PostR.bind (rp := rpW g ra) q) ?_⟩
  rintro x H1 ⟨w1, c1, k1, R1, r1, p1⟩
  refine ⟨fr, c1, ra, R1, Fr.mono k1, PostR.imp (PostR.bind (rp := rpW g ra) p1) ?_⟩
  rintro y H2 ⟨w2, c2, k2, R2, r2, p2⟩
  rw [ok.K]
  unfold zipsW at p2
  split at p2
  · rename_i xs ys
    split at p2
    · rename_i hle
      have r1' := r1.mono k2.same
      obtain ⟨a, vs, rfl, h0, rr⟩ := tupF r1'
      obtain ⟨b, us, rfl, h0', rr'⟩ := tupF r2
      have h := sqT_mono (frz_same H2 ra) h0
      have h' := sqT_mono (frz_same H2 ra) h0'
      refine ⟨a, b, vs, us, rfl, h, h', p2 H2 _ (Keep.refl _ _) R2 fun H3 hs => ⟨fun i d hd => ?_, vs, us, sqT_mono hs h0, sqT_mono hs h0', ?_⟩⟩
      · unfold zipD at hd
        rw [List.getElem?_map] at hd
        cases e1 : (xs.zip ys)[i]? with
        | none => rw [e1] at hd; cases hd
        | some d' =>
          rw [e1] at hd
          cases hd
          obtain ⟨e2, e3⟩ := List.getElem?_zip_eq_some.mp e1
          obtain ⟨v, f1, f2⟩ := rr.get e2
          obtain ⟨u, f3, f4⟩ := rr'.get e3
          refine ⟨⟨vs, us, v, u, sqT_mono hs h0, sqT_mono hs h0', f1, f3⟩, fun x H4 ⟨T, y1, y2, g1, g2, g3, g4, g5⟩ => ?_⟩
          have e4 := g4 vs (sqT_mono hs h0)
          have e5 := g5 us (sqT_mono hs h0')
          rw [f1] at e4
          rw [f3] at e5
          cases e4
          cases e5
          subst g1 g3
          refine ⟨fun b o hb => by rw [upd_ne (ne_of_none hb g2)]; exact hb, fun F3 hF hn => ?_⟩
          exact .tup (SqT.of (hn T _ g2 upd_same (fun _ z => by cases z))) (.cons (f2.mono hF) (.cons (f4.mono hF) .nil))
      · unfold zipD
        rw [List.length_map, List.length_zip]
        have := rr.length
        have := rr'.length
        omega
    · exact p2.elim
  · exact p2.elim
theorem Rel.same {ra : Ra} {cs : Cells} {H H' : Hp} (R : Rel g ra cs H) (h : Same H H') : Rel g ra cs H' := R.keep (Same.keep h) (fun a ha => by
  cases q : H a with
  | none => exact absurd q (R.there ha)
  | some o => exact h a o q) (R.tabs.ext h)
theorem c_lzip {pl ql pn p1 kp : Pos} {jj} (ok : Okx g N sc ac k X Wx) (F : Fx g wd k) (hgl : glB sc "list" = true) (hg : glB sc "zip" = true) (hst : notSt l = true) (hst2 : notSt r = true) (ha : PE X l (tE g Wx fa)) (hb : PE X r (tE g Wx fb)) :
    PE X (.Call (.Name "list" pl) [.Call (.Name "zip" pn) [l, r] [⟨some "strict", .Constant (.bool true) jj p1, kp⟩] p] [] ql) (tE g Wx fun fr cs => (fa fr cs).bind fun w1 c1 => (fb fr c1).bind fun w2 c2 => lzipW w1 w2 c2) := by
  have s2 := star_of (es := []) (env := X.env) hst2
  have s1 := star_of (es := [r]) (env := X.env) hst
  refine PE.imp (pe_listZipS ok.calm (gl_of ok hgl) (by rw [ok.mg]; exact F.bt.2.2.2.2) (gl_of ok hg) (by rw [ok.mg]; exact F.bx.2.2.1) (pa_cons ha (pa_cons hb pa_nil s2) s1) s1 (nostar_any (es := [l, r]) fun x hx => by
    rcases List.mem_cons.mp hx with rfl | hx
    · exact hst
    · cases List.mem_singleton.mp hx; exact hst2).1) ?_
  rintro σ H Q ⟨fr, cs, ra, R, Fr, q⟩
  refine ⟨fr, cs, ra, R, Fr, PostR.imp (PostR.bind (rp := rpW g ra) q) ?_⟩
  rintro x H1 ⟨w1, c1, k1, R1, r1, p1⟩
  refine ⟨fr, c1, ra, R1, Fr.mono k1, PostR.imp (PostR.bind (rp := rpW g ra) p1) ?_⟩
  rintro y H2 ⟨w2, c2, k2, R2, r2, p2⟩
  rw [ok.K]
  unfold lzipW at p2
  split at p2
  · rename_i xs ys
    split at p2
    · rename_i hle
      have r1' := r1.mono k2.same
      obtain ⟨a, vs, rfl, h0, rr⟩ := tupF r1'
      obtain ⟨b, us, rfl, h0', rr'⟩ := tupF r2
      have hl1 := rr.length
      have hl2 := rr'.length
      refine ⟨a, b, vs, us, rfl, sqT_mono (frz_same H2 ra) h0, sqT_mono (frz_same H2 ra) h0', by omega, by rw [line_lit]; omega, fun H' S ts q2 q3 q4 q5 q6 => ?_⟩
      have hs : Same H2 H' := fun b o e => q2 b o e
      refine p2 H' _ (Same.keep hs) (R2.same hs) (.lst (frz_at q4 (R2.fresh q3)) (repL_of ?_ fun i d v e1 e2 => ?_))
      · unfold zipD
        rw [List.length_map, List.length_map, List.length_zip, q5]
        omega
      · unfold zipD at e1
        rw [List.getElem?_map] at e1 e2
        cases e3 : (xs.zip ys)[i]? with
        | none => rw [e3] at e1; cases e1
        | some d' =>
          rw [e3] at e1
          cases e1
          cases e4 : ts[i]? with
          | none => rw [e4] at e2; cases e2
          | some t =>
            rw [e4] at e2
            cases e2
            obtain ⟨n1, x', y', n2, n3, n4⟩ := q6 i t e4
            obtain ⟨e5, e6⟩ := List.getElem?_zip_eq_some.mp e3
            obtain ⟨v, f1, f2⟩ := rr.get e5
            obtain ⟨u, f3, f4⟩ := rr'.get e6
            rw [f1] at n2
            rw [f3] at n3
            cases n2
            cases n3
            have sm := (Same.keep (ra := ra) hs).same
            exact .tup (SqT.of (frz_at n4 (R2.fresh n1))) (.cons (f2.mono sm) (.cons (f4.mono sm) .nil))
    · exact p2.elim
  · exact p2.elim
end
end BV

namespace BV
open PySem L2
section
variable {g : G} {wd : Wd} {N : List Str} {sc : Scope} {ac : Bool} {k : Nat} {X : Cx} {Wx : WX} {fa fb fc : Fra → Cells → R W} {fl fm : Fra → Cells → R (List W)} {l r e : Expr} {es : List Expr} {kws : List Keyword} {p : Pos}
/-! targets -/
theorem FrR.set {ra : Ra} {H : Hp} {fr : Fra} {σ : L2.St} {i : Nat} {w : W} {v : V} (F : FrR g H ra fr σ) (r : RepW g (frz H ra) ra w v) : FrR g H ra (fr.set i (some w)) (σ.set i (some v)) := by
  refine ⟨by rw [List.length_set, List.length_set]; exact F.1, fun j w' e => ?_⟩
  by_cases hj : j = i
  · subst hj
    have hl : j < fr.length := by
      have := (List.getElem?_eq_some_iff.mp e).1
      rwa [List.length_set] at this
    rw [List.getElem?_set_self hl] at e
    cases e
    exact ⟨v, List.getElem?_set_self (by rw [← F.1]; exact hl), r⟩
  · rw [List.getElem?_set_ne (Ne.symm hj)] at e
    rw [List.getElem?_set_ne (Ne.symm hj)]
    exact F.2 j w' e
theorem FrR.wipe {ra : Ra} {H : Hp} {fr : Fra} {σ : L2.St} (F : FrR g H ra fr σ) : ∀ vs : List Nat, FrR g H ra (wipeF fr vs) (wipe σ vs)
  | [] => F
  | v :: vs => by
    have ih := FrR.wipe F vs
    unfold wipeF L2.wipe
    refine ⟨by rw [List.length_set, List.length_set]; exact ih.1, fun j w' e => ?_⟩
    by_cases hj : j = v
    · subst hj
      by_cases hl : j < (wipeF fr vs).length
      · rw [List.getElem?_set_self hl] at e; cases e
      · rw [List.getElem?_eq_none (by rw [List.length_set]; omega)] at e; cases e
    · rw [List.getElem?_set_ne (Ne.symm hj)] at e
      rw [List.getElem?_set_ne (Ne.symm hj)]
      exact ih.2 j w' e
/-- what a target's store wants, by value: what is behind it may know the slots that changed -/
def tG (g : G) (tg : List Nat) (one : Bool) : TG := fun v σ H Q => ∃ (fr : Fra) (d : D) (ra : Ra) (fr1 : Fra), FrR g H ra fr σ ∧ Rep g (frz H ra) d v ∧ setTg tg one d fr = some fr1 ∧ ∀ σ1, FrR g H ra fr1 σ1 → (∀ vs : List Nat, (∀ i ∈ tg, i ∈ vs) → wipe σ1 vs = wipe σ vs) → Q σ1 H
theorem wipe_set {σ : L2.St} {i : Nat} {v : Option V} : ∀ {vs : List Nat}, i ∈ vs → wipe (σ.set i v) vs = wipe σ vs
  | u :: vs, h => by
    unfold L2.wipe
    by_cases hu : u = i
    · subst hu
      by_cases hm : u ∈ vs
      · rw [wipe_set hm]
      · have : ∀ {vs : List Nat} {σ : L2.St}, u ∉ vs → wipe (σ.set u v) vs = (wipe σ vs).set u v := by
          intro vs
          induction vs with
          | nil => intro σ _; rfl
          | cons w ws ih =>
            intro σ hn
            unfold L2.wipe
            rw [ih fun z => hn (List.mem_cons_of_mem _ z)]
            exact List.set_comm _ _ fun e => hn (by rw [e]; exact List.mem_cons_self)
        rw [this hm, List.set_set]
    · rw [wipe_set ((List.mem_cons.mp h).resolve_left (Ne.symm hu))]
theorem loc_of {x : Str} (ok : Okx g N sc ac k X Wx) (h : locB sc ac x = true) : Loc X.env.scope x ∧ (X.fn x = true ∨ X.env.scope.names.lookup x = some .local) := by
  unfold locB at h
  rw [ok.sc]
  split at h
  · rename_i e
    exact ⟨.inl e, .inr e⟩
  · rename_i e
    exact ⟨.inr e, .inl (ok.fn h x (by rw [ok.sc]; exact e))⟩
  · cases h
theorem pg_nm {i : Nat} (ok : Okx g N sc ac k X Wx) (h : chkNm N sc ac i e = true) : PG X e (gName i) := by
  cases e <;> simp only [chkNm, Bool.and_eq_true, decide_eq_true_eq, Bool.false_eq_true] at h
  obtain ⟨h1, h2⟩ := h
  obtain ⟨h3, h4⟩ := loc_of ok h2
  exact pg_name (by rw [ok.hN]; exact ok.nd) (by rw [ok.hN]; exact h1) h3 h4
theorem PG.imp {X : Cx} {e : Expr} {t t' : TG} (h : PG X e t) (i : ∀ v σ H Q, t' v σ H Q → t v σ H Q) : PG X e t' := ⟨fun pins s σ H v u Q I r q => h.run pins s σ H v u Q I r (i v σ H Q q)⟩
def setAll (fr : Fra) (ps : List (Nat × D)) : Fra := ps.foldl (fun fr p => fr.set p.1 (some (.d p.2))) fr
/-- several names, one behind another -/
theorem pgs_nms (ok : Okx g N sc ac k X Wx) : ∀ {is : List Nat} {es : List Expr}, chkTgs N sc ac is es = true → ∃ t : TGs, PGs X es t ∧ (assignEach es X.env).length = es.length ∧ (assignEach es X.env).findIdx? (·.1) = none ∧ is.length = es.length ∧
    ∀ {vs : List V} {σ : L2.St} {H : Hp} {ra : Ra} {fr : Fra} {ds : List D} {Q : L2.St → Hp → Prop}, is.length = ds.length → FrR g H ra fr σ → RepL g (frz H ra) ds vs → (∀ σ1, FrR g H ra (setAll fr (is.zip ds)) σ1 → (∀ ws : List Nat, (∀ i ∈ is, i ∈ ws) → wipe σ1 ws = wipe σ ws) → Q σ1 H) → t vs σ H Q
  | [], [], _ => ⟨_, pgs_nil, rfl, rfl, rfl, fun {vs σ H ra fr ds Q} hl F r q => by
      cases ds with
      | cons d ds => simp at hl
      | nil =>
        cases r
        exact ⟨rfl, q σ F fun _ _ => rfl⟩⟩
  | i :: is, e :: es, h => by
    simp only [chkTgs, Bool.and_eq_true] at h
    obtain ⟨t, h1, h2, h3, h5, h4⟩ := pgs_nms ok h.2
    have hne : notSt e = true := by cases e <;> first | rfl | (simp [chkNm] at h)
    have hae : assignEach (e :: es) X.env = (false, assign e X.env) :: assignEach es X.env := by cases e <;> first | rfl | cases hne
    refine ⟨_, pgs_cons (pg_nm ok h.1) h1 (by rw [hae]; rfl), by rw [hae]; simp [h2], ?_, by simp [h5], fun {vs σ H ra fr ds Q} hl F r q => ?_⟩
    · rw [hae, List.findIdx?_cons]
      simp [h3]
    · cases r with
      | nil => simp at hl
      | @cons d v ds vs r rt =>
        refine ⟨v, vs, rfl, h4 (by simpa using hl) (F.set (i := i) (w := .d d) r) rt fun σ1 F1 hw => ?_⟩
        refine q σ1 F1 fun ws hi => ?_
        rw [hw ws fun j hj => hi j (List.mem_cons_of_mem _ hj), wipe_set (hi i List.mem_cons_self)]
  | [], _ :: _, h => by simp [chkTgs] at h
  | _ :: _, [], h => by simp [chkTgs] at h
theorem PG.either {X : Cx} {e : Expr} {t t' u : TG} (h : PG X e t) (h' : PG X e t') (i : ∀ v σ H Q, u v σ H Q → t v σ H Q ∨ t' v σ H Q) : PG X e u := ⟨fun pins s σ H v w Q I r q => (i v σ H Q q).elim (h.run pins s σ H v w Q I r) (h'.run pins s σ H v w Q I r)⟩
theorem c_tg {tg : List Nat} {one : Bool} (ok : Okx g N sc ac k X Wx) (h : chkTg N sc ac tg one e = true) : PG X e (tG g tg one) := by
  unfold chkTg at h
  split at h
  · rename_i e i
    refine PG.imp (pg_nm ok h) ?_
    rintro v σ H Q ⟨fr, d, ra, fr1, F, r, e1, q⟩
    simp only [setTg, Option.some.injEq] at e1
    subst e1
    exact q _ (F.set (w := .d d) r) fun vs hv => wipe_set (hv _ (List.mem_singleton.mpr rfl))
  · rename_i is es k2 pp
    obtain ⟨t, h1, h2, h3, h5, h4⟩ := pgs_nms ok h
    refine PG.either (pg_tup ok.calm h1 h2 h3) (pg_lst ok.calm h1 h2 h3) ?_
    rintro v σ H Q ⟨fr, d, ra, fr1, F, r, e1, q⟩
    unfold setTg at e1
    split at e1
    · rename_i hh; cases hh
    · rename_i ds
      split at e1
      · rename_i hl
        cases e1
        obtain ⟨a, vs, rfl, h6, h7⟩ := tup_ok (g := g) (ra := ra) (H := H) r
        rw [ok.K]
        refine .inl ⟨a, vs, rfl, h6, ?_, h4 hl F h7 fun σ1 F1 hw => q σ1 F1 hw⟩
        rw [← h7.length, ← hl, h5]
      · cases e1
    · rename_i ds
      split at e1
      · rename_i hl
        cases e1
        cases r with
        | lst h6 h7 =>
          rw [ok.K]
          refine .inr ⟨_, _, rfl, SqL.of (frz_same _ _ _ _ h6), ?_, h4 hl F h7 fun σ1 F1 hw => q σ1 F1 hw⟩
          rw [← h7.length, ← hl, h5]
      · cases e1
    · cases e1
  · cases h
/-! list comprehensions -/
theorem FrR.lift {ra ra' : Ra} {H H' : Hp} {fr : Fra} {σ : L2.St} (hs : Same (frz H ra) (frz H' ra')) (hr : ∀ (n : Nat) a, ra[n]? = some (some a) → ra'[n]? = some (some a)) (F : FrR g H ra fr σ) : FrR g H' ra' fr σ :=
  ⟨F.1, fun i w e => by
    obtain ⟨v, h1, h2⟩ := F.2 i w e
    refine ⟨v, h1, ?_⟩
    cases w with
    | d d => exact Rep.mono hs h2
    | loc n => obtain ⟨a, h3, h4⟩ := h2; exact ⟨a, h3, hr n a h4⟩⟩
theorem wipe_idem {σ : L2.St} : ∀ (vs : List Nat), wipe (wipe σ vs) vs = wipe σ vs := fun vs => by
  have h : ∀ (us : List Nat), (∀ u ∈ us, u ∈ vs) → wipe (wipe σ us) vs = wipe σ vs := fun us => by
    induction us with
    | nil => intro _; rfl
    | cons u us ih =>
      intro hu
      show wipe ((wipe σ us).set u none) vs = _
      rw [wipe_set (hu u List.mem_cons_self), ih fun x hx => hu x (List.mem_cons_of_mem _ hx)]
  exact h vs fun _ hx => hx
def LcP (g : G) (ra : Ra) (Q : Hp → Prop) (r : R Unit) (H : Hp) : Prop := match r with
  | .ok _ c2 => ∀ H', Keep ra H H' → Rel g ra c2 H' → Q H'
  | _ => False
theorem LcP.from {ra : Ra} {Q : Hp → Prop} {r : R Unit} {H H' : Hp} (k : Keep ra H H') (h : LcP g ra Q r H) : LcP g ra Q r H' := by
  cases r with
  | ok u c => exact fun H2 k2 R2 => h H2 (k.trans k2) R2
  | exc c x cs => exact h
  | bad => exact h
abbrev W0 : WX := fun _ _ _ _ => False
theorem c_lc {own : List (Str × Nat)} {tg : List Nat} {one : Bool} {scope : Scope} {ie te ee : Expr} {ifs : List Expr} {fi : Fra → Cells → R (List D)} {ft : Fra → Cells → R Bool} {fe : Fra → Cells → R W}
    (ok : Okx g N sc ac k X Wx) (hi : PI X te ie (tI g Wx fi)) (hset : notSet ie = true) (hbl : blkL g.lams N sc scope own = true)
    (hg : ∀ X', Okx g N (relS scope sc) false k X' W0 → PG X' te (tG g tg one))
    (ht : ∀ X', Okx g N (relS scope sc) false k X' W0 → PTs X' ifs (tT g W0 ft))
    (he : ∀ X', Okx g N (relS scope sc) false k X' W0 → PE X' ee (tE g W0 fe)) (htg : ∀ i ∈ tg, i ∈ own.map (·.2)) :
    PE X (.ListComp ee [⟨te, ie, ifs, 0⟩] scope p) (tE g Wx fun fr cs => (fi fr cs).bind fun ds c1 => (lcGo ft fe tg one (wipeF fr (own.map (·.2))) c1.length ds (c1 ++ [some (.lst [])])).nox.bind fun _ c2 => lcEnd c1.length c2) := by
  have okb : ∀ (s : Shared) (H : Hp) (C : Addr) (cl : List (Str × Addr)) (fp : List Addr), Okx g N (relS scope sc) false k (X.blk s H scope (compEnvC scope cl C X.env) fp) W0 := fun s H C cl fp =>
    ⟨ok.P, ok.w, ok.K, ok.mg, ok.base, ok.hN, ok.nd, ok.calm, by rw [← ok.sc]; rfl, (fun h => by cases h), ok.hr, takes0, ok.gd, fun h => absurd (show relS scope sc ∈ g.lams by rw [← ok.sc]; exact h) (blkL_and hbl).2, fun h => by cases h⟩
  refine PE.imp (pe_lc ok.calm (by rw [ok.hN]; exact ok.nd) hi (blkOk_by (own := own) (by rw [ok.hN, ok.sc]; exact (blkL_and hbl).1)) (fun s H C cl fp => hg _ (okb s H C cl fp)) (fun s H C cl fp => ht _ (okb s H C cl fp)) (fun s H C cl fp => he _ (okb s H C cl fp)) (fold_of hset)) ?_
  rintro σ H Q ⟨fr, cs, ra, R, Fr, q⟩
  refine ⟨fr, cs, ra, R, Fr, PostR.imp (PostR.bind (rp := fun H1 ds J => WalksD g (frz H1 ra) J ds) q) ?_⟩
  rintro J H1 ⟨ds, c1, k1, R1, wk, p1⟩ D hD
  have hD' : some D ∉ ra := R1.fresh hD
  have same1 : Same H1 (upd H1 D (.lst [])) := fun b o e => by rw [upd_ne (ne_of_none e hD)]; exact e
  have R1' : Rel g (ra ++ [some D]) (c1 ++ [some (.lst [])]) (upd H1 D (.lst [])) := R1.grow hD same1 ⟨[], upd_same, .nil⟩
  have inD : ∀ {b : Addr}, some b ∈ ra ++ [some D] → some b ∈ ra ∨ b = D := fun {b} z => by
    rcases List.mem_append.mp z with z | z
    · exact .inl z
    · exact .inr (Option.some.inj (List.mem_singleton.mp z))
  have start : LcP g (ra ++ [some D]) (Q (.ref D)) (lcGo ft fe tg one (wipeF fr (own.map (·.2))) c1.length ds (c1 ++ [some (.lst [])])) (upd H1 D (.lst [])) := by
    cases e : lcGo ft fe tg one (wipeF fr (own.map (·.2))) c1.length ds (c1 ++ [some (.lst [])]) with
    | bad => rw [e] at p1; exact p1
    | exc c x cs => rw [e] at p1; exact p1
    | ok u c2 =>
      rw [e] at p1
      intro H' kk R2
      have p2 : PostR g (rpW g ra) (lcEnd c1.length c2) ra H1 Q (fun c d H' => Wx c d σ H') := p1
      unfold lcEnd at p2
      split at p2
      · rename_i xs hx
        have hc : c2[c1.length]? = some (some (.lst xs)) := by
          unfold celL at hx
          split at hx
          · rename_i ys hy; cases hx; exact hy
          · cases hx
        obtain ⟨a, ha, vs, h3, h4⟩ := R2.cell _ _ hc
        have ea : a = D := by
          rw [← R1.len] at ha
          simp at ha
          exact ha.symm
        subst ea
        refine p2 H' (.ref a) (fun b o e nb => kk b o (same1 b o e) (fun z => ?_)) (R2.drop R1.len) (.lst (frz_at h3 hD') (h4.mono frz_app))
        rcases inD z with z | z
        · exact nb z
        · rw [z, hD] at e; cases e
      · exact p2.elim
  have frame : ∀ {H' : Hp}, Keep (ra ++ [some D]) (upd H1 D (.lst [])) H' → Same (frz H1 ra) (frz H' (ra ++ [some D])) := fun {H'} kk b o e => kk.same b o (frz_new hD (fun b o h _ => same1 b o h) b o e)
  refine ⟨fun i m H => m = ds.length - i ∧ i ≤ ds.length ∧ ∃ cs, Rel g (ra ++ [some D]) cs H ∧ Keep (ra ++ [some D]) (upd H1 D (.lst [])) H ∧ LcP g (ra ++ [some D]) (Q (.ref D)) (lcGo ft fe tg one (wipeF fr (own.map (·.2))) c1.length (ds.drop i) cs) H,
    ⟨ds.length, rfl, Nat.zero_le _, _, R1', Keep.refl _ _, start⟩, ?_⟩
  rintro i m H2 ⟨rfl, hle, cs2, R2, kk2, post⟩
  have sm : Same (frz H1 ra) H2 := fun b o e => frz_same _ _ _ _ (frame kk2 b o e)
  obtain ⟨w1, w2⟩ := wk H2 sm
  by_cases hlt : i < ds.length
  · have hd : ds[i]? = some ds[i] := List.getElem?_eq_getElem hlt
    obtain ⟨go, yld⟩ := w1 i _ hd
    have ed : ds.drop i = ds[i] :: ds.drop (i + 1) := List.drop_eq_getElem_cons hlt
    rw [ed] at post
    generalize ds[i] = d at post yld hd
    refine .inr ⟨go, fun H' => ∃ cs', Rel g (ra ++ [some D]) cs' H' ∧ Keep (ra ++ [some D]) (upd H1 D (.lst [])) H' ∧ LcP g (ra ++ [some D]) (Q (.ref D)) (lcGo ft fe tg one (wipeF fr (own.map (·.2))) c1.length (ds.drop (i + 1)) cs') H',
      fun H' ⟨cs', h1, h2, h3⟩ => ⟨ds.length - (i + 1), by omega, rfl, hlt, cs', h1, h2, h3⟩, fun x H3 hy => ?_⟩
    obtain ⟨s3, rep3⟩ := yld x H3 hy
    have R3 := R2.same s3
    have kk3 : Keep (ra ++ [some D]) (upd H1 D (.lst [])) H3 := kk2.trans (Same.keep s3)
    have post3 := LcP.from (Same.keep s3) post
    have rd : Rep g (frz H3 (ra ++ [some D])) d x := rep3 _ (frame kk3) fun b o e1 e2 t => frz_at e2 (R2.fresh e1) t
    have F3 : FrR g H3 (ra ++ [some D]) (wipeF fr (own.map (·.2))) (wipe σ (own.map (·.2))) := ((Fr.mono k1).lift (frame kk3) fun n a h => ra_app h).wipe _
    unfold lcGo at post3
    split at post3
    · exact post3.elim
    · rename_i fr1 es
      refine ⟨wipeF fr (own.map (·.2)), d, ra ++ [some D], fr1, F3, rd, es, fun σ1 F1 hw => ⟨(hw _ htg).trans (wipe_idem _), fr1, cs2, ra ++ [some D], R3, F1, ?_⟩⟩
      unfold lcTurn at post3
      cases e4 : ft fr1 cs2 with
      | bad => rw [e4] at post3; exact post3.elim
      | exc c x cs => rw [e4] at post3; exact post3.elim
      | ok b c4 =>
        rw [e4] at post3
        intro H4 b' k4 R4 eb
        subst eb
        cases b with
        | false =>
          exact ⟨c4, R4, kk3.trans k4, LcP.from k4 (show LcP g (ra ++ [some D]) (Q (.ref D)) (lcGo ft fe tg one (wipeF fr (own.map (·.2))) c1.length (ds.drop (i + 1)) c4) H3 from post3)⟩
        | true =>
          refine ⟨fr1, c4, ra ++ [some D], R4, F1.mono k4, ?_⟩
          have post4 : LcP g (ra ++ [some D]) (Q (.ref D)) (((fe fr1 c4).nox.bind fun w c2 => lcAdd c1.length w c2).bind fun _ c2 => lcGo ft fe tg one (wipeF fr (own.map (·.2))) c1.length (ds.drop (i + 1)) c2) H3 := post3
          cases e5 : fe fr1 c4 with
          | bad => rw [e5] at post4; exact post4.elim
          | exc c x cs => rw [e5] at post4; exact post4.elim
          | ok w c5 =>
            rw [e5] at post4
            have post5 : LcP g (ra ++ [some D]) (Q (.ref D)) ((lcAdd c1.length w c5).bind fun _ c2 => lcGo ft fe tg one (wipeF fr (own.map (·.2))) c1.length (ds.drop (i + 1)) c2) H3 := post4
            intro H5 y k5 R5 ry
            unfold lcAdd at post5
            split at post5
            · rename_i xd acc hx
              split at post5
              · rename_i hl
                have hc : c5[c1.length]? = some (some (.lst acc)) := by
                  unfold celL at hx
                  split at hx
                  · rename_i ys hy; cases hx; exact hy
                  · cases hx
                obtain ⟨a, ha, vs, h3, h4⟩ := R5.cell _ _ hc
                have ha' := ha
                have ea : a = D := by
                  rw [← R1.len] at ha
                  simp at ha
                  exact ha.symm
                subst ea
                obtain ⟨k6, R6⟩ := R5.put (o := .lst (vs ++ [y])) (c' := .lst (acc ++ [xd])) ha' ⟨_, upd_same, h4.append (.cons ry .nil)⟩
                refine ⟨vs, h3, by rw [line_lit, ← h4.length]; exact hl, _, R6, ((kk3.trans k4).trans k5).trans k6, LcP.from ((k4.trans k5).trans k6) post5⟩
              · exact post5.elim
            · exact post5.elim
  · have ei : i = ds.length := by omega
    subst ei
    rw [List.drop_length] at post
    exact .inl ⟨w2, post H2 (Keep.refl _ _) R2⟩

theorem lc_loop {tg : List Nat} {one : Bool} {ft : Fra → Cells → R Bool} {fe : Fra → Cells → R W} {ra : Ra} {n : Nat} {D : Addr} (hD : ra[n]? = some (some D)) {J : It} {ds : List BV.D} {F : Hp} (wk : WalksD g F J ds) {Hb : Hp} (hF : Same F (frz Hb ra)) {frw : Fra} {σ : L2.St} {vs : List Nat}
    (Fw : FrR g Hb ra frw (wipe σ vs)) (htg : ∀ i ∈ tg, i ∈ vs) {cs0 : Cells} (R0 : Rel g ra cs0 Hb) {QQ : Hp → Prop} (post0 : LcP g ra QQ (lcGo ft fe tg one frw n ds cs0) Hb) :
    ∃ W : Nat → Nat → Hp → Prop, (∃ m, W 0 m Hb) ∧ ∀ i m H, W i m H → (J.stop i H ∧ QQ H) ∨ (J.go i H ∧ ∃ Nx : Hp → Prop, (∀ H', Nx H' → ∃ m', m' < m ∧ W (i + 1) m' H') ∧ ∀ x H', J.yld i H x H' → tG g tg one x (wipe σ vs) H' fun σ2 H2 => wipe σ2 vs = wipe σ vs ∧ tT g W0 ft σ2 H2 fun b H3 =>
      if b = true then tE g W0 fe σ2 H3 fun y H4 => ∃ acc, H4 D = some (.lst acc) ∧ acc.length < sizeLine ∧ Nx (upd H4 D (.lst (acc ++ [y]))) else Nx H3) := by
  refine ⟨fun i m H => m = ds.length - i ∧ i ≤ ds.length ∧ ∃ cs, Rel g ra cs H ∧ Keep ra Hb H ∧ LcP g ra QQ (lcGo ft fe tg one frw n (ds.drop i) cs) H,
    ⟨ds.length, rfl, Nat.zero_le _, _, R0, Keep.refl _ _, post0⟩, ?_⟩
  rintro i m H2 ⟨rfl, hle, cs2, R2, kk2, post⟩
  have sm : Same F H2 := fun b o e => frz_same _ _ _ _ (kk2.same b o (hF b o e))
  obtain ⟨w1, w2⟩ := wk H2 sm
  by_cases hlt : i < ds.length
  · have hd : ds[i]? = some ds[i] := List.getElem?_eq_getElem hlt
    obtain ⟨go, yld⟩ := w1 i _ hd
    have ed : ds.drop i = ds[i] :: ds.drop (i + 1) := List.drop_eq_getElem_cons hlt
    rw [ed] at post
    generalize ds[i] = d at post yld hd
    refine .inr ⟨go, fun H' => ∃ cs', Rel g ra cs' H' ∧ Keep ra Hb H' ∧ LcP g ra QQ (lcGo ft fe tg one frw n (ds.drop (i + 1)) cs') H',
      fun H' ⟨cs', h1, h2, h3⟩ => ⟨ds.length - (i + 1), by omega, rfl, hlt, cs', h1, h2, h3⟩, fun x H3 hy => ?_⟩
    obtain ⟨s3, rep3⟩ := yld x H3 hy
    have R3 := R2.same s3
    have kk3 : Keep ra Hb H3 := kk2.trans (Same.keep s3)
    have post3 := LcP.from (Same.keep s3) post
    have rd : Rep g (frz H3 ra) d x := rep3 _ (fun b o e => kk3.same b o (hF b o e)) fun b o e1 e2 t => frz_at e2 (R2.fresh e1) t
    have F3 : FrR g H3 ra frw (wipe σ vs) := Fw.mono kk3
    unfold lcGo at post3
    split at post3
    · exact post3.elim
    · rename_i fr1 es
      refine ⟨frw, d, ra, fr1, F3, rd, es, fun σ1 F1 hw => ⟨(hw _ htg).trans (wipe_idem _), fr1, cs2, ra, R3, F1, ?_⟩⟩
      unfold lcTurn at post3
      cases e4 : ft fr1 cs2 with
      | bad => rw [e4] at post3; exact post3.elim
      | exc c x cs => rw [e4] at post3; exact post3.elim
      | ok b c4 =>
        rw [e4] at post3
        intro H4 b' k4 R4 eb
        subst eb
        cases b with
        | false => exact ⟨c4, R4, kk3.trans k4, LcP.from k4 (show LcP g ra QQ (lcGo ft fe tg one frw n (ds.drop (i + 1)) c4) H3 from post3)⟩
        | true =>
          refine ⟨fr1, c4, ra, R4, F1.mono k4, ?_⟩
          have post4 : LcP g ra QQ (((fe fr1 c4).nox.bind fun w c2 => lcAdd n w c2).bind fun _ c2 => lcGo ft fe tg one frw n (ds.drop (i + 1)) c2) H3 := post3
          cases e5 : fe fr1 c4 with
          | bad => rw [e5] at post4; exact post4.elim
          | exc c x cs => rw [e5] at post4; exact post4.elim
          | ok w c5 =>
            rw [e5] at post4
            have post5 : LcP g ra QQ ((lcAdd n w c5).bind fun _ c2 => lcGo ft fe tg one frw n (ds.drop (i + 1)) c2) H3 := post4
            intro H5 y k5 R5 ry
            unfold lcAdd at post5
            split at post5
            · rename_i xd acc hx
              split at post5
              · rename_i hl
                have hc : c5[n]? = some (some (.lst acc)) := by
                  unfold celL at hx
                  split at hx
                  · rename_i ys hy; cases hx; exact hy
                  · cases hx
                obtain ⟨a, ha, vs, h3, h4⟩ := R5.cell _ _ hc
                have ha' := ha
                rw [hD] at ha
                cases ha
                obtain ⟨k6, R6⟩ := R5.put (o := .lst (vs ++ [y])) (c' := .lst (acc ++ [xd])) ha' ⟨_, upd_same, h4.append (.cons ry .nil)⟩
                refine ⟨vs, h3, by rw [line_lit, ← h4.length]; exact hl, _, R6, ((kk3.trans k4).trans k5).trans k6, LcP.from ((k4.trans k5).trans k6) post5⟩
              · exact post5.elim
            · exact post5.elim
  · have ei : i = ds.length := by omega
    subst ei
    rw [List.drop_length] at post
    exact .inl ⟨w2, post H2 (Keep.refl _ _) R2⟩
theorem c_lc2 {own : List (Str × Nat)} {tg tg1 : List Nat} {one one1 : Bool} {scope : Scope} {ie te ee ie1 te1 : Expr} {ifs ifs1 : List Expr} {fi fi1 : Fra → Cells → R (List D)} {ft ft1 : Fra → Cells → R Bool} {fe : Fra → Cells → R W}
    (ok : Okx g N sc ac k X Wx) (hi : PI X te ie (tI g Wx fi)) (hset : notSet ie = true) (hset1 : notSet ie1 = true) (hbl : blkL g.lams N sc scope own = true)
    (hg : ∀ X', Okx g N (relS scope sc) false k X' W0 → PG X' te (tG g tg one))
    (ht : ∀ X', Okx g N (relS scope sc) false k X' W0 → PTs X' ifs (tT g W0 ft))
    (hi1 : ∀ X', Okx g N (relS scope sc) false k X' W0 → PI X' te1 ie1 (tI g W0 fi1))
    (hg1 : ∀ X', Okx g N (relS scope sc) false k X' W0 → PG X' te1 (tG g tg1 one1))
    (ht1 : ∀ X', Okx g N (relS scope sc) false k X' W0 → PTs X' ifs1 (tT g W0 ft1))
    (he : ∀ X', Okx g N (relS scope sc) false k X' W0 → PE X' ee (tE g W0 fe)) (htg : ∀ i ∈ tg, i ∈ own.map (·.2)) (htg1 : ∀ i ∈ tg1, i ∈ own.map (·.2)) :
    PE X (.ListComp ee [⟨te, ie, ifs, 0⟩, ⟨te1, ie1, ifs1, 0⟩] scope p) (tE g Wx fun fr cs => (fi fr cs).bind fun ds c1 => (lcGo2 ft fi1 ft1 fe tg one tg1 one1 (wipeF fr (own.map (·.2))) c1.length ds (c1 ++ [some (.lst [])])).nox.bind fun _ c2 => lcEnd c1.length c2) := by
  have okb : ∀ (s : Shared) (H : Hp) (C : Addr) (cl : List (Str × Addr)) (fp : List Addr), Okx g N (relS scope sc) false k (X.blk s H scope (compEnvC scope cl C X.env) fp) W0 := fun s H C cl fp =>
    ⟨ok.P, ok.w, ok.K, ok.mg, ok.base, ok.hN, ok.nd, ok.calm, by rw [← ok.sc]; rfl, (fun h => by cases h), ok.hr, takes0, ok.gd, fun h => absurd (show relS scope sc ∈ g.lams by rw [← ok.sc]; exact h) (blkL_and hbl).2, fun h => by cases h⟩
  refine PE.imp (pe_lc2 (vs1 := tg1) ok.calm (by rw [ok.hN]; exact ok.nd) hi (blkOk_by (own := own) (by rw [ok.hN, ok.sc]; exact (blkL_and hbl).1)) htg1 (fun s H C cl fp => hg _ (okb s H C cl fp)) (fun s H C cl fp => ht _ (okb s H C cl fp)) (fun s H C cl fp => hi1 _ (okb s H C cl fp))
    (fun s H C cl fp => hg1 _ (okb s H C cl fp)) (fun s H C cl fp => ht1 _ (okb s H C cl fp)) (fun s H C cl fp => he _ (okb s H C cl fp)) (fold_of hset) (fun env x => fold_of hset1 x)) ?_
  rintro σ H Q ⟨fr, cs, ra, R, Fr, q⟩
  refine ⟨fr, cs, ra, R, Fr, PostR.imp (PostR.bind (rp := fun H1 ds J => WalksD g (frz H1 ra) J ds) q) ?_⟩
  rintro J H1 ⟨ds, c1, k1, R1, wk, p1⟩ D hD
  have hD' : some D ∉ ra := R1.fresh hD
  have same1 : Same H1 (upd H1 D (.lst [])) := fun b o e => by rw [upd_ne (ne_of_none e hD)]; exact e
  have R1' : Rel g (ra ++ [some D]) (c1 ++ [some (.lst [])]) (upd H1 D (.lst [])) := R1.grow hD same1 ⟨[], upd_same, .nil⟩
  have hDn : (ra ++ [some D])[c1.length]? = some (some D) := by rw [← R1.len]; simp
  have inD : ∀ {b : Addr}, some b ∈ ra ++ [some D] → some b ∈ ra ∨ b = D := fun {b} z => by
    rcases List.mem_append.mp z with z | z
    · exact .inl z
    · exact .inr (Option.some.inj (List.mem_singleton.mp z))
  have start : LcP g (ra ++ [some D]) (Q (.ref D)) (lcGo2 ft fi1 ft1 fe tg one tg1 one1 (wipeF fr (own.map (·.2))) c1.length ds (c1 ++ [some (.lst [])])) (upd H1 D (.lst [])) := by
    cases e : lcGo2 ft fi1 ft1 fe tg one tg1 one1 (wipeF fr (own.map (·.2))) c1.length ds (c1 ++ [some (.lst [])]) with
    | bad => rw [e] at p1; exact p1
    | exc c x cs => rw [e] at p1; exact p1
    | ok u c2 =>
      rw [e] at p1
      intro H' kk R2
      have p2 : PostR g (rpW g ra) (lcEnd c1.length c2) ra H1 Q (fun c d H' => Wx c d σ H') := p1
      unfold lcEnd at p2
      split at p2
      · rename_i xs hx
        have hc : c2[c1.length]? = some (some (.lst xs)) := by
          unfold celL at hx
          split at hx
          · rename_i ys hy; cases hx; exact hy
          · cases hx
        obtain ⟨a, ha, vs, h3, h4⟩ := R2.cell _ _ hc
        have ea : a = D := by
          rw [hDn] at ha
          simp at ha
          exact ha.symm
        subst ea
        refine p2 H' (.ref a) (fun b o e nb => kk b o (same1 b o e) (fun z => ?_)) (R2.drop R1.len) (.lst (frz_at h3 hD') (h4.mono frz_app))
        rcases inD z with z | z
        · exact nb z
        · rw [z, hD] at e; cases e
      · exact p2.elim
  have frame0 : Same (frz H1 ra) (frz (upd H1 D (.lst [])) (ra ++ [some D])) := frz_new hD fun b o h _ => same1 b o h
  have F1 : FrR g (upd H1 D (.lst [])) (ra ++ [some D]) (wipeF fr (own.map (·.2))) (wipe σ (own.map (·.2))) := ((Fr.mono k1).lift frame0 fun n a h => ra_app h).wipe _
  generalize ra ++ [some D] = ra' at *
  generalize upd H1 D (.lst []) = Hb at *
  refine ⟨fun i m H => m = ds.length - i ∧ i ≤ ds.length ∧ ∃ cs, Rel g ra' cs H ∧ Keep ra' Hb H ∧ LcP g ra' (Q (.ref D)) (lcGo2 ft fi1 ft1 fe tg one tg1 one1 (wipeF fr (own.map (·.2))) c1.length (ds.drop i) cs) H,
    ⟨ds.length, rfl, Nat.zero_le _, _, R1', Keep.refl _ _, start⟩, ?_⟩
  rintro i m H2 ⟨rfl, hle, cs2, R2, kk2, post⟩
  have sm : Same (frz H1 ra) H2 := fun b o e => frz_same _ _ _ _ (kk2.same b o (frame0 b o e))
  obtain ⟨w1, w2⟩ := wk H2 sm
  by_cases hlt : i < ds.length
  · have hd : ds[i]? = some ds[i] := List.getElem?_eq_getElem hlt
    obtain ⟨go, yld⟩ := w1 i _ hd
    have ed : ds.drop i = ds[i] :: ds.drop (i + 1) := List.drop_eq_getElem_cons hlt
    rw [ed] at post
    generalize ds[i] = d at post yld hd
    refine .inr ⟨go, fun H' => ∃ cs', Rel g ra' cs' H' ∧ Keep ra' Hb H' ∧ LcP g ra' (Q (.ref D)) (lcGo2 ft fi1 ft1 fe tg one tg1 one1 (wipeF fr (own.map (·.2))) c1.length (ds.drop (i + 1)) cs') H',
      fun H' ⟨cs', h1, h2, h3⟩ => ⟨ds.length - (i + 1), by omega, rfl, hlt, cs', h1, h2, h3⟩, fun x H3 hy => ?_⟩
    obtain ⟨s3, rep3⟩ := yld x H3 hy
    have R3 := R2.same s3
    have kk3 : Keep ra' Hb H3 := kk2.trans (Same.keep s3)
    have post3 := LcP.from (Same.keep s3) post
    have rd : Rep g (frz H3 ra') d x := rep3 _ (fun b o e => kk3.same b o (frame0 b o e)) fun b o e1 e2 t => frz_at e2 (R2.fresh e1) t
    have F3 : FrR g H3 ra' (wipeF fr (own.map (·.2))) (wipe σ (own.map (·.2))) := F1.mono kk3
    unfold lcGo2 at post3
    split at post3
    · exact post3.elim
    · rename_i fr1 es
      refine ⟨wipeF fr (own.map (·.2)), d, ra', fr1, F3, rd, es, fun σ1 F4 hw => ⟨(hw _ htg).trans (wipe_idem _), fr1, cs2, ra', R3, F4, ?_⟩⟩
      unfold lcTurn2 at post3
      cases e4 : ft fr1 cs2 with
      | bad => rw [e4] at post3; exact post3.elim
      | exc c x cs => rw [e4] at post3; exact post3.elim
      | ok b c4 =>
        rw [e4] at post3
        intro H4 b' k4 R4 eb
        subst eb
        cases b with
        | false => exact ⟨c4, R4, kk3.trans k4, LcP.from k4 (show LcP g ra' (Q (.ref D)) (lcGo2 ft fi1 ft1 fe tg one tg1 one1 (wipeF fr (own.map (·.2))) c1.length (ds.drop (i + 1)) c4) H3 from post3)⟩
        | true =>
          refine ⟨fr1, c4, ra', R4, F4.mono k4, ?_⟩
          have post4 : LcP g ra' (Q (.ref D)) (((fi1 fr1 c4).nox.bind fun ds1 c2 => lcGo ft1 fe tg1 one1 (wipeF fr1 tg1) c1.length ds1 c2).bind fun _ c2 => lcGo2 ft fi1 ft1 fe tg one tg1 one1 (wipeF fr (own.map (·.2))) c1.length (ds.drop (i + 1)) c2) H3 := post3
          cases e5 : fi1 fr1 c4 with
          | bad => rw [e5] at post4; exact post4.elim
          | exc c x cs => rw [e5] at post4; exact post4.elim
          | ok ds1 c5 =>
            rw [e5] at post4
            have post5 : LcP g ra' (Q (.ref D)) ((lcGo ft1 fe tg1 one1 (wipeF fr1 tg1) c1.length ds1 c5).bind fun _ c2 => lcGo2 ft fi1 ft1 fe tg one tg1 one1 (wipeF fr (own.map (·.2))) c1.length (ds.drop (i + 1)) c2) H3 := post4
            intro H5 J1 k5 R5 wk1
            refine lc_loop hDn wk1 (fun _ _ e => e) (((F4.mono k4).mono k5).wipe _) (fun i hi => hi) R5 ?_
            cases e6 : lcGo ft1 fe tg1 one1 (wipeF fr1 tg1) c1.length ds1 c5 with
            | bad => rw [e6] at post5; exact post5.elim
            | exc c x cs => rw [e6] at post5; exact post5.elim
            | ok u c6 =>
              rw [e6] at post5
              intro H6 k6 R6
              exact ⟨c6, R6, ((kk3.trans k4).trans k5).trans k6, LcP.from ((k4.trans k5).trans k6) post5⟩
  · have ei : i = ds.length := by omega
    subst ei
    rw [List.drop_length] at post
    exact .inl ⟨w2, post H2 (Keep.refl _ _) R2⟩
theorem c_neg {fa : Fra → Cells → R W} (ha : PE X e (tE g Wx fa)) : PE X (.UnaryOp .USub e p) (tE g Wx fun fr cs => (asI (fa fr cs)).bind fun i c1 => .ok (.d (.int (-i))) c1) := PE.imp (pe_un un_neg ha) fun σ H Q ⟨fr, cs, ra, R, F, q⟩ => by
  refine ⟨fr, cs, ra, R, F, PostR.imp (asI_post (PostR.bind (rp := fun _ (a b : Int) => a = b) q)) ?_⟩
  rintro x H1 ⟨i, rfl, i', c1, k1, R1, rfl, p1⟩
  exact ⟨_, rfl, p1 H1 _ (Keep.refl _ _) R1 (.int _)⟩
end
end BV

namespace BV
open PySem L2 PySem.Spec PyProof.Rows LamX
/-! ### a lambda handed to a def -/
def KeepA (H H' : Hp) : Prop := ∀ b o, H b = some o → ∃ o', H' b = some o' ∧ (noTbl o → o' = o)
theorem codeO_noTbl {c : Addr} {q : Str} : noTbl (CodeO c q) := fun ps z => codeO_ne ps z
section
variable {X : Cx} {pins : List (Addr × Obj)} {σ : L2.St} {H : Hp} {s : Shared}
/-- as the library's lam_make2, and nothing that was tracked is lost -/
theorem lam_makeK {T : List (Addr × Str)} {c P : Addr} {params : Arguments} {body : Expr} {scope : Scope} {pos : Pos} {E : Value → Shared → Prop} {Q : Value → Shared → Prop} {q0 : Str} (eq0 : X.env.qual ++ "<lambda>" = q0) (I : Inv X pins σ H s) (TB : TabB X.base X.mg c P) (hcode : X.env.code = .ref c)
    (hm : (P, q0) ∈ T) (hu : ∀ p ∈ T, p.1 = P → p.2 = q0) (hT : Tabs T H) (hdef : defaultsOf params X.env = ([], [])) (hfree : ∀ y ∈ scope.names, y.2 = .free → ∃ c, X.env.cells.lookup y.1 = some c)
    (go : ∀ (f c' : Addr) (pm ctv : Value) (H1 : Hp) (s' : Shared), Inv X pins σ H1 s' → KeepA H H1 → Tabs T H1 →
      s'.heap.get? f = some (PySem.W.kla_obj "<lambda>" (X.env.qual ++ "<lambda>") params body scope (cloFrom X.env.cells scope.names []) pm c' ctv) → H1 f = none → f ∉ frs X.stack → H1 c' = some (CodeO c' (X.env.qual ++ "<lambda>")) → H1 = H ∨ (∃ ps more, H P = some (.tbl ps) ∧ H c' = none ∧ H1 = upd (upd H P (.tbl (ps ++ more))) c' (CodeO c' (X.env.qual ++ "<lambda>"))) → Q (.ref f) s') :
    wpAny (model X.prog X.w) X.A (eval (.Lambda params body scope pos) X.env) Q E s := by
  subst eq0
  obtain ⟨ps, hP, ht, ha⟩ := hT _ hm
  refine PySem.W.kla_eval hdef ?_
  have tabAt : s.heap.get? P = some { cls := .none, data := .fields ps } := I.hok P _ hP
  have outside : ∀ f, s.heap.objs.size ≤ f → f ∉ frs X.stack := fun f hf z => (List.mem_cons.mp (I.stkSub _ z)).elim (fun e => absurd (Nat.lt_of_lt_of_le (e ▸ I.lt) hf) (Nat.lt_irrefl _)) fun e => I.nofs hf e
  cases hc : codeAmong pos ps.toList with
  | some cv =>
    obtain ⟨c', e, hco⟩ := ha pos cv hc
    subst e
    refine PySem.W.kla_makeFunctionHit (mg := X.mg) (c := c) (P := P) (ps := ps) (closure_ok hfree) I.ok.glob (I.mod.glob.keeps I.bk) hcode (TB.code.keeps I.bk) tabAt ht hc (TB.bm.keeps I.bk) fun ctv h' tk hx hsz => ?_
    exact go h'.objs.size c' ((X.mg "__name__").getD .none) ctv H _ (I.kept (t' := tk) fun b o e => Heap.get?_push_of_some _ (hx b o e)) (fun b o e => ⟨o, e, fun _ => rfl⟩) hT (Heap.get?_push_size _ rfl) (I.hok.fresh hsz) (outside _ hsz) hco (.inl rfl)
  | none =>
    refine PySem.W.kla_makeFunction (mg := X.mg) (c := c) (P := P) (ps := ps) (closure_ok hfree) I.ok.glob (I.mod.glob.keeps I.bk) hcode (TB.code.keeps I.bk) tabAt ht hc TB.gP (TB.bm.keeps I.bk) fun c' ctv h' tk hx hge hlt hrec htb => ?_
    obtain ⟨c2, oc, vs, t, e2, hoc, hd, hv⟩ := hrec
    cases e2
    have hsz : s.heap.objs.size ≤ h'.objs.size := Nat.le_trans hge (Nat.le_of_lt hlt)
    have nC : H c' = none := I.hok.fresh hge
    generalize eM : (#[rawInt pos.line, rawInt pos.col, .ref c'] : Array Value) = more at htb
    have I1 := inv_table (t' := tk) (more := more) (h' := h'.push (PySem.W.kla_obj "<lambda>" (X.env.qual ++ "<lambda>") params body scope (cloFrom X.env.cells scope.names []) ((X.mg "__name__").getD .none) c' ctv)) I hP
      (fun b o hb e => Heap.get?_push_of_some _ (hx b o hb e)) (Heap.get?_push_of_some _ htb) hge ⟨oc, vs, t, Heap.get?_push_of_some _ hoc, hd, hv⟩
    have atP : upd (upd H P (.tbl (ps ++ more))) c' (CodeO c' (X.env.qual ++ "<lambda>")) P = some (.tbl (ps ++ more)) := by rw [upd_ne (ne_of_none hP nC), upd_same]
    have off : ∀ b o, H b = some o → b ≠ P → upd (upd H P (.tbl (ps ++ more))) c' (CodeO c' (X.env.qual ++ "<lambda>")) b = some o := fun b o e n => by
      rw [upd_ne (ne_of_none e nC), upd_ne n]; exact e
    have hK : KeepA H (upd (upd H P (.tbl (ps ++ more))) c' (CodeO c' (X.env.qual ++ "<lambda>"))) := fun b o e => by
      by_cases hb : b = P
      · subst hb
        rw [hP] at e
        cases e
        exact ⟨_, atP, fun t => absurd rfl (t ps)⟩
      · exact ⟨o, off b o e hb, fun _ => rfl⟩
    have code_ : ∀ c0 q, H c0 = some (CodeO c0 q) → upd (upd H P (.tbl (ps ++ more))) c' (CodeO c' (X.env.qual ++ "<lambda>")) c0 = some (CodeO c0 q) := fun c0 q e => by
      obtain ⟨o', h1, h2⟩ := hK c0 _ e
      rw [h1, h2 codeO_noTbl]
    refine go h'.objs.size c' ((X.mg "__name__").getD .none) ctv _ _ I1 hK (fun p hp => ?_) (Heap.get?_push_size _ rfl) ?_ (outside _ hsz) upd_same (.inr ⟨ps, more, hP, nC, rfl⟩)
    · by_cases hb : p.1 = P
      · have el : (ps ++ more).toList = ps.toList ++ [rawInt pos.line, rawInt pos.col, .ref c'] := by rw [← eM]; simp
        rw [hu p hp hb, hb]
        refine ⟨_, atP, by rw [el]; exact PySem.TriplesOk_snoc _ _ _ _ ht, fun p' cv hcv => ?_⟩
        rw [el] at hcv
        rcases among_app _ ht hcv with z | z
        · obtain ⟨c0, e1, e2⟩ := ha p' cv z
          exact ⟨c0, e1, code_ _ _ e2⟩
        · exact ⟨c', z, upd_same⟩
      · obtain ⟨ps', a1, a2, a3⟩ := hT p hp
        refine ⟨ps', off _ _ a1 hb, a2, fun p' cv hcv => ?_⟩
        obtain ⟨c0, e1, e2⟩ := a3 p' cv hcv
        exact ⟨c0, e1, code_ _ _ e2⟩
    · rw [upd_ne (Nat.ne_of_gt hlt), upd_ne (Nat.ne_of_gt (Nat.lt_of_lt_of_le (Heap.lt_size tabAt) hsz))]
      exact I.hok.fresh hsz
end
section
variable {g : G} {wd : Wd} {N : List Str} {sc : Scope} {ac : Bool} {k : Nat} {X : Cx} {Wx : WX}
theorem mapW_post {ra : Ra} {H : Hp} {Q : VK} {E : XK} {r : R D} (h : PostR g (rpW g ra) (r.map W.d) ra H Q E) : PostR g (fun H' d v => Rep g (frz H' ra) d v) r ra H Q E := by
  unfold R.map at h
  cases r with
  | ok d c => exact h
  | exc c x cc => exact h
  | bad => exact h
theorem mapW_post' {ra : Ra} {H : Hp} {Q : VK} {E : XK} {r : R D} (h : PostR g (fun H' d v => Rep g (frz H' ra) d v) r ra H Q E) : PostR g (rpW g ra) (r.map W.d) ra H Q E := by
  unfold R.map
  cases r with
  | ok d c => exact h
  | exc c x cc => exact h
  | bad => exact h
theorem lamP_eq {p : Arguments} (h : lamP p = true) : p = ⟨[], [], none, [], [], none, []⟩ := by
  unfold lamP at h
  simp only [Bool.and_eq_true, List.isEmpty_iff, Option.isNone_iff_eq_none] at h
  obtain ⟨⟨⟨⟨⟨⟨h1, h2⟩, h3⟩, h4⟩, h5⟩, h6⟩, h7⟩ := h
  cases p
  simp_all
theorem c_lam {f : Nat} {t : E} {x : Str} {pn lpos pos : Pos} {params : Arguments} {body : Expr} {scope : Scope} (ok : Okx g N sc ac k X Wx) (F : Fx g wd k) (hx : wd.fnm f = some x) (hg : glB sc x = true) (hd : nodbg x = true) (hp : lamP params = true) (hl : lamSB sc scope = true) (hs : sc ∈ wd.lams) (hn : scope ∉ wd.lams)
    (hb : chk wd N scope t body = true) : PE X (.Call (.Name x pn) [.Lambda params body scope lpos] [] pos) (tE g Wx fun fr cs => (wd.phd f (wd.phc t fr) cs).map W.d) := by
  have ep := lamP_eq hp
  subst ep
  have L : LamS X.env.scope scope := by rw [ok.sc]; exact lamS_by hl
  unfold nodbg at hd
  simp only [Bool.and_eq_true, Bool.not_eq_true'] at hd
  obtain ⟨gm, hkeep⟩ := F.nm f x hx
  refine ⟨fun pins s σ H Q I h => ?_⟩
  obtain ⟨fr, cs, ra, R, Fr, q⟩ := h
  rcases F.lamk with ⟨kk, hkk⟩ | hbad
  · obtain ⟨c, P, hcode, TB, hmT, hu⟩ := ok.lam (by rw [ok.sc, ← F.lams]; exact hs)
    refine wpAny_Call_Name_kw (ld_glob I (gl_of ok hg) (by rw [ok.mg]; exact gm) ?_ hd.1)
    refine PySem.W.callWith_K (h₀ := X.base) I.ok.mod.kin (by rw [ok.K]; exact hkeep) ?_ (by rfl) (by rfl)
    rw [star_of (e := .Lambda ⟨[], [], none, [], [], none, []⟩ body scope lpos) (es := []) (env := X.env) rfl]
    show wpAny _ _ (spliced ((false, eval (.Lambda ⟨[], [], none, [], [], none, []⟩ body scope lpos) X.env) :: backTo pos (starEach [] X.env))) _ _ s
    refine Calls.spliced_cons (lam_makeK rfl I TB hcode hmT hu R.tabs (show defaultsOf ⟨[], [], none, [], [], none, []⟩ X.env = ([], []) by rfl) (L.has I.ok) fun fA c' pm' ctv H1 s' I1 kp T1 hf hfn hfr hco hH1 => ?_)
    refine Calls.spliced_nil ⟨I1.kIn, ?_⟩
    have k1 : Keep ra H H1 := fun b o e _ => kp b o e
    have cellNe : ∀ a, some a ∈ ra → (∃ vs, H a = some (.lst vs)) ∨ ∃ c dx vs, H a = some (.ins c dx vs) := fun a ha => by
      obtain ⟨m, hm⟩ := mem_ra ha
      obtain ⟨c0, _, q⟩ := R.back hm
      exact q.kind
    have R1 : Rel g ra cs H1 := R.keep k1 (fun a ha => by
      rcases cellNe a ha with ⟨vs, e⟩ | ⟨c, dx, vs, e⟩
      · obtain ⟨o', h1, h2⟩ := kp a _ e
        rw [h1, e, h2 (fun _ z => by cases z)]
      · obtain ⟨o', h1, h2⟩ := kp a _ e
        rw [h1, e, h2 (fun _ z => by cases z)]) T1
    have cNot : some c' ∉ ra := fun z => by
      obtain ⟨m, hm⟩ := mem_ra z
      obtain ⟨c0, _, q⟩ := R1.back hm
      rcases q.kind with ⟨vs, e⟩ | ⟨c, dx, vs, e⟩ <;> rw [hco] at e <;> unfold CodeO at e <;> cases e
    have FD : FnD g X.prog X.w X.K X.mg X.base (k + 1) f (wd.phd f) := by rw [ok.P, ok.w, ok.K, ok.mg, ok.base]; exact F.fnd f
    have deed : DeedRun g X.prog X.w X.K X.mg X.base (k + 1) (frs X.stack) (.ref fA) (wd.phc t fr) ra s' H1 := by
      intro A outer s2 H2 cs2 Q2 E2 hr2 hg2 e0 un kp2 R2 post2
      have of1 : s2.heap.get? fA = some _ := un.keep fA _ hf hfn hfr (fun z => nomatch (show fA ∈ ([] : List Addr) from z))
      have hc2 : H2 c' = some (CodeO c' _) := kp2.at hco cNot codeO_noTbl
      obtain ⟨⟨oc, vs, tt, hoc, hdc, hvc⟩, _, _⟩ := e0.hok c' _ hc2
      refine PySem.W.kla_callFunE hr2.depth of1 rfl L.co L.gen rfl ⟨c', oc, vs, tt, rfl, hoc, hdc, hvc⟩ ?_
      refine wpAny_of_eq (a := ([] : List (Str × Value))) (by rfl) (wpAny_newFunctionEnv (fun y hy => (L.own y hy).2) (fun y hy => absurd hy (by simp)) (fun h₁ hns hsb => ⟨(e0.mod.nolimit.keeps fun b o e => (e0.bs b o e).1).fresh _ hsb, ?_⟩) L.kind)
      show codeAny _ _ (.expr body (lamEnv X scope s2.heap.objs.size fA c')) _ _
      have kp3 : ∀ b o, s2.heap.get? b = some o → h₁.get? b = some o := fun b o e => hsb.extBut b o (Nat.ne_of_lt (Heap.lt_size e)) (Heap.get?_push_of_some _ e)
      have J : Inv (lamCx X A outer s2 H2 E2 scope fA c') [] σ H2 { s2 with heap := h₁, toks := s2.toks + ([] : List (Str × Value)).length } := lam_start2 I1 L e0 hr2.hd un hns kp3
      have okL : Okx g N scope false kk (lamCx X A outer s2 H2 E2 scope fA c') (fun c d _ H' => E2 c d H') :=
        ⟨ok.P, ok.w, ok.K, ok.mg, ok.base, ok.hN, ok.nd, rfl, rfl, (fun h => by cases h), (hr2.deeper _).mono (by omega), takes_of rfl rfl rfl rfl, hg2, fun h => absurd (by rw [F.lams]; exact h) hn, fun h => by cases h⟩
      refine PySem.W.kla_codeExpr (wpAny_mono ((F.lamr hkk hb okL).run [] _ σ H2 Q2 J ⟨fr, cs2, ra, R2, Fr.mono (k1.trans kp2), mapW_post' post2⟩) (fun v s' hq => ?_) fun e s' hq => hq)
      obtain ⟨w', H', J', rv, q⟩ := hq
      exact ⟨w', H', J'.os, J'.bare, J'.base, J'.hok, rv, q⟩
    have rc := FD.run X.A X.stack s' H1 fA (wd.phc t fr) ra cs Q (fun c d H' => Wx c d σ H') ok.hr ok.gd I1.env0 ⟨_, _, _, _, hf⟩ hfn hfr deed R1 (PostR.from k1 (mapW_post q))
    refine wpAny_call (codeAny_mono rc fun r s2 hq => ?_)
    cases r with
    | error e => exact ok.tk e s2 (XE.of_call I1 (fun cls d H' z => z) hq)
    | ok fl =>
      cases fl with
      | ret u => exact I1.after hq
      | next => exact False.elim hq
      | brk => exact False.elim hq
      | cont => exact False.elim hq
  · dsimp only at q
    rw [hbad] at q
    exact q.elim
end
end BV

namespace BV
open PySem PySem.Spec PySem.Calls PyProof.Rows PySem.W L2
/-! ### x != b by the own __eq__ of the class of x -/
section
variable {prog : Program} {w : World} {A : Around} {E : Value → Shared → Prop} {s : Shared} {K : Frag} {x C f : Addr} {ox : Obj} {od : Option Obj} {b tb : Value}
theorem check_ne (X : K.In s.heap) (I : InstAt s.heap x ox C od) (ho : subIn K (.ref C) (.type "object") = some true) {M : Model} {Q : Unit → Shared → Prop} (hq : Q () s) : wpAny M A (checkBuiltinCall "object.__ne__" ⟨[.ref x, b], []⟩) Q E s := by
  simp only [checkBuiltinCall, F.cmpKind_ne, F.cmpSplit_ne]
  refine wpAny_bind ?_
  simp only [isInstance]
  refine wpAny_bind (I.type.here ((looks_subIn X ho).here ?_))
  rw [if_neg (by simp)]
  have ha := F.cmpArgs_ne (.ref x) b
  cases hsig : Manifest.signature? "object.__ne__" with
  | none => exact wpAny_pure hq
  | some sig =>
    simp only [argsOk, hsig] at ha
    have h2 : Bind.checkArgs "object.__ne__" sig ⟨[.ref x, b], []⟩ = pure () := ha
    show wpAny M A (Bind.checkArgs "object.__ne__" sig ⟨[.ref x, b], []⟩) Q E _
    rw [h2]; exact wpAny_pure hq
theorem ne_bound {M : Model} {Q : Option Value → Shared → Prop} (X : K.In s.heap) (I : InstAt s.heap x ox C od) (hs : findIn K (.ref C) "__ne__" = some (some (.builtin "object.__ne__")))
    (h : wpAny M A (call (.builtin "object.__ne__") [.ref x, b]) (fun v => Q (some v)) E s) : wpAny M A (callSpecialIfBound? (.ref x) "__ne__" [b]) Q E s := by
  simp only [callSpecialIfBound?, bindSpecialIfBound?]
  refine wpAny_holding (wpAny_bind (wpAny_bind (wpAny_bind (I.type.here ((looks_findIn X hs).here ?_)))))
  simp only [F.cmp_object.ne.bind]
  refine wpAny_bind (wpAny_askSetting (wpAny_ite ?_))
  have fin : wpAny M A (call (.builtin "object.__ne__") ([.ref x] ++ [b]) >>= fun v => pure (some v)) Q E s := wpAny_bind (wpAny_mono h (fun v s' h' => wpAny_pure h') fun _ _ h' => h')
  split
  · exact wpAny_bind (wpAny_pure (wpAny_pure fin))
  · exact wpAny_tryCatch (wpAny_bind (wpAny_pure (wpAny_pure fin)))
/-- an answer that is a bool -/
def BoolBack (neg : Bool) (Q : Value → Shared → Prop) (v : Value) (s' : Shared) : Prop := ∃ r : Bool, v = .bool r ∧ Q (.bool (if neg then !r else r)) s'
theorem call_ne {Q : Value → Shared → Prop} (hu : A.units + 1 < cLine) (X : K.In s.heap) (I : InstAt s.heap x ox C od) (ho : subIn K (.ref C) (.type "object") = some true)
    (hs : findIn K (.ref C) "__eq__" = some (some (.ref f))) (hf : isFn K (.ref f) = true)
    (h : wpAny (model prog w) A.in1 (call (.ref f) [.ref x, b]) (BoolBack true Q) E s) : wpAny (model prog w) A (call (.builtin "object.__ne__") [.ref x, b]) Q E s := by
  refine wpAny_call (codeAny_call_builtin F.cmp_object.ne.plain F.cmpEntry_ne (check_ne X I ho ?_))
  unfold Builtin.«object.__ne__»
  have hin := ifBound_K (M := model prog w) (A := A.in1) (E := E) (args := [b]) (Q := fun r s' => ∃ t : Bool, r = some (.bool t) ∧ Q (.bool (!t)) s') X I hs hf (wpAny_mono h (fun v s' ⟨r, e1, e2⟩ => ⟨r, by rw [e1], by simpa using e2⟩) fun _ _ e => e)
  repeat (first | with_reducible refine wpAny_cRoomFor hu ?_ | with_reducible refine wpAny_bind (wpAny_mono hin (fun r s' z => ?_) fun _ _ e => e) | wp_step)
  obtain ⟨t, rfl, q⟩ := z
  show wpAny _ _ (truthy (.bool t) >>= fun y => ret (Value.bool !y)) _ _ _
  repeat wp_step
  exact q
/-- the left side answers: x op b, told by what tryCompare gives -/
theorem rc_left {op : CmpOp} {Q : Value → Shared → Prop} (hu : A.units < cLine) (X : K.In s.heap) (I : InstAt s.heap x ox C od) (hb : Looks (model prog w) s.heap (typeOf b) tb) (hn : notFirst K C tb = true)
    (one : wpAny (model prog w) A (tryCompare (.ref x) (cmpInfo op).2.1 b) (fun r s' => ∃ v, r = some v ∧ Q v s') E s) : wpAny (model prog w) A (richCompare op (.ref x) b) Q E s := by
  have go : ∀ k : Option Value → Sem Value, (∀ v, k (some v) = pure v) → wpAny (model prog w) A (tryCompare (.ref x) (cmpInfo op).2.1 b >>= k) Q E s := fun k hk =>
    wpAny_bind (wpAny_mono one (fun r s' ⟨v, e, q⟩ => by rw [e, hk]; exact wpAny_pure q) fun _ _ z => z)
  unfold richCompare
  simp only [oneThing_ref]
  refine wpAny_holding (wpAny_bind (wpAny_cRoomFor hu (wpAny_bind (I.type.here (wpAny_bind (hb.here ?_))))))
  by_cases q : (Value.ref C != tb) = true
  · have e : subIn K tb (.ref C) = some false := (Bool.or_eq_true_iff.mp hn).elim (fun e => by rw [beq_iff_eq.mp e] at q; simp at q) fun e => beq_iff_eq.mp e
    rw [if_pos q]
    refine wpAny_bind ((looks_subIn X e).here ?_)
    rw [if_neg Bool.false_ne_true]
    exact go _ fun v => rfl
  · rw [if_neg q]
    refine wpAny_bind (wpAny_pure ?_)
    rw [if_neg Bool.false_ne_true]
    exact go _ fun v => rfl
theorem eq_own {Q : Value → Shared → Prop} (hu : A.units < cLine) (X : K.In s.heap) (I : InstAt s.heap x ox C od) (hb : Looks (model prog w) s.heap (typeOf b) tb) (hn : notFirst K C tb = true)
    (hs : findIn K (.ref C) "__eq__" = some (some (.ref f))) (hf : isFn K (.ref f) = true) (h : wpAny (model prog w) A (call (.ref f) [.ref x, b]) (BoolBack false Q) E s) : wpAny (model prog w) A (compareOp .Eq (.ref x) b) Q E s := by
  refine rc_left (op := .Eq) hu X I hb hn ?_
  unfold tryCompare
  refine wpAny_bind (ifBound_K X I hs hf (wpAny_mono h (fun v s' ⟨r, e1, e2⟩ => ?_) fun _ _ e => e))
  subst e1
  exact wpAny_pure ⟨_, rfl, by simpa using e2⟩
theorem ne_own {Q : Value → Shared → Prop} (hu : A.units + 1 < cLine) (X : K.In s.heap) (I : InstAt s.heap x ox C od) (hb : Looks (model prog w) s.heap (typeOf b) tb) (hn : notFirst K C tb = true) (ho : subIn K (.ref C) (.type "object") = some true)
    (hn2 : findIn K (.ref C) "__ne__" = some (some (.builtin "object.__ne__"))) (hs : findIn K (.ref C) "__eq__" = some (some (.ref f))) (hf : isFn K (.ref f) = true) (h : wpAny (model prog w) A.in1 (call (.ref f) [.ref x, b]) (BoolBack true Q) E s) : wpAny (model prog w) A (compareOp .NotEq (.ref x) b) Q E s := by
  refine rc_left (op := .NotEq) (by omega) X I hb hn ?_
  unfold tryCompare
  refine wpAny_bind (ne_bound X I hn2 (wpAny_mono (call_ne (Q := fun v s' => ∃ t : Bool, v = .bool t ∧ Q v s') hu X I ho hs hf (wpAny_mono h (fun v s' ⟨r, e1, e2⟩ => ⟨r, e1, _, rfl, e2⟩) fun _ _ e => e)) (fun v s' ⟨t, e, q⟩ => ?_) fun _ _ e => e))
  subst e
  exact wpAny_pure ⟨_, rfl, q⟩
end
/-! ### the same, by value -/
section
variable {g : G} {wd : Wd} {N : List Str} {sc : Scope} {ac : Bool} {k : Nat} {X : Cx} {Wx : WX} {l r : Expr} {p : Pos} {fa fb fm : Fra → Cells → R W} {pins : List (Addr × Obj)} {σ : L2.St} {H : Hp} {s : Shared}
theorem asBn_post {neg : Bool} {rr : R D} {ra : Ra} {Q : VK} {E E' : XK} (h : PostR g (rpW g ra) (asBn neg rr) ra H Q E) : PostR g (fun H' d v => Rep g (frz H' ra) d v) rr ra H (fun v H' => ∃ b : Bool, v = .bl b ∧ Q (.bl (if neg then !b else b)) H') E' := by
  cases rr with
  | ok d c =>
    cases d <;> first | exact h.elim | skip
    rename_i b
    intro H' v kk R' r'
    cases r'
    exact ⟨b, rfl, h H' _ kk R' (.bl _)⟩
  | exc c x cc => exact h.elim
  | bad => exact h.elim
theorem own_run (ok : Okx g N sc ac k X Wx) (F : Fx g wd k) {f : Nat} {A : Around} (hr : Room k A) (hg : A.guards = some []) (hfr : A.frames = X.A.frames) (hb : Binds g.K (g.fd f) (g.ps f) []) (h2 : (g.ps f).length = 2) (I : Inv X pins σ H s) {ra : Ra} {cs : Cells} (R : Rel g ra cs H) {w1 w2 : W} {v1 v2 : V} {u1 u2 : Value}
    (r1 : RepW g (frz H ra) ra w1 v1) (r2 : RepW g (frz H ra) ra w2 v2) (q1 : RelV v1 u1) (q2 : RelV v2 u2) {neg : Bool} {Q : VK} {E : XK} (h : PostR g (rpW g ra) (asBn neg (wd.phi f [w1, w2] cs)) ra H Q E) :
    wpAny (model X.prog X.w) A (call (.ref (g.fa f)) [u1, u2]) (BoolBack neg (EP X pins σ Q)) X.xe s := by
  have hb' : Binds X.K (g.fd f) (g.ps f) [] := by rw [ok.K]; exact hb
  have e0 : Env0 X.prog X.w X.K X.mg X.base A X.stack s H := by
    have e := I.env0
    exact ⟨by rw [hfr]; exact e.frames, e.mod, e.bs, e.bsz, e.funs, e.frf, e.hok, e.bare⟩
  have b2 := hb' s [u1, u2] I.kIn (by simp [h2])
  rw [List.append_nil] at b2
  have sp : spOf g (g.ps f).length (wd.phi f) [v1, v2] H (fun v H' => ∃ b : Bool, v = .bl b ∧ Q (.bl (if neg then !b else b)) H') (fun _ _ _ => False) := ⟨[w1, w2], cs, ra, R, .cons r1 (.cons r2 .nil), by rw [h2]; rfl, asBn_post h⟩
  refine wpAny_call (codeAny_mono ((F.fn' ok f).run A X.stack s H ⟨[u1, u2], []⟩ [u1, u2] [v1, v2] _ _ hr hg e0 b2 (.cons q1 (.cons q2 .nil)) sp) fun rr s' hq => ?_)
  cases rr with
  | error e =>
    obtain ⟨_, _, _, _, _, _, _, _, _, _, _, _, z⟩ := hq
    exact z.elim
  | ok fl =>
    cases fl with
    | ret u =>
      obtain ⟨z, H', I', rz, b, ez, q⟩ := I.after hq
      subst ez
      cases rz
      exact ⟨b, rfl, .bl (if neg = true then !b else b), H', I', rfl, q⟩
    | next => exact False.elim hq
    | brk => exact False.elim hq
    | cont => exact False.elim hq
theorem op_eqo (ok : Okx g N sc ac k X Wx) (F : Fx g wd k) {neg : Bool} : OpR X (compareOp (if neg then .NotEq else .Eq)) (fun x y H Q => ∃ (w1 w2 : W) (cs : Cells) (ra : Ra) (E : XK), Rel g ra cs H ∧ RepW g (frz H ra) ra w1 x ∧ RepW g (frz H ra) ra w2 y ∧ PostR g (rpW g ra) (eqoW wd neg w1 w2 cs) ra H Q E) := by
  intro pins s σ H x y v u Q I rx ry h
  obtain ⟨w1, w2, cs, ra, E, R, r1, r2, h⟩ := h
  unfold eqoW at h
  split at h
  · rename_i c fs t e1 e2
    split at h
    · rename_i f kb e3 e4
      obtain ⟨a, dx, vs, rfl, ea, _⟩ := clsOf_ok R r1 e1
      have hty := tyOf_ok F R r2 e2 e4
      obtain ⟨P, Z, pz, _⟩ := kit_ofB I ry (by rw [ok.K]; exact hty)
      have hb := Z.ty (model X.prog X.w) s.heap I.kIn pz
      obtain ⟨mA, O, _⟩ := ins_get I.hok ea
      obtain ⟨od, J, _⟩ := O.look
      have hu := ok.hr.un
      cases neg with
      | false =>
        obtain ⟨g1, g2, g3, g4, g5⟩ := F.oeq c t f e3
        rw [← ok.K] at g1 g2 g5
        obtain rfl : v = Value.ref a := rx
        exact eq_own (by omega) I.kIn J hb g5 g1 g2 (own_run ok F (ok.hr.mono (by omega)) ok.gd rfl g3 g4 I R r1 r2 rfl ry h)
      | true =>
        obtain ⟨⟨g1, g2, g3, g4, g5⟩, g6, g7⟩ := F.one c t f e3
        rw [← ok.K] at g1 g2 g5 g6 g7
        obtain rfl : v = Value.ref a := rx
        exact ne_own (by omega) I.kIn J hb g5 g7 g6 g1 g2 (own_run ok F ((ok.hr.mono (j := k + 1) (by omega)).in1) ok.gd rfl g3 g4 I R r1 r2 rfl ry h)
    · exact h.elim
  · exact h.elim
theorem c_eqo {neg : Bool} (ok : Okx g N sc ac k X Wx) (F : Fx g wd k) (ha : PE X l (tE g Wx fa)) (hb : PE X r (tE g Wx fb)) (hs : notSet r = true) :
    PE X (.Compare l [if neg then .NotEq else .Eq] [r] p) (tE g Wx fun fr cs => (fa fr cs).bind fun w1 c1 => (fb fr c1).bind fun w2 c2 => eqoW wd neg w1 w2 c2) :=
  PE.imp (pe_cmpR (op_eqo ok F) ha hb (mark_of hs)) fun σ H Q h => tE_bin (fun R r1 r2 h => ⟨_, _, _, _, _, R, r1, r2, h⟩) h
theorem c_eqoT {neg : Bool} (ok : Okx g N sc ac k X Wx) (F : Fx g wd k) (ha : PE X l (tE g Wx fa)) (hb : PE X r (tE g Wx fb)) (hs : notSet r = true) :
    PT X (.Compare l [if neg then .NotEq else .Eq] [r] p) (tT g Wx fun fr cs => asB ((fa fr cs).bind fun w1 c1 => (fb fr c1).bind fun w2 c2 => eqoW wd neg w1 w2 c2)) :=
  PT.imp (pt_cmpR (op_eqo ok F) ha hb (mark_of hs)) fun σ H Q h => tT_bin (fun R r1 r2 h => ⟨_, _, _, _, _, R, r1, r2, h⟩) h
theorem op_ino (ok : Okx g N sc ac k X Wx) (F : Fx g wd k) {neg : Bool} : OpR X (compareOp (if neg then .NotIn else .In)) (fun x y H Q => ∃ (w1 w2 : W) (cs : Cells) (ra : Ra) (E : XK), Rel g ra cs H ∧ RepW g (frz H ra) ra w1 x ∧ RepW g (frz H ra) ra w2 y ∧ PostR g (rpW g ra) (inoW wd neg w1 w2 cs) ra H Q E) := by
  intro pins s σ H x y v u Q I rx ry h
  obtain ⟨w1, w2, cs, ra, E, R, r1, r2, h⟩ := h
  unfold inoW at h
  split at h
  · rename_i c fs e1
    split at h
    · rename_i f e3
      obtain ⟨a, dx, vs, rfl, ea, _⟩ := clsOf_ok R r2 e1
      obtain ⟨mA, O, _⟩ := ins_get I.hok ea
      obtain ⟨od, J, _⟩ := O.look
      obtain ⟨m, hF⟩ := I.fr
      obtain ⟨g1, g2, g3, g4⟩ := F.oin c f e3
      rw [← ok.K] at g1 g2
      obtain rfl : u = Value.ref a := ry
      have run := own_run ok F (ok.hr.mono (by omega)) ok.gd rfl g3 g4 I R r2 r1 rfl rx h
      cases neg with
      | false =>
        refine PySem.W.in_K hF I.ok.mod.kin J g1 g2 (wpAny_mono run (fun vv s' ⟨b, e, q⟩ => ?_) fun _ _ z => z)
        subst e
        exact wpAny_truthy_bool (by simpa using q)
      | true =>
        refine PySem.W.notIn_K hF I.ok.mod.kin J g1 g2 (wpAny_mono run (fun vv s' ⟨b, e, q⟩ => ?_) fun _ _ z => z)
        subst e
        exact wpAny_truthy_bool (by simpa using q)
    · exact h.elim
  · exact h.elim
theorem c_ino {neg : Bool} (ok : Okx g N sc ac k X Wx) (F : Fx g wd k) (ha : PE X l (tE g Wx fa)) (hb : PE X r (tE g Wx fb)) (hs : notSet r = true) :
    PE X (.Compare l [if neg then .NotIn else .In] [r] p) (tE g Wx fun fr cs => (fa fr cs).bind fun w1 c1 => (fb fr c1).bind fun w2 c2 => inoW wd neg w1 w2 c2) :=
  PE.imp (pe_cmpR (op_ino ok F) ha hb (mark_of hs)) fun σ H Q h => tE_bin (fun R r1 r2 h => ⟨_, _, _, _, _, R, r1, r2, h⟩) h
theorem c_inoT {neg : Bool} (ok : Okx g N sc ac k X Wx) (F : Fx g wd k) (ha : PE X l (tE g Wx fa)) (hb : PE X r (tE g Wx fb)) (hs : notSet r = true) :
    PT X (.Compare l [if neg then .NotIn else .In] [r] p) (tT g Wx fun fr cs => asB ((fa fr cs).bind fun w1 c1 => (fb fr c1).bind fun w2 c2 => inoW wd neg w1 w2 c2)) :=
  PT.imp (pt_cmpR (op_ino ok F) ha hb (mark_of hs)) fun σ H Q h => tT_bin (fun R r1 r2 h => ⟨_, _, _, _, _, R, r1, r2, h⟩) h
/-! a method that is given by name -/
theorem meth_ruleK {kws : List Keyword} {nms : List Str} {m : Str} {apos : Pos} {Q : Value → Shared → Prop} (hsup : notSup l = true) (hline : (apos.endLine == p.line) = true) (hlen : kws.length < 20) (hk : kws.map (·.arg) = nms.map some)
    (h : wpAny (model X.prog X.w) X.A (eval l X.env) (fun ov s₁ => wpAny (model X.prog X.w) X.A (getMethod ov m (do return (← importBound l X.env).getD true)) (fun fx s2 => wpAny (model X.prog X.w) X.A (callWith p fx.1 fx.2 (backTo p (starEach [] X.env)) (backToKw p (keywordEach kws X.env))) Q X.xe s2) X.xe s₁) X.xe s) :
    wpAny (model X.prog X.w) X.A (eval (.Call (.Attribute l m apos) [] kws p) X.env) Q X.xe s := by
  rw [PySem.arm_eval_Call, base_of hsup]
  refine wpAny_bind (thn h fun ov s1 h1 => ?_)
  obtain ⟨k1, _, _⟩ := kw_facts (env := X.env) (pos := p) hk
  have hform : methodCallForm (([] : List Expr).length + kws.length) (backTo p (starEach [] X.env)) (backToKw p (keywordEach kws X.env)) = true := by
    unfold methodCallForm
    rw [k1]
    show (true && true && decide (0 + kws.length + (if (backToKw p (keywordEach kws X.env)).isEmpty = true then 0 else 1) < 30)) = true
    rw [decide_eq_true (by split <;> omega)]
    rfl
  have hpos : methodCallPos true l X.env apos p = pure p := by unfold methodCallPos; simp [hline]
  refine wpAny_bind (wpAny_standAt ?_)
  unfold methodCall
  rw [hform]
  refine wpAny_bind (wpAny_holding (thn (show wpAny _ _ (getMethod ov m _) _ _ _ from h1) fun fx s2 h2 => ?_))
  exact wpAny_bind (wpAny_of_eq hpos h2)
theorem c_methk {m : Str} {apos : Pos} {q : Nat} {nms : List Str} {kws : List Keyword} {fz : Fra → Cells → R (List W)} (ok : Okx g N sc ac k X Wx) (F : Fx g wd k) (hsup : notSup l = true) (hline : (apos.endLine == p.line) = true) (hlen : kws.length < 20) (hk : kws.map (·.arg) = nms.map some) (ha : PE X l (tE g Wx fa)) (hkw : PK X kws (tA g Wx fz))
    (l2 : ∀ fr cs ws c, fz fr cs = .ok ws c → ws.length = kws.length) :
    PE X (.Call (.Attribute l m apos) [] kws p) (tE g Wx fun fr cs => (fa fr cs).bind fun w c1 => match mthW wd w m c1 with
      | some f => (fz fr c1).bind fun zs c2 => methkW wd f q nms w zs c2
      | none => .bad) := by
  refine ⟨fun pins s σ H Q I h => ?_⟩
  obtain ⟨fr, cs, ra, R, Fr, qq⟩ := h
  refine meth_ruleK hsup hline hlen hk (thn (ha.run pins s σ H _ I ⟨fr, cs, ra, R, Fr, PostR.bind (rp := rpW g ra) qq⟩) fun u s1 ⟨x, H1, I1, ru, w, c1, k1, R1, rw', p1⟩ => ?_)
  split at p1
  · rename_i f ef
    obtain ⟨a, c, dx, vs, rfl, ea, hno, hm⟩ := mthW_ok R1 rw' ef
    obtain rfl : u = Value.ref a := ru
    obtain ⟨hc, hme, _⟩ := F.meth _ _ _ hm
    have hc' : Cls X.K (g.ca c) := by rw [ok.K]; exact hc
    have hme' : Meth X.K (g.ca c) m (g.fa f) := by rw [ok.K]; exact hme
    refine getmeth_ok I1 ea hc' hme' hno ?_
    obtain ⟨kk1, kk2, kk3⟩ := kw_facts (env := X.env) (pos := p) hk
    refine PySem.W.callWith_KW0 (first := [.ref a]) (h₀ := X.base) I1.ok.mod.kin hme'.kp kk1 ?_ (by rw [kk3]; rfl)
    refine thn (hkw.run p pins s1 σ H1 _ I1 ⟨fr, c1, ra, R1, Fr.mono k1, PostR.bindE (rp := rpA g ra) p1⟩) fun ws2 s2 ⟨zs, H2, I2, rz, ys, c2, e2, k2, R2, r2, p2⟩ => ⟨I2.kIn, ?_⟩
    rw [kk2]
    unfold methkW at p2
    split at p2
    · rename_i n nms' pm hp
      split at p2
      · rename_i hn
        obtain ⟨rfl, rfl⟩ := hn
        refine go_call (vs := [.ref a]) (us := [.ref a]) (ws := [w]) (ys := ys) ok F hp I2 R2 (.cons (rw'.mono k2.same) .nil) r2 (.cons rfl .nil) rz rfl (by have a1 := r2.length; have a2 := l2 _ _ _ _ e2; have a3 := congrArg List.length hk; simp only [List.length_map] at a3; omega) ?_
        rw [hp]
        exact p2
      · exact p2.elim
    · exact p2.elim
  · exact p1.elim
end
end BV

namespace BV
open PySem L2
def plainT : Expr → Bool
  | .UnaryOp .Not _ _ => false
  | .BoolOp _ _ _ => false
  | .IfExp _ _ _ _ => false
  | .Compare _ _ _ _ => false
  | _ => true
theorem plain_true {e : Expr} (h : plainT e = true) (env : Env) (whole : Sem Value) : isTrue e env whole = (do let v ← whole; standAt e.pos; holding [v] (truthy v)) := by
  cases e <;> first | rfl | (cases h; done) | (rename_i op _ _; cases op <;> first | rfl | (cases h; done))
structure Snd (g : G) (wd : Wd) (k : Nat) (z : E) : Prop where
  ex_ : ∀ {N sc ac X Wx ex}, Okx g N sc ac k X Wx → chk wd N sc z ex = true → PE X ex (tE g Wx (ev wd z))
  t : tOK z = true → ∀ {N sc ac X Wx ex}, Okx g N sc ac k X Wx → chk wd N sc z ex = true → PT X ex (tT g Wx fun fr cs => asB (ev wd z fr cs))
  a : ∀ {N sc ac X Wx es}, Okx g N sc ac k X Wx → chkA wd N sc z es = true → PA X es (tA g Wx (evA wd z)) ∧ (∀ x ∈ es, notSt x = true) ∧ ∀ fr cs ws c, evA wd z fr cs = .ok ws c → ws.length = es.length
  kw : ∀ {N sc ac X Wx es}, Okx g N sc ac k X Wx → chkK wd N sc z es = true → PK X es (tA g Wx (evA wd z)) ∧ ∀ fr cs ws c, evA wd z fr cs = .ok ws c → ws.length = es.length
  o : ∀ {N sc ac X Wx eo}, Okx g N sc ac k X Wx → chkO wd N sc z eo = true → PO X eo (tO g Wx (evO wd z))
  an : ∀ {N sc ac X Wx x xs p}, Okx g N sc ac k X Wx → chkA wd N sc z (x :: xs) = true → PE X (.BoolOp .And (x :: xs) p) (tE g Wx (evAnd wd z))
  ant : tOKs z = true → ∀ {N sc ac X Wx x xs p}, Okx g N sc ac k X Wx → chkA wd N sc z (x :: xs) = true → PW X (.BoolOp .And (x :: xs) p) (tT g Wx fun fr cs => asB (evAnd wd z fr cs))
  or : ∀ {N sc ac X Wx x xs p}, Okx g N sc ac k X Wx → chkA wd N sc z (x :: xs) = true → PE X (.BoolOp .Or (x :: xs) p) (tE g Wx (evOr wd z))
  ort : tOKs z = true → ∀ {N sc ac X Wx x xs p}, Okx g N sc ac k X Wx → chkA wd N sc z (x :: xs) = true → PW X (.BoolOp .Or (x :: xs) p) (tT g Wx fun fr cs => asB (evOr wd z fr cs))
  ts : tOKs z = true → ∀ {N sc ac X Wx es}, Okx g N sc ac k X Wx → chkA wd N sc z es = true → es.length ≤ 1 → PTs X es (tT g Wx fun fr cs => asB (evAnd wd z fr cs))
  j : ∀ {N sc ac X Wx es}, Okx g N sc ac k X Wx → chkA wd N sc z es = true → ∃ ts, PJ X es ts ∧ ∀ {acc fr cs ra σ H Q}, Rel g ra cs H → FrR g H ra fr σ → PostR g (rpW g ra) (evJ wd z acc fr cs) ra H Q (fun c d H' => Wx c d σ H') → tJs ts acc σ H fun out H1 => Q (.str out) H1
  i : ∀ {N sc ac X Wx ex tg}, Okx g N sc ac k X Wx → chkI wd N sc z ex tg = true → PI X tg ex (tI g Wx (evI wd z)) ∧ notSet ex = true
section
variable {g : G} {wd : Wd} {k : Nat}
theorem Snd.ofE {e : E} (he : ∀ {N sc ac X Wx ex}, Okx g N sc ac k X Wx → chk wd N sc e ex = true → PE X ex (tE g Wx (ev wd e)))
    (ht : tOK e = true → ∀ {N sc ac X Wx ex}, Okx g N sc ac k X Wx → chk wd N sc e ex = true → PT X ex (tT g Wx fun fr cs => asB (ev wd e fr cs)))
    (hA : ∀ N sc es, chkA wd N sc e es = false) (hK : ∀ N sc es, chkK wd N sc e es = false) (hO : ∀ N sc es, chkO wd N sc e es = false) (hI : ∀ N sc x t, chkI wd N sc e x t = false) : Snd g wd k e where
  ex_ := he
  t := ht
  a := fun _ h => by rw [hA] at h; cases h
  kw := fun _ h => by rw [hK] at h; cases h
  o := fun _ h => by rw [hO] at h; cases h
  an := fun _ h => by rw [hA] at h; cases h
  ant := fun _ {_ _ _ _ _ _ _ _} _ h => by rw [hA] at h; cases h
  or := fun _ h => by rw [hA] at h; cases h
  ort := fun _ {_ _ _ _ _ _ _ _} _ h => by rw [hA] at h; cases h
  ts := fun _ {_ _ _ _ _ _} _ h => by rw [hA] at h; cases h
  j := fun _ h => by rw [hA] at h; cases h
  i := fun _ h => by rw [hI] at h; cases h
theorem Snd.ofP {e : E} (he : ∀ {N sc ac X Wx ex}, Okx g N sc ac k X Wx → chk wd N sc e ex = true → PE X ex (tE g Wx (ev wd e)))
    (hp : ∀ N sc ex, chk wd N sc e ex = true → plainT ex = true)
    (hA : ∀ N sc es, chkA wd N sc e es = false) (hK : ∀ N sc es, chkK wd N sc e es = false) (hO : ∀ N sc es, chkO wd N sc e es = false) (hI : ∀ N sc x t, chkI wd N sc e x t = false) : Snd g wd k e :=
  Snd.ofE he (fun _ {N sc ac X Wx ex} ok h => c_test (he ok h) fun whole => plain_true (hp N sc ex h) X.env whole) hA hK hO hI
theorem Snd.ofI {e : E} (hi : ∀ {N sc ac X Wx ex tg}, Okx g N sc ac k X Wx → chkI wd N sc e ex tg = true → PI X tg ex (tI g Wx (evI wd e)) ∧ notSet ex = true)
    (hE : ∀ N sc x, chk wd N sc e x = false) (hA : ∀ N sc es, chkA wd N sc e es = false) (hK : ∀ N sc es, chkK wd N sc e es = false) (hO : ∀ N sc es, chkO wd N sc e es = false) : Snd g wd k e where
  ex_ := fun _ h => by rw [hE] at h; cases h
  t := fun _ {_ _ _ _ _ _} _ h => by rw [hE] at h; cases h
  a := fun _ h => by rw [hA] at h; cases h
  kw := fun _ h => by rw [hK] at h; cases h
  o := fun _ h => by rw [hO] at h; cases h
  an := fun _ h => by rw [hA] at h; cases h
  ant := fun _ {_ _ _ _ _ _ _ _} _ h => by rw [hA] at h; cases h
  or := fun _ h => by rw [hA] at h; cases h
  ort := fun _ {_ _ _ _ _ _ _ _} _ h => by rw [hA] at h; cases h
  ts := fun _ {_ _ _ _ _ _} _ h => by rw [hA] at h; cases h
  j := fun _ h => by rw [hA] at h; cases h
  i := hi
theorem snd (F : Fx g wd k) : ∀ z : E, Snd g wd k z := by
  intro z
  induction z with
  | var i =>
    refine Snd.ofP (fun {N sc ac X Wx ex} ok h => ?_) (fun N sc ex h => by cases ex <;> first | rfl | (simp [chk] at h)) (fun _ _ es => by cases es <;> rfl) (fun _ _ es => by cases es <;> rfl) (fun _ _ es => by cases es <;> rfl) (fun _ _ x t => rfl)
    cases ex <;> simp only [chk, Bool.and_eq_true, Bool.or_eq_true, decide_eq_true_eq, Bool.false_eq_true, Bool.not_eq_true', and_false, false_and] at h
    obtain ⟨⟨h1, h2⟩, h3⟩ := h
    exact PE.eqf (fun fr cs => by first | (rw [ev]; done) | (rw [ev]; rfl)) (c_var ok h1 h2 h3)
  | cst d =>
    refine Snd.ofP (fun {N sc ac X Wx ex} ok h => ?_) (fun N sc ex h => by cases d <;> cases ex <;> first | rfl | (simp [chk] at h)) (fun _ _ es => by cases es <;> rfl) (fun _ _ es => by cases es <;> rfl) (fun _ _ es => by cases es <;> rfl) (fun _ _ x t => rfl)
    cases d <;> cases ex <;> first | (simp [chk] at h; done) | skip
    all_goals rename_i c kk pp
    all_goals cases c <;> first | (simp [chk] at h; done) | skip
    · exact PE.eqf (fun fr cs => by first | (rw [ev]; done) | (rw [ev]; rfl)) (c_cst (fun _ => .non) pe_non)
    · simp only [chk, decide_eq_true_eq] at h
      subst h
      exact PE.eqf (fun fr cs => by first | (rw [ev]; done) | (rw [ev]; rfl)) (c_cst (fun _ => .bl _) pe_bl)
    · simp only [chk, decide_eq_true_eq] at h
      subst h
      exact PE.eqf (fun fr cs => by first | (rw [ev]; done) | (rw [ev]; rfl)) (c_cst (fun _ => .int _) pe_int)
    · simp only [chk, decide_eq_true_eq] at h
      subst h
      exact PE.eqf (fun fr cs => by first | (rw [ev]; done) | (rw [ev]; rfl)) (c_cst (fun _ => .str _) pe_str)
  | dct0 =>
    refine Snd.ofP (fun {N sc ac X Wx ex} ok h => ?_) (fun N sc ex h => by cases ex <;> first | rfl | (simp [chk] at h)) (fun _ _ es => by cases es <;> rfl) (fun _ _ es => by cases es <;> rfl) (fun _ _ es => by cases es <;> rfl) (fun _ _ x t => rfl)
    cases ex <;> first | (simp [chk] at h; done) | skip
    rename_i ks vs pos
    cases ks <;> cases vs <;> first | (simp [chk] at h; done) | skip
    exact PE.eqf (fun fr cs => by first | (rw [ev]; done) | (rw [ev]; rfl)) c_dct0
  | gv y =>
    refine Snd.ofP (fun {N sc ac X Wx ex} ok h => ?_) (fun N sc ex h => by cases ex <;> first | rfl | (simp [chk] at h)) (fun _ _ es => by cases es <;> rfl) (fun _ _ es => by cases es <;> rfl) (fun _ _ es => by cases es <;> rfl) (fun _ _ x t => rfl)
    cases ex <;> simp only [chk, Bool.and_eq_true, Bool.or_eq_true, decide_eq_true_eq, Bool.false_eq_true, Bool.not_eq_true', and_false, false_and] at h
    rename_i x pp
    obtain ⟨⟨rfl, h2⟩, h3⟩ := h
    cases e : wd.gd y with
    | none => exact ⟨fun pins s σ H Q I ⟨fr, cs, ra, R, Fr, q⟩ => by rw [ev, e] at q; exact q.elim⟩
    | some d =>
      obtain ⟨u, v, h4, h5, h6⟩ := F.gd _ _ e
      exact PE.eqf (fun fr cs => by rw [ev, e]) (c_cst h6 (pe_glob (gl_of ok h2) (by rw [ok.mg]; exact h4) h5 (dbg_of h3)))
  | op o a b iha ihb =>
    refine Snd.ofP (fun {N sc ac X Wx ex} ok h => ?_) (fun N sc ex h => by cases ex <;> first | rfl | (simp [chk] at h)) (fun _ _ es => by cases es <;> rfl) (fun _ _ es => by cases es <;> rfl) (fun _ _ es => by cases es <;> rfl) (fun _ _ x t => rfl)
    cases ex <;> simp only [chk, Bool.and_eq_true, Bool.or_eq_true, decide_eq_true_eq, Bool.false_eq_true, Bool.not_eq_true', and_false, false_and] at h
    obtain ⟨⟨rfl, h1⟩, h2⟩ := h
    exact PE.eqf (fun fr cs => by first | (rw [ev]; done) | (rw [ev]; rfl)) (c_op ok (iha.ex_ ok h1) (ihb.ex_ ok h2))
  | cmp o a b iha ihb =>
    refine Snd.ofE (fun {N sc ac X Wx ex} ok h => ?_) (fun _ {N sc ac X Wx ex} ok h => ?_) (fun _ _ es => by cases es <;> rfl) (fun _ _ es => by cases es <;> rfl) (fun _ _ es => by cases es <;> rfl) (fun _ _ x t => rfl)
    · cases ex <;> first | (simp [chk] at h; done) | skip
      rename_i l os rs pp
      match os, rs, h with
      | [o'], [r'], h =>
        simp only [chk, Bool.and_eq_true, decide_eq_true_eq] at h
        obtain ⟨⟨rfl, h1⟩, h2⟩ := h
        exact PE.eqf (fun fr cs => by first | (rw [ev]; done) | (rw [ev]; rfl)) (c_cmp ok (iha.ex_ ok h1) (ihb.ex_ ok h2) (chk_notSet h2))
    · cases ex <;> first | (simp [chk] at h; done) | skip
      rename_i l os rs pp
      match os, rs, h with
      | [o'], [r'], h =>
        simp only [chk, Bool.and_eq_true, decide_eq_true_eq] at h
        obtain ⟨⟨rfl, h1⟩, h2⟩ := h
        exact PT.eqf (fun fr cs => by first | (rw [ev]; done) | (rw [ev]; rfl)) (c_cmpT ok (iha.ex_ ok h1) (ihb.ex_ ok h2) (chk_notSet h2))
  | chain o o2 a b c iha ihb ihc =>
    refine Snd.ofE (fun {N sc ac X Wx ex} ok h => ?_) (fun _ {N sc ac X Wx ex} ok h => ?_) (fun _ _ es => by cases es <;> rfl) (fun _ _ es => by cases es <;> rfl) (fun _ _ es => by cases es <;> rfl) (fun _ _ x t => rfl)
    · cases ex <;> first | (simp [chk] at h; done) | skip
      rename_i l os rs pp
      match os, rs, h with
      | [o', o2'], [r', r2'], h =>
        simp only [chk, Bool.and_eq_true, decide_eq_true_eq] at h
        obtain ⟨⟨⟨⟨rfl, rfl⟩, h1⟩, h2⟩, h3⟩ := h
        exact PE.eqf (fun fr cs => by first | (rw [ev]; done) | (rw [ev]; rfl)) (c_chain ok (iha.ex_ ok h1) (ihb.ex_ ok h2) (ihc.ex_ ok h3) (chk_notSet h3))
    · cases ex <;> first | (simp [chk] at h; done) | skip
      rename_i l os rs pp
      match os, rs, h with
      | [o', o2'], [r', r2'], h =>
        simp only [chk, Bool.and_eq_true, decide_eq_true_eq] at h
        obtain ⟨⟨⟨⟨rfl, rfl⟩, h1⟩, h2⟩, h3⟩ := h
        exact PT.eqf (fun fr cs => by first | (rw [ev]; done) | (rw [ev]; rfl)) (c_chainT ok (iha.ex_ ok h1) (ihb.ex_ ok h2) (ihc.ex_ ok h3) (chk_notSet h3))
  | and as ih =>
    refine Snd.ofE (fun {N sc ac X Wx ex} ok h => ?_) (fun _ {N sc ac X Wx ex} ok h => ?_) (fun _ _ es => by cases es <;> rfl) (fun _ _ es => by cases es <;> rfl) (fun _ _ es => by cases es <;> rfl) (fun _ _ x t => rfl)
    · cases ex <;> first | (simp [chk] at h; done) | skip
      rename_i bo es pp
      cases bo with
      | Or => simp [chk] at h
      | And =>
        cases es with
        | nil => simp [chk] at h
        | cons x xs =>
          simp only [chk, Bool.and_eq_true] at h
          exact PE.eqf (fun fr cs => by first | (rw [ev]; done) | (rw [ev]; rfl)) (ih.an ok h.2)
    · cases ex <;> first | (simp [chk] at h; done) | skip
      rename_i bo es pp
      cases bo with
      | Or => simp [chk] at h
      | And =>
        cases es with
        | nil => simp [chk] at h
        | cons x xs =>
          simp only [chk, Bool.and_eq_true] at h
          exact PT.eqf (fun fr cs => by first | (rw [ev]; done) | (rw [ev]; rfl)) (ih.ant h.1.2 ok h.2).pt
  | or as ih =>
    refine Snd.ofE (fun {N sc ac X Wx ex} ok h => ?_) (fun _ {N sc ac X Wx ex} ok h => ?_) (fun _ _ es => by cases es <;> rfl) (fun _ _ es => by cases es <;> rfl) (fun _ _ es => by cases es <;> rfl) (fun _ _ x t => rfl)
    · cases ex <;> first | (simp [chk] at h; done) | skip
      rename_i bo es pp
      cases bo with
      | And => simp [chk] at h
      | Or =>
        cases es with
        | nil => simp [chk] at h
        | cons x xs =>
          simp only [chk, Bool.and_eq_true] at h
          exact PE.eqf (fun fr cs => by first | (rw [ev]; done) | (rw [ev]; rfl)) (ih.or ok h.2)
    · cases ex <;> first | (simp [chk] at h; done) | skip
      rename_i bo es pp
      cases bo with
      | And => simp [chk] at h
      | Or =>
        cases es with
        | nil => simp [chk] at h
        | cons x xs =>
          simp only [chk, Bool.and_eq_true] at h
          exact PT.eqf (fun fr cs => by first | (rw [ev]; done) | (rw [ev]; rfl)) (ih.ort h.1.2 ok h.2).pt
  | not a ih =>
    refine Snd.ofE (fun {N sc ac X Wx ex} ok h => ?_) (fun _ {N sc ac X Wx ex} ok h => ?_) (fun _ _ es => by cases es <;> rfl) (fun _ _ es => by cases es <;> rfl) (fun _ _ es => by cases es <;> rfl) (fun _ _ x t => rfl)
    · cases ex <;> first | (simp [chk] at h; done) | skip
      rename_i uo x pp
      cases uo <;> first | (simp [chk] at h; done) | skip
      simp only [chk, Bool.and_eq_true] at h
      exact PE.eqf (fun fr cs => by first | (rw [ev]; done) | (rw [ev]; rfl)) (c_not (ih.ex_ ok h.2))
    · cases ex <;> first | (simp [chk] at h; done) | skip
      rename_i uo x pp
      cases uo <;> first | (simp [chk] at h; done) | skip
      simp only [chk, Bool.and_eq_true] at h
      exact PT.eqf (fun fr cs => by first | (rw [ev]; done) | (rw [ev]; rfl)) (c_notT (ih.t h.1 ok h.2))
  | ife t a b iht iha ihb =>
    refine Snd.ofE (fun {N sc ac X Wx ex} ok h => ?_) (fun hf => by cases hf) (fun _ _ es => by cases es <;> rfl) (fun _ _ es => by cases es <;> rfl) (fun _ _ es => by cases es <;> rfl) (fun _ _ x t => rfl)
    cases ex <;> first | (simp [chk] at h; done) | skip
    simp only [chk, Bool.and_eq_true] at h
    exact PE.eqf (fun fr cs => by first | (rw [ev]; done) | (rw [ev]; rfl)) (c_ife (iht.t h.1.1.1 ok h.1.1.2) (iha.ex_ ok h.1.2) (ihb.ex_ ok h.2))
  | nil =>
    exact {
      ex_ := fun {N sc ac X Wx ex} _ h => by cases ex <;> simp [chk] at h
      t := fun _ {N sc ac X Wx ex} _ h => by cases ex <;> simp [chk] at h
      a := fun {N sc ac X Wx es} ok h => by
        cases es with
        | nil => exact ⟨PA.eqf (fun fr cs => by rw [evA]) pa_nilB, fun x hx => (by cases hx), fun fr cs ws c e => by rw [evA] at e; cases e; rfl⟩
        | cons x xs => simp [chkA] at h
      kw := fun {N sc ac X Wx es} ok h => by
        cases es with
        | nil =>
          refine ⟨?_, fun fr cs ws c e => by rw [evA] at e; cases e; rfl⟩
          have e1 : evA wd .nil = fun _ cs => .ok [] cs := funext fun fr => funext fun cs => by rw [evA]
          rw [e1]
          exact pk_nilB
        | cons x xs => simp [chkK] at h
      o := fun {N sc ac X Wx eo} ok h => by
        cases eo with
        | none =>
          have e1 : evO wd .nil = fun _ cs => .ok none cs := funext fun fr => funext fun cs => by rw [evO]
          rw [e1]
          exact c_onone
        | some x => simp [chkO] at h
      an := fun _ h => by simp [chkA] at h
      ant := fun _ {_ _ _ _ _ _ _ _} _ h => by simp [chkA] at h
      or := fun _ h => by simp [chkA] at h
      ort := fun _ {_ _ _ _ _ _ _ _} _ h => by simp [chkA] at h
      ts := fun _ {N sc ac X Wx es} ok h hl => by
        cases es with
        | nil =>
          refine ⟨fun pins s σ H Q I ⟨fr, cs, ra, R, Fr, q⟩ => pts_nil.run pins s σ H Q I ?_⟩
          simp only [evAnd] at q
          exact q H true (Keep.refl _ _) R rfl
        | cons x xs => simp [chkA] at h
      j := fun {N sc ac X Wx es} ok h => by
        cases es with
        | nil =>
          refine ⟨[], .nil, fun {acc fr cs ra σ H Q} R Fr q => ?_⟩
          rw [evJ] at q
          exact q H _ (Keep.refl _ _) R (.str _)
        | cons x xs => simp [chkA] at h
      i := fun {N sc ac X Wx ex tg} _ h => by simp [chkI] at h }
  | cons a as iha ihas =>
    exact {
      ex_ := fun {N sc ac X Wx ex} _ h => by cases ex <;> simp [chk] at h
      t := fun _ {N sc ac X Wx ex} _ h => by cases ex <;> simp [chk] at h
      a := fun {N sc ac X Wx es} ok h => by
        cases es with
        | nil => simp [chkA] at h
        | cons x xs =>
          simp only [chkA, Bool.and_eq_true] at h
          obtain ⟨h1, h2, h3⟩ := ihas.a ok h.2
          refine ⟨PA.eqf (fun fr cs => by rw [evA]) (pa_consB (iha.ex_ ok h.1.2) h1 (star_of h.1.1)), fun y hy => ?_, fun fr cs ws c e => ?_⟩
          · rcases List.mem_cons.mp hy with rfl | hy
            · exact h.1.1
            · exact h2 y hy
          · rw [evA] at e
            cases e1 : ev wd a fr cs with
            | bad => rw [e1] at e; cases e
            | exc c x cs => rw [e1] at e; cases e
            | ok w c1 =>
              rw [e1] at e
              have e' : ((evA wd as fr c1).bind fun ws c2 => R.ok (w :: ws) c2) = .ok ws c := e
              cases e2 : evA wd as fr c1 with
              | bad => rw [e2] at e'; cases e'
              | exc c x cs => rw [e2] at e'; cases e'
              | ok ws' c2 =>
                rw [e2] at e'
                cases e'
                rw [List.length_cons, List.length_cons, h3 _ _ _ _ e2]
      kw := fun {N sc ac X Wx es} ok h => by
        cases es with
        | nil => simp [chkK] at h
        | cons x xs =>
          simp only [chkK, Bool.and_eq_true] at h
          obtain ⟨h1, h3⟩ := ihas.kw ok h.2
          refine ⟨?_, fun fr cs ws c e => ?_⟩
          · have e1 : evA wd (.cons a as) = fun fr cs => (ev wd a fr cs).bind fun w c1 => (evA wd as fr c1).bind fun ws c2 => .ok (w :: ws) c2 := funext fun fr => funext fun cs => by rw [evA]
            rw [e1]
            cases x with
            | mk nm e kp => exact pk_consB (iha.ex_ ok h.1.2) h1
          · rw [evA] at e
            cases e1 : ev wd a fr cs with
            | bad => rw [e1] at e; cases e
            | exc c x cs => rw [e1] at e; cases e
            | ok w c1 =>
              rw [e1] at e
              have e' : ((evA wd as fr c1).bind fun ws c2 => R.ok (w :: ws) c2) = .ok ws c := e
              cases e2 : evA wd as fr c1 with
              | bad => rw [e2] at e'; cases e'
              | exc c x cs => rw [e2] at e'; cases e'
              | ok ws' c2 =>
                rw [e2] at e'
                cases e'
                rw [List.length_cons, List.length_cons, h3 _ _ _ _ e2]
      o := fun {N sc ac X Wx eo} ok h => by
        cases eo with
        | none => cases as <;> simp [chkO] at h
        | some x =>
          cases as <;> first | (simp [chkO] at h; done) | skip
          simp only [chkO] at h
          have e1 : evO wd (.cons a .nil) = fun fr cs => (asI (ev wd a fr cs)).bind fun i c1 => .ok (some i) c1 := funext fun fr => funext fun cs => by rw [evO]
          rw [e1]
          exact c_osome (iha.ex_ ok h)
      an := fun {N sc ac X Wx x xs p} ok h => by
        simp only [chkA, Bool.and_eq_true] at h
        cases xs with
        | nil =>
          cases as <;> first | (simp [chkA] at h; done) | skip
          exact PE.eqf (fun fr cs => by simp only [evAnd, fAnd, fTrue]) (c_and1 (iha.ex_ ok h.1.2))
        | cons y ys => exact PE.eqf (fun fr cs => by simp only [evAnd, fAnd]) (c_and (iha.ex_ ok h.1.2) (ihas.an ok h.2))
      ant := fun ht {N sc ac X Wx x xs p} ok h => by
        simp only [chkA, Bool.and_eq_true] at h
        simp only [tOKs, Bool.and_eq_true] at ht
        have e1 : ∀ fr cs, asB (evAnd wd (.cons a as) fr cs) = asB (fAnd (ev wd a) (evAnd wd as) fr cs) := fun fr cs => by simp only [evAnd, fAnd]
        cases xs with
        | nil =>
          cases as <;> first | (simp [chkA] at h; done) | skip
          have e2 : (fun fr cs => asB (evAnd wd (.cons a .nil) fr cs)) = fun fr cs => asB (fAnd (ev wd a) fTrue fr cs) := funext fun fr => funext fun cs => by simp only [evAnd, fAnd, fTrue]
          rw [e2]
          exact c_and1T (iha.t ht.1 ok h.1.2)
        | cons y ys =>
          have e2 : (fun fr cs => asB (evAnd wd (.cons a as) fr cs)) = fun fr cs => asB (fAnd (ev wd a) (evAnd wd as) fr cs) := funext fun fr => funext fun cs => e1 fr cs
          rw [e2]
          exact c_andT (iha.t ht.1 ok h.1.2) (ihas.ant ht.2 ok h.2)
      or := fun {N sc ac X Wx x xs p} ok h => by
        simp only [chkA, Bool.and_eq_true] at h
        cases xs with
        | nil =>
          cases as <;> first | (simp [chkA] at h; done) | skip
          exact PE.eqf (fun fr cs => by simp only [evOr, fOr, fFalse]) (c_or1 (iha.ex_ ok h.1.2))
        | cons y ys => exact PE.eqf (fun fr cs => by simp only [evOr, fOr]) (c_or (iha.ex_ ok h.1.2) (ihas.or ok h.2))
      ort := fun ht {N sc ac X Wx x xs p} ok h => by
        simp only [chkA, Bool.and_eq_true] at h
        simp only [tOKs, Bool.and_eq_true] at ht
        cases xs with
        | nil =>
          cases as <;> first | (simp [chkA] at h; done) | skip
          have e2 : (fun fr cs => asB (evOr wd (.cons a .nil) fr cs)) = fun fr cs => asB (fOr (ev wd a) fFalse fr cs) := funext fun fr => funext fun cs => by simp only [evOr, fOr, fFalse]
          rw [e2]
          exact c_or1T (iha.t ht.1 ok h.1.2)
        | cons y ys =>
          have e2 : (fun fr cs => asB (evOr wd (.cons a as) fr cs)) = fun fr cs => asB (fOr (ev wd a) (evOr wd as) fr cs) := funext fun fr => funext fun cs => by simp only [evOr, fOr]
          rw [e2]
          exact c_orT (iha.t ht.1 ok h.1.2) (ihas.ort ht.2 ok h.2)
      ts := fun ht {N sc ac X Wx es} ok h hl => by
        simp only [tOKs, Bool.and_eq_true] at ht
        cases es with
        | nil => simp [chkA] at h
        | cons x xs =>
          cases xs with
          | cons y ys => simp at hl
          | nil =>
            simp only [chkA, Bool.and_eq_true] at h
            cases as <;> first | (simp [chkA] at h; done) | skip
            refine ⟨fun pins s σ H Q I ⟨fr, cs, ra, R, Fr, q⟩ => (pts_one (iha.t ht.1 ok h.1.2)).run pins s σ H Q I ⟨fr, cs, ra, R, Fr, ?_⟩⟩
            have e2 : asB (evAnd wd (.cons a .nil) fr cs) = asB (ev wd a fr cs) := by
              simp only [evAnd]
              cases e3 : asB (ev wd a fr cs) with
              | bad => rfl
              | exc c x cs => rfl
              | ok b c => cases b <;> rfl
            dsimp only at q ⊢
            rw [e2] at q
            exact q
      j := fun {N sc ac X Wx es} ok h => by
        cases es with
        | nil => simp [chkA] at h
        | cons x xs =>
          simp only [chkA, Bool.and_eq_true] at h
          obtain ⟨ts, h1, h2⟩ := ihas.j ok h.2
          refine ⟨_ :: ts, .cons (iha.ex_ ok h.1.2) h1, fun {acc fr cs ra σ H Q} R Fr q => ?_⟩
          rw [evJ] at q
          refine ⟨fr, cs, ra, R, Fr, PostR.imp (PostR.bind (rp := rpW g ra) q) ?_⟩
          rintro y H1 ⟨w, c1, k1, R1, r1, p1⟩
          split at p1
          · cases r1
            split at p1
            · rename_i hl
              exact ⟨_, rfl, by rw [line_lit]; exact hl, h2 R1 (Fr.mono k1) p1⟩
            · exact p1.elim
          · exact p1.elim
      i := fun {N sc ac X Wx ex tg} _ h => by simp [chkI] at h }
  | tup as ih =>
    refine Snd.ofP (fun {N sc ac X Wx ex} ok h => ?_) (fun N sc ex h => by cases ex <;> first | rfl | (simp [chk] at h)) (fun _ _ es => by cases es <;> rfl) (fun _ _ es => by cases es <;> rfl) (fun _ _ es => by cases es <;> rfl) (fun _ _ x t => rfl)
    cases ex <;> simp only [chk, Bool.and_eq_true, Bool.or_eq_true, decide_eq_true_eq, Bool.false_eq_true, Bool.not_eq_true', and_false, false_and] at h
    exact PE.eqf (fun fr cs => by first | (rw [ev]; done) | (rw [ev]; rfl)) (c_tup (ih.a ok h).1)
  | lst as ih =>
    refine Snd.ofP (fun {N sc ac X Wx ex} ok h => ?_) (fun N sc ex h => by cases ex <;> first | rfl | (simp [chk] at h)) (fun _ _ es => by cases es <;> rfl) (fun _ _ es => by cases es <;> rfl) (fun _ _ es => by cases es <;> rfl) (fun _ _ x t => rfl)
    cases ex <;> simp only [chk, Bool.and_eq_true, Bool.or_eq_true, decide_eq_true_eq, Bool.false_eq_true, Bool.not_eq_true', and_false, false_and] at h
    exact PE.eqf (fun fr cs => by first | (rw [ev]; done) | (rw [ev]; rfl)) (c_lst (ih.a ok h).1)
  | ix a i iha ihb =>
    refine Snd.ofP (fun {N sc ac X Wx ex} ok h => ?_) (fun N sc ex h => by cases ex <;> first | rfl | (simp [chk] at h)) (fun _ _ es => by cases es <;> rfl) (fun _ _ es => by cases es <;> rfl) (fun _ _ es => by cases es <;> rfl) (fun _ _ x t => rfl)
    cases ex <;> first | (simp [chk] at h; done) | skip
    simp only [chk, Bool.and_eq_true] at h
    exact PE.eqf (fun fr cs => by first | (rw [ev]; done) | (rw [ev]; rfl)) (c_ix ok (iha.ex_ ok h.1.2) (ihb.ex_ ok h.2) h.1.1)
  | sl a lo hi iha ihl ihh =>
    refine Snd.ofP (fun {N sc ac X Wx ex} ok h => ?_) (fun N sc ex h => by cases ex <;> first | rfl | (simp [chk] at h)) (fun _ _ es => by cases es <;> rfl) (fun _ _ es => by cases es <;> rfl) (fun _ _ es => by cases es <;> rfl) (fun _ _ x t => rfl)
    cases ex <;> first | (simp [chk] at h; done) | skip
    rename_i e j pp
    cases j <;> first | (simp [chk] at h; done) | skip
    rename_i l u st p2
    cases st with
    | some st => simp [chk] at h
    | none =>
      simp only [chk, Bool.and_eq_true] at h
      exact PE.eqf (fun fr cs => by first | (rw [ev]; done) | (rw [ev]; rfl)) (c_sl ok (iha.ex_ ok h.1.1) (ihl.o ok h.1.2) (ihh.o ok h.2))
  | bi b as ih =>
    refine Snd.ofP (fun {N sc ac X Wx ex} ok h => ?_) (fun N sc ex h => by cases ex <;> first | rfl | (simp [chk] at h)) (fun _ _ es => by cases es <;> rfl) (fun _ _ es => by cases es <;> rfl) (fun _ _ es => by cases es <;> rfl) (fun _ _ x t => rfl)
    cases ex <;> first | (simp [chk] at h; done) | skip
    rename_i fe es kws pp
    cases fe <;> first | (simp [chk] at h; done) | skip
    rename_i x pn
    cases kws with
    | cons _ _ => simp [chk] at h
    | nil =>
      cases es with
      | nil => simp [chk] at h
      | cons y ys =>
        simp only [chk, Bool.and_eq_true, decide_eq_true_eq] at h
        obtain ⟨⟨⟨⟨rfl, hg⟩, hd⟩, _⟩, h5⟩ := h
        exact PE.eqf (fun fr cs => by first | (rw [ev]; done) | (rw [ev]; rfl)) (c_bi ok F hg (ih.a ok h5).2.1 (ih.a ok h5).1)
  | isi a ts many ih =>
    refine Snd.ofP (fun {N sc ac X Wx ex} ok h => ?_) (fun N sc ex h => by cases many <;> cases ts <;> cases ex <;> first | rfl | (simp [chk] at h)) (fun _ _ es => by cases es <;> rfl) (fun _ _ es => by cases es <;> rfl) (fun _ _ es => by cases es <;> rfl) (fun _ _ x t => rfl)
    cases ex <;> first | (simp [chk] at h; done) | skip
    rename_i fe es kws pp
    cases fe <;> first | (simp [chk] at h; done) | skip
    rename_i x pn
    cases many with
    | true =>
      match es, kws, h with
      | [e, .Tuple us k2 pt], [], h =>
        simp only [chk, Bool.and_eq_true, decide_eq_true_eq] at h
        obtain ⟨⟨⟨⟨⟨rfl, hg⟩, h3⟩, h4⟩, h5⟩, h6⟩ := h
        exact PE.eqf (fun fr cs => by first | (rw [ev]; done) | (rw [ev]; rfl)) (c_isiT ok F hg (chk_notSt h5) (ih.ex_ ok h5) h6 h3 h4)
    | false =>
      match ts, es, kws, h with
      | [t], [e, f], [], h =>
        simp only [chk, Bool.and_eq_true, decide_eq_true_eq] at h
        obtain ⟨⟨⟨rfl, hg⟩, h5⟩, h6⟩ := h
        exact PE.eqf (fun fr cs => by first | (rw [ev]; done) | (rw [ev]; rfl)) (c_isi ok F hg (chk_notSt h5) (ih.ex_ ok h5) h6)
  | bm m a as iha ih =>
    refine Snd.ofP (fun {N sc ac X Wx ex} ok h => ?_) (fun N sc ex h => by cases ex <;> first | rfl | (simp [chk] at h)) (fun _ _ es => by cases es <;> rfl) (fun _ _ es => by cases es <;> rfl) (fun _ _ es => by cases es <;> rfl) (fun _ _ x t => rfl)
    cases ex <;> first | (simp [chk] at h; done) | skip
    rename_i fe es kws pp
    cases fe <;> first | (simp [chk] at h; done) | skip
    rename_i o x ap
    cases kws with
    | cons _ _ => simp [chk] at h
    | nil =>
      simp only [chk, Bool.and_eq_true, decide_eq_true_eq] at h
      obtain ⟨⟨⟨⟨⟨rfl, hsup⟩, hline⟩, hlen⟩, h5⟩, h6⟩ := h
      cases es with
      | nil =>
        cases as <;> first | (simp [chkA] at h6; done) | skip
        exact PE.eqf (fun fr cs => by first | (rw [ev, evA]; rfl; done) | (rw [ev, evA]; done) | (simp only [ev, evA]; rfl) | simp only [ev, evA]) (c_bm0 ok hsup hline (iha.ex_ ok h5))
      | cons y ys => exact PE.eqf (fun fr cs => by first | (rw [ev]; done) | (rw [ev]; rfl)) (c_bm ok hsup hline hlen (ih.a ok h6).2.1 (iha.ex_ ok h5) (ih.a ok h6).1)
  | lam f t iht =>
    refine Snd.ofP (fun {N sc ac X Wx ex} ok h => ?_) (fun N sc ex h => by cases ex <;> first | rfl | (simp [chk] at h)) (fun _ _ es => by cases es <;> rfl) (fun _ _ es => by cases es <;> rfl) (fun _ _ es => by cases es <;> rfl) (fun _ _ x t => rfl)
    cases ex <;> first | (simp [chk] at h; done) | skip
    rename_i fe es kws pp
    cases fe <;> first | (simp [chk] at h; done) | skip
    rename_i x pn
    cases es with
    | nil => simp [chk] at h
    | cons e1 es =>
      cases es with
      | cons _ _ => cases e1 <;> simp [chk] at h
      | nil =>
        cases kws with
        | cons _ _ => cases e1 <;> simp [chk] at h
        | nil =>
          cases e1 <;> first | (simp [chk] at h; done) | skip
          rename_i params body scope lp
          simp only [chk, Bool.and_eq_true, Bool.not_eq_true', decide_eq_true_eq, decide_eq_false_iff_not] at h
          obtain ⟨⟨⟨⟨⟨⟨⟨hx, hg⟩, hd⟩, hp⟩, hl⟩, hs⟩, hn⟩, hb⟩ := h
          exact PE.eqf (fun fr cs => by rw [ev]) (c_lam ok F hx hg hd hp hl hs hn hb)
  | call f p as ks iha ihk =>
    refine Snd.ofP (fun {N sc ac X Wx ex} ok h => ?_) (fun N sc ex h => by cases ex <;> first | rfl | (simp [chk] at h)) (fun _ _ es => by cases es <;> rfl) (fun _ _ es => by cases es <;> rfl) (fun _ _ es => by cases es <;> rfl) (fun _ _ x t => rfl)
    cases ex <;> first | (simp [chk] at h; done) | skip
    rename_i fe es kws pp
    cases fe <;> first | (simp [chk] at h; done) | skip
    rename_i x pn
    simp only [chk, Bool.and_eq_true, decide_eq_true_eq] at h
    obtain ⟨⟨⟨hx, hg⟩, hd⟩, h⟩ := h
    split at h
    · rename_i n nms pm hp
      simp only [Bool.and_eq_true, decide_eq_true_eq] at h
      obtain ⟨⟨⟨hn, hk⟩, h5⟩, h6⟩ := h
      cases es with
      | nil =>
        cases as <;> first | (simp [chkA] at h5; done) | skip
        cases n with
        | succ n => cases hn
        | zero => exact PE.eqf (fun fr cs => by rw [ev]; simp only [evCall, evA] <;> rfl) (c_call0 ok F hx hg hd hp hk (ihk.kw ok h6).1 (ihk.kw ok h6).2)
      | cons y ys => exact PE.eqf (fun fr cs => by first | (rw [ev]; done) | (rw [ev]; rfl)) (c_call ok F hx hg hd hp hn hk (iha.a ok h5).2.1 (iha.a ok h5).1 (ihk.kw ok h6).1 (iha.a ok h5).2.2 (ihk.kw ok h6).2)
    · cases h
  | make c p as ks iha ihk =>
    refine Snd.ofP (fun {N sc ac X Wx ex} ok h => ?_) (fun N sc ex h => by cases ex <;> first | rfl | (simp [chk] at h)) (fun _ _ es => by cases es <;> rfl) (fun _ _ es => by cases es <;> rfl) (fun _ _ es => by cases es <;> rfl) (fun _ _ x t => rfl)
    cases ex <;> first | (simp [chk] at h; done) | skip
    rename_i fe es kws pp
    cases fe <;> first | (simp [chk] at h; done) | skip
    rename_i x pn
    simp only [chk, Bool.and_eq_true, decide_eq_true_eq] at h
    obtain ⟨⟨⟨hx, hg⟩, hd⟩, h⟩ := h
    split at h
    · rename_i f hi
      split at h
      · rename_i n nms pm hp
        simp only [Bool.and_eq_true, decide_eq_true_eq] at h
        obtain ⟨⟨⟨hn, hk⟩, h5⟩, h6⟩ := h
        cases es with
        | nil =>
          cases as <;> first | (simp [chkA] at h5; done) | skip
          have hn' : n = 1 := by rw [← hn]; rfl
          subst hn'
          exact PE.eqf (fun fr cs => by rw [ev]; simp only [evMake, evA]) (c_make0 ok F hx hi hg hd hp hk (ihk.kw ok h6).1 (ihk.kw ok h6).2)
        | cons y ys => exact PE.eqf (fun fr cs => by first | (rw [ev]; done) | (rw [ev]; rfl)) (c_make ok F hx hi hg hd hp hn hk (iha.a ok h5).2.1 (iha.a ok h5).1 (ihk.kw ok h6).1 (iha.a ok h5).2.2 (ihk.kw ok h6).2)
      · cases h
    · cases h
  | fld a f iha =>
    refine Snd.ofP (fun {N sc ac X Wx ex} ok h => ?_) (fun N sc ex h => by cases ex <;> first | rfl | (simp [chk] at h)) (fun _ _ es => by cases es <;> rfl) (fun _ _ es => by cases es <;> rfl) (fun _ _ es => by cases es <;> rfl) (fun _ _ x t => rfl)
    cases ex <;> first | (simp [chk] at h; done) | skip
    simp only [chk, Bool.and_eq_true, decide_eq_true_eq] at h
    obtain ⟨⟨rfl, h2⟩, h3⟩ := h
    exact PE.eqf (fun fr cs => by first | (rw [ev]; done) | (rw [ev]; rfl)) (c_fld ok F h2 (iha.ex_ ok h3))
  | meth a m as iha ih =>
    refine Snd.ofP (fun {N sc ac X Wx ex} ok h => ?_) (fun N sc ex h => by cases ex <;> first | rfl | (simp [chk] at h)) (fun _ _ es => by cases es <;> rfl) (fun _ _ es => by cases es <;> rfl) (fun _ _ es => by cases es <;> rfl) (fun _ _ x t => rfl)
    cases ex <;> first | (simp [chk] at h; done) | skip
    rename_i fe es kws pp
    cases fe <;> first | (simp [chk] at h; done) | skip
    rename_i o x ap
    cases kws with
    | cons _ _ => simp [chk] at h
    | nil =>
      simp only [chk, Bool.and_eq_true, decide_eq_true_eq] at h
      obtain ⟨⟨⟨⟨⟨rfl, hsup⟩, hline⟩, hlen⟩, h5⟩, h6⟩ := h
      cases es with
      | nil =>
        cases as <;> first | (simp [chkA] at h6; done) | skip
        exact PE.eqf (fun fr cs => by rw [ev]; simp only [evMeth, evA] <;> rfl) (c_meth0 ok F hsup hline (iha.ex_ ok h5))
      | cons y ys => exact PE.eqf (fun fr cs => by first | (rw [ev]; done) | (rw [ev]; rfl)) (c_meth ok F hsup hline hlen (ih.a ok h6).2.1 (iha.ex_ ok h5) (ih.a ok h6).1)
  | eqo neg a b iha ihb =>
    refine Snd.ofE (fun {N sc ac X Wx ex} ok h => ?_) (fun _ {N sc ac X Wx ex} ok h => ?_) (fun _ _ es => by cases es <;> rfl) (fun _ _ es => by cases es <;> rfl) (fun _ _ es => by cases es <;> rfl) (fun _ _ x t => rfl)
    · cases ex <;> first | (simp [chk] at h; done) | skip
      rename_i l os rs pp
      match os, rs, h with
      | [o'], [r'], h =>
        simp only [chk, Bool.and_eq_true, decide_eq_true_eq] at h
        obtain ⟨⟨rfl, h1⟩, h2⟩ := h
        exact PE.eqf (fun fr cs => by first | (rw [ev]; done) | (rw [ev]; rfl)) (c_eqo ok F (iha.ex_ ok h1) (ihb.ex_ ok h2) (chk_notSet h2))
    · cases ex <;> first | (simp [chk] at h; done) | skip
      rename_i l os rs pp
      match os, rs, h with
      | [o'], [r'], h =>
        simp only [chk, Bool.and_eq_true, decide_eq_true_eq] at h
        obtain ⟨⟨rfl, h1⟩, h2⟩ := h
        exact PT.eqf (fun fr cs => by first | (rw [ev]; done) | (rw [ev]; rfl)) (c_eqoT ok F (iha.ex_ ok h1) (ihb.ex_ ok h2) (chk_notSet h2))
  | ino neg a b iha ihb =>
    refine Snd.ofE (fun {N sc ac X Wx ex} ok h => ?_) (fun _ {N sc ac X Wx ex} ok h => ?_) (fun _ _ es => by cases es <;> rfl) (fun _ _ es => by cases es <;> rfl) (fun _ _ es => by cases es <;> rfl) (fun _ _ x t => rfl)
    · cases ex <;> first | (simp [chk] at h; done) | skip
      rename_i l os rs pp
      match os, rs, h with
      | [o'], [r'], h =>
        simp only [chk, Bool.and_eq_true, decide_eq_true_eq] at h
        obtain ⟨⟨rfl, h1⟩, h2⟩ := h
        exact PE.eqf (fun fr cs => by first | (rw [ev]; done) | (rw [ev]; rfl)) (c_ino ok F (iha.ex_ ok h1) (ihb.ex_ ok h2) (chk_notSet h2))
    · cases ex <;> first | (simp [chk] at h; done) | skip
      rename_i l os rs pp
      match os, rs, h with
      | [o'], [r'], h =>
        simp only [chk, Bool.and_eq_true, decide_eq_true_eq] at h
        obtain ⟨⟨rfl, h1⟩, h2⟩ := h
        exact PT.eqf (fun fr cs => by first | (rw [ev]; done) | (rw [ev]; rfl)) (c_inoT ok F (iha.ex_ ok h1) (ihb.ex_ ok h2) (chk_notSet h2))
  | methk a m q nms ks iha ihk =>
    refine Snd.ofP (fun {N sc ac X Wx ex} ok h => ?_) (fun N sc ex h => by cases ex <;> first | rfl | (simp [chk] at h)) (fun _ _ es => by cases es <;> rfl) (fun _ _ es => by cases es <;> rfl) (fun _ _ es => by cases es <;> rfl) (fun _ _ x t => rfl)
    cases ex <;> first | (simp [chk] at h; done) | skip
    rename_i fe es kws pp
    cases fe <;> first | (simp [chk] at h; done) | skip
    rename_i o x ap
    cases es with
    | cons _ _ => simp [chk] at h
    | nil =>
      simp only [chk, Bool.and_eq_true, decide_eq_true_eq] at h
      obtain ⟨⟨⟨⟨⟨⟨rfl, hsup⟩, hline⟩, hlen⟩, hk⟩, h5⟩, h6⟩ := h
      exact PE.eqf (fun fr cs => by first | (rw [ev]; done) | (rw [ev]; rfl)) (c_methk ok F hsup hline hlen hk (iha.ex_ ok h5) (ihk.kw ok h6).1 (ihk.kw ok h6).2)
  | lc elt it conds tg one own ihe ihi ihc =>
    refine Snd.ofP (fun {N sc ac X Wx ex} ok h => ?_) (fun N sc ex h => by cases ex <;> first | rfl | (simp [chk] at h)) (fun _ _ es => by cases es <;> rfl) (fun _ _ es => by cases es <;> rfl) (fun _ _ es => by cases es <;> rfl) (fun _ _ x t => rfl)
    cases ex <;> first | (simp [chk] at h; done) | skip
    rename_i ee gens scope pp
    match gens, h with
    | [⟨te, ie, ifs, 0⟩], h =>
      simp only [chk, Bool.and_eq_true, decide_eq_true_eq, List.all_eq_true] at h
      obtain ⟨⟨⟨⟨⟨⟨⟨h1, h2⟩, h3⟩, h4⟩, h5⟩, h6⟩, h7⟩, h8⟩ := h
      exact PE.eqf (fun fr cs => by first | (rw [ev]; done) | (rw [ev]; rfl)) (c_lc (fe := ev wd elt) (ft := fun fr cs => asB (evAnd wd conds fr cs)) ok (ihi.i ok h1).1 (ihi.i ok h1).2 (by rw [← F.lams]; exact h2) (fun X' ok' => c_tg ok' h7) (fun X' ok' => ihc.ts h4 ok' h6 h3) (fun X' ok' => ihe.ex_ ok' h5) (fun i hi => by have := h8 i hi; exact List.contains_iff_mem.mp this))
  | lc2 elt it conds it1 conds1 tg one tg1 one1 own ihe ihi ihc ihi1 ihc1 =>
    refine Snd.ofP (fun {N sc ac X Wx ex} ok h => ?_) (fun N sc ex h => by cases ex <;> first | rfl | (simp [chk] at h)) (fun _ _ es => by cases es <;> rfl) (fun _ _ es => by cases es <;> rfl) (fun _ _ es => by cases es <;> rfl) (fun _ _ x t => rfl)
    cases ex <;> first | (simp [chk] at h; done) | skip
    rename_i ee gens scope pp
    match gens, h with
    | [⟨te, ie, ifs, 0⟩, ⟨te1, ie1, ifs1, 0⟩], h =>
      simp only [chk, Bool.and_eq_true, decide_eq_true_eq, List.all_eq_true] at h
      obtain ⟨⟨⟨⟨⟨⟨⟨⟨⟨⟨⟨⟨⟨h1, h2⟩, h3⟩, h3'⟩, h4⟩, h4'⟩, h5⟩, h6⟩, h6'⟩, h7⟩, h7'⟩, h8⟩, h9⟩, h9'⟩ := h
      have hset1 : notSet ie1 = true := by
        cases ie1 <;> first | rfl | (cases it1 <;> simp [chkI, notSet] at h8)
      exact PE.eqf (fun fr cs => by first | (rw [ev]; done) | (rw [ev]; rfl)) (c_lc2 (fe := ev wd elt) (ft := fun fr cs => asB (evAnd wd conds fr cs)) (ft1 := fun fr cs => asB (evAnd wd conds1 fr cs)) ok (ihi.i ok h1).1 (ihi.i ok h1).2 hset1 (by rw [← F.lams]; exact h2) (fun X' ok' => c_tg ok' h7) (fun X' ok' => ihc.ts h4 ok' h6 h3) (fun X' ok' => (ihi1.i ok' h8).1) (fun X' ok' => c_tg ok' h7') (fun X' ok' => ihc1.ts h4' ok' h6' h3') (fun X' ok' => ihe.ex_ ok' h5) (fun i hi => List.contains_iff_mem.mp (h9 i hi)) (fun i hi => List.contains_iff_mem.mp (h9' i hi)))
  | sup d m as ih => exact Snd.ofE (fun {N sc ac X Wx ex} ok h => by cases ex <;> simp [chk] at h) (fun _ {N sc ac X Wx ex} ok h => by cases ex <;> simp [chk] at h) (fun _ _ es => by cases es <;> rfl) (fun _ _ es => by cases es <;> rfl) (fun _ _ es => by cases es <;> rfl) (fun _ _ x t => rfl)
  | rep a iha =>
    refine Snd.ofP (fun {N sc ac X Wx ex} ok h => ?_) (fun N sc ex h => by cases ex <;> first | rfl | (simp [chk] at h)) (fun _ _ es => by cases es <;> rfl) (fun _ _ es => by cases es <;> rfl) (fun _ _ es => by cases es <;> rfl) (fun _ _ x t => rfl)
    match ex, h with
    | .Call (.Name x pn) [e] [] p, h =>
      simp only [chk, Bool.and_eq_true, decide_eq_true_eq] at h
      obtain ⟨⟨⟨rfl, hg⟩, h3⟩, h4⟩ := h
      exact PE.eqf (fun fr cs => by first | (rw [ev]; done) | (rw [ev]; rfl)) (c_rep ok F hg h3 (iha.ex_ ok h4))
  | lzip a b iha ihb =>
    refine Snd.ofP (fun {N sc ac X Wx ex} ok h => ?_) (fun N sc ex h => by cases ex <;> first | rfl | (simp [chk] at h)) (fun _ _ es => by cases es <;> rfl) (fun _ _ es => by cases es <;> rfl) (fun _ _ es => by cases es <;> rfl) (fun _ _ x t => rfl)
    match ex, h with
    | .Call (.Name y pl) [.Call (.Name x pn) [e, f] [⟨some st, .Constant (.bool true) jj p1, kp⟩] p] [] ql, h =>
      simp only [chk, Bool.and_eq_true, decide_eq_true_eq] at h
      obtain ⟨⟨⟨⟨⟨⟨⟨⟨rfl, rfl⟩, rfl⟩, hgl⟩, hg⟩, h3⟩, h4⟩, h5⟩, h6⟩ := h
      exact PE.eqf (fun fr cs => by first | (rw [ev]; done) | (rw [ev]; rfl)) (c_lzip ok F hgl hg h3 h4 (iha.ex_ ok h5) (ihb.ex_ ok h6))
  | zips a b iha ihb =>
    refine Snd.ofI (fun {N sc ac X Wx ex tg} ok h => ?_) (fun N sc ex => by cases ex <;> rfl) (fun _ _ es => by cases es <;> rfl) (fun _ _ es => by cases es <;> rfl) (fun _ _ es => by cases es <;> rfl)
    match ex, h with
    | .Call (.Name x pn) [e, f] [⟨some st, .Constant (.bool true) jj p1, kp⟩] p, h =>
      simp only [chkI, Bool.and_eq_true, decide_eq_true_eq] at h
      obtain ⟨⟨⟨⟨⟨⟨⟨rfl, rfl⟩, hg⟩, h3⟩, h4⟩, h5⟩, h6⟩, h7⟩ := h
      refine ⟨?_, rfl⟩
      have e1 : evI wd (.zips a b) = _ := funext fun fr => funext fun cs => by rw [evI]
      rw [e1]
      exact (c_zips ok F hg h3 h4 h7 (iha.ex_ ok h5) (ihb.ex_ ok h6))
  | neg a iha =>
    refine Snd.ofP (fun {N sc ac X Wx ex} ok h => ?_) (fun N sc ex h => by cases ex <;> first | rfl | (rename_i o _ _; cases o <;> first | rfl | (simp [chk] at h)) | (simp [chk] at h)) (fun _ _ es => by cases es <;> rfl) (fun _ _ es => by cases es <;> rfl) (fun _ _ es => by cases es <;> rfl) (fun _ _ x t => rfl)
    cases ex <;> first | (simp [chk] at h; done) | skip
    rename_i uo x pp
    cases uo <;> first | (simp [chk] at h; done) | skip
    simp only [chk] at h
    exact PE.eqf (fun fr cs => by first | (rw [ev]; done) | (rw [ev]; rfl)) (c_neg (iha.ex_ ok h))
  | fstr as ih =>
    refine Snd.ofP (fun {N sc ac X Wx ex} ok h => ?_) (fun N sc ex h => by cases ex <;> first | rfl | (simp [chk] at h)) (fun _ _ es => by cases es <;> rfl) (fun _ _ es => by cases es <;> rfl) (fun _ _ es => by cases es <;> rfl) (fun _ _ x t => rfl)
    cases ex <;> first | (simp [chk] at h; done) | skip
    rename_i es pp
    simp only [chk, Bool.and_eq_true, decide_eq_true_eq] at h
    match es, h with
    | v1 :: v2 :: rest, h =>
      obtain ⟨ts, h1, h2⟩ := ih.j ok h.2
      refine PE.imp (pe_joined h1) ?_
      rintro σ H Q ⟨fr, cs, ra, R, Fr, q⟩
      rw [ev] at q
      exact h2 R Fr q
  | fmt a iha =>
    refine Snd.ofP (fun {N sc ac X Wx ex} ok h => ?_) (fun N sc ex h => by cases ex <;> first | rfl | (simp [chk] at h)) (fun _ _ es => by cases es <;> rfl) (fun _ _ es => by cases es <;> rfl) (fun _ _ es => by cases es <;> rfl) (fun _ _ x t => rfl)
    cases ex <;> first | (simp [chk] at h; done) | skip
    rename_i e c sp pp
    cases sp with
    | some sp => simp [chk] at h
    | none =>
      simp only [chk, Bool.and_eq_true, decide_eq_true_eq] at h
      obtain ⟨rfl, h3⟩ := h
      exact PE.eqf (fun fr cs => by first | (rw [ev]; done) | (rw [ev]; rfl)) (c_fmt (iha.ex_ ok h3))
  | rng1 a iha =>
    refine Snd.ofI (fun {N sc ac X Wx ex tg} ok h => ?_) (fun N sc ex => by cases ex <;> rfl) (fun _ _ es => by cases es <;> rfl) (fun _ _ es => by cases es <;> rfl) (fun _ _ es => by cases es <;> rfl)
    cases ex <;> first | (simp [chkI] at h; done) | skip
    rename_i fe es kws pp
    cases fe <;> first | (simp [chkI] at h; done) | skip
    rename_i x pn
    match es, kws, h with
    | [e], [], h =>
      simp only [chkI, Bool.and_eq_true, decide_eq_true_eq] at h
      obtain ⟨⟨⟨rfl, hg⟩, h3⟩, h4⟩ := h
      refine ⟨?_, rfl⟩
      have e1 : evI wd (.rng1 a) = _ := funext fun fr => funext fun cs => by rw [evI]
      rw [e1]
      exact (c_rng1 ok F hg h3 (iha.ex_ ok h4))
  | rng2 a b iha ihb =>
    refine Snd.ofI (fun {N sc ac X Wx ex tg} ok h => ?_) (fun N sc ex => by cases ex <;> rfl) (fun _ _ es => by cases es <;> rfl) (fun _ _ es => by cases es <;> rfl) (fun _ _ es => by cases es <;> rfl)
    cases ex <;> first | (simp [chkI] at h; done) | skip
    rename_i fe es kws pp
    cases fe <;> first | (simp [chkI] at h; done) | skip
    rename_i x pn
    match es, kws, h with
    | [e, f], [], h =>
      simp only [chkI, Bool.and_eq_true, decide_eq_true_eq] at h
      obtain ⟨⟨⟨⟨⟨rfl, hg⟩, h3⟩, h4⟩, h5⟩, h6⟩ := h
      refine ⟨?_, rfl⟩
      have e1 : evI wd (.rng2 a b) = _ := funext fun fr => funext fun cs => by rw [evI]
      rw [e1]
      exact (c_rng2 ok F hg h3 h4 (iha.ex_ ok h5) (ihb.ex_ ok h6))
  | itl a iha =>
    refine Snd.ofI (fun {N sc ac X Wx ex tg} ok h => ?_) (fun N sc ex => by cases ex <;> rfl) (fun _ _ es => by cases es <;> rfl) (fun _ _ es => by cases es <;> rfl) (fun _ _ es => by cases es <;> rfl)
    simp only [chkI, Bool.and_eq_true] at h
    refine ⟨?_, h.1⟩
    have e1 : evI wd (.itl a) = _ := funext fun fr => funext fun cs => by rw [evI]
    rw [e1]
    exact c_itl ok (iha.ex_ ok h.2)
  | itt a iha =>
    refine Snd.ofI (fun {N sc ac X Wx ex tg} ok h => ?_) (fun N sc ex => by cases ex <;> rfl) (fun _ _ es => by cases es <;> rfl) (fun _ _ es => by cases es <;> rfl) (fun _ _ es => by cases es <;> rfl)
    simp only [chkI, Bool.and_eq_true] at h
    refine ⟨?_, h.1⟩
    have e1 : evI wd (.itt a) = _ := funext fun fr => funext fun cs => by rw [evI]
    rw [e1]
    exact c_itt ok (iha.ex_ ok h.2)
  | its a iha =>
    refine Snd.ofI (fun {N sc ac X Wx ex tg} ok h => ?_) (fun N sc ex => by cases ex <;> rfl) (fun _ _ es => by cases es <;> rfl) (fun _ _ es => by cases es <;> rfl) (fun _ _ es => by cases es <;> rfl)
    simp only [chkI, Bool.and_eq_true] at h
    refine ⟨?_, h.1⟩
    have e1 : evI wd (.its a) = _ := funext fun fr => funext fun cs => by rw [evI]
    rw [e1]
    exact c_its ok (iha.ex_ ok h.2)
  | enum a iha =>
    refine Snd.ofI (fun {N sc ac X Wx ex tg} ok h => ?_) (fun N sc ex => by cases ex <;> rfl) (fun _ _ es => by cases es <;> rfl) (fun _ _ es => by cases es <;> rfl) (fun _ _ es => by cases es <;> rfl)
    cases ex <;> first | (simp [chkI] at h; done) | skip
    rename_i fe es kws pp
    cases fe <;> first | (simp [chkI] at h; done) | skip
    rename_i x pn
    match es, kws, h with
    | [e], [], h =>
      simp only [chkI, Bool.and_eq_true, decide_eq_true_eq] at h
      obtain ⟨⟨⟨⟨rfl, hg⟩, h3⟩, h4⟩, h5⟩ := h
      refine ⟨?_, rfl⟩
      have e1 : evI wd (.enum a) = _ := funext fun fr => funext fun cs => by rw [evI]
      rw [e1]
      exact (c_enum ok F hg h3 h5 (iha.ex_ ok h4))
  | zip a b iha ihb =>
    refine Snd.ofI (fun {N sc ac X Wx ex tg} ok h => ?_) (fun N sc ex => by cases ex <;> rfl) (fun _ _ es => by cases es <;> rfl) (fun _ _ es => by cases es <;> rfl) (fun _ _ es => by cases es <;> rfl)
    cases ex <;> first | (simp [chkI] at h; done) | skip
    rename_i fe es kws pp
    cases fe <;> first | (simp [chkI] at h; done) | skip
    rename_i x pn
    match es, kws, h with
    | [e, f], [], h =>
      simp only [chkI, Bool.and_eq_true, decide_eq_true_eq] at h
      obtain ⟨⟨⟨⟨⟨⟨rfl, hg⟩, h3⟩, h4⟩, h5⟩, h6⟩, h7⟩ := h
      refine ⟨?_, rfl⟩
      have e1 : evI wd (.zip a b) = _ := funext fun fr => funext fun cs => by rw [evI]
      rw [e1]
      exact (c_zip ok F hg h3 h4 h7 (iha.ex_ ok h5) (ihb.ex_ ok h6))
end
end BV

namespace BV
open PySem L2

/-! ### values that come as a new cell -/
section
variable {g : G} {wd : Wd} {N : List Str} {sc : Scope} {ac : Bool} {k : Nat} {X : Cx} {Wx : WX} {l r e : Expr} {es : List Expr} {kws : List Keyword} {p : Pos} {fl fm : Fra → Cells → R (List W)} {α β : Type}
theorem last_new {ra : Ra} {a : Addr} {cs : Cells} {H : Hp} (R : Rel g (ra ++ [some a]) cs H) : some a ∉ ra := fun h => by
  obtain ⟨n, hn⟩ := mem_ra h
  have h1 : (ra ++ [some a])[n]? = some (some a) := ra_app hn
  have h2 : (ra ++ [some a])[ra.length]? = some (some a) := by simp
  have := R.inj _ _ _ h1 h2
  have := (List.getElem?_eq_some_iff.mp hn).1
  omega
theorem PostL.from {r : R Unit} {ra : Ra} {H H1 : Hp} {Q : VK} {E : XK} (k : Keep ra H H1) (h : PostL g r ra H Q E) : PostL g r ra H1 Q E := by
  cases r with
  | ok u cs =>
    intro H' a k' hn R
    refine h H' a (k.trans k') ?_ R
    cases e : H a with
    | none => rfl
    | some o =>
      obtain ⟨o', q, _⟩ := k a o e (last_new R)
      rw [hn] at q; cases q
  | exc c x cs => exact fun H' dd v k' R p q => h H' dd v (k.trans k') R p q
  | bad => exact h
theorem PostL.bind {r : R α} {f : α → Cells → R Unit} {rp : Hp → α → β → Prop} {ra : Ra} {H : Hp} {Q2 : VK} {E : XK} (h : PostL g (r.bind f) ra H Q2 E) :
    PostR g rp r ra H (fun v H1 => ∃ a cs1, r = .ok a cs1 ∧ Keep ra H H1 ∧ Rel g ra cs1 H1 ∧ rp H1 a v ∧ PostL g (f a cs1) ra H1 Q2 E) E := by
  cases r with
  | ok a cs => exact fun H1 v k1 R1 p => ⟨a, cs, rfl, k1, R1, p, PostL.from k1 h⟩
  | exc c x cs => exact h
  | bad => exact h
theorem PostL.imp {r : R Unit} {ra : Ra} {H : Hp} {Q Q' : VK} {E : XK} (h : PostL g r ra H Q E) (i : ∀ v H, Q v H → Q' v H) : PostL g r ra H Q' E := by
  cases r with
  | ok u cs => exact fun H' a k' hn R => i _ _ (h H' a k' hn R)
  | exc c x cs => exact h
  | bad => exact h
def tL (g : G) (Wx : WX) (f : Fra → Cells → R Unit) : TE := fun σ H Q => ∃ fr cs ra, Rel g ra cs H ∧ FrR g H ra fr σ ∧ PostL g (f fr cs) ra H Q (fun c d H' => Wx c d σ H')
theorem PE.eqL {ex : Expr} {f f' : Fra → Cells → R Unit} (e : ∀ fr cs, f fr cs = f' fr cs) (h : PE X ex (tL g Wx f)) : PE X ex (tL g Wx f') := by
  have : f = f' := funext fun a => funext fun b => e a b
  rw [← this]
  exact h
def lstL (ws : List W) (cs : Cells) : R Unit := match pureDs ws with
  | some ds => if ds.length ≤ lit then .ok () (cs ++ [some (.lst ds)]) else .bad
  | none => .bad
theorem grow_lst {ra : Ra} {cs : Cells} {H : Hp} {a : Addr} {ds : List D} {vs : List V} (R : Rel g ra cs H) (hn : H a = none) (r : RepL g (frz H ra) ds vs) : Keep ra H (upd H a (.lst vs)) ∧ Rel g (ra ++ [some a]) (cs ++ [some (.lst ds)]) (upd H a (.lst vs)) := by
  have same1 : Same H (upd H a (.lst vs)) := fun b o e => by rw [upd_ne (ne_of_none e hn)]; exact e
  refine ⟨Same.keep same1, R.grow hn same1 ⟨vs, upd_same, r.mono (frz_new hn fun b o h _ => same1 b o h)⟩⟩
theorem c_lstL (h : PA X es (tA g Wx fl)) : PE X (.List es p) (tL g Wx fun fr cs => (fl fr cs).bind fun ws c1 => lstL ws c1) := PE.imp (pe_lst h) fun σ H Q ⟨fr, cs, ra, R, F, q⟩ => by
  refine ⟨fr, cs, ra, R, F, PostR.imp (PostL.bind (rp := rpA g ra) q) ?_⟩
  rintro vs H1 ⟨ws, c1, e0, k1, R1, r1, p1⟩
  unfold lstL at p1
  split at p1
  · rename_i ds e
    split at p1
    · rename_i hl
      have r2 := r1.pure e
      refine ⟨by rw [line_lit, ← r2.length]; exact hl, fun a hn => ?_⟩
      obtain ⟨kk, R2⟩ := grow_lst R1 hn r2
      exact p1 _ a kk hn R2
    · exact p1.elim
  · exact p1.elim
/-- list(x), a list of ours -/
def oflW (ws : List W) (cs : Cells) : R Unit := match ws with
  | [w] => match seqOf cs w with
    | some ds => .ok () (cs ++ [some (.lst ds)])
    | none => .bad
  | _ => .bad
theorem c_oflL {pn : Pos} (ok : Okx g N sc ac k X Wx) (F : Fx g wd k) (hg : glB sc "list" = true) (hs : ∀ x ∈ e :: es, notSt x = true) (h : PA X (e :: es) (tA g Wx fl)) :
    PE X (.Call (.Name "list" pn) (e :: es) [] p) (tL g Wx fun fr cs => (fl fr cs).bind fun ws c1 => oflW ws c1) := by
  have hm : X.mg "list" = none := by rw [ok.mg]; exact F.bi .list
  have hst := star_of (es := es) (env := X.env) (hs e (List.mem_cons_self ..))
  have hpl := (nostar_any (env := X.env) (pos := p) fun x hx => hs x (List.mem_cons_of_mem _ hx)).1
  refine PE.imp (pe_callTy (bi_rule ok.calm .list) (gl_of ok hg) hm (Bi.boot .list) h (ne_name (b := .list)).1 (ne_name (b := .list)).2 hst hpl) ?_
  rintro σ H Q ⟨fr, cs, ra, R, F', q⟩
  refine ⟨fr, cs, ra, R, F', PostR.imp (PostL.bind (rp := rpA g ra) q) ?_⟩
  rintro vs H1 ⟨ws, c1, e0, k1, R1, r1, p1⟩
  unfold oflW at p1
  split at p1
  · obtain ⟨v, rfl, rw_⟩ := ws1 r1
    split at p1
    · rename_i ds ed
      obtain ⟨a, us, rfl, h1, q1⟩ := seqOf_ok R1 rw_ ed
      refine ⟨a, us, rfl, by rw [ok.K]; exact h1, fun l hn => ?_⟩
      obtain ⟨kk, R2⟩ := grow_lst R1 hn q1
      exact p1 _ l kk hn R2
    · exact p1.elim
  · exact p1.elim
theorem lcL_imp {own : List (Str × Nat)} {tg : List Nat} {one : Bool} {fi : Fra → Cells → R (List D)} {ft : Fra → Cells → R Bool} {fe : Fra → Cells → R W} (htg : ∀ i ∈ tg, i ∈ own.map (·.2)) :
    ∀ σ H Q, tL g Wx (fun fr cs => (fi fr cs).bind fun ds c1 => (lcGo ft fe tg one (wipeF fr (own.map (·.2))) c1.length ds (c1 ++ [some (.lst [])])).nox) σ H Q → tLc (tI g Wx fi) (tG g tg one) (tT g W0 ft) (tE g W0 fe) (own.map (·.2)) σ H Q := by
  rintro σ H Q ⟨fr, cs, ra, R, Fr, q⟩
  refine ⟨fr, cs, ra, R, Fr, PostR.imp (PostL.bind (rp := fun H1 ds J => WalksD g (frz H1 ra) J ds) q) ?_⟩
  rintro J H1 ⟨ds, c1, _, k1, R1, wk, p1⟩ D hD
  have hD' : some D ∉ ra := R1.fresh hD
  have same1 : Same H1 (upd H1 D (.lst [])) := fun b o e => by rw [upd_ne (ne_of_none e hD)]; exact e
  have R1' : Rel g (ra ++ [some D]) (c1 ++ [some (.lst [])]) (upd H1 D (.lst [])) := R1.grow hD same1 ⟨[], upd_same, .nil⟩
  have inD : ∀ {b : Addr}, some b ∈ ra ++ [some D] → some b ∈ ra ∨ b = D := fun {b} z => by
    rcases List.mem_append.mp z with z | z
    · exact .inl z
    · exact .inr (Option.some.inj (List.mem_singleton.mp z))
  have start : LcP g (ra ++ [some D]) (Q (.ref D)) (lcGo ft fe tg one (wipeF fr (own.map (·.2))) c1.length ds (c1 ++ [some (.lst [])])) (upd H1 D (.lst [])) := by
    cases e : lcGo ft fe tg one (wipeF fr (own.map (·.2))) c1.length ds (c1 ++ [some (.lst [])]) with
    | bad => rw [e] at p1; exact p1
    | exc c x cs => rw [e] at p1; exact p1
    | ok u c2 =>
      rw [e] at p1
      intro H' kk R2
      refine p1 H' D (fun b o e nb => kk b o (same1 b o e) (fun z => ?_)) hD R2
      rcases inD z with z | z
      · exact nb z
      · rw [z, hD] at e; cases e
  have frame : ∀ {H' : Hp}, Keep (ra ++ [some D]) (upd H1 D (.lst [])) H' → Same (frz H1 ra) (frz H' (ra ++ [some D])) := fun {H'} kk b o e => kk.same b o (frz_new hD (fun b o h _ => same1 b o h) b o e)
  refine ⟨fun i m H => m = ds.length - i ∧ i ≤ ds.length ∧ ∃ cs, Rel g (ra ++ [some D]) cs H ∧ Keep (ra ++ [some D]) (upd H1 D (.lst [])) H ∧ LcP g (ra ++ [some D]) (Q (.ref D)) (lcGo ft fe tg one (wipeF fr (own.map (·.2))) c1.length (ds.drop i) cs) H,
    ⟨ds.length, rfl, Nat.zero_le _, _, R1', Keep.refl _ _, start⟩, ?_⟩
  rintro i m H2 ⟨rfl, hle, cs2, R2, kk2, post⟩
  have sm : Same (frz H1 ra) H2 := fun b o e => frz_same _ _ _ _ (frame kk2 b o e)
  obtain ⟨w1, w2⟩ := wk H2 sm
  by_cases hlt : i < ds.length
  · have hd : ds[i]? = some ds[i] := List.getElem?_eq_getElem hlt
    obtain ⟨go, yld⟩ := w1 i _ hd
    have ed : ds.drop i = ds[i] :: ds.drop (i + 1) := List.drop_eq_getElem_cons hlt
    rw [ed] at post
    generalize ds[i] = d at post yld hd
    refine .inr ⟨go, fun H' => ∃ cs', Rel g (ra ++ [some D]) cs' H' ∧ Keep (ra ++ [some D]) (upd H1 D (.lst [])) H' ∧ LcP g (ra ++ [some D]) (Q (.ref D)) (lcGo ft fe tg one (wipeF fr (own.map (·.2))) c1.length (ds.drop (i + 1)) cs') H',
      fun H' ⟨cs', h1, h2, h3⟩ => ⟨ds.length - (i + 1), by omega, rfl, hlt, cs', h1, h2, h3⟩, fun x H3 hy => ?_⟩
    obtain ⟨s3, rep3⟩ := yld x H3 hy
    have R3 := R2.same s3
    have kk3 : Keep (ra ++ [some D]) (upd H1 D (.lst [])) H3 := kk2.trans (Same.keep s3)
    have post3 := LcP.from (Same.keep s3) post
    have rd : Rep g (frz H3 (ra ++ [some D])) d x := rep3 _ (frame kk3) fun b o e1 e2 t => frz_at e2 (R2.fresh e1) t
    have F3 : FrR g H3 (ra ++ [some D]) (wipeF fr (own.map (·.2))) (wipe σ (own.map (·.2))) := ((Fr.mono k1).lift (frame kk3) fun n a h => ra_app h).wipe _
    unfold lcGo at post3
    split at post3
    · exact post3.elim
    · rename_i fr1 es
      refine ⟨wipeF fr (own.map (·.2)), d, ra ++ [some D], fr1, F3, rd, es, fun σ1 F1 hw => ⟨(hw _ htg).trans (wipe_idem _), fr1, cs2, ra ++ [some D], R3, F1, ?_⟩⟩
      unfold lcTurn at post3
      cases e4 : ft fr1 cs2 with
      | bad => rw [e4] at post3; exact post3.elim
      | exc c x cs => rw [e4] at post3; exact post3.elim
      | ok b c4 =>
        rw [e4] at post3
        intro H4 b' k4 R4 eb
        subst eb
        cases b with
        | false =>
          exact ⟨c4, R4, kk3.trans k4, LcP.from k4 (show LcP g (ra ++ [some D]) (Q (.ref D)) (lcGo ft fe tg one (wipeF fr (own.map (·.2))) c1.length (ds.drop (i + 1)) c4) H3 from post3)⟩
        | true =>
          refine ⟨fr1, c4, ra ++ [some D], R4, F1.mono k4, ?_⟩
          have post4 : LcP g (ra ++ [some D]) (Q (.ref D)) (((fe fr1 c4).nox.bind fun w c2 => lcAdd c1.length w c2).bind fun _ c2 => lcGo ft fe tg one (wipeF fr (own.map (·.2))) c1.length (ds.drop (i + 1)) c2) H3 := post3
          cases e5 : fe fr1 c4 with
          | bad => rw [e5] at post4; exact post4.elim
          | exc c x cs => rw [e5] at post4; exact post4.elim
          | ok w c5 =>
            rw [e5] at post4
            have post5 : LcP g (ra ++ [some D]) (Q (.ref D)) ((lcAdd c1.length w c5).bind fun _ c2 => lcGo ft fe tg one (wipeF fr (own.map (·.2))) c1.length (ds.drop (i + 1)) c2) H3 := post4
            intro H5 y k5 R5 ry
            unfold lcAdd at post5
            split at post5
            · rename_i xd acc hx
              split at post5
              · rename_i hl
                have hc : c5[c1.length]? = some (some (.lst acc)) := by
                  unfold celL at hx
                  split at hx
                  · rename_i ys hy; cases hx; exact hy
                  · cases hx
                obtain ⟨a, ha, vs, h3, h4⟩ := R5.cell _ _ hc
                have ha' := ha
                have ea : a = D := by
                  rw [← R1.len] at ha
                  simp at ha
                  exact ha.symm
                subst ea
                obtain ⟨k6, R6⟩ := R5.put (o := .lst (vs ++ [y])) (c' := .lst (acc ++ [xd])) ha' ⟨_, upd_same, h4.append (.cons ry .nil)⟩
                refine ⟨vs, h3, by rw [line_lit, ← h4.length]; exact hl, _, R6, ((kk3.trans k4).trans k5).trans k6, LcP.from ((k4.trans k5).trans k6) post5⟩
              · exact post5.elim
            · exact post5.elim
  · have ei : i = ds.length := by omega
    subst ei
    rw [List.drop_length] at post
    exact .inl ⟨w2, post H2 (Keep.refl _ _) R2⟩
theorem c_lcL {own : List (Str × Nat)} {tg : List Nat} {one : Bool} {scope : Scope} {ie te ee : Expr} {ifs : List Expr} {fi : Fra → Cells → R (List D)} {ft : Fra → Cells → R Bool} {fe : Fra → Cells → R W}
    (ok : Okx g N sc ac k X Wx) (hi : PI X te ie (tI g Wx fi)) (hset : notSet ie = true) (hbl : blkL g.lams N sc scope own = true)
    (hg : ∀ X', Okx g N (relS scope sc) false k X' W0 → PG X' te (tG g tg one))
    (ht : ∀ X', Okx g N (relS scope sc) false k X' W0 → PTs X' ifs (tT g W0 ft))
    (he : ∀ X', Okx g N (relS scope sc) false k X' W0 → PE X' ee (tE g W0 fe)) (htg : ∀ i ∈ tg, i ∈ own.map (·.2)) :
    PE X (.ListComp ee [⟨te, ie, ifs, 0⟩] scope p) (tL g Wx fun fr cs => (fi fr cs).bind fun ds c1 => (lcGo ft fe tg one (wipeF fr (own.map (·.2))) c1.length ds (c1 ++ [some (.lst [])])).nox) := by
  have okb : ∀ (s : Shared) (H : Hp) (C : Addr) (cl : List (Str × Addr)) (fp : List Addr), Okx g N (relS scope sc) false k (X.blk s H scope (compEnvC scope cl C X.env) fp) W0 := fun s H C cl fp =>
    ⟨ok.P, ok.w, ok.K, ok.mg, ok.base, ok.hN, ok.nd, ok.calm, by rw [← ok.sc]; rfl, (fun h => by cases h), ok.hr, takes0, ok.gd, fun h => absurd (show relS scope sc ∈ g.lams by rw [← ok.sc]; exact h) (blkL_and hbl).2, fun h => by cases h⟩
  exact PE.imp (pe_lc ok.calm (by rw [ok.hN]; exact ok.nd) hi (blkOk_by (own := own) (by rw [ok.hN, ok.sc]; exact (blkL_and hbl).1)) (fun s H C cl fp => hg _ (okb s H C cl fp)) (fun s H C cl fp => ht _ (okb s H C cl fp)) (fun s H C cl fp => he _ (okb s H C cl fp)) (fold_of hset)) (lcL_imp htg)
theorem c_setLc {i : Nat} {y : Str} {py spos : Pos} {own : List (Str × Nat)} {tg : List Nat} {one : Bool} {scope : Scope} {ie te ee : Expr} {ifs : List Expr} {fi : Fra → Cells → R (List D)} {ft : Fra → Cells → R Bool} {fe : Fra → Cells → R W}
    (ok : Okx g N sc ac k X Wx) (hi : PI X te ie (tI g Wx fi)) (hset : notSet ie = true) (hbl : blkL g.lams N sc scope own = true)
    (hg : ∀ X', Okx g N (relS scope sc) false k X' W0 → PG X' te (tG g tg one))
    (ht : ∀ X', Okx g N (relS scope sc) false k X' W0 → PTs X' ifs (tT g W0 ft))
    (he : ∀ X', Okx g N (relS scope sc) false k X' W0 → PE X' ee (tE g W0 fe)) (hy : N[i]? = some y) (hyl : sc.names.lookup y = some .local) (hsw : swapsWith (.ListComp ee [⟨te, ie, ifs, 0⟩] scope p) (some (.Name y py)) spos.line X.env = pure true) (htg : ∀ i ∈ tg, i ∈ own.map (·.2)) :
    PS X (.Assign [.Name y py] (.ListComp ee [⟨te, ie, ifs, 0⟩] scope p) spos) (tAsg (tL g Wx fun fr cs => (fi fr cs).bind fun ds c1 => (lcGo ft fe tg one (wipeF fr (own.map (·.2))) c1.length ds (c1 ++ [some (.lst [])])).nox) (gName i)) := by
  have okb : ∀ (s : Shared) (H : Hp) (C : Addr) (cl : List (Str × Addr)) (fp : List Addr), Okx g N (relS scope sc) false k (X.blk s H scope (compEnvC scope cl C X.env) fp) W0 := fun s H C cl fp =>
    ⟨ok.P, ok.w, ok.K, ok.mg, ok.base, ok.hN, ok.nd, ok.calm, by rw [← ok.sc]; rfl, (fun h => by cases h), ok.hr, takes0, ok.gd, fun h => absurd (show relS scope sc ∈ g.lams by rw [← ok.sc]; exact h) (blkL_and hbl).2, fun h => by cases h⟩
  exact PS.imp (ps_setLc ok.calm (by rw [ok.hN]; exact ok.nd) (by rw [ok.hN]; exact hy) (by rw [ok.sc]; exact hyl) hsw hi (blkOk_by (own := own) (by rw [ok.hN, ok.sc]; exact (blkL_and hbl).1)) (fun s H C cl fp => hg _ (okb s H C cl fp)) (fun s H C cl fp => ht _ (okb s H C cl fp)) (fun s H C cl fp => he _ (okb s H C cl fp)) (fold_of hset)) fun D σ H q => lcL_imp htg σ H _ q
def evCallL (wd : Wd) (f q : Nat) (fl fm : Fra → Cells → R (List W)) : Fra → Cells → R Unit := fun fr cs => (fl fr cs).bind fun ws c1 => (fm fr c1).bind fun zs c2 => match (wd.pat f q).bind fun q => srcs ws zs q.2.2 with
    | some l => wd.phl f l c2
    | none => .bad
theorem Fx.fnl' (F : Fx g wd k) (ok : Okx g N sc ac k X Wx) (f : Nat) : FnG X.prog X.w X.K X.mg X.base (L2.CX X.prog X.w) k (g.fa f) (g.fd f) (g.ps f) (spOfL g (g.ps f).length (wd.phl f)) := by
  rw [ok.P, ok.w, ok.K, ok.mg, ok.base]
  exact F.fnl f
/-- behind the arguments: the call -/
theorem go_callL {f q n : Nat} {nms : List Str} {pm : List Src} {pins : List (Addr × Obj)} {σ : L2.St} {s : Shared} {us ws' : List Value} {vs zs : List V} {ws ys : List W} {cs : Cells} {ra : Ra} {H : Hp} {Q : VK} (ok : Okx g N sc ac k X Wx) (F : Fx g wd k) (hp : wd.pat f q = some (n, nms, pm))
    (I : Inv X pins σ H s) (R : Rel g ra cs H) (r1 : RepWs g (frz H ra) ra ws vs) (r2 : RepWs g (frz H ra) ra ys zs) (v1 : Vals vs us) (v2 : Vals zs ws') (l1 : vs.length = n) (l2 : zs.length = nms.length)
    (h : PostL g (match (wd.pat f q).bind fun q => srcs ws ys q.2.2 with
      | some l => wd.phl f l cs
      | none => .bad) ra H Q (fun c d H' => Wx c d σ H')) : wpAny (model X.prog X.w) X.A (call (.ref (g.fa f)) us (nms.zip ws')) (EP X pins σ Q) X.xe s := by
  obtain ⟨hf, hl, gg, hb⟩ := F.pat _ _ _ _ _ hp
  rw [hp] at h
  simp only [Option.bind_some] at h
  split at h
  · rename_i l e
    obtain ⟨q1, q2⟩ := srcs_ok r1 r2 hf e
    exact run_N (F.fnl' ok f) (ok.hr.mono (by omega)) ok.gd (by rw [ok.K]; exact hb) (passAt ok.tk σ) I v1 v2 l1 l2 ⟨l, cs, ra, R, q1, by rw [q2, hl], h⟩
  · exact h.elim
/-- the arguments, then what is wanted of the values -/
theorem args_callL {f q n : Nat} {nms : List Str} {pm : List Src} {pn : Pos} {v : Value} (hkeep : PySem.W.keepIn X.K v = true) (ok : Okx g N sc ac k X Wx) (hn : (e :: es).length = n) (hk : kws.map (·.arg) = nms.map some) (hs : ∀ x ∈ e :: es, notSt x = true)
    (ha : PA X (e :: es) (tA g Wx fl)) (hkw : PK X kws (tA g Wx fm)) (l1 : ∀ fr cs ws c, fl fr cs = .ok ws c → ws.length = (e :: es).length) (l2 : ∀ fr cs ws c, fm fr cs = .ok ws c → ws.length = kws.length)
    {pins : List (Addr × Obj)} {σ : L2.St} {H : Hp} {s : Shared} {Q : VK} {G : List W → List W → Cells → R Unit} (I : Inv X pins σ H s) (h : tL g Wx (fun fr cs => (fl fr cs).bind fun ws c1 => (fm fr c1).bind fun zs c2 => G ws zs c2) σ H Q)
    (go : ∀ {s : Shared} {us ws' : List Value} {vs zs : List V} {ws ys : List W} {cs : Cells} {ra : Ra} {H : Hp}, Inv X pins σ H s → Rel g ra cs H → RepWs g (frz H ra) ra ws vs → RepWs g (frz H ra) ra ys zs → Vals vs us → Vals zs ws' → vs.length = n → zs.length = nms.length →
      PostL g (G ws ys cs) ra H Q (fun c d H' => Wx c d σ H') → wpAny (model X.prog X.w) X.A (call v us (nms.zip ws')) (EP X pins σ Q) X.xe s) :
    wpAny (model X.prog X.w) X.A (callWith p v [] (backTo p (starEach (e :: es) X.env)) (backToKw p (keywordEach kws X.env))) (EP X pins σ Q) X.xe s := by
  obtain ⟨k1, k2, k3⟩ := kw_facts (env := X.env) (pos := p) hk
  have hpl := (nostar_any (env := X.env) (pos := p) hs).1
  obtain ⟨fr, cs, ra, R, Fr, q1⟩ := h
  refine PySem.W.callWith_KW (h₀ := X.base) I.ok.mod.kin hkeep k1 (thn (ha.run p pins s σ H _ I ⟨fr, cs, ra, R, Fr, PostL.bind (rp := rpA g ra) q1⟩) fun us s1 ⟨vs, H1, I1, rv, ws, c1, e1, kk1, R1, r1, p1⟩ => ?_) (by rw [hpl, k3]; rfl) (star_of (hs e (List.mem_cons_self ..)))
  refine thn (hkw.run p pins s1 σ H1 _ I1 ⟨fr, c1, ra, R1, Fr.mono kk1, PostL.bind (rp := rpA g ra) p1⟩) fun ws2 s2 ⟨zs, H2, I2, rz, ys, c2, e2, kk2, R2, r2, p2⟩ => ⟨I2.kIn, ?_⟩
  rw [k2]
  refine go I2 R2 (r1.mono kk2.same) r2 rv rz ?_ ?_ p2
  · rw [← r1.length, l1 _ _ _ _ e1]; exact hn
  · have a1 := r2.length
    have a2 := l2 _ _ _ _ e2
    have a3 := congrArg List.length hk
    simp only [List.length_map] at a3
    omega
theorem args_call0L {nms : List Str} {pn : Pos} {v : Value} (hkeep : PySem.W.keepIn X.K v = true) (ok : Okx g N sc ac k X Wx) (hk : kws.map (·.arg) = nms.map some)
    (hkw : PK X kws (tA g Wx fm)) (l2 : ∀ fr cs ws c, fm fr cs = .ok ws c → ws.length = kws.length)
    {pins : List (Addr × Obj)} {σ : L2.St} {H : Hp} {s : Shared} {Q : VK} {G : List W → List W → Cells → R Unit} (I : Inv X pins σ H s) (h : tL g Wx (fun fr cs => (fm fr cs).bind fun zs c2 => G [] zs c2) σ H Q)
    (go : ∀ {s : Shared} {us ws' : List Value} {vs zs : List V} {ws ys : List W} {cs : Cells} {ra : Ra} {H : Hp}, Inv X pins σ H s → Rel g ra cs H → RepWs g (frz H ra) ra ws vs → RepWs g (frz H ra) ra ys zs → Vals vs us → Vals zs ws' → vs.length = 0 → zs.length = nms.length →
      PostL g (G ws ys cs) ra H Q (fun c d H' => Wx c d σ H') → wpAny (model X.prog X.w) X.A (call v us (nms.zip ws')) (EP X pins σ Q) X.xe s) :
    wpAny (model X.prog X.w) X.A (callWith p v [] (backTo p (starEach [] X.env)) (backToKw p (keywordEach kws X.env))) (EP X pins σ Q) X.xe s := by
  obtain ⟨k1, k2, k3⟩ := kw_facts (env := X.env) (pos := p) hk
  obtain ⟨fr, cs, ra, R, Fr, q1⟩ := h
  refine PySem.W.callWith_KW0 (h₀ := X.base) I.ok.mod.kin hkeep k1 ?_ (by rw [k3]; rfl)
  refine thn (hkw.run p pins s σ H _ I ⟨fr, cs, ra, R, Fr, PostL.bind (rp := rpA g ra) q1⟩) fun ws2 s2 ⟨zs, H2, I2, rz, ys, c2, e2, kk2, R2, r2, p2⟩ => ⟨I2.kIn, ?_⟩
  rw [k2]
  refine go (vs := []) I2 R2 .nil r2 .nil rz rfl ?_ p2
  have a1 := r2.length
  have a2 := l2 _ _ _ _ e2
  have a3 := congrArg List.length hk
  simp only [List.length_map] at a3
  omega
theorem c_callL {f q n : Nat} {nms : List Str} {pm : List Src} {x : Str} {pn : Pos} (ok : Okx g N sc ac k X Wx) (F : Fx g wd k) (hx : wd.fnm f = some x) (hg : glB sc x = true) (hd : nodbg x = true) (hp : wd.pat f q = some (n, nms, pm)) (hn : (e :: es).length = n) (hk : kws.map (·.arg) = nms.map some) (hs : ∀ x ∈ e :: es, notSt x = true)
    (ha : PA X (e :: es) (tA g Wx fl)) (hkw : PK X kws (tA g Wx fm)) (l1 : ∀ fr cs ws c, fl fr cs = .ok ws c → ws.length = (e :: es).length) (l2 : ∀ fr cs ws c, fm fr cs = .ok ws c → ws.length = kws.length) :
    PE X (.Call (.Name x pn) (e :: es) kws p) (tL g Wx (evCallL wd f q fl fm)) := by
  refine ⟨fun pins s σ H Q I h => ?_⟩
  obtain ⟨hm, hkp⟩ := F.nm f x hx
  refine wpAny_Call_Name_kw (ld_glob I (gl_of ok hg) (by rw [ok.mg]; exact hm) ?_ (dbg_of hd))
  exact args_callL (f := f) (q := q) (pm := pm) (pn := pn) (by rw [ok.K]; exact hkp) ok hn hk hs ha hkw l1 l2 I h fun I2 R2 r1 r2 v1 v2 a1 a2 p2 => go_callL ok F hp I2 R2 r1 r2 v1 v2 a1 a2 p2
theorem c_call0L {f q : Nat} {nms : List Str} {pm : List Src} {x : Str} {pn : Pos} (ok : Okx g N sc ac k X Wx) (F : Fx g wd k) (hx : wd.fnm f = some x) (hg : glB sc x = true) (hd : nodbg x = true) (hp : wd.pat f q = some (0, nms, pm)) (hk : kws.map (·.arg) = nms.map some)
    (hkw : PK X kws (tA g Wx fm)) (l2 : ∀ fr cs ws c, fm fr cs = .ok ws c → ws.length = kws.length) :
    PE X (.Call (.Name x pn) [] kws p) (tL g Wx (evCallL wd f q (fun _ cs => .ok [] cs) fm)) := by
  refine ⟨fun pins s σ H Q I h => ?_⟩
  obtain ⟨hm, hkp⟩ := F.nm f x hx
  refine wpAny_Call_Name_kw (ld_glob I (gl_of ok hg) (by rw [ok.mg]; exact hm) ?_ (dbg_of hd))
  exact args_call0L (pn := pn) (G := fun ws zs c2 => match (wd.pat f q).bind fun q => srcs ws zs q.2.2 with | some l => wd.phl f l c2 | none => .bad) (by rw [ok.K]; exact hkp) ok hk hkw l2 I h fun I2 R2 r1 r2 v1 v2 a1 a2 p2 => go_callL ok F hp I2 R2 r1 r2 v1 v2 a1 a2 p2
/-! making an instance -/
end
end BV

namespace BV
open PySem L2 PySem.Spec PyProof.Rows
/-! ### try: body / except (..) as n: v = n: the exception is held as a value -/
theorem excV_ok {P : Program} {w : World} {H : Hp} {h : Heap} {a : Addr} {cls : Value} {d : Option Addr} {oe : Obj} {vs : Array Value} (e : h.get? a = some oe) (z : Zc cls d oe) (dd : oe.data = .fields vs) : ObjOk P w H h a (ExcV cls d a) :=
  ⟨⟨oe, vs, e, z, dd⟩, ⟨oe, e⟩, fun _ _ ⟨o, v, q, r⟩ k => ⟨o, v, k o q, r⟩⟩
theorem flyingZ_keeps {B h h' : Heap} {l : List Env} {e : Addr} {Z : Obj → Prop} (fl : HandSPX.FlyingZ B l e Z h) (k : ∀ b o, h.get? b = some o → h'.get? b = some o) : HandSPX.FlyingZ B l e Z h' := by
  obtain ⟨f1, f2, f3, oe, vs, T, oT, ts, he, hz, hd, h1, hn, hne, hT, hdT, h3⟩ := fl
  exact ⟨fun b o q => k b o (f1 b o q), f2, f3.of_keeps fun b o q _ => ⟨o, k b o q, rfl⟩, oe, vs, T, oT, ts, k _ _ he, hz, hd, h1, hn, hne, k _ _ hT, hdT, h3⟩
section
variable {X : Cx} {pins : List (Addr × Obj)} {σ : L2.St} {H : Hp} {s sI : Shared}
theorem Inv.suite0 (I : Inv X pins σ H s) (a : Addr) : Inv (X.suite a (X.pn ++ pins)) [] σ H s :=
  ⟨I.ok.suite _ _, I.os, I.bare, I.base, I.loc, I.cell, I.free, I.freeC, fun p hp => I.pin p (by rw [List.append_nil] at hp; exact hp), I.hok, I.len⟩
theorem Inv.unsuite0 {a : Addr} {pn' : List (Addr × Obj)} (I : Inv (X.suite a (X.pn ++ pins)) pn' σ H s) (ok : X.Ok) : Inv X pins σ H s :=
  ⟨ok, I.os, I.bare, I.base, I.loc, I.cell, I.free, I.freeC, fun p hp => I.pin p (List.mem_append_left _ hp), I.hok, I.len⟩
/-- an object that stands, new since the frame's start, is tracked -/
theorem Inv.track {a : Addr} {o : HO} {oe : Obj} {vs : Array Value} (I : Inv X pins σ H s) (he : s.heap.get? a = some oe) (hd : oe.data = .fields vs) (n0 : X.s_0.heap.get? a = none) (na : H a = none) (nL : a ≠ X.env.locals) (np : ∀ p ∈ X.pn ++ pins, p.1 ≠ a) (new : ObjOk X.prog X.w (upd H a o) s.heap a o) :
    Inv X pins σ (upd H a o) s := by
  have ne0 : ∀ b u, X.s_0.heap.get? b = some u → b ≠ a := fun b u e z => by rw [z, n0] at e; cases e
  refine ⟨I.ok, I.os, I.bare, ⟨I.base.keep, I.base.slot, fun b u e n hx => ?_, I.base.there, fun b xs e => ?_, fun b ob u e => ?_, fun b ps e => ?_⟩, I.loc, I.cell, ?_, fun x c e => ?_, fun p hp => ?_, fun b u e => ?_, I.len⟩
  · rw [upd_ne (ne0 b u e)]; exact I.base.free b u e n hx
  · have q := I.base.tups b xs e
    rw [upd_ne (ne_of_none q na)]; exact q
  · have q := I.base.frzs b ob u e
    rw [upd_ne (ne_of_none q na)]; exact q
  · obtain ⟨m, q⟩ := I.base.tbls b ps e
    exact ⟨m, by rw [upd_ne (ne_of_none q na)]; exact q⟩
  · rw [upd_ne (Ne.symm nL)]; exact I.free
  · obtain ⟨v, oc, hc, hdc⟩ := I.cell x c e
    have : c ≠ a := fun z => by
      rw [z, he] at hc
      cases hc
      rw [hd] at hdc; cases hdc
    rw [upd_ne this]; exact I.freeC x c e
  · obtain ⟨e, n, r⟩ := I.pin p hp
    exact ⟨e, by rw [upd_ne (np p hp)]; exact n, r⟩
  · by_cases hb : b = a
    · subst hb
      rw [upd_same] at e
      cases e
      exact new
    · rw [upd_ne hb] at e
      exact (I.hok b u e).stay (fun c v _ q => q) (fun c q => by rw [upd_ne (ne_of_none q na)]; exact q) fun c xs q => by rw [upd_ne (ne_of_none q na)]; exact q
/-- the test of a clause, read -/
def TestOk (X : Cx) (te : Expr) (cs : List Value) : Prop := ∀ (a : Addr) (pn : List (Addr × Obj)) (s : Shared) (σ : L2.St) (H : Hp) (cls : Value) (b : Bool) (Q : Bool → Shared → Prop) (E : Value → Shared → Prop),
  Inv (X.suite a pn) [] σ H s → PySem.W.Looks (model X.prog X.w) s.heap (typeOf (.ref a)) cls → PySem.W.exmAny X.K cls cs = some b → (∀ h' : Heap, (∀ q o, s.heap.get? q = some o → h'.get? q = some o) → Q b { s with heap := h' }) →
  wpAny (model X.prog X.w) (X.A.mark (some (.ref a))) (eval te X.env) (fun c s₁ => wpAny (model X.prog X.w) (X.A.mark (some (.ref a))) (excMatches (.ref a) c) Q E s₁) E s
def wHold (K : PySem.W.Frag) (cs : List Value) (i j : Nat) (Wout : WX) (D : Ends) : WX := fun cls d σ H =>
  ∃ b, PySem.W.exmAny K cls cs = some b ∧ (b = true → ∀ a, H a = none → D.nx (((σ.set i (some (.ref a))).set j (some (.ref a))).set i none) (upd H a (ExcV cls d a))) ∧ (b = false → Wout cls d σ H)
theorem ps_try_hold {n : Str} {i j : Nat} {te : Expr} {cs : List Value} {b₀ : Stmt} {body suite : List Stmt} {pos pos' : Pos} {tb : WX → TS} {Wout : WX} (hs : X.stack = X.env :: X.outer) (hf : X.env.frame = some X.env.locals) (hN : X.N.Nodup) (hi : X.N[i]? = some n) (hln : X.env.kindOf n = some .local) (hc : TestOk X te cs) (tk : Takes X Wout)
    (hb : ∀ (W : WX) (pn : List (Addr × Obj)) (xe : Value → Shared → Prop), Takes (X.tr pn xe) W → PassesOwn (model X.prog X.w) X.A X.env xe → PSs (X.tr pn xe) body (tb W))
    (hsu : ∀ (a : Addr) (pn : List (Addr × Obj)), PSs (X.suite a pn) (b₀ :: suite) (fun D σ H => ∃ v, σ[i]? = some (some v) ∧ D.nx (σ.set j (some v)) H)) (hex : X.ex = []) :
    PS X (.Try body [.ExceptHandler (some te) (some n) (b₀ :: suite) pos'] [] [] pos) (fun D σ H => tb (wHold X.K cs i j Wout D) D σ H) := by
  refine ⟨fun pins s σ H D I h => ?_⟩
  have ok := I.ok
  have hfr : X.A.frames = some (X.env :: X.outer) := by rw [ok.frames, hs]
  have hloc : Loc X.env.scope n := .inl hln
  refine wpAny_Try_except ?_
  refine wpAny_mono ((hb (wHold X.K cs i j Wout D) (X.pn ++ pins) (fun e s₁ => wpAny (model X.prog X.w) X.A (noteFrame e X.env) (fun _ s₂ => wpAny (model X.prog X.w) X.A (setFlight e none) (fun _ s₃ =>
    wpAny (model X.prog X.w) X.A (handleBy e X.env [.ExceptHandler (some te) (some n) (b₀ :: suite) pos']) (SP X pins D) X.xe s₃) X.xe s₂) X.xe s₁) (fun u s' xx => ?_) PassesOwn.looking).run [] s σ H D (I.toTry _) h) (fun f s1 hsp => ?_) (fun e s1 he => he)
  · obtain ⟨a, B, sI, pins', σ', H', cls, d, rfl, J', nb, up, sky, na, os, ag, b, hb1, hyes, hno⟩ := xx
    have J : Inv X pins σ' H' sI := J'.ofTry ok
    have sky' : Sky B (X.env :: X.outer) a (Zc cls d) X.env.locals s'.heap := by rw [← hs]; exact sky
    show wpAny (model X.prog X.w) X.A (noteFrame (.ref a) X.env) _ _ _
    refine Sky.land Zc.steady hfr hf sky' fun h3 fl3 up3 => ?_
    have J3 : Inv X pins σ' H' { s' with heap := h3 } := J.landed nb fl3.1 (up.trans up3) os ag
    obtain ⟨oe3, vs3, he3, hz3, hd3⟩ := fl3.there
    have notFr : ∀ {h : Heap} {o : Obj} {vs : Array Value}, h.FunFrames B (X.env :: X.outer) → h.get? a = some o → o.data = .fields vs → a ∉ frs (X.env :: X.outer) := fun {h o vs} ff e dd hm => by
      obtain ⟨_, o', e', hnf⟩ := ff.mem hm
      rw [e] at e'; cases e'
      exact hnf _ dd
    have nfr := notFr fl3.2.2.1 he3 hd3
    have nL : a ≠ X.env.locals := fun z => nfr (List.mem_filterMap.mpr ⟨X.env, List.mem_cons_self, by rw [hf, z]⟩)
    have nF : a ∉ X.fs := fun hm => by
      obtain ⟨e, he, q⟩ := List.mem_filterMap.mp hm
      exact nfr (List.mem_filterMap.mpr ⟨e, List.mem_cons_of_mem _ he, q⟩)
    have nI : sI.heap.get? a = none := by
      cases e : sI.heap.get? a with
      | none => rfl
      | some o =>
        have := nb a o e (by rw [hs]; exact nfr)
        rw [fl3.2.1] at this; cases this
    have n0 : X.s_0.heap.get? a = none := by
      cases e : X.s_0.heap.get? a with
      | none => rfl
      | some o =>
        obtain ⟨o', q⟩ := J.base.there a o e (by rw [hex]; exact fun z => nomatch z)
        rw [nI] at q; cases q
    have S3 := BV.Inv.suite0 J3 a
    refine wpAny_handleBy_cons (codeAny_handlers_test ?_) (by intro q; cases q)
    have LT : PySem.W.Looks (model X.prog X.w) h3 (typeOf (.ref a)) cls := fun A Q E s k q => wpAny_typeOf_ref (k _ _ he3) (by rw [hz3.1]; exact q)
    refine hc a (X.pn ++ pins) { s' with heap := h3 } σ' H' cls b _ _ S3 LT hb1 fun h5 k5 => ?_
    have J5 : Inv X pins σ' H' { s' with heap := h5 } := J3.kept (t' := s'.toks) k5
    have fl5 := flyingZ_keeps fl3 k5
    have up5 : sI.heap.UpToSlots h5 := (up.trans up3).trans (Heap.UpToSlots.of_keeps k5)
    cases b with
    | true =>
      refine codeAny_handlers_suite_as ?_
      refine HandSPX.lands_againZ fl5 fun h4 fl4 up4 => ?_
      have J4 : Inv X pins σ' H' { s' with heap := h4 } := J.landed nb fl4.1 (up5.trans up4) os ag
      obtain ⟨oe4, vs4, he4, hz4, hd4⟩ := fl4.there
      have np : ∀ p ∈ X.pn ++ pins, p.1 ≠ a := fun p hp z => by
        obtain ⟨e, _⟩ := J.pin p hp
        rw [z, nI] at e; cases e
      have T4 := BV.Inv.track (o := ExcV cls d a) J4 he4 hd4 n0 na nL np (excV_ok he4 hz4 hd4)
      have S4 := BV.Inv.suite0 T4 a
      refine store_ok (X := X.suite a (X.pn ++ pins)) (v := .ref a) S4 hN hi hloc rfl (fun s5 S5 => ?_) (.inr hln)
      have hlen : i < σ'.length := by
        rw [J.len]
        exact (List.getElem?_eq_some_iff.mp hi).1
      refine wpAny_mono ((hsu a (X.pn ++ pins)).run [] s5 _ _ { nx := fun σ' H' => D.nx (σ'.set i none) H', rt := D.rt, bk := fun σ' H' => D.bk (σ'.set i none) H', ct := fun σ' H' => D.ct (σ'.set i none) H' } S5 ⟨.ref a, List.getElem?_set_self hlen, hyes rfl a na⟩) (fun f s6 hsp => ?_) (fun _ _ z => False.elim z)
      have end_ : ∀ {σ6 : L2.St} {H6 : Hp} {Q : Shared → Prop}, Inv (X.suite a (X.pn ++ pins)) [] σ6 H6 s6 → (∀ s7, Inv X pins (σ6.set i none) H6 s7 → Q s7) →
          wpAny (model X.prog X.w) X.A (do bindName X.env n .none; unbindBehindTheSuite X.env n pos') (fun _ s7 => Q s7) X.xe s6 := fun {σ6 H6 Q} S6 hq => gone_ok (BV.Inv.unsuite0 S6 ok) hN hi hln hq
      cases f with
      | next =>
        obtain ⟨σ6, H6, S6, q6⟩ := hsp
        exact end_ S6 fun s7 J7 => ⟨_, _, J7, q6⟩
      | brk =>
        obtain ⟨σ6, H6, S6, q6⟩ := hsp
        exact end_ S6 fun s7 J7 => ⟨_, _, J7, q6⟩
      | cont =>
        obtain ⟨σ6, H6, S6, q6⟩ := hsp
        exact end_ S6 fun s7 J7 => ⟨_, _, J7, q6⟩
      | ret u =>
        obtain ⟨v6, σ6, H6, S6, r6, q6⟩ := hsp
        exact end_ S6 fun s7 J7 => ⟨_, _, _, J7, r6, q6⟩
    | false =>
      show wpAny _ X.A (handleBy (.ref a) X.env []) _ _ _
      refine wpAny_handleBy_nil ?_
      obtain ⟨k1, k2, k3, oe, vs, T, oT, ts', he, hz, hd, h1, hr⟩ := id fl5
      unfold PySem.passOn
      refine wpAny_bind (wpAny_field he hd h1 ?_)
      rw [if_neg (show ¬ ((Value.ref T == Value.none) = true) from by simp)]
      have fin : wpAny (model X.prog X.w) X.A (setFlight (.ref a) X.env.frame) (fun _ s4 => wpAny (model X.prog X.w) X.A (throw (.ref a) : Sem Flow) (SP X pins D) X.xe s4) X.xe { s' with heap := h5 } := by
        rw [hf]
        refine HandSPX.setFlight_upZ fl5 fun h4 hh4 up4 => wpAny_throw (tk _ _ ?_)
        exact ⟨a, B, sI, pins, σ', H', cls, d, rfl, J, nb, up5.trans up4, .inr (.inr (by rw [hs]; exact hh4)), na, os, ag, hno rfl⟩
      first
        | exact wpAny_bind (wpAny_pure (wpAny_bind fin))
        | exact wpAny_bind fin
  · cases f with
    | next =>
      obtain ⟨σ', H', J', q⟩ := hsp
      exact wpAny_execs_nil ⟨σ', H', J'.ofTry ok, q⟩
    | brk =>
      obtain ⟨σ', H', J', q⟩ := hsp
      exact ⟨σ', H', J'.ofTry ok, q⟩
    | cont =>
      obtain ⟨σ', H', J', q⟩ := hsp
      exact ⟨σ', H', J'.ofTry ok, q⟩
    | ret u =>
      obtain ⟨v, σ', H', J', r, q⟩ := hsp
      exact ⟨v, σ', H', J'.ofTry ok, r, q⟩
end
end BV

namespace BV
open PySem L2
/-! ### raise C(e) -/
theorem relO_one {p : Str} {v : V} {v' : Value} (r : RelV v v') (f : Str) : RelO (List.lookup f [(p, v)]) (if f = p then some v' else none) := by
  by_cases hw : f = p
  · subst hw
    rw [if_pos rfl]
    have q : List.lookup f [(f, v)] = some v := by simp [List.lookup]
    rw [q]
    exact r
  · rw [if_neg hw]
    have qw : (f == p) = false := by simpa using hw
    have q2 : List.lookup f [(p, v)] = none := by simp [List.lookup, qw]
    rw [q2]
    trivial
def tMkX (C : Addr) (p : Str) (ta : TA) : L2.St → Hp → XK → Prop := fun σ H Q => ta σ H fun vs H1 => ∃ v, vs = [v] ∧ ∀ d, H1 d = none → Q (.ref C) (some d) (upd H1 d (.xd [(p, v)]))
theorem pmk_exc {X : Cx} {a : Expr} {ta : TA} {q pos : Pos} {k : Nat} {C : Addr} {p x : Str} (M : MkX X.prog X.w X.K X.mg C p) (kC : PySem.W.keepIn X.K (.ref C) = true) (gC : X.mg x = some (.ref C)) (exC : PySem.W.subIn X.K (.ref C) (.type "BaseException") = some true) (tyC : PySem.W.typeIn X.K (.ref C) = some (.type "type"))
    (hr : Room (k + 2) X.A) (ha : PA X [a] ta) (hg : Gl X x) (hdb : (x == ("__debug__" : Str)) = false) (he : starEach (a :: []) X.env = (false, eval a X.env) :: starEach [] X.env) (hpl : (backTo pos (starEach [] X.env)).any (·.1) = false) :
    PMk X (.Call (.Name x q) [a] [] pos) (tMkX C p ta) := by
  intro pins s σ H Q I h
  refine wpAny_Call_Name_kw (ld_glob I hg gC ?_ hdb)
  refine PySem.W.callWith_K (h₀ := X.base) I.ok.mod.kin kC (thn (ha.run pos pins s σ H _ I h) fun us s1 hh => ?_) he hpl
  obtain ⟨vs, H1, I1, r1, v, ev, q1⟩ := hh
  subst ev
  refine ⟨I1.kIn, ?_⟩
  cases r1 with
  | cons rv rn =>
    rename_i v' us'
    cases rn
    show wpAny _ _ (call (.ref C) [v']) _ _ _
    have hlim := I1.nolimit
    have GN := I1.mod.glob.keeps I1.bk
    obtain ⟨mb, hmb, hbb⟩ := I1.mod.blt
    have BN := hmb.keeps I1.bk
    obtain ⟨hp, g, dr, tk, os⟩ := s1
    refine wpAny_call (M (v := v') I1.kIn GN BN (by rw [hbb _ (by decide)]; rfl) hlim (by have := hr.dp; omega) fun h' tk' e d M => ?_)
    show MkP X pins σ Q (.ref e) ⟨h', g, dr, tk', os⟩
    obtain ⟨t1, hoe⟩ := M.obj
    have hns := M.ns
    obtain ⟨G', g1, g2⟩ := restrict h' fun b => decide (b ≠ e)
    have gk : ∀ b, b ≠ e → G'.get? b = h'.get? b := fun b hb => g1 b (decide_eq_true hb)
    have ge : G'.get? e = none := g2 e (by simp)
    have old : ∀ b o, hp.get? b = some o → G'.get? b = some o := fun b o q => (gk b (Nat.ne_of_lt (Nat.lt_of_lt_of_le (Heap.lt_size q) M.new))).trans (M.keep b o q)
    have ob : ObjOk X.prog X.w (upd H1 d (.xd [(p, v)])) G' d (.xd [(p, v)]) :=
      ⟨_, hns.at (fun o q => (gk d M.dne).trans q), fun f => relO_one rv f⟩
    have J : Inv X pins σ (upd H1 d (.xd [(p, v)])) ⟨G', g, dr, tk', os⟩ := I1.laid (t' := tk') old M.dbig ob
    refine ⟨e, _, _, ⟨G', g, dr, tk', os⟩, _, .ref C, some d, rfl, J, fun b o q => ?_, ge, hoe, ⟨rfl, rfl⟩, rfl, rfl, ?_, rfl, I1.bare, raises_own exC tyC, q1 d (I1.hok.fresh M.dbig)⟩
    · by_cases hb : b = e
      · have q' : G'.get? b = some o := q
        rw [hb, ge] at q'; cases q'
      · exact (gk b hb).symm.trans q
    · rw [upd_ne (Ne.symm M.dne)]
      exact I1.hok.fresh M.new
/-! ### the tests of except clauses -/
def chkKs (wd : Ws) (sc : Scope) : List Nat → List Expr → Bool
  | [], [] => true
  | k :: ks, .Name x _ :: es => decide (wd.cnm k = some x) && glB sc x && nodbg x && chkKs wd sc ks es
  | _, _ => false
def chkTe (wd : Ws) (sc : Scope) : List Nat → Expr → Bool
  | [k], .Name x p => chkKs wd sc [k] [.Name x p]
  | [k1, k2], .Tuple es _ _ => chkKs wd sc [k1, k2] es
  | [k1, k2, k3], .Tuple es _ _ => chkKs wd sc [k1, k2, k3] es
  | _, _ => false
section
variable {g : G} {wd : Wd} {N : List Str} {sc : Scope} {ac : Bool} {k : Nat} {X : Cx} {Wx : WX}
theorem chkKs_cons (F : Fx g wd k) (ok : Okx g N sc ac k X Wx) {c : Nat} {ks : List Nat} {e : Expr} {es : List Expr} (h : chkKs wd sc (c :: ks) (e :: es) = true) :
    ∃ x p, e = .Name x p ∧ X.mg x = some (.ref (g.ca c)) ∧ Gl X x ∧ (x == ("__debug__" : Str)) = false ∧ chkKs wd sc ks es = true := by
  cases e <;> first | (simp [chkKs] at h; done) | skip
  rename_i x p
  simp only [chkKs, Bool.and_eq_true, decide_eq_true_eq] at h
  obtain ⟨⟨⟨h1, h2⟩, h3⟩, h4⟩ := h
  unfold nodbg at h3
  simp only [Bool.and_eq_true, Bool.not_eq_true'] at h3
  exact ⟨x, p, rfl, by rw [ok.mg]; exact F.cnm _ _ h1, gl_of ok h2, h3.1, h4⟩
theorem chkKs_nil {es : List Expr} (h : chkKs wd sc [] es = true) : es = [] := by
  cases es with
  | nil => rfl
  | cons e es => simp [chkKs] at h
theorem testOk (F : Fx g wd k) (ok : Okx g N sc ac k X Wx) : ∀ {ks : List Nat} {te : Expr}, chkTe wd sc ks te = true → TestOk X te (ks.map fun c => .ref (g.ca c)) := by
  intro ks te h
  unfold chkTe at h
  split at h
  · rename_i c x p
    obtain ⟨_, _, e, m, hg, hd, _⟩ := chkKs_cons F ok h
    cases e
    intro a pn s σ H cls b Q E I LT hb q
    have h1 : PySem.W.exmOne X.K cls (.ref (g.ca c)) = some b := by
      obtain ⟨b1, d1, e1, e2, e3⟩ := PySem.W.exmAny_cons hb
      cases e2
      rw [e1, e3, Bool.or_false]
    exact ld_glob I hg m ((PySem.W.exm_one I.kIn LT h1).here (q s.heap fun _ _ z => z)) hd
  · rename_i c1 c2 es kk tp
    cases es with
    | nil => simp [chkKs] at h
    | cons e1 es =>
    obtain ⟨x1, p1, rfl, m1, g1, d1, h⟩ := chkKs_cons F ok h
    cases es with
    | nil => simp [chkKs] at h
    | cons e2 es =>
    obtain ⟨x2, p2, rfl, m2, g2, d2, h⟩ := chkKs_cons F ok h
    cases chkKs_nil h
    intro a pn s σ H cls b Q E I LT hb q
    refine wpAny_Tuple ?_
    refine wpAny_items_cons (ld_glob I g1 m1 ?_ d1)
    refine wpAny_items_cons (ld_glob I g2 m2 ?_ d2)
    refine wpAny_items_nil ⟨by show 2 ≤ sizeLine; rw [sizeLine_eq]; decide, ?_⟩
    have kp : ∀ q o, s.heap.get? q = some o → (s.heap.push { cls := .type "tuple", data := .seq [Value.ref (g.ca c1), Value.ref (g.ca c2)].toArray }).get? q = some o := fun _ _ z => Heap.get?_push_of_some _ z
    exact (PySem.W.exm_tup2 (I.kIn.keeps kp) (LT.keeps kp) (Heap.get?_push_size s.heap rfl) hb).here (q _ kp)
  · rename_i c1 c2 c3 es kk tp
    cases es with
    | nil => simp [chkKs] at h
    | cons e1 es =>
    obtain ⟨x1, p1, rfl, m1, g1, d1, h⟩ := chkKs_cons F ok h
    cases es with
    | nil => simp [chkKs] at h
    | cons e2 es =>
    obtain ⟨x2, p2, rfl, m2, g2, d2, h⟩ := chkKs_cons F ok h
    cases es with
    | nil => simp [chkKs] at h
    | cons e3 es =>
    obtain ⟨x3, p3, rfl, m3, g3, d3, h⟩ := chkKs_cons F ok h
    cases chkKs_nil h
    intro a pn s σ H cls b Q E I LT hb q
    refine wpAny_Tuple ?_
    refine wpAny_items_cons (ld_glob I g1 m1 ?_ d1)
    refine wpAny_items_cons (ld_glob I g2 m2 ?_ d2)
    refine wpAny_items_cons (ld_glob I g3 m3 ?_ d3)
    refine wpAny_items_nil ⟨by show 3 ≤ sizeLine; rw [sizeLine_eq]; decide, ?_⟩
    have kp : ∀ q o, s.heap.get? q = some o → (s.heap.push { cls := .type "tuple", data := .seq [Value.ref (g.ca c1), Value.ref (g.ca c2), Value.ref (g.ca c3)].toArray }).get? q = some o := fun _ _ z => Heap.get?_push_of_some _ z
    exact (PySem.W.exm_tup3 (I.kIn.keeps kp) (LT.keeps kp) (Heap.get?_push_size s.heap rfl) hb).here (q _ kp)
  · cases h
end
end BV

namespace BV
open PySem L2

/-! ### located values -/
inductive L where
  | lst (as : E) | lc (elt it conds : E) (tg : List Nat) (one : Bool) (own : List (Str × Nat)) | call (f p : Nat) (as ks : E) | ofl (a : E)
def evL (wd : Wd) : L → Fra → Cells → R Unit
  | .lst as => fun fr cs => (evA wd as fr cs).bind fun ws c1 => lstL ws c1
  | .lc elt it conds tg one own => fun fr cs => (evI wd it fr cs).bind fun ds c1 => (lcGo (fun fr cs => asB (evAnd wd conds fr cs)) (ev wd elt) tg one (wipeF fr (own.map (·.2))) c1.length ds (c1 ++ [some (.lst [])])).nox
  | .call f p as ks => evCallL wd f p (evA wd as) (evA wd ks)
  | .ofl a => fun fr cs => (evA wd (.cons a .nil) fr cs).bind fun ws c1 => oflW ws c1
def L.e : L → E
  | .lst as => .lst as
  | .lc elt it conds tg one own => .lc elt it conds tg one own
  | .call f p as ks => .call f p as ks
  | .ofl a => .bi .list (.cons a .nil)
def isComp : Expr → Bool
  | .ListComp _ _ _ _ => true | .SetComp _ _ _ _ => true | .DictComp _ _ _ _ _ => true
  | _ => false
/-! ### statements -/
inductive S where
  | nop | set (i : Nat) (e : E) | setL (i : Nat) (z : L) | setT (is : List Nat) (e : E) | par (is : List Nat) (as : E)
  | put (a i e : E) | fld (a : E) (f : Str) (e : E) | expr (e : E) | ret (e : E) | retL (z : L) | retN
  | ife (c : E) (a b : S) | loop (it : E) (tg : List Nat) (one : Bool) (b : S) | wh (c : E) (b : S) | brk | cont
  | raise (c : Nat) (e : E) | hold (s : S) (ks : List Nat) (i j : Nat)
  | frz (i : Nat) | never | nil | cons (s r : S)
  deriving Inhabited
inductive RS where
  | nx (fr : Fra) (cs : Cells) | rt (w : W) (cs : Cells) | bk (fr : Fra) (cs : Cells) | ct (fr : Fra) (cs : Cells) | ex (c : Nat) (x : D) (fr : Fra) (cs : Cells) | bad
def RS.bind (r : RS) (k : Fra → Cells → RS) : RS := match r with
  | .nx fr cs => k fr cs
  | r => r
def RS.loop (r : RS) (k : Fra → Cells → RS) : RS := match r with
  | .nx fr cs => k fr cs
  | .ct fr cs => k fr cs
  | .bk fr cs => .nx fr cs
  | r => r
def onE {α : Type} (fr : Fra) (r : R α) (k : α → Cells → RS) : RS := match r with
  | .ok a cs => k a cs
  | .exc c x cs => .ex c x fr cs
  | .bad => .bad
def setWs (fr : Fra) (ps : List (Nat × W)) : Fra := ps.foldl (fun fr p => fr.set p.1 (some p.2)) fr
def forGo (f : Fra → Cells → RS) (tg : List Nat) (one : Bool) : List D → Fra → Cells → RS
  | [], fr, cs => .nx fr cs
  | d :: ds, fr, cs => match setTg tg one d fr with
    | none => .bad
    | some fr1 => (f fr1 cs).loop fun fr cs => forGo f tg one ds fr cs
def whGo (t : Fra → Cells → R Bool) (f : Fra → Cells → RS) : Nat → Fra → Cells → RS
  | 0, _, _ => .bad
  | n + 1, fr, cs => onE fr (t fr cs) fun b c1 => if b then (f fr c1).loop fun fr cs => whGo t f n fr cs else .nx fr c1
def putR (fr : Fra) (w wa wi : W) (cs : Cells) : RS := match w, wa, wi with
  | .d d, .loc n, .d (.int j) => match celL cs n with
    | some xs => match ixN xs.length j with
      | some m => .nx fr (cs.set n (some (.lst (xs.set m d))))
      | none => .bad
    | none => .bad
  | _, _, _ => .bad
def fldR (wd : Wd) (fr : Fra) (f : Str) (w wa : W) (cs : Cells) : RS := match w, wa with
  | .d d, .loc n => match cs[n]? with
    | some (some (.ins c fs)) => if wd.fldk c f && decide (fs.length < 1000) then .nx fr (cs.set n (some (.ins c (putD f d fs)))) else .bad
    | _ => .bad
  | _, _ => .bad
def frzW (n : Nat) (xs : List D) : Option W → Option W
  | some (.loc m) => if m = n then some (.d (.lst xs)) else some (.loc m)
  | w => w
def frzR (b i : Nat) (fr : Fra) (cs : Cells) : RS := match fr[i]? with
  | some (some (.loc n)) => if b ≤ n then match celL cs n with
    | some xs => .nx (fr.map (frzW n xs)) (cs.set n none)
    | none => .bad
    else .bad
  | some (some (.d _)) => .nx fr cs
  | _ => .bad
def raiseR (wd : Wd) (c : Nat) (w : W) (fr : Fra) (cs : Cells) : RS := match w, wd.exk c with
  | .d d, some _ => .ex c d fr cs
  | _, _ => .bad
def holdR (wd : Wd) (ks : List Nat) (i j : Nat) : RS → RS
  | .ex c x fr cs => match wd.exm ks c with
    | some true => .nx ((fr.set i none).set j (some (.d (.exc c x)))) cs
    | some false => .ex c x fr cs
    | none => .bad
  | r => r
def exS (wd : Wd) (n b : Nat) : S → Fra → Cells → RS
  | .nop, fr, cs => .nx fr cs
  | .set i e, fr, cs => onE fr (ev wd e fr cs) fun w c1 => .nx (fr.set i (some w)) c1
  | .setL i z, fr, cs => onE fr (evL wd z fr cs) fun _ c1 => .nx (fr.set i (some (.loc (c1.length - 1)))) c1
  | .setT is e, fr, cs => onE fr (ev wd e fr cs) fun w c1 => match w with
    | .d d => match setTg is false d fr with
      | some fr1 => .nx fr1 c1
      | none => .bad
    | _ => .bad
  | .par is as, fr, cs => onE fr (evA wd as fr cs) fun ws c1 => .nx (setWs fr (is.zip ws)) c1
  | .put a i e, fr, cs => onE fr (ev wd e fr cs) fun w c1 => onE fr (ev wd a fr c1) fun wa c2 => onE fr (ev wd i fr c2) fun wi c3 => putR fr w wa wi c3
  | .fld a f e, fr, cs => onE fr (ev wd e fr cs) fun w c1 => onE fr (ev wd a fr c1) fun wa c2 => fldR wd fr f w wa c2
  | .expr e, fr, cs => onE fr (ev wd e fr cs) fun _ c1 => .nx fr c1
  | .ret e, fr, cs => onE fr (ev wd e fr cs) fun w c1 => .rt w c1
  | .retL z, fr, cs => onE fr (evL wd z fr cs) fun _ c1 => .rt (.loc (c1.length - 1)) c1
  | .retN, _, cs => .rt (.d .non) cs
  | .ife c s t, fr, cs => onE fr (asB (ev wd c fr cs)) fun b1 c1 => if b1 then exS wd n b s fr c1 else exS wd n b t fr c1
  | .loop it tg one s, fr, cs => onE fr (evI wd it fr cs) fun ds c1 => forGo (exS wd n b s) tg one ds fr c1
  | .wh c s, fr, cs => whGo (fun fr cs => asB (ev wd c fr cs)) (exS wd n b s) n fr cs
  | .raise c e, fr, cs => onE fr (ev wd e fr cs) fun w c1 => raiseR wd c w fr c1
  | .hold s ks i j, fr, cs => holdR wd ks i j (exS wd n b s fr cs)
  | .brk, fr, cs => .bk fr cs
  | .cont, fr, cs => .ct fr cs
  | .frz i, fr, cs => frzR b i fr cs
  | .never, _, _ => .bad
  | .nil, fr, cs => .nx fr cs
  | .cons s r, fr, cs => (exS wd n b s fr cs).bind fun fr cs => exS wd n b r fr cs
/-! ### the checker -/
def posL : Expr → Nat
  | .Name _ p => p.line
  | _ => 0
/-- does name = [..] swap: some true, some false, or undecided here -/
def swapB (sc : Scope) (t : Expr) (e : Expr) : Option Bool := match e with
  | .ListComp _ _ scope pos => match t with
    | .Name y py => if decide (sc.kind = .function) then some (decide (sc.names.lookup y = some .local) && (py.line == pos.line) && !(scope.names.any fun (n, k) => n == y && (k == .local || k == .cell))) else none
    | _ => none
  | .SetComp _ _ _ _ => none
  | .DictComp _ _ _ _ _ => none
  | _ => some false
def chkL (wd : Ws) (N : List Str) (sc : Scope) (z : L) (e : Expr) : Bool := chk wd N sc z.e e
def swL (sc : Scope) (z : L) (t v : Expr) : Bool := match z with
  | .lc _ _ _ _ _ _ => (swapB sc t v).isSome
  | _ => !isComp v
def parN (N : List Str) (sc : Scope) (line : Nat) : List Nat → List Expr → Bool
  | [], [] => true
  | i :: is, .Name x p :: es => decide (N[i]? = some x) && decide (sc.names.lookup x = some .local) && (p.line == line) && parN N sc line is es
  | _, _ => false
/-- one of the names is shared with a lambda -/
def cellT (sc : Scope) (ts : List Expr) : Bool := match ts with
  | [.Name x _, .Name y _] => decide (sc.names.lookup x = some .cell) || decide (sc.names.lookup y = some .cell)
  | _ => false
def chkPar (N : List Str) (sc : Scope) (is : List Nat) (ts vs : List Expr) : Bool :=
  decide (is.length = ts.length) && decide (ts.length = vs.length) && decide (is.Nodup) && parN N sc ((ts.head?.map (·.pos.line)).getD 0) is ts && decide (sc.kind = .function) && !(vs.all (foldedForSure 8)) && !(vs.all (constantsAlone 8))
def raiseP : Stmt → Option (Str × Expr)
  | .Raise (some (.Call (.Name x _) [a] [] _)) none _ => some (x, a)
  | _ => none
def tryP : Stmt → Option (List Stmt × Expr × Str × Str × Str × Pos)
  | .Try body [.ExceptHandler (some te) (some n) [.Assign [.Name v pv] (.Name n' _) _] _] [] [] _ => some (body, te, n, n', v, pv)
  | _ => none
theorem raiseP_some {st : Stmt} {x : Str} {a : Expr} (h : raiseP st = some (x, a)) : ∃ q pos pp, st = .Raise (some (.Call (.Name x q) [a] [] pos)) none pp := by
  unfold raiseP at h
  split at h
  · cases h; exact ⟨_, _, _, rfl⟩
  · cases h
theorem tryP_some {st : Stmt} {body : List Stmt} {te : Expr} {n n' v : Str} {pv : Pos} (h : tryP st = some (body, te, n, n', v, pv)) : ∃ pm pa ph pp, st = .Try body [.ExceptHandler (some te) (some n) [.Assign [.Name v pv] (.Name n' pm) pa] ph] [] [] pp := by
  unfold tryP at h
  split at h
  · cases h; exact ⟨_, _, _, _, rfl⟩
  · cases h
mutual
def chkS (wd : Ws) (N : List Str) (sc : Scope) : S → Stmt → Bool
  | .nop, .Pass _ => true
  | .nop, .Expr (.Constant (.str _) _ _) _ => true
  | .set i e, .Assign [t] v _ => chkNm N sc true i t && !isComp v && chk wd N sc e v
  | .setL i z, .Assign [t] v _ => chkNm N sc true i t && swL sc z t v && chkL wd N sc z v
  | .setT is e, .Assign [.Tuple ts k p] v _ => chkTg N sc true is false (.Tuple ts k p) && !isComp v && (!isTupE v || cellT sc ts) && chk wd N sc e v
  | .par is as, .Assign [.Tuple ts _ _] (.Tuple vs _ _) _ => (ts.length == 2 || ts.length == 3) && chkPar N sc is ts vs && chkA wd N sc as vs
  | .put a i e, .Assign [.Subscript o j _] v _ => notSliceB j && !isComp v && chk wd N sc e v && chk wd N sc a o && chk wd N sc i j
  | .fld a f e, .Assign [.Attribute o x _] v _ => decide (f = x) && !isComp v && chk wd N sc e v && chk wd N sc a o
  | .expr e, .Expr v _ => !isComp v && chk wd N sc e v
  | .ret e, .Return (some v) _ => chk wd N sc e v
  | .retL z, .Return (some v) _ => chkL wd N sc z v
  | .retN, .Return none _ => true
  | .ife c a b, .If t x y _ => tOK c && chk wd N sc c t && chkSs wd N sc a x && chkSs wd N sc b y
  | .loop it tg one b, .For t i x [] _ => chkI wd N sc it i t && chkTg N sc true tg one t && chkSs wd N sc b x
  | .wh c b, .While t x [] _ => tOK c && chk wd N sc c t && chkSs wd N sc b x
  | .raise c e, st => (match raiseP st with
      | some (x, a) => (match wd.exk c with | some (y, _) => decide (y = x) | none => false) && glB sc x && nodbg x && notSt a && chk wd N sc e a
      | none => false)
  | .hold s ks i j, st => (match tryP st with
      | some (body, te, n, n', v, pv) => decide (i ≠ j) && decide (n' = n) && decide (N[i]? = some n) && decide (sc.names.lookup n = some .local) && nodbg n && chkNm N sc true j (.Name v pv) && chkTe wd sc ks te && chkSs wd N sc s body
      | none => false)
  | .brk, .Break _ => true
  | .cont, .Continue _ => true
  | .never, _ => true
  | _, _ => false
def chkSs (wd : Ws) (N : List Str) (sc : Scope) : S → List Stmt → Bool
  | .nil, [] => true
  | .cons (.frz _) r, ss => chkSs wd N sc r ss
  | .never, _ => true
  | .cons s r, st :: ss => chkS wd N sc s st && chkSs wd N sc r ss
  | _, _ => false
end
/-! ### the base of a def's run -/
structure Bs where
  ra0 : Ra
  H0 : Hp
  F : Hp
def BOk (B : Bs) (ra : Ra) (H : Hp) : Prop := Same B.F (frz H ra) ∧ ∃ ext, ra = B.ra0 ++ ext ∧ Keep B.ra0 B.H0 H ∧ ∀ a, some a ∈ ext → B.H0 a = none
theorem Keep.over {ra ext : Ra} {H0 H H' : Hp} (a : Keep ra H0 H) (k : Keep (ra ++ ext) H H') (h3 : ∀ a, some a ∈ ext → H0 a = none) : Keep ra H0 H' := fun x o e n => by
  obtain ⟨o1, h1, e1⟩ := a x o e n
  obtain ⟨o2, h2, e2⟩ := k x o1 h1 fun z => by
    rcases List.mem_append.mp z with z | z
    · exact n z
    · rw [h3 x z] at e; cases e
  exact ⟨o2, h2, fun t => by rw [e2 (by rw [e1 t]; exact t), e1 t]⟩
theorem BOk.keep {B : Bs} {ra : Ra} {H H' : Hp} (k : Keep ra H H') (b : BOk B ra H) : BOk B ra H' := by
  obtain ⟨h1, ext, rfl, h2, h3⟩ := b
  exact ⟨fun x o e => k.same x o (h1 x o e), ext, rfl, h2.over k h3, h3⟩
theorem BOk.push {B : Bs} {ra : Ra} {H H' : Hp} {a : Addr} (k : Keep ra H H') (hn : H a = none) (b : BOk B ra H) (fresh : B.H0 a = none ∨ some a ∉ B.ra0) : BOk B (ra ++ [some a]) H' := by
  obtain ⟨h1, ext, rfl, h2, h3⟩ := b
  have ha : B.H0 a = none := by
    rcases fresh with f | f
    · exact f
    · cases e : B.H0 a with
      | none => rfl
      | some o =>
        obtain ⟨o', q, _⟩ := h2 a o e f
        rw [hn] at q; cases q
  refine ⟨fun x o e => ?_, ext ++ [some a], by rw [List.append_assoc], h2.over k h3, fun x hx => ?_⟩
  · have e1 := h1 x o e
    have e2 := k.same x o e1
    have hxa : x ≠ a := fun z => by
      have := frz_same _ _ _ _ e1
      rw [z, hn] at this; cases this
    obtain ⟨n2, e3, t2⟩ := frz_some e2
    refine frz_at e3 (fun z => ?_) t2
    rcases List.mem_append.mp z with z | z
    · exact n2 z
    · exact hxa (Option.some.inj (List.mem_singleton.mp z))
  · rcases List.mem_append.mp hx with z | z
    · exact h3 x z
    · rw [Option.some.inj (List.mem_singleton.mp z)]; exact ha
def PostS (g : G) (Wx : WX) (B : Bs) (r : RS) (D : Ends) : Prop := match r with
  | .nx fr cs => ∀ ra H σ, BOk B ra H → Rel g ra cs H → FrR g H ra fr σ → D.nx σ H
  | .bk fr cs => ∀ ra H σ, BOk B ra H → Rel g ra cs H → FrR g H ra fr σ → D.bk σ H
  | .ct fr cs => ∀ ra H σ, BOk B ra H → Rel g ra cs H → FrR g H ra fr σ → D.ct σ H
  | .rt w cs => ∀ ra H v, BOk B ra H → Rel g ra cs H → RepW g (frz H ra) ra w v → D.rt v H
  | .ex c x fr cs => ∀ ra H σ dd v, BOk B ra H → Rel g ra cs H → FrR g H ra fr σ → H dd = some (.xd [(g.efld c, v)]) → Rep g (frz H ra) x v → Wx (.ref (g.ca c)) (some dd) σ H
  | .bad => False
def tS (g : G) (Wx : WX) (b : Nat) (f : Fra → Cells → RS) : TS := fun D σ H => ∃ B fr cs ra, B.ra0.length = b ∧ BOk B ra H ∧ Rel g ra cs H ∧ FrR g H ra fr σ ∧ PostS g Wx B (f fr cs) D
section
variable {g : G} {wd : Wd} {N : List Str} {sc : Scope} {ac : Bool} {k n b : Nat} {X : Cx} {Wx : WX} {B : Bs} {D : Ends}
theorem PostS.bind {r : RS} {f : Fra → Cells → RS} (hb : B.ra0.length = b) (h : PostS g Wx B (r.bind f) D) : PostS g Wx B r { D with nx := fun σ H => tS g Wx b f D σ H } := by
  cases r with
  | nx fr cs => exact fun ra H σ bk R Fr => ⟨B, fr, cs, ra, hb, bk, R, Fr, h⟩
  | _ => exact h
theorem tS_seq {f h : Fra → Cells → RS} {D : Ends} {σ : L2.St} {H : Hp} (q : tS g Wx b (fun fr cs => (f fr cs).bind h) D σ H) : tSeq (tS g Wx b f) (tS g Wx b h) D σ H := by
  obtain ⟨B, fr, cs, ra, hb, bk, R, Fr, p⟩ := q
  exact ⟨B, fr, cs, ra, hb, bk, R, Fr, p.bind hb⟩
theorem onE_post {α β : Type} {rp : Hp → α → β → Prop} {r : R α} {f : α → Cells → RS} {fr : Fra} {ra : Ra} {H : Hp} {σ : L2.St} (bk : BOk B ra H) (Fr : FrR g H ra fr σ) (h : PostS g Wx B (onE fr r f) D) :
    PostR g rp r ra H (fun v H1 => ∃ a cs1, Keep ra H H1 ∧ BOk B ra H1 ∧ Rel g ra cs1 H1 ∧ FrR g H1 ra fr σ ∧ rp H1 a v ∧ PostS g Wx B (f a cs1) D) (fun c d H' => Wx c d σ H') := by
  cases r with
  | ok a cs => exact fun H1 v k1 R1 p => ⟨a, cs, k1, bk.keep k1, R1, Fr.mono k1, p, h⟩
  | exc c x cs => exact fun H1 dd v k1 R1 p q => h ra H1 σ dd v (bk.keep k1) R1 (Fr.mono k1) p q
  | bad => exact h
theorem onL_post {r : R Unit} {f : Unit → Cells → RS} {fr : Fra} {ra : Ra} {H : Hp} {σ : L2.St} (bk : BOk B ra H) (Fr : FrR g H ra fr σ) (h : PostS g Wx B (onE fr r f) D) :
    PostL g r ra H (fun v H1 => ∃ a cs1, v = .ref a ∧ BOk B (ra ++ [some a]) H1 ∧ Rel g (ra ++ [some a]) cs1 H1 ∧ FrR g H1 (ra ++ [some a]) fr σ ∧ PostS g Wx B (f () cs1) D) (fun c d H' => Wx c d σ H') := by
  cases r with
  | ok u cs =>
    intro H1 a k1 hn R1
    have hna : some a ∉ ra := last_new R1
    have sm : Same (frz H ra) (frz H1 (ra ++ [some a])) := fun x o e => by
      have e2 := k1.same x o e
      obtain ⟨n2, e3, t2⟩ := frz_some e2
      refine frz_at e3 (fun z => ?_) t2
      rcases List.mem_append.mp z with z | z
      · exact n2 z
      · have := frz_same _ _ _ _ e
        rw [Option.some.inj (List.mem_singleton.mp z), hn] at this; cases this
    refine ⟨a, cs, rfl, bk.push k1 hn (.inr fun z => ?_), R1, Fr.lift sm fun n x hx => ra_app hx, h⟩
    obtain ⟨_, ext, rfl, _⟩ := bk
    exact hna (List.mem_append_left _ z)
  | exc c x cs => exact fun H1 dd v k1 R1 p q => h ra H1 σ dd v (bk.keep k1) R1 (Fr.mono k1) p q
  | bad => exact h
theorem PostS.loop {r : RS} {f : Fra → Cells → RS} {F1 : Hp} (hs : Same B.F F1) (h : PostS g Wx B (r.loop f) D) :
    PostS g Wx { B with F := F1 } r { D with nx := fun σ H => ∃ fr cs ra, BOk { B with F := F1 } ra H ∧ Rel g ra cs H ∧ FrR g H ra fr σ ∧ PostS g Wx B (f fr cs) D, ct := fun σ H => ∃ fr cs ra, BOk { B with F := F1 } ra H ∧ Rel g ra cs H ∧ FrR g H ra fr σ ∧ PostS g Wx B (f fr cs) D, bk := D.nx } := by
  have dn : ∀ {ra : Ra} {H : Hp}, BOk { B with F := F1 } ra H → BOk B ra H := fun {ra H} b => ⟨fun x o e => b.1 x o (hs x o e), b.2⟩
  cases r with
  | nx fr cs => exact fun ra H σ bk R Fr => ⟨fr, cs, ra, bk, R, Fr, h⟩
  | ct fr cs => exact fun ra H σ bk R Fr => ⟨fr, cs, ra, bk, R, Fr, h⟩
  | bk fr cs => exact fun ra H σ bk R Fr => h ra H σ (dn bk) R Fr
  | rt w cs => exact fun ra H v bk R rr => h ra H v (dn bk) R rr
  | ex c x fr cs => exact fun ra H σ dd v bk R Fr e r => h ra H σ dd v (dn bk) R Fr e r
  | bad => exact h
end
end BV

namespace BV
open PySem L2

section
variable {g : G} {wd : Wd} {N : List Str} {sc : Scope} {ac : Bool} {k n b : Nat} {X : Cx} {Wx : WX} {B : Bs} {D : Ends} {fa fb fc : Fra → Cells → R W} {fl : Fra → Cells → R (List W)} {fu : Fra → Cells → R Unit} {l r e v t : Expr} {es : List Expr} {p : Pos}
theorem c_L (F : Fx g wd k) {z : L} (ok : Okx g N sc ac k X Wx) (h : chkL wd N sc z e = true) : PE X e (tL g Wx (evL wd z)) := by
  unfold chkL L.e at h
  cases z with
  | lst as =>
    dsimp only at h
    cases e <;> simp only [chk, Bool.and_eq_true, Bool.or_eq_true, decide_eq_true_eq, Bool.false_eq_true, Bool.not_eq_true', and_false, false_and] at h
    exact PE.eqL (fun fr cs => rfl) (c_lstL ((snd F as).a ok h).1)
  | lc elt it conds tg one own =>
    dsimp only at h
    cases e <;> first | (simp [chk] at h; done) | skip
    rename_i ee gens scope pp
    match gens, h with
    | [⟨te, ie, ifs, 0⟩], h =>
      simp only [chk, Bool.and_eq_true, decide_eq_true_eq, List.all_eq_true] at h
      obtain ⟨⟨⟨⟨⟨⟨⟨h1, h2⟩, h3⟩, h4⟩, h5⟩, h6⟩, h7⟩, h8⟩ := h
      exact PE.eqL (fun fr cs => rfl) (c_lcL (fe := ev wd elt) (ft := fun fr cs => asB (evAnd wd conds fr cs)) ok ((snd F it).i ok h1).1 ((snd F it).i ok h1).2 (by rw [← F.lams]; exact h2) (fun X' ok' => c_tg ok' h7) (fun X' ok' => (snd F conds).ts h4 ok' h6 h3) (fun X' ok' => (snd F elt).ex_ ok' h5) (fun i hi => List.contains_iff_mem.mp (h8 i hi)))
  | ofl a =>
    dsimp only at h
    cases e <;> first | (simp [chk] at h; done) | skip
    rename_i fe es kws pp
    cases fe <;> first | (simp [chk] at h; done) | skip
    rename_i x pn
    cases kws with
    | cons _ _ => simp [chk] at h
    | nil =>
      simp only [chk, Bool.and_eq_true, decide_eq_true_eq] at h
      obtain ⟨⟨⟨⟨rfl, hg⟩, hd⟩, hne⟩, hA⟩ := h
      cases es with
      | nil => simp at hne
      | cons y ys =>
        obtain ⟨a1, a2, _⟩ := (snd F (.cons a .nil)).a ok hA
        exact PE.eqL (fun fr cs => rfl) (c_oflL ok F hg a2 a1)
  | call f q as ks =>
    dsimp only at h
    cases e <;> first | (simp [chk] at h; done) | skip
    rename_i fe es kws pp
    cases fe <;> first | (simp [chk] at h; done) | skip
    rename_i x pn
    simp only [chk, Bool.and_eq_true, decide_eq_true_eq] at h
    obtain ⟨⟨⟨hx, hg⟩, hd⟩, h⟩ := h
    split at h
    · rename_i n nms pm hp
      simp only [Bool.and_eq_true, decide_eq_true_eq] at h
      obtain ⟨⟨⟨hn, hk⟩, h5⟩, h6⟩ := h
      have iha := snd F as
      have ihk := snd F ks
      cases es with
      | nil =>
        cases as <;> first | (simp [chkA] at h5; done) | skip
        cases n with
        | succ n => cases hn
        | zero => exact PE.eqL (fun fr cs => by simp only [evL, evCallL, evA]) (c_call0L ok F hx hg hd hp hk (ihk.kw ok h6).1 (ihk.kw ok h6).2)
      | cons y ys => exact PE.eqL (fun fr cs => rfl) (c_callL ok F hx hg hd hp hn hk (iha.a ok h5).2.1 (iha.a ok h5).1 (ihk.kw ok h6).1 (iha.a ok h5).2.2 (ihk.kw ok h6).2)
    · cases h
theorem swap_no {v : Expr} {t : Option Expr} {l : Nat} {env : Env} (h : isComp v = false) : swapsWith v t l env = pure false := by
  cases v <;> first | rfl | cases h
theorem swapB_ok {t e : Expr} {l : Nat} {env : Env} {b : Bool} (hs : env.scope = sc) (h : swapB sc t e = some b) : swapsWith e (some t) l env = pure b := by
  unfold swapB at h
  split at h
  · split at h
    · split at h
      · rename_i hk
        have hk := of_decide_eq_true hk
        cases h
        have hb : env.blockKind = .function := by unfold Env.blockKind; rw [hs, hk]; rfl
        unfold swapsWith
        simp only [hb, Env.kindOf, hs, Expr.pos]
        congr 2
        simp
        congr 1
        exact Bool.eq_iff_iff.2 (by simp)
      · cases h
    · cases h
  · cases h
  · cases h
  · cases h
    rename_i h1 h2 h3
    cases e <;> first | rfl | (exact absurd rfl (h1 _ _ _ _)) | (exact absurd rfl (h2 _ _ _ _)) | (exact absurd rfl (h3 _ _ _ _ _))
theorem ps_nm {i : Nat} {te : TE} (ok : Okx g N sc true k X Wx) (h : chkNm N sc true i t = true) (hv : PE X v te) (hs : swapsWith v (some t) p.line X.env = pure false) : PS X (.Assign [t] v p) (tAsg te (gName i)) := by
  have hg := pg_nm ok h
  cases t <;> first | (simp [chkNm] at h; done) | skip
  exact ps_asg hv hg hs rfl rfl
theorem r_set {i : Nat} {D : Ends} {σ : L2.St} {H : Hp} (q : tS g Wx b (fun fr cs => onE fr (fa fr cs) fun w c1 => .nx (fr.set i (some w)) c1) D σ H) : tAsg (tE g Wx fa) (gName i) D σ H := by
  obtain ⟨B, fr, cs, ra, hb, bk, R, Fr, p⟩ := q
  refine ⟨fr, cs, ra, R, Fr, PostR.imp (onE_post (rp := rpW g ra) bk Fr p) ?_⟩
  rintro x H1 ⟨w, c1, k1, bk1, R1, F1, r1, p1⟩
  exact p1 ra H1 _ bk1 R1 (F1.set r1)
theorem rel_last {ra : Ra} {a : Addr} {cs : Cells} {H : Hp} (R : Rel g (ra ++ [some a]) cs H) : RepW g (frz H (ra ++ [some a])) (ra ++ [some a]) (.loc (cs.length - 1)) (.ref a) := by
  refine ⟨a, rfl, ?_⟩
  have := R.len
  rw [← this]
  simp
theorem r_setL {i : Nat} {D : Ends} {σ : L2.St} {H : Hp} (q : tS g Wx b (fun fr cs => onE fr (fu fr cs) fun _ c1 => .nx (fr.set i (some (.loc (c1.length - 1)))) c1) D σ H) : tAsg (tL g Wx fu) (gName i) D σ H := by
  obtain ⟨B, fr, cs, ra, hb, bk, R, Fr, p⟩ := q
  refine ⟨fr, cs, ra, R, Fr, PostL.imp (onL_post bk Fr p) ?_⟩
  rintro x H1 ⟨a, c1, rfl, bk1, R1, F1, p1⟩
  exact p1 _ H1 _ bk1 R1 (F1.set (rel_last R1))
theorem r_ret {D : Ends} {σ : L2.St} {H : Hp} (q : tS g Wx b (fun fr cs => onE fr (fa fr cs) fun w c1 => .rt w c1) D σ H) : tRet (tE g Wx fa) D σ H := by
  obtain ⟨B, fr, cs, ra, hb, bk, R, Fr, p⟩ := q
  refine ⟨fr, cs, ra, R, Fr, PostR.imp (onE_post (rp := rpW g ra) bk Fr p) ?_⟩
  rintro x H1 ⟨w, c1, k1, bk1, R1, F1, r1, p1⟩
  exact p1 ra H1 _ bk1 R1 r1
theorem r_retL {D : Ends} {σ : L2.St} {H : Hp} (q : tS g Wx b (fun fr cs => onE fr (fu fr cs) fun _ c1 => .rt (.loc (c1.length - 1)) c1) D σ H) : tRet (tL g Wx fu) D σ H := by
  obtain ⟨B, fr, cs, ra, hb, bk, R, Fr, p⟩ := q
  refine ⟨fr, cs, ra, R, Fr, PostL.imp (onL_post bk Fr p) ?_⟩
  rintro x H1 ⟨a, c1, rfl, bk1, R1, F1, p1⟩
  exact p1 _ H1 _ bk1 R1 (rel_last R1)
theorem r_expr {D : Ends} {σ : L2.St} {H : Hp} (q : tS g Wx b (fun fr cs => onE fr (fa fr cs) fun w c1 => .nx fr c1) D σ H) : tDrop (tE g Wx fa) D σ H := by
  obtain ⟨B, fr, cs, ra, hb, bk, R, Fr, p⟩ := q
  refine ⟨fr, cs, ra, R, Fr, PostR.imp (onE_post (rp := rpW g ra) bk Fr p) ?_⟩
  rintro x H1 ⟨w, c1, k1, bk1, R1, F1, r1, p1⟩
  exact p1 ra H1 _ bk1 R1 F1
theorem r_setT {is : List Nat} {D : Ends} {σ : L2.St} {H : Hp} (q : tS g Wx b (fun fr cs => onE fr (fa fr cs) fun w c1 => match w with
    | .d d => match setTg is false d fr with
      | some fr1 => .nx fr1 c1
      | none => .bad
    | _ => .bad) D σ H) : tAsg (tE g Wx fa) (tG g is false) D σ H := by
  obtain ⟨B, fr, cs, ra, hb, bk, R, Fr, p⟩ := q
  refine ⟨fr, cs, ra, R, Fr, PostR.imp (onE_post (rp := rpW g ra) bk Fr p) ?_⟩
  rintro x H1 ⟨w, c1, k1, bk1, R1, F1, r1, p1⟩
  try dsimp only at p1
  split at p1
  · rename_i d
    split at p1
    · rename_i fr1 e1
      exact ⟨fr, d, ra, fr1, F1, r1, e1, fun σ1 F2 _ => p1 ra H1 σ1 bk1 R1 F2⟩
    · exact p1.elim
  · exact p1.elim
theorem FrR.setWs {ra : Ra} {H : Hp} : ∀ {is : List Nat} {ws : List W} {vs : List V} {fr : Fra} {σ : L2.St}, FrR g H ra fr σ → RepWs g (frz H ra) ra ws vs → FrR g H ra (setWs fr (is.zip ws)) ((is.zip vs).foldl (fun σ p => σ.set p.1 (some p.2)) σ)
  | [], _, _, _, _, F, _ => by simpa [BV.setWs] using F
  | i :: is, [], [], _, _, F, _ => by simpa [BV.setWs] using F
  | i :: is, w :: ws, v :: vs, fr, σ, F, .cons h t => by
    have := FrR.setWs (is := is) (F.set (i := i) h) t
    simpa [BV.setWs] using this
theorem plain_asub {o i : Expr} {pos : Pos} {env : Env} (h : notSliceB i = true) : ∀ v, assign (.Subscript o i pos) env v = (do
      let ov ← holding [v] (eval o env)
      let iv ← holding [v, ov] (eval i env)
      standAt pos
      holding [v, ov, iv] (setItem ov iv v)
      release [v, ov, iv] []) := by
  intro v
  cases i <;> first | rfl | cases h
theorem r_put {D : Ends} {σ : L2.St} {H : Hp} (q : tS g Wx b (fun fr cs => onE fr (fa fr cs) fun w c1 => onE fr (fb fr c1) fun wa c2 => onE fr (fc fr c2) fun wi c3 => putR fr w wa wi c3) D σ H) : tAsg (tE g Wx fa) (gSub (tE g Wx fb) (tE g Wx fc) rSetL) D σ H := by
  obtain ⟨B, fr, cs, ra, hb, bk, R, Fr, p⟩ := q
  refine ⟨fr, cs, ra, R, Fr, PostR.imp (onE_post (rp := rpW g ra) bk Fr p) ?_⟩
  rintro x H1 ⟨w, c1, k1, bk1, R1, F1, r1, p1⟩
  refine ⟨fr, c1, ra, R1, F1, PostR.imp (onE_post (rp := rpW g ra) bk1 F1 p1) ?_⟩
  rintro y H2 ⟨wa, c2, k2, bk2, R2, F2, r2, p2⟩
  refine ⟨fr, c2, ra, R2, F2, PostR.imp (onE_post (rp := rpW g ra) bk2 F2 p2) ?_⟩
  rintro z H3 ⟨wi, c3, k3, bk3, R3, F3, r3, p3⟩
  have r1' := (r1.mono k2.same).mono k3.same
  have r2' := r2.mono k3.same
  unfold putR at p3
  split at p3
  · rename_i d nn j
    obtain ⟨a, rfl, ha⟩ := r2'
    cases r3
    split at p3
    · rename_i xs hx
      split at p3
      · rename_i m hm
        have hc : c3[nn]? = some (some (.lst xs)) := by
          unfold celL at hx
          split at hx
          · rename_i ys hy; cases hx; exact hy
          · cases hx
        obtain ⟨a', ha', vs, h3, h4⟩ := R3.cell _ _ hc
        rw [ha] at ha'; cases ha'
        obtain ⟨k6, R6⟩ := R3.put (o := .lst (vs.set m x)) (c' := .lst (xs.set m d)) ha ⟨_, upd_same, h4.set r1' m⟩
        refine ⟨a, vs, j, m, rfl, rfl, h3, by rw [← h4.length]; exact hm, ?_⟩
        exact p3 ra _ σ (bk3.keep k6) R6 (F3.mono k6)
      · exact p3.elim
    · exact p3.elim
  · exact p3.elim
theorem r_fld {f : Str} {D : Ends} {σ : L2.St} {H : Hp} (F : Fx g wd k) (ok : Okx g N sc ac k X Wx) (q : tS g Wx b (fun fr cs => onE fr (fa fr cs) fun w c1 => onE fr (fb fr c1) fun wa c2 => fldR wd fr f w wa c2) D σ H) : sFld X.K (tE g Wx fb) (tE g Wx fa) f D σ H := by
  obtain ⟨B, fr, cs, ra, hb, bk, R, Fr, p⟩ := q
  refine ⟨fr, cs, ra, R, Fr, PostR.imp (onE_post (rp := rpW g ra) bk Fr p) ?_⟩
  rintro x H1 ⟨w, c1, k1, bk1, R1, F1, r1, p1⟩
  refine ⟨fr, c1, ra, R1, F1, PostR.imp (onE_post (rp := rpW g ra) bk1 F1 p1) ?_⟩
  rintro y H2 ⟨wa, c2, k2, bk2, R2, F2, r2, p2⟩
  have r1' := r1.mono k2.same
  unfold fldR at p2
  split at p2
  · rename_i d nn
    obtain ⟨a, rfl, ha⟩ := r2
    split at p2
    · rename_i c fs hc
      split at p2
      · rename_i hk
        simp only [Bool.and_eq_true, decide_eq_true_eq] at hk
        obtain ⟨h5, h6⟩ := F.fld _ _ hk.1
        obtain ⟨a', ha', dx, vs, h3, h4⟩ := R2.cell _ _ hc
        rw [ha] at ha'; cases ha'
        obtain ⟨k6, R6⟩ := R2.put (o := .ins (g.ca c) dx (putF f x vs)) (c' := .ins c (putD f d fs)) ha ⟨_, _, upd_same, RepF.put r1' h4⟩
        refine ⟨a, g.ca c, dx, vs, rfl, h3, by rw [ok.K]; exact h5, by rw [ok.K]; exact h6, by rw [← h4.length]; exact hk.2, ?_⟩
        exact p2 ra _ σ (bk2.keep k6) R6 (F2.mono k6)
      · exact p2.elim
    · exact p2.elim
  · exact p2.elim
theorem r_if {fg : Fra → Cells → R Bool} {f h : Fra → Cells → RS} {D : Ends} {σ : L2.St} {H : Hp} (q : tS g Wx b (fun fr cs => onE fr (fg fr cs) fun b1 c1 => if b1 then f fr c1 else h fr c1) D σ H) : tIfS (tT g Wx fg) (tS g Wx b f) (tS g Wx b h) D σ H := by
  obtain ⟨B, fr, cs, ra, hb, bk, R, Fr, p⟩ := q
  refine ⟨fr, cs, ra, R, Fr, PostR.imp (onE_post (rp := fun _ (a b : Bool) => a = b) bk Fr p) ?_⟩
  rintro x H1 ⟨w, c1, k1, bk1, R1, F1, rfl, p1⟩
  try dsimp only at p1
  cases w with
  | true => exact ⟨B, fr, c1, ra, hb, bk1, R1, F1, p1⟩
  | false => exact ⟨B, fr, c1, ra, hb, bk1, R1, F1, p1⟩
theorem r_wh {fg : Fra → Cells → R Bool} {f : Fra → Cells → RS} {D : Ends} {σ : L2.St} {H : Hp} (q : tS g Wx b (fun fr cs => whGo fg f n fr cs) D σ H) : tWhile (tT g Wx fg) (tS g Wx b f) D σ H := by
  obtain ⟨B, fr, cs, ra, hb, bk, R, Fr, p⟩ := q
  refine ⟨fun m σ H => ∃ fr cs ra, BOk B ra H ∧ Rel g ra cs H ∧ FrR g H ra fr σ ∧ PostS g Wx B (whGo fg f m fr cs) D, ⟨n, fr, cs, ra, bk, R, Fr, p⟩, ?_⟩
  rintro m σ H ⟨fr, cs, ra, bk, R, Fr, p⟩
  cases m with
  | zero => exact p.elim
  | succ m =>
    rw [whGo] at p
    refine ⟨fr, cs, ra, R, Fr, PostR.imp (onE_post (rp := fun _ (a b : Bool) => a = b) bk Fr p) ?_⟩
    rintro x H1 ⟨w, c1, k1, bk1, R1, F1, rfl, p1⟩
    try dsimp only at p1
    cases w with
    | true =>
      have p2 := PostS.loop (F1 := B.F) (fun _ _ e => e) p1
      exact ⟨_, fun σ' H' h => ⟨m, Nat.lt_succ_self m, h⟩, B, fr, c1, ra, hb, bk1, R1, F1, p2⟩
    | false => exact p1 ra H1 σ bk1 R1 F1
theorem r_for {fi : Fra → Cells → R (List BV.D)} {f : Fra → Cells → RS} {tg : List Nat} {one : Bool} {D : Ends} {σ : L2.St} {H : Hp} (q : tS g Wx b (fun fr cs => onE fr (fi fr cs) fun ds c1 => forGo f tg one ds fr c1) D σ H) :
    tFor (tI g Wx fi) (tG g tg one) (tS g Wx b f) D σ H := by
  obtain ⟨B, fr, cs, ra, hb, bk, R, Fr, p⟩ := q
  refine ⟨fr, cs, ra, R, Fr, PostR.imp (onE_post (rp := fun H1 ds J => WalksD g (frz H1 ra) J ds) bk Fr p) ?_⟩
  rintro J H1 ⟨ds, c1, k1, bk1, R1, F1, wk, p1⟩
  have hs : Same B.F (frz H1 ra) := bk1.1
  refine ⟨fun i m σ H => m = ds.length - i ∧ i ≤ ds.length ∧ ∃ fr cs ra', BOk { B with F := frz H1 ra } ra' H ∧ Rel g ra' cs H ∧ FrR g H ra' fr σ ∧ PostS g Wx B (forGo f tg one (ds.drop i) fr cs) D,
    ⟨ds.length, rfl, Nat.zero_le _, fr, c1, ra, ⟨fun _ _ e => e, bk1.2⟩, R1, F1, p1⟩, ?_⟩
  rintro i m σ2 H2 ⟨rfl, hle, fr2, cs2, ra2, bk2, R2, F2, post⟩
  have sm : Same (frz H1 ra) H2 := fun b o e => frz_same _ _ _ _ (bk2.1 b o e)
  obtain ⟨w1, w2⟩ := wk H2 sm
  by_cases hlt : i < ds.length
  · have hd : ds[i]? = some ds[i] := List.getElem?_eq_getElem hlt
    obtain ⟨go, yld⟩ := w1 i _ hd
    have ed : ds.drop i = ds[i] :: ds.drop (i + 1) := List.drop_eq_getElem_cons hlt
    rw [ed] at post
    generalize ds[i] = d at post yld hd
    rw [forGo] at post
    split at post
    · exact post.elim
    · rename_i fr3 e3
      have p2 := PostS.loop hs post
      refine .inr ⟨go, _, fun σ' H' h => ⟨ds.length - (i + 1), by omega, rfl, hlt, h⟩, fun x H3 hy => ?_⟩
      obtain ⟨s3, rep3⟩ := yld x H3 hy
      have R3 := R2.same s3
      have bk3 := bk2.keep (Same.keep s3)
      have F3 := F2.mono (Same.keep s3)
      have rd : Rep g (frz H3 ra2) d x := rep3 _ bk3.1 fun b o e1 e2 t => frz_at e2 (R2.fresh e1) t
      exact ⟨fr2, d, ra2, fr3, F3, rd, e3, fun σ4 F4 _ => ⟨{ B with F := frz H1 ra }, fr3, cs2, ra2, hb, bk3, R3, F4, p2⟩⟩
  · have ei : i = ds.length := by omega
    subst ei
    rw [List.drop_length] at post
    exact .inl ⟨w2, post ra2 H2 σ2 ⟨fun x o e => bk2.1 x o (hs x o e), bk2.2⟩ R2 F2⟩
theorem frzR_inv {i : Nat} {fr : Fra} {cs : Cells} : frzR b i fr cs = .bad ∨ frzR b i fr cs = .nx fr cs ∨ ∃ nn xs, b ≤ nn ∧ cs[nn]? = some (some (.lst xs)) ∧ frzR b i fr cs = .nx (fr.map (frzW nn xs)) (cs.set nn none) := by
  unfold frzR
  split
  · rename_i nn e
    split
    · rename_i hle
      split
      · rename_i xs hx
        refine .inr (.inr ⟨nn, xs, hle, ?_, rfl⟩)
        unfold celL at hx
        split at hx
        · rename_i ys hy; cases hx; exact hy
        · cases hx
      · exact .inl rfl
    · exact .inl rfl
  · exact .inr (.inl rfl)
  · exact .inl rfl
theorem r_frz {i : Nat} {h : Fra → Cells → RS} {D : Ends} {σ : L2.St} {H : Hp} (q : tS g Wx b (fun fr cs => (frzR b i fr cs).bind h) D σ H) : tS g Wx b h D σ H := by
  obtain ⟨B, fr, cs, ra, hb, bk, R, Fr, p⟩ := q
  dsimp only at p
  rcases frzR_inv (b := b) (i := i) (fr := fr) (cs := cs) with e0 | e0 | ⟨nn, xs, hle, hc, e0⟩
  · rw [e0] at p; exact p.elim
  · rw [e0] at p; exact ⟨B, fr, cs, ra, hb, bk, R, Fr, p⟩
  · rw [e0] at p
    · · skip
        obtain ⟨a, ha, vs, h3, h4⟩ := R.cell _ _ hc
        obtain ⟨h1, ext, rfl, h5, h6⟩ := bk
        have hlt : nn < (B.ra0 ++ ext).length := (List.getElem?_eq_some_iff.mp ha).1
        have hset : (B.ra0 ++ ext).set nn none = B.ra0 ++ ext.set (nn - b) none := by
          rw [List.set_append]
          rw [hb, if_neg (by omega)]
        have mem' : ∀ {x : Addr}, some x ∈ (B.ra0 ++ ext).set nn none → some x ∈ B.ra0 ++ ext := fun {x} z => by
          rcases List.mem_or_eq_of_mem_set z with z | z
          · exact z
          · cases z
        have sm : Same (frz H (B.ra0 ++ ext)) (frz H ((B.ra0 ++ ext).set nn none)) := frz_sub fun x z => mem' z
        have hna : some a ∉ (B.ra0 ++ ext).set nn none := fun z => by
          obtain ⟨m, hm⟩ := mem_ra z
          by_cases hmn : m = nn
          · subst hmn
            rw [List.getElem?_set_self hlt] at hm
            cases hm
          · rw [List.getElem?_set_ne (Ne.symm hmn)] at hm
            exact hmn (R.inj _ _ _ hm ha)
        have keepn : ∀ {m : Nat} {x : Addr}, m ≠ nn → (B.ra0 ++ ext)[m]? = some (some x) → ((B.ra0 ++ ext).set nn none)[m]? = some (some x) := fun {m x} hm hx => by
          rw [List.getElem?_set_ne (Ne.symm hm)]; exact hx
        have csl : nn < cs.length := by rw [← R.len]; exact hlt
        refine ⟨B, _, _, (B.ra0 ++ ext).set nn none, hb, ⟨fun x o e => sm x o (h1 x o e), ext.set (nn - b) none, hset, h5, fun x hx => ?_⟩, ⟨?_, fun m c e2 => ?_, fun m e2 => ?_, fun m1 m2 x e1 e2 => ?_, R.tabs⟩, ⟨?_, fun j w e2 => ?_⟩, p⟩
        · rcases List.mem_or_eq_of_mem_set hx with z | z
          · exact h6 x z
          · cases z
        · rw [List.length_set, List.length_set]; exact R.len
        · by_cases hm : m = nn
          · subst hm
            rw [List.getElem?_set_self csl] at e2
            cases e2
          · rw [List.getElem?_set_ne (Ne.symm hm)] at e2
            obtain ⟨x, hx, hcx⟩ := R.cell _ _ e2
            exact ⟨x, keepn hm hx, hcx.mono sm rfl⟩
        · by_cases hm : m = nn
          · subst hm
            rw [List.getElem?_set_self hlt]
          · rw [List.getElem?_set_ne (Ne.symm hm)] at e2
            rw [List.getElem?_set_ne (Ne.symm hm)]
            exact R.dead _ e2
        · have g1 : ∀ {m : Nat}, ((B.ra0 ++ ext).set nn none)[m]? = some (some x) → (B.ra0 ++ ext)[m]? = some (some x) := fun {m} z => by
            by_cases hm : m = nn
            · subst hm
              rw [List.getElem?_set_self hlt] at z
              cases z
            · rwa [List.getElem?_set_ne (Ne.symm hm)] at z
          exact R.inj _ _ _ (g1 e1) (g1 e2)
        · rw [List.length_map]; exact Fr.1
        · rw [List.getElem?_map] at e2
          cases e3 : fr[j]? with
          | none => rw [e3] at e2; cases e2
          | some ow =>
            rw [e3] at e2
            cases ow with
            | none => cases e2
            | some w0 =>
              obtain ⟨v, hv, hr⟩ := Fr.2 _ _ e3
              refine ⟨v, hv, ?_⟩
              cases w0 with
              | d d => cases e2; exact Rep.mono sm hr
              | loc m =>
                obtain ⟨x, rfl, hx⟩ := hr
                by_cases hm : m = nn
                · subst hm
                  rw [ha] at hx; cases hx
                  have e4 : w = .d (.lst xs) := by
                    have : frzW m xs (some (.loc m)) = some w := Option.some.inj e2
                    simp only [frzW, if_pos] at this
                    exact (Option.some.inj this).symm
                  subst e4
                  exact Rep.lst (frz_at h3 hna) (h4.mono sm)
                · have e4 : w = .loc m := by
                    have : frzW nn xs (some (.loc m)) = some w := Option.some.inj e2
                    simp only [frzW, if_neg hm] at this
                    exact (Option.some.inj this).symm
                  subst e4
                  exact ⟨x, rfl, keepn hm hx⟩
end
end BV

namespace BV
open PySem L2

section
variable {g : G} {wd : Wd} {N : List Str} {sc : Scope} {ac : Bool} {k n b : Nat} {X : Cx} {Wx : WX} {B : Bs} {D : Ends} {fl : Fra → Cells → R (List W)} {l r e v t : Expr} {es : List Expr} {p : Pos}
theorem len2 {α : Type} {l : List α} (h : l.length = 2) : ∃ a b, l = [a, b] := by
  match l, h with
  | [a, b], _ => exact ⟨a, b, rfl⟩
theorem len3 {α : Type} {l : List α} (h : l.length = 3) : ∃ a b c, l = [a, b, c] := by
  match l, h with
  | [a, b, c], _ => exact ⟨a, b, c, rfl⟩
theorem fnN {i j : Nat} {x y : Str} (hN : N.Nodup) (hi : N[i]? = some x) (hj : N[j]? = some y) (hij : i ≠ j) : x ≠ y := fun e => by
  subst e
  exact hij ((List.getElem?_inj (List.getElem?_eq_some_iff.mp hi).1 hN).mp (hi.trans hj.symm))
theorem sw2 {x y : Str} {px py pt pv : Pos} {a b : Expr} {kt kv : Nat} {env : Env} (hs : env.scope = sc) (hk : sc.kind = .function) (hx : sc.names.lookup x = some .local) (hy : sc.names.lookup y = some .local) (hl : (py.line == px.line) = true) (hxy : x ≠ y)
    (na : notSt a = true) (nb : notSt b = true) (h1 : ([a, b].all (foldedForSure 8)) = false) (h2 : ([a, b].all (constantsAlone 8)) = false) :
    swappedStores [.Tuple [.Name x px, .Name y py] kt pt] (.Tuple [a, b] kv pv) env = pure (some [x, y]) := by
  have hb : env.blockKind = .function := by unfold Env.blockKind; rw [hs, hk]; rfl
  have hst : ([a, b].any fun | .Starred .. => true | _ => false) = false := by
    cases a <;> first | (cases na; done) | (cases b <;> first | (cases nb; done) | rfl)
  have k1 : env.kindOf x = some .local := by rw [← hx, ← hs]; rfl
  have k2 : env.kindOf y = some .local := by rw [← hy, ← hs]; rfl
  unfold swappedStores
  simp only [hb, h1, h2, List.filterMap_cons, List.filterMap_nil, k1, k2, List.head?_cons, Option.map_some, Option.getD_some, Expr.pos, hl]
  have e1 : ([x, y].eraseDups) = [x, y] := by
    simp [List.eraseDups_cons, Ne.symm hxy]
  simp [e1]
  intro h
  exfalso
  rcases h with h | h
  · cases a <;> first | (cases na; done) | cases h
  · cases b <;> first | (cases nb; done) | cases h
theorem sw3 {x y z : Str} {px py pz pt pv : Pos} {a b c : Expr} {kt kv : Nat} {env : Env} (hs : env.scope = sc) (hk : sc.kind = .function) (hx : sc.names.lookup x = some .local) (hy : sc.names.lookup y = some .local) (hz : sc.names.lookup z = some .local) (hl : (py.line == px.line) = true) (hl2 : (pz.line == px.line) = true) (hxy : x ≠ y) (hxz : x ≠ z) (hyz : y ≠ z)
    (na : notSt a = true) (nb : notSt b = true) (nc : notSt c = true) (h1 : ([a, b, c].all (foldedForSure 8)) = false) (h2 : ([a, b, c].all (constantsAlone 8)) = false) :
    swappedStores [.Tuple [.Name x px, .Name y py, .Name z pz] kt pt] (.Tuple [a, b, c] kv pv) env = pure (some [x, y, z]) := by
  have hb : env.blockKind = .function := by unfold Env.blockKind; rw [hs, hk]; rfl
  have hst : ([a, b, c].any fun | .Starred .. => true | _ => false) = false := by
    rw [List.any_eq_false]
    intro w hw
    have : notSt w = true := by
      rcases List.mem_cons.mp hw with rfl | hw
      · exact na
      · rcases List.mem_cons.mp hw with rfl | hw
        · exact nb
        · rw [List.mem_singleton.mp hw]; exact nc
    cases w <;> first | (cases this; done) | simp
  have k1 : env.kindOf x = some .local := by rw [← hx, ← hs]; rfl
  have k2 : env.kindOf y = some .local := by rw [← hy, ← hs]; rfl
  have k3 : env.kindOf z = some .local := by rw [← hz, ← hs]; rfl
  unfold swappedStores
  simp only [hb, h1, h2, List.filterMap_cons, List.filterMap_nil, k1, k2, k3, List.head?_cons, Option.map_some, Option.getD_some, Expr.pos, hl, hl2]
  have e1 : ([x, y, z].eraseDups) = [x, y, z] := by
    simp [List.eraseDups_cons, Ne.symm hxy, Ne.symm hxz, Ne.symm hyz]
  simp [e1]
  intro h
  exfalso
  rcases h with h | h | h
  · cases a <;> first | (cases na; done) | cases h
  · cases b <;> first | (cases nb; done) | cases h
  · cases c <;> first | (cases nc; done) | cases h
theorem r_par2 {i j : Nat} {D : Ends} {σ : L2.St} {H : Hp} (hl : ∀ fr cs ws c, fl fr cs = .ok ws c → ws.length = 2) (q : tS g Wx b (fun fr cs => onE fr (fl fr cs) fun ws c1 => .nx (setWs fr ([i, j].zip ws)) c1) D σ H) : tPar i j (tA g Wx fl) D σ H := by
  obtain ⟨B, fr, cs, ra, hb, bk, R, Fr, p⟩ := q
  have h2 : PostR g (fun H' a v => rpA g ra H' a v ∧ a.length = 2) (fl fr cs) ra H (fun vs H1 => ∃ v w, vs = [v, w] ∧ D.nx ((σ.set i (some v)).set j (some w)) H1) (fun c d H' => Wx c d σ H') := by
    refine PostR.imp (onE_post (rp := fun H' a v => rpA g ra H' a v ∧ a.length = 2) bk Fr p) ?_
    rintro x H1 ⟨ws, c1, k1, bk1, R1, F1, ⟨r1, hl1⟩, p1⟩
    match ws, x, r1, hl1 with
    | [w1, w2], [v1, v2], .cons a (.cons b .nil), _ =>
      exact ⟨v1, v2, rfl, p1 ra H1 _ bk1 R1 ((F1.set a).set b)⟩
  refine ⟨fr, cs, ra, R, Fr, ?_⟩
  cases e : fl fr cs with
  | ok a c => rw [e] at h2; exact fun H' v k' R' r' => h2 H' v k' R' ⟨r', hl _ _ _ _ e⟩
  | exc c x cs => rw [e] at h2; exact h2
  | bad => rw [e] at h2; exact h2
theorem r_par3 {i j m : Nat} {D : Ends} {σ : L2.St} {H : Hp} (hl : ∀ fr cs ws c, fl fr cs = .ok ws c → ws.length = 3) (q : tS g Wx b (fun fr cs => onE fr (fl fr cs) fun ws c1 => .nx (setWs fr ([i, j, m].zip ws)) c1) D σ H) : tPar3 i j m (tA g Wx fl) D σ H := by
  obtain ⟨B, fr, cs, ra, hb, bk, R, Fr, p⟩ := q
  have h2 : PostR g (fun H' a v => rpA g ra H' a v ∧ a.length = 3) (fl fr cs) ra H (fun vs H1 => ∃ u v w, vs = [u, v, w] ∧ D.nx (((σ.set i (some u)).set j (some v)).set m (some w)) H1) (fun c d H' => Wx c d σ H') := by
    refine PostR.imp (onE_post (rp := fun H' a v => rpA g ra H' a v ∧ a.length = 3) bk Fr p) ?_
    rintro x H1 ⟨ws, c1, k1, bk1, R1, F1, ⟨r1, hl1⟩, p1⟩
    match ws, x, r1, hl1 with
    | [w1, w2, w3], [v1, v2, v3], .cons a (.cons b (.cons c .nil)), _ =>
      exact ⟨v1, v2, v3, rfl, p1 ra H1 _ bk1 R1 (((F1.set a).set b).set c)⟩
  refine ⟨fr, cs, ra, R, Fr, ?_⟩
  cases e : fl fr cs with
  | ok a c => rw [e] at h2; exact fun H' v k' R' r' => h2 H' v k' R' ⟨r', hl _ _ _ _ e⟩
  | exc c x cs => rw [e] at h2; exact h2
  | bad => rw [e] at h2; exact h2
theorem sw_cell {ts : List Expr} {v : Expr} {kt : Nat} {pt : Pos} {env : Env} (h : cellT env.scope ts = true) : swappedStores [.Tuple ts kt pt] v env = pure none := by
  unfold cellT at h
  split at h
  · rename_i x px y py
    rw [Bool.or_eq_true, decide_eq_true_eq, decide_eq_true_eq] at h
    unfold swappedStores Env.kindOf
    cases v <;> first | rfl | skip
    rcases h with h | h
    all_goals
      simp only [List.filterMap_cons, List.filterMap_nil, h]
      repeat' split
      all_goals first | rfl | simp_all
  · cases h
theorem parN_cons {line i : Nat} {is : List Nat} {t : Expr} {ts : List Expr} (h : parN N sc line (i :: is) (t :: ts) = true) : ∃ x p, t = .Name x p ∧ N[i]? = some x ∧ sc.names.lookup x = some .local ∧ (p.line == line) = true ∧ parN N sc line is ts = true := by
  cases t <;> first | (simp [parN] at h; done) | skip
  simp only [parN, Bool.and_eq_true, decide_eq_true_eq] at h
  obtain ⟨⟨⟨h1, h2⟩, h3⟩, h4⟩ := h
  exact ⟨_, _, rfl, h1, h2, h3, h4⟩
theorem ps_raiseX {c : Nat} {x : Str} {e : E} {a : Expr} {q pos pp : Pos} (F : Fx g wd k) (ok : Okx g N sc true k X Wx) (h1 : (match wd.exk c with | some (y, _) => decide (y = x) | none => false) = true) (h2 : glB sc x = true) (h3 : nodbg x = true) (h4 : notSt a = true) (ha : PE X a (tE g Wx (ev wd e))) :
    PS X (.Raise (some (.Call (.Name x q) [a] [] pos)) none pp) (tS g Wx b (exS wd n b (.raise c e))) := by
  obtain ⟨p, hx⟩ : ∃ p, wd.exk c = some (x, p) := by
    split at h1
    · rename_i y p e
      cases of_decide_eq_true h1
      exact ⟨p, e⟩
    · cases h1
  obtain ⟨e0, gC, kC, M, tyC, C, noP⟩ := F.exk _ _ _ hx
  subst e0
  have M' : MkX X.prog X.w X.K X.mg (g.ca c) (g.efld c) := by rw [ok.P, ok.w, ok.K, ok.mg]; exact M
  have s1 := star_of (es := []) (env := X.env) h4
  unfold nodbg at h3
  simp only [Bool.and_eq_true, Bool.not_eq_true'] at h3
  refine PS.imp (ps_raise ok.calm ok.tk (pmk_exc M' (by rw [ok.K]; exact kC) (by rw [ok.mg]; exact gC) (by rw [ok.K]; exact C.hs) (by rw [ok.K]; exact tyC) ok.hr (pa_cons ha pa_nil s1) (gl_of ok h2) h3.1 s1 (by rfl))) fun D σ H q => ?_
  obtain ⟨B, fr, cs, ra, hb, bk, R, Fr, p⟩ := q
  rw [exS] at p
  refine ⟨fr, cs, ra, R, Fr, PostR.imp (onE_post (rp := rpW g ra) bk Fr p) ?_⟩
  rintro v H1 ⟨w, c1, k1, bk1, R1, F1, r1, p1⟩
  refine ⟨v, rfl, fun d hd => ?_⟩
  unfold raiseR at p1
  split at p1
  · rename_i dd _ _
    obtain ⟨k2, R2, f2⟩ := R1.new (o := .xd [(g.efld c, v)]) hd
    exact p1 ra _ σ d v (bk1.keep k2) R2 (F1.mono k2) upd_same (Rep.mono k2.same r1)
  · exact p1.elim
theorem ps_holdX {s : S} {ks : List Nat} {i j : Nat} {body : List Stmt} {te : Expr} {n' v : Str} {pv pm pa ph pp : Pos} (F : Fx g wd k) (ok : Okx g N sc true k X Wx) (hij : i ≠ j) (hi : N[i]? = some n') (hl : sc.names.lookup n' = some .local) (hd : nodbg n' = true) (hj : chkNm N sc true j (.Name v pv) = true) (ht : chkTe wd sc ks te = true)
    (hbody : ∀ {X' : Cx} {Wx' : WX}, Okx g N sc true k X' Wx' → PassesOwn (model X'.prog X'.w) X'.A X'.env X'.xe → PSs X' body (tS g Wx' b (exS wd n b s))) :
    PS X (.Try body [.ExceptHandler (some te) (some n') [.Assign [.Name v pv] (.Name n' pm) pa] ph] [] [] pp) (tS g Wx b (exS wd n b (.hold s ks i j))) := by
  obtain ⟨hs, hf, hex⟩ := ok.top rfl
  have hl' : X.env.scope.names.lookup n' = some .local := by rw [ok.sc]; exact hl
  simp only [chkNm, Bool.and_eq_true, decide_eq_true_eq] at hj
  have hlv := loc_of ok hj.2
  unfold nodbg at hd
  simp only [Bool.and_eq_true, Bool.not_eq_true'] at hd
  refine PS.imp (ps_try_hold (tb := fun W => tS g W b (exS wd n b s)) (i := i) (j := j) (Wout := Wx) hs hf (by rw [ok.hN]; exact ok.nd) (by rw [ok.hN]; exact hi) hl' (testOk F ok ht) ok.tk (fun W pn xe tk po => hbody (X' := X.tr pn xe) ⟨ok.P, ok.w, ok.K, ok.mg, ok.base, ok.hN, ok.nd, ok.calm, ok.sc, ok.fn, ok.hr, tk, ok.gd, ok.lam, ok.top⟩ po) (fun a pn => ?_) hex) fun D σ H q => ?_
  · refine PSs.imp (pss_one (ps_asg (pe_var (i := i) (by show X.N[i]? = _; rw [ok.hN]; exact hi) (.inl hl') hd.1 hd.2) (pg_name (i := j) (by show X.N.Nodup; rw [ok.hN]; exact ok.nd) (by show X.N[j]? = _; rw [ok.hN]; exact hj.1) hlv.1 hlv.2) rfl rfl rfl)) fun D σ H q => q
  · obtain ⟨B, fr, cs, ra, hb, bk, R, Fr, p⟩ := q
    refine ⟨B, fr, cs, ra, hb, bk, R, Fr, ?_⟩
    rw [exS] at p
    cases e : exS wd n b s fr cs with
    | ex c x fr1 c1 =>
      rw [e] at p
      intro ra1 H1 σ1 dd v1 bk1 R1 F1 hx rx
      simp only [holdR] at p
      split at p
      · rename_i em
        refine ⟨true, by rw [ok.K]; exact F.exm _ _ _ em, fun _ a ha => ?_, fun z => by cases z⟩
        have nt : noTbl (ExcV (.ref (g.ca c)) (some dd) a) := fun _ z => by unfold ExcV at z; cases z
        obtain ⟨k2, R2, f2⟩ := R1.new (o := ExcV (.ref (g.ca c)) (some dd) a) ha nt
        refine p ra1 _ _ (bk1.keep k2) R2 ?_
        have F2 := F1.mono k2
        have hdd : frz (upd H1 a (ExcV (.ref (g.ca c)) (some dd) a)) ra1 dd = some (.xd [(g.efld c, v1)]) := by
          refine frz_at (k2.at hx ?_) ?_
          all_goals
            intro z
            obtain ⟨m, hm⟩ := mem_ra z
            obtain ⟨c0, _, q⟩ := R1.back hm
            rcases q.kind with ⟨vs, q⟩ | ⟨c0, dx, vs, q⟩ <;> rw [hx] at q <;> cases q
        refine ⟨by rw [List.length_set, List.length_set, List.length_set, List.length_set, List.length_set]; exact F2.1, fun m w hm => ?_⟩
        by_cases hmj : m = j
        · subst hmj
          have hlt : m < (fr1.set i none).length := by
            have := (List.getElem?_eq_some_iff.mp hm).1
            rwa [List.length_set] at this
          rw [List.getElem?_set_self hlt] at hm
          cases hm
          rw [List.length_set, F2.1] at hlt
          refine ⟨.ref a, ?_, .exc f2 hdd (Rep.mono k2.same rx)⟩
          rw [List.getElem?_set_ne hij, List.getElem?_set_self (by rw [List.length_set]; exact hlt)]
        · rw [List.getElem?_set_ne (Ne.symm hmj)] at hm
          by_cases hmi : m = i
          · subst hmi
            rw [List.getElem?_set] at hm
            simp at hm
          · rw [List.getElem?_set_ne (Ne.symm hmi)] at hm
            obtain ⟨v2, q1, q2⟩ := F2.2 m w hm
            refine ⟨v2, ?_, q2⟩
            rw [List.getElem?_set_ne (Ne.symm hmi), List.getElem?_set_ne (Ne.symm hmj), List.getElem?_set_ne (Ne.symm hmi)]
            exact q1
      · rename_i em
        exact ⟨false, by rw [ok.K]; exact F.exm _ _ _ em, fun z _ _ => Bool.noConfusion z, fun _ => p ra1 H1 σ1 dd v1 bk1 R1 F1 hx rx⟩
      · exact p.elim
    | nx fr1 c1 => rw [e] at p; exact p
    | rt w c1 => rw [e] at p; exact p
    | bk fr1 c1 => rw [e] at p; exact p
    | ct fr1 c1 => rw [e] at p; exact p
    | bad => rw [e] at p; exact p
structure SndS (g : G) (wd : Wd) (k n b : Nat) (z : S) : Prop where
  s : ∀ {N sc X Wx}, Okx g N sc true k X Wx → PassesOwn (model X.prog X.w) X.A X.env X.xe → ∀ st, chkS wd N sc z st = true → PS X st (tS g Wx b (exS wd n b z))
  l : ∀ {N sc X Wx}, Okx g N sc true k X Wx → PassesOwn (model X.prog X.w) X.A X.env X.xe → ∀ sts, chkSs wd N sc z sts = true → PSs X sts (tS g Wx b (exS wd n b z))
theorem SndS.of {z : S} (hs : ∀ {N sc X Wx}, Okx g N sc true k X Wx → PassesOwn (model X.prog X.w) X.A X.env X.xe → ∀ st, chkS wd N sc z st = true → PS X st (tS g Wx b (exS wd n b z)))
    (hl : ∀ N sc sts, chkSs wd N sc z sts = false) : SndS g wd k n b z := ⟨hs, fun _ _ _ h => by rw [hl] at h; cases h⟩
theorem tS_eq {f h : Fra → Cells → RS} {D : Ends} {σ : L2.St} {H : Hp} (e : ∀ fr cs, f fr cs = h fr cs) (q : tS g Wx b f D σ H) : tS g Wx b h D σ H := by
  have : f = h := funext fun a => funext fun b => e a b
  rw [← this]
  exact q
theorem sndS (F : Fx g wd k) : ∀ z : S, SndS g wd k n b z := by
  intro z
  induction z with
  | nop =>
    refine SndS.of (fun {N sc X Wx} ok hp st h => ?_) (fun _ _ sts => by cases sts <;> rfl)
    have go : ∀ D σ H, tS g Wx b (exS wd n b .nop) D σ H → tNext D σ H := fun D σ H ⟨B, fr, cs, ra, hb, bk, R, Fr, p⟩ => p ra H σ bk R Fr
    cases st <;> first | (simp [chkS] at h; done) | skip
    · rename_i e p
      cases e <;> first | (simp [chkS] at h; done) | skip
      rename_i c _ _
      cases c <;> first | (simp [chkS] at h; done) | skip
      exact PS.imp ps_doc go
    · exact PS.imp ps_pass go
  | set i e =>
    refine SndS.of (fun {N sc X Wx} ok hp st h => ?_) (fun _ _ sts => by cases sts <;> rfl)
    cases st <;> first | (simp [chkS] at h; done) | skip
    rename_i ts v p
    match ts, h with
    | [t], h =>
      simp only [chkS, Bool.and_eq_true, Bool.not_eq_true'] at h
      exact PS.imp (ps_nm ok h.1.1 ((snd F e).ex_ ok h.2) (swap_no h.1.2)) fun D σ H q => r_set (tS_eq (fun fr cs => by rw [exS]) q)
  | setL i z =>
    refine SndS.of (fun {N sc X Wx} ok hp st h => ?_) (fun _ _ sts => by cases sts <;> rfl)
    cases st <;> first | (simp [chkS] at h; done) | skip
    rename_i ts v p
    match ts, h with
    | [], h => simp [chkS] at h
    | _ :: _ :: _, h => simp [chkS] at h
    | [t], h =>
      have go : ∀ D σ H, tS g Wx b (exS wd n b (.setL i z)) D σ H → tAsg (tL g Wx (evL wd z)) (gName i) D σ H := fun D σ H q => r_setL (tS_eq (fun fr cs => by rw [exS]) q)
      simp only [chkS, Bool.and_eq_true] at h
      obtain ⟨⟨h1, h2⟩, h3⟩ := h
      cases z with
      | lc elt it conds tg one own =>
        simp only [swL, Option.isSome_iff_exists] at h2
        obtain ⟨bb, h2⟩ := h2
        have hsw := swapB_ok (l := p.line) ok.sc h2
        cases bb with
        | false => exact PS.imp (ps_nm ok h1 (c_L F ok h3) hsw) go
        | true =>
          cases t <;> first | (simp [chkNm] at h1; done) | skip
          rename_i y py
          simp only [chkL, L.e] at h3
          cases v <;> first | (simp [chk] at h3; done) | skip
          rename_i ee gens scope pp
          match gens, h3 with
          | [⟨te, ie, ifs, 0⟩], h3 =>
            simp only [chk, Bool.and_eq_true, decide_eq_true_eq, List.all_eq_true] at h3
            obtain ⟨⟨⟨⟨⟨⟨⟨g1, g2⟩, g3⟩, g4⟩, g5⟩, g6⟩, g7⟩, g8⟩ := h3
            simp only [chkNm, Bool.and_eq_true, decide_eq_true_eq] at h1
            have hyl : sc.names.lookup y = some .local := by
              unfold swapB at h2
              dsimp only at h2
              split at h2
              · have := Option.some.inj h2
                simp only [Bool.and_eq_true, decide_eq_true_eq] at this
                exact this.1.1
              · cases h2
            exact PS.imp (c_setLc (fe := ev wd elt) (ft := fun fr cs => asB (evAnd wd conds fr cs)) ok ((snd F it).i ok g1).1 ((snd F it).i ok g1).2 (by rw [← F.lams]; exact g2) (fun X' ok' => c_tg ok' g7) (fun X' ok' => (snd F conds).ts g4 ok' g6 g3) (fun X' ok' => (snd F elt).ex_ ok' g5) h1.1 hyl hsw (fun i hi => List.contains_iff_mem.mp (g8 i hi))) go
      | lst as =>
        simp only [swL, Bool.not_eq_true'] at h2
        exact PS.imp (ps_nm ok h1 (c_L F ok h3) (swap_no h2)) go
      | ofl a =>
        simp only [swL, Bool.not_eq_true'] at h2
        exact PS.imp (ps_nm ok h1 (c_L F ok h3) (swap_no h2)) go
      | call f q as ks =>
        simp only [swL, Bool.not_eq_true'] at h2
        exact PS.imp (ps_nm ok h1 (c_L F ok h3) (swap_no h2)) go
  | setT is e =>
    refine SndS.of (fun {N sc X Wx} ok hp st h => ?_) (fun _ _ sts => by cases sts <;> rfl)
    cases st <;> first | (simp [chkS] at h; done) | skip
    rename_i ts v p
    match ts, h with
    | [.Tuple ts kt pt], h =>
      simp only [chkS, Bool.and_eq_true, Bool.not_eq_true'] at h
      obtain ⟨⟨⟨h1, h2⟩, h3⟩, h4⟩ := h
      rw [Bool.or_eq_true, Bool.not_eq_true', ← ok.sc] at h3
      refine PS.imp (ps_asg ((snd F e).ex_ ok h4) (c_tg ok h1) (by show swapsWith v (some (.Tuple ts kt pt)) p.line X.env = pure false; exact swap_no h2) ?_ rfl) fun D σ H q => r_setT (tS_eq (fun fr cs => by rw [exS] <;> rfl) q)
      rcases h3 with h3 | h3
      · cases v <;> first | rfl | cases h3
      · exact sw_cell h3
  | par is as =>
    refine SndS.of (fun {N sc X Wx} ok hp st h => ?_) (fun _ _ sts => by cases sts <;> rfl)
    cases st <;> first | (simp [chkS] at h; done) | skip
    rename_i ts v p
    obtain ⟨ts, kt, pt, rfl⟩ : ∃ ts' kt pt, ts = [.Tuple ts' kt pt] := by
      match ts, h with
      | [.Tuple ts kt pt], _ => exact ⟨_, _, _, rfl⟩
    obtain ⟨vs, kv, pv, rfl⟩ : ∃ vs kv pv, v = .Tuple vs kv pv := by
      cases v <;> first | (simp [chkS] at h; done) | exact ⟨_, _, _, rfl⟩
    simp only [chkS, chkPar, Bool.and_eq_true, Bool.not_eq_true', Bool.or_eq_true, beq_iff_eq, decide_eq_true_eq] at h
    obtain ⟨⟨hlen, ⟨⟨⟨⟨⟨⟨h1, h2⟩, hnd⟩, hpar⟩, hk⟩, hf⟩, hc⟩⟩, hA⟩ := h
    rcases hlen with hlen | hlen
    · obtain ⟨s, t, rfl⟩ := len2 hlen
      obtain ⟨i, j, rfl⟩ := len2 (h1.trans hlen)
      obtain ⟨a, b', rfl⟩ := len2 (h2.symm.trans hlen)
      obtain ⟨x, px, rfl, hi, hx, _, hpar⟩ := parN_cons hpar
      obtain ⟨y, py, rfl, hj, hy, hl, hpar⟩ := parN_cons hpar
      have hij : i ≠ j := by simp at hnd; exact hnd
      obtain ⟨a1, a2, a3⟩ := (snd F as).a ok hA
      exact PS.imp (ps_par ok.calm (by rw [ok.hN]; exact ok.nd) (by rw [ok.hN]; exact hi) (by rw [ok.hN]; exact hj) hij (by rw [ok.sc]; exact hx) (by rw [ok.sc]; exact hy) a1
        (sw2 ok.sc hk hx hy hl (fnN ok.nd hi hj hij) (a2 _ (by simp)) (a2 _ (by simp)) hf hc) rfl) fun D σ H q => r_par2 a3 (tS_eq (fun fr cs => by rw [exS]) q)
    · obtain ⟨s, t, u, rfl⟩ := len3 hlen
      obtain ⟨i, j, m, rfl⟩ := len3 (h1.trans hlen)
      obtain ⟨a, b', c, rfl⟩ := len3 (h2.symm.trans hlen)
      obtain ⟨x, px, rfl, hi, hx, _, hpar⟩ := parN_cons hpar
      obtain ⟨y, py, rfl, hj, hy, hl, hpar⟩ := parN_cons hpar
      obtain ⟨z, pz, rfl, hm, hz, hl2, hpar⟩ := parN_cons hpar
      simp at hnd
      obtain ⟨⟨hij, him⟩, hjm⟩ := hnd
      obtain ⟨a1, a2, a3⟩ := (snd F as).a ok hA
      exact PS.imp (ps_par3 ok.calm (by rw [ok.hN]; exact ok.nd) (by rw [ok.hN]; exact hi) (by rw [ok.hN]; exact hj) (by rw [ok.hN]; exact hm) hij him hjm (by rw [ok.sc]; exact hx) (by rw [ok.sc]; exact hy) (by rw [ok.sc]; exact hz) a1
        (sw3 ok.sc hk hx hy hz hl hl2 (fnN ok.nd hi hj hij) (fnN ok.nd hi hm him) (fnN ok.nd hj hm hjm) (a2 _ (by simp)) (a2 _ (by simp)) (a2 _ (by simp)) hf hc) rfl) fun D σ H q => r_par3 a3 (tS_eq (fun fr cs => by rw [exS]) q)
  | put a i e =>
    refine SndS.of (fun {N sc X Wx} ok hp st h => ?_) (fun _ _ sts => by cases sts <;> rfl)
    cases st <;> first | (simp [chkS] at h; done) | skip
    rename_i ts v p
    match ts, h with
    | [.Subscript o j ps], h =>
      simp only [chkS, Bool.and_eq_true, Bool.not_eq_true'] at h
      obtain ⟨⟨⟨⟨h1, h2⟩, h3⟩, h4⟩, h5⟩ := h
      refine PS.imp (ps_asg ((snd F e).ex_ ok h3) (pg_sub ((snd F a).ex_ ok h4) ((snd F i).ex_ ok h5) set_list (plain_asub h1)) (by show swapsWith v (some (.Subscript o j ps)) p.line X.env = pure false; exact swap_no h2) ?_ rfl) fun D σ H q => r_put (tS_eq (fun fr cs => by rw [exS]) q)
      cases v <;> rfl
  | fld a f e =>
    refine SndS.of (fun {N sc X Wx} ok hp st h => ?_) (fun _ _ sts => by cases sts <;> rfl)
    cases st <;> first | (simp [chkS] at h; done) | skip
    rename_i ts v p
    match ts, h with
    | [.Attribute o x ps], h =>
      simp only [chkS, Bool.and_eq_true, Bool.not_eq_true', decide_eq_true_eq] at h
      obtain ⟨⟨⟨rfl, h2⟩, h3⟩, h4⟩ := h
      exact PS.imp (ps_fld ((snd F a).ex_ ok h4) ((snd F e).ex_ ok h3) (swap_no h2)) fun D σ H q => r_fld F ok (tS_eq (fun fr cs => by rw [exS]) q)
  | expr e =>
    refine SndS.of (fun {N sc X Wx} ok hp st h => ?_) (fun _ _ sts => by cases sts <;> rfl)
    cases st <;> first | (simp [chkS] at h; done) | skip
    simp only [chkS, Bool.and_eq_true, Bool.not_eq_true'] at h
    exact PS.imp (ps_expr ((snd F e).ex_ ok h.2) (swap_no h.1)) fun D σ H q => r_expr (tS_eq (fun fr cs => by rw [exS]) q)
  | ret e =>
    refine SndS.of (fun {N sc X Wx} ok hp st h => ?_) (fun _ _ sts => by cases sts <;> rfl)
    cases st <;> first | (simp [chkS] at h; done) | skip
    rename_i v p
    cases v with
    | none => simp [chkS] at h
    | some v =>
      simp only [chkS] at h
      exact PS.imp (ps_ret ((snd F e).ex_ ok h)) fun D σ H q => r_ret (tS_eq (fun fr cs => by rw [exS]) q)
  | retL z =>
    refine SndS.of (fun {N sc X Wx} ok hp st h => ?_) (fun _ _ sts => by cases sts <;> rfl)
    cases st <;> first | (simp [chkS] at h; done) | skip
    rename_i v p
    cases v with
    | none => simp [chkS] at h
    | some v =>
      simp only [chkS] at h
      exact PS.imp (ps_ret (c_L F ok h)) fun D σ H q => r_retL (tS_eq (fun fr cs => by rw [exS]) q)
  | retN =>
    refine SndS.of (fun {N sc X Wx} ok hp st h => ?_) (fun _ _ sts => by cases sts <;> rfl)
    cases st <;> first | (simp [chkS] at h; done) | skip
    rename_i v p
    cases v with
    | some v => simp [chkS] at h
    | none => exact PS.imp ps_retN fun D σ H ⟨B, fr, cs, ra, hb, bk, R, Fr, p⟩ => p ra H _ bk R .non
  | ife c a b' iha ihb =>
    refine SndS.of (fun {N sc X Wx} ok hp st h => ?_) (fun _ _ sts => by cases sts <;> rfl)
    cases st <;> first | (simp [chkS] at h; done) | skip
    simp only [chkS, Bool.and_eq_true] at h
    obtain ⟨⟨⟨h1, h2⟩, h3⟩, h4⟩ := h
    exact PS.imp (ps_if ((snd F c).t h1 ok h2) (iha.l ok hp _ h3) (ihb.l ok hp _ h4)) fun D σ H q => r_if (tS_eq (fun fr cs => by rw [exS]) q)
  | loop it tg one s ih =>
    refine SndS.of (fun {N sc X Wx} ok hp st h => ?_) (fun _ _ sts => by cases sts <;> rfl)
    cases st <;> first | (simp [chkS] at h; done) | skip
    rename_i t ie body orelse pp
    cases orelse with
    | cons _ _ => simp [chkS] at h
    | nil =>
      simp only [chkS, Bool.and_eq_true] at h
      obtain ⟨⟨h1, h2⟩, h3⟩ := h
      obtain ⟨i1, i2⟩ := (snd F it).i ok h1
      exact PS.imp (ps_for hp ok.calm i1 (c_tg ok h2) (ih.l ok hp _ h3) (fold_of i2)) fun D σ H q => r_for (tS_eq (fun fr cs => by rw [exS]) q)
  | wh c s ih =>
    refine SndS.of (fun {N sc X Wx} ok hp st h => ?_) (fun _ _ sts => by cases sts <;> rfl)
    cases st <;> first | (simp [chkS] at h; done) | skip
    rename_i t body orelse pp
    cases orelse with
    | cons _ _ => simp [chkS] at h
    | nil =>
      simp only [chkS, Bool.and_eq_true] at h
      obtain ⟨⟨h1, h2⟩, h3⟩ := h
      exact PS.imp (ps_while hp ((snd F c).t h1 ok h2) (ih.l ok hp _ h3)) fun D σ H q => r_wh (n := n) (tS_eq (fun fr cs => by rw [exS]) q)
  | raise c e =>
    refine SndS.of (fun {N sc X Wx} ok hp st h => ?_) (fun _ _ sts => by cases sts <;> rfl)
    simp only [chkS] at h
    split at h
    · rename_i x a e0
      obtain ⟨q, pos, pp, rfl⟩ := raiseP_some e0
      simp only [Bool.and_eq_true] at h
      obtain ⟨⟨⟨⟨h1, h2⟩, h3⟩, h4⟩, h5⟩ := h
      exact ps_raiseX F ok h1 h2 h3 h4 ((snd F e).ex_ ok h5)
    · cases h
  | hold s ks i j ih =>
    refine SndS.of (fun {N sc X Wx} ok hp st h => ?_) (fun _ _ sts => by cases sts <;> rfl)
    simp only [chkS] at h
    split at h
    · rename_i body te n1 n2 v pv e0
      obtain ⟨pm, pa, ph, pp, rfl⟩ := tryP_some e0
      simp only [Bool.and_eq_true, decide_eq_true_eq] at h
      obtain ⟨⟨⟨⟨⟨⟨⟨h1, rfl⟩, h3⟩, h4⟩, h5⟩, h6⟩, h7⟩, h8⟩ := h
      exact ps_holdX F ok h1 h3 h4 h5 h6 h7 fun ok' hp' => ih.l ok' hp' _ h8
    · cases h
  | brk =>
    refine SndS.of (fun {N sc X Wx} ok hp st h => ?_) (fun _ _ sts => by cases sts <;> rfl)
    cases st <;> first | (simp [chkS] at h; done) | skip
    exact PS.imp ps_break fun D σ H ⟨B, fr, cs, ra, hb, bk, R, Fr, p⟩ => p ra H σ bk R Fr
  | cont =>
    refine SndS.of (fun {N sc X Wx} ok hp st h => ?_) (fun _ _ sts => by cases sts <;> rfl)
    cases st <;> first | (simp [chkS] at h; done) | skip
    exact PS.imp ps_continue fun D σ H ⟨B, fr, cs, ra, hb, bk, R, Fr, p⟩ => p ra H σ bk R Fr
  | frz i => exact SndS.of (fun {N sc X Wx} ok hp st h => by cases st <;> simp [chkS] at h) (fun _ _ sts => by cases sts <;> rfl)
  | never => exact ⟨fun {N sc X Wx} ok hp st h => PS.imp ps_never fun D σ H ⟨B, fr, cs, ra, hb, bk, R, Fr, p⟩ => p, fun {N sc X Wx} ok hp st h => PSs.imp pss_never fun D σ H ⟨B, fr, cs, ra, hb, bk, R, Fr, p⟩ => p⟩
  | nil =>
    refine ⟨fun {N sc X Wx} ok hp st h => by cases st <;> simp [chkS] at h, fun {N sc X Wx} ok hp sts h => ?_⟩
    cases sts with
    | cons _ _ => simp [chkSs] at h
    | nil => exact PSs.imp pss_nil fun D σ H ⟨B, fr, cs, ra, hb, bk, R, Fr, p⟩ => p ra H σ bk R Fr
  | cons s r ihs ihr =>
    refine ⟨fun {N sc X Wx} ok hp st h => by cases st <;> simp [chkS] at h, fun {N sc X Wx} ok hp sts h => ?_⟩
    by_cases hf : ∃ i, s = .frz i
    · obtain ⟨i, rfl⟩ := hf
      have h' : chkSs wd N sc r sts = true := by cases sts <;> simpa [chkSs] using h
      exact PSs.imp (ihr.l ok hp _ h') fun D σ H q => r_frz (tS_eq (fun fr cs => by rw [exS, exS]) q)
    · cases sts with
      | nil => cases s <;> first | (simp [chkSs] at h; done) | exact absurd ⟨_, rfl⟩ hf
      | cons st ss =>
        have h' : chkS wd N sc s st = true ∧ chkSs wd N sc r ss = true := by
          cases s <;> first | (exact absurd ⟨_, rfl⟩ hf) | (simpa [chkSs] using h)
        exact PSs.imp (pss_cons (ihs.s ok hp _ h'.1) (ihr.l ok hp _ h'.2)) fun D σ H q => tS_seq (tS_eq (fun fr cs => by rw [exS]) q)
end
end BV

namespace BV
open PySem L2

/-! ### defs -/
def retD (b : Nat) (w : W) (cs : Cells) : R D := match w with
  | .d d => .ok d (cs.take b)
  | .loc n => if b ≤ n then match cs[n]? with
    | some (some (.lst xs)) => .ok (.lst xs) (cs.take b)
    | some (some (.ins c fs)) => .ok (.ins c fs) (cs.take b)
    | _ => .bad
    else .bad
def retL (b : Nat) (w : W) (cs : Cells) : R Unit := match w with
  | .d _ => .bad
  | .loc n => if b ≤ n then match cs[n]? with
    | some (some (.lst xs)) => .ok () (cs.take b ++ [some (.lst xs)])
    | _ => .bad
    else .bad
def startF (nl : Nat) (ws : List W) : Fra := ws.map some ++ List.replicate (nl - ws.length) none
def endD (b : Nat) (r : RS) : R D := match r with
  | .rt w cs => retD b w cs
  | .nx _ cs => .ok .non (cs.take b)
  | .ex c x _ cs => .exc c x (cs.take b)
  | _ => .bad
def endL (b : Nat) (r : RS) : R Unit := match r with
  | .rt w cs => retL b w cs
  | .ex c x _ cs => .exc c x (cs.take b)
  | _ => .bad
def fnRun (wd : Wd) (n : Nat) (s : S) (nl : Nat) (ws : List W) (cs : Cells) : R D := endD cs.length (exS wd n cs.length s (startF nl ws) cs)
def fnRunL (wd : Wd) (n : Nat) (s : S) (nl : Nat) (ws : List W) (cs : Cells) : R Unit := endL cs.length (exS wd n cs.length s (startF nl ws) cs)
section
variable {g : G} {B : Bs} {ra : Ra} {cs : Cells} {H : Hp} {b : Nat}
theorem same_base {ra0 ext : Ra} {H : Hp} : Same (frz H (ra0 ++ ext)) (frz H ra0) := frz_sub fun x z => List.mem_append_left _ z
theorem Rel.base {ra0 ext : Ra} (R : Rel g (ra0 ++ ext) cs H) (hb : ra0.length = b) : Rel g ra0 (cs.take b) H := by
  subst hb
  have hl := R.len
  rw [List.length_append] at hl
  have lt : ∀ {n : Nat} {c : Option Cell}, (cs.take ra0.length)[n]? = some c → n < ra0.length ∧ cs[n]? = some c := fun {n c} e => by
    have h1 : n < ra0.length := by
      have := (List.getElem?_eq_some_iff.mp e).1
      rw [List.length_take] at this
      omega
    rw [List.getElem?_take_of_lt h1] at e
    exact ⟨h1, e⟩
  refine ⟨by rw [List.length_take]; omega, fun n c e => ?_, fun n e => ?_, fun n m a h1 h2 => R.inj n m a ?_ ?_, R.tabs⟩
  · obtain ⟨h1, e⟩ := lt e
    obtain ⟨a, ha, hc⟩ := R.cell n c e
    rw [List.getElem?_append_left h1] at ha
    exact ⟨a, ha, hc.mono same_base rfl⟩
  · obtain ⟨h1, e⟩ := lt e
    have := R.dead n e
    rwa [List.getElem?_append_left h1] at this
  · rw [List.getElem?_append_left (List.getElem?_eq_some_iff.mp h1).1]; exact h1
  · rw [List.getElem?_append_left (List.getElem?_eq_some_iff.mp h2).1]; exact h2
def bs0 (ra : Ra) (H : Hp) : Bs := ⟨ra, H, frz H ra⟩
theorem bs0_ok (ra : Ra) (H : Hp) : BOk (bs0 ra H) ra H := ⟨fun _ _ e => e, [], (List.append_nil _).symm, Keep.refl _ _, fun a h => by cases h⟩
theorem start_ok {N : List Str} {nl : Nat} {ws : List W} {vs : List V} (r : RepWs g (frz H ra) ra ws vs) (hn : N.length = nl) : FrR g H ra (startF nl ws) (start N vs) := by
  have hl := r.length
  refine ⟨?_, fun i w e => ?_⟩
  · unfold startF L2.start
    rw [List.length_append, List.length_append, List.length_map, List.length_map, List.length_replicate, List.length_replicate, hl, hn]
  · unfold startF at e
    by_cases hi : i < ws.length
    · rw [List.getElem?_append_left (by rw [List.length_map]; exact hi), List.getElem?_map] at e
      have e1 : ws[i]? = some w := by
        cases q : ws[i]? with
        | none => rw [q] at e; cases e
        | some w' => rw [q] at e; cases e; rfl
      obtain ⟨v, hv, hr⟩ : ∃ v, vs[i]? = some v ∧ RepW g (frz H ra) ra w v := by
        clear e hl hi
        induction r generalizing i with
        | nil => simp at e1
        | @cons w0 v0 ws vs h t ih =>
          cases i with
          | zero => simp at e1; subst e1; exact ⟨v0, rfl, h⟩
          | succ i => simp at e1; obtain ⟨v, h1, h2⟩ := ih i e1; exact ⟨v, by simpa using h1, h2⟩
      refine ⟨v, ?_, hr⟩
      unfold L2.start
      have hv' : i < vs.length := (List.getElem?_eq_some_iff.mp hv).1
      rw [List.getElem?_append_left (by rw [List.length_map]; exact hv'), List.getElem?_map, hv]
      rfl
    · rw [List.getElem?_append_right (by rw [List.length_map]; omega)] at e
      have := List.mem_of_getElem? e
      rw [List.mem_replicate] at this
      exact absurd this.2 (by simp)
/-- a def's end -/
theorem end_post {r : RS} {Q : VK} {E : XK} {cs : Cells} (R : Rel g ra cs H) (h : PostR g (fun H' d v => Rep g (frz H' ra) d v) (endD cs.length r) ra H Q E) : PostS g (fun c d _ H' => E c d H') (bs0 ra H) r { nx := fun _ H' => Q .non H', rt := Q } := by
  have hb := R.len
  cases r with
  | nx fr c =>
    rintro ra' H' σ ⟨_, ext, rfl, h2, _⟩ R' _
    exact h H' .non h2 (R'.base hb) .non
  | rt w c =>
    rintro ra' H' v ⟨_, ext, rfl, h2, _⟩ R' r'
    change PostR g _ (retD cs.length w c) ra H Q E at h
    unfold retD at h
    split at h
    · exact h H' v h2 (R'.base hb) (Rep.mono same_base r')
    · rename_i n
      obtain ⟨a, rfl, ha⟩ := r'
      split at h
      · rename_i hle
        have hna : ∀ {H : Hp}, some a ∉ ra := fun {_} z => by
          obtain ⟨m, hm⟩ := mem_ra z
          have hml : m < ra.length := (List.getElem?_eq_some_iff.mp hm).1
          have := R'.inj n m a ha (by rw [show (bs0 ra H).ra0 = ra from rfl, List.getElem?_append_left hml]; exact hm)
          omega
        split at h
        · rename_i xs hc
          obtain ⟨a', ha', vs, h3, h4⟩ := R'.cell _ _ hc
          rw [ha] at ha'; cases ha'
          exact h H' _ h2 (R'.base hb) (.lst (frz_at h3 (hna (H := H))) (h4.mono same_base))
        · rename_i c' fs hc
          obtain ⟨a', ha', dx, vs, h3, h4⟩ := R'.cell _ _ hc
          rw [ha] at ha'; cases ha'
          exact h H' _ h2 (R'.base hb) (.ins (frz_at h3 (hna (H := H))) (h4.mono same_base))
        · exact h.elim
      · exact h.elim
  | ex c x fr c2 =>
    rintro ra' H' σ dd v ⟨_, ext, rfl, h2, _⟩ R' _ e r'
    exact h H' dd v h2 (R'.base hb) e (Rep.mono same_base r')
  | bk fr c => exact h.elim
  | ct fr c => exact h.elim
  | bad => exact h.elim
theorem endL_post {r : RS} {Q : VK} {E : XK} {cs : Cells} (R : Rel g ra cs H) (h : PostL g (endL cs.length r) ra H Q E) : PostS g (fun c d _ H' => E c d H') (bs0 ra H) r { nx := fun _ H' => Q .non H', rt := Q } := by
  have hb := R.len
  cases r with
  | nx fr c => exact h.elim
  | rt w c =>
    rintro ra' H' v ⟨_, ext, rfl, h2, h3⟩ R' r'
    change PostL g (retL cs.length w c) ra H Q E at h
    unfold retL at h
    split at h
    · exact h.elim
    · rename_i n
      obtain ⟨a, rfl, ha⟩ := r'
      split at h
      · rename_i hle
        have hna : some a ∉ ra := fun z => by
          obtain ⟨m, hm⟩ := mem_ra z
          have hml : m < ra.length := (List.getElem?_eq_some_iff.mp hm).1
          have := R'.inj n m a ha (by rw [show (bs0 ra H).ra0 = ra from rfl, List.getElem?_append_left hml]; exact hm)
          omega
        split at h
        · rename_i xs hc
          obtain ⟨a', ha', vs, h5, h6⟩ := R'.cell _ _ hc
          rw [ha] at ha'; cases ha'
          have hext : some a ∈ ext := by
            have : some a ∈ ra ++ ext := ra_mem ha
            rcases List.mem_append.mp this with z | z
            · exact absurd z hna
            · exact z
          have hs : Same (frz H' (ra ++ ext)) (frz H' (ra ++ [some a])) := frz_sub fun x z => by
            rcases List.mem_append.mp z with z | z
            · exact List.mem_append_left _ z
            · rw [List.mem_singleton.mp z]; exact List.mem_append_right _ hext
          have Rb : Rel g ra (c.take cs.length) H' := R'.base hb
          refine h H' a h2 (h3 a hext) ⟨by rw [List.length_append, List.length_append, Rb.len]; rfl, fun m c2 e => ?_, fun m e => ?_, fun m1 m2 x e1 e2 => ?_, R'.tabs⟩
          · by_cases hm : m < (c.take cs.length).length
            · rw [List.getElem?_append_left hm] at e
              have hm' : m < ra.length := by rw [Rb.len]; exact hm
              have hlt2 : m < cs.length := by rw [← hb]; exact hm'
              rw [List.getElem?_take_of_lt hlt2] at e
              obtain ⟨x, hx, hcx⟩ := R'.cell _ _ e
              rw [show (bs0 ra H).ra0 = ra from rfl, List.getElem?_append_left hm'] at hx
              exact ⟨x, by rw [List.getElem?_append_left hm']; exact hx, hcx.mono hs rfl⟩
            · rw [List.getElem?_append_right (by omega)] at e
              have hm0 : m - (c.take cs.length).length = 0 := by
                have := (List.getElem?_eq_some_iff.mp e).1
                simp at this
                simp
                omega
              rw [hm0] at e
              cases e
              refine ⟨a, ?_, vs, h5, h6.mono hs⟩
              have hme : m = ra.length := by rw [Rb.len]; omega
              rw [hme]; simp
          · by_cases hm : m < (c.take cs.length).length
            · rw [List.getElem?_append_left hm] at e
              have hm' : m < ra.length := by rw [Rb.len]; exact hm
              rw [List.getElem?_append_left hm']
              exact Rb.dead _ e
            · rw [List.getElem?_append_right (by omega)] at e
              have hm0 : m - (c.take cs.length).length = 0 := by
                have := (List.getElem?_eq_some_iff.mp e).1
                simp at this
                simp
                omega
              rw [hm0] at e
              cases e
          · have g1 : ∀ {m : Nat}, (ra ++ [some a])[m]? = some (some x) → (m < ra.length ∧ ra[m]? = some (some x)) ∨ (m = ra.length ∧ x = a) := fun {m} q => by
              by_cases hm : m < ra.length
              · rw [List.getElem?_append_left hm] at q; exact .inl ⟨hm, q⟩
              · rw [List.getElem?_append_right (by omega)] at q
                have hl := (List.getElem?_eq_some_iff.mp q).1
                simp at hl
                have : m - ra.length = 0 := by omega
                rw [this] at q
                cases q
                exact .inr ⟨by omega, rfl⟩
            rcases g1 e1 with ⟨l1, q1⟩ | ⟨l1, q1⟩ <;> rcases g1 e2 with ⟨l2, q2⟩ | ⟨l2, q2⟩
            · exact Rb.inj _ _ _ q1 q2
            · exact absurd (q2 ▸ ra_mem q1) hna
            · exact absurd (q1 ▸ ra_mem q2) hna
            · omega
        · exact h.elim
      · exact h.elim
  | ex c x fr c2 =>
    rintro ra' H' σ dd v ⟨_, ext, rfl, h2, _⟩ R' _ e r'
    exact h H' dd v h2 (R'.base hb) e (Rep.mono same_base r')
  | bk fr c => exact h.elim
  | ct fr c => exact h.elim
  | bad => exact h.elim
end
/-- a def that is handed a lambda: pre, the slots set to None; tgt, the slot of the lambda's answer; ks, the classes caught; i, the slot of the caught name; j, the slot that keeps it; what follows -/
structure DeedD where
  pre : List Nat
  tgt : Option Nat
  ks : List Nat
  i : Nat
  j : Nat
  rest : S
  nl : Nat
def deedR (tgt : Option Nat) (fr : Fra) : R D → RS
  | .ok d cs => match tgt with
    | some i => .nx (fr.set i (some (.d d))) cs
    | none => .nx fr cs
  | .exc c x cs => .ex c x fr cs
  | .bad => .bad
def preF (nl : Nat) (pre : List Nat) : Fra := pre.foldl (fun fr i => fr.set i (some (.d .non))) (List.replicate nl none)
def fnRunD (wd : Wd) (n : Nat) (d : DeedD) (th : Cells → R D) (cs : Cells) : R D :=
  endD cs.length ((holdR wd d.ks d.i d.j (deedR d.tgt (preF d.nl d.pre) (th cs))).bind fun fr c1 => exS wd n cs.length d.rest fr c1)
def toD (r : R W) : R D := r.bind fun w cs => match w with
  | .d d => .ok d cs
  | _ => .bad
/-! ### a table of defs -/
structure Tab where
  st : Ws
  fn : Nat → Option (S × Nat)
  dn : Nat → Option DeedD
def Tab.wd0 (T : Tab) : Wd := { toWs := T.st, phi := fun _ _ _ => .bad, phl := fun _ _ _ => .bad, phd := fun _ _ _ => .bad, phc := fun _ _ _ => .bad }
def Tab.step (T : Tab) (n : Nat) (wd : Wd) : Wd :=
  { toWs := T.st
    phi := fun f ws cs => match T.fn f with
      | some (s, nl) => fnRun wd n s nl ws cs
      | none => .bad
    phl := fun f ws cs => match T.fn f with
      | some (s, nl) => fnRunL wd n s nl ws cs
      | none => .bad
    phd := fun f th cs => match T.dn f with
      | some d => fnRunD wd n d th cs
      | none => .bad
    phc := fun t fr cs => toD (ev wd t fr cs) }
def Tab.at (T : Tab) (n : Nat) : Nat → Wd
  | 0 => T.wd0
  | j + 1 => T.step n (T.at n j)
theorem Tab.at_st (T : Tab) (n : Nat) : ∀ j, (T.at n j).toWs = T.st
  | 0 => rfl
  | _ + 1 => rfl
/-- what defs do, calls j deep -/
def Tab.phs (T : Tab) (n j : Nat) : (Nat → List W → Cells → R D) × (Nat → List W → Cells → R Unit) := ((T.at n j).phi, (T.at n j).phl)
/-- what is said of the written part, the defs' promises apart -/
structure Fst (g : G) (wd : Ws) : Prop where
  nm : ∀ f x, wd.fnm f = some x → g.mg x = some (.ref (g.fa f)) ∧ PySem.W.keepIn g.K (.ref (g.fa f)) = true
  pat : ∀ f p n ks pm, wd.pat f p = some (n, ks, pm) → (∀ x, Src.d x ∈ pm → (flatV? x).isSome = true) ∧ pm.length = (g.ps f).length ∧ ∃ gg, KBn g.K (g.fd f) (g.ps f) n ks gg fun vs zs => srcV vs zs pm
  npar : ∀ f, wd.npar f = (g.ps f).length
  gd : ∀ x d, wd.gd x = some d → ∃ u v, g.mg x = some u ∧ RelV v u ∧ ∀ F, Rep g F d v
  bi : ∀ b : Bi, g.mg b.name = none
  bx : g.mg "range" = none ∧ g.mg "enumerate" = none ∧ g.mg "zip" = none ∧ g.mg "isinstance" = none
  br : g.mg "repr" = none
  bt : g.mg "int" = none ∧ g.mg "str" = none ∧ g.mg "bool" = none ∧ g.mg "tuple" = none ∧ g.mg "list" = none
  cnm : ∀ c x, wd.cnm c = some x → g.mg x = some (.ref (g.ca c))
  mk_ : ∀ c f, wd.init c = some f → Mk g.K (g.ca c) (g.fa f)
  fld : ∀ c f, wd.fldk c f = true → Cls g.K (g.ca c) ∧ NoAttr g.K (g.ca c) f
  meth : ∀ c m f, wd.meth c m = some f → Cls g.K (g.ca c) ∧ Meth g.K (g.ca c) m (g.fa f) ∧ Binds g.K (g.fd f) (g.ps f) []
  sup : ∀ d c m f, wd.sup d c m = some f → PySem.W.mroIn g.K (g.ca c) (.ref (g.ca d)) = some true ∧ PySem.W.ks_superIn g.K (g.ca c) (g.ca d) m = some (some (.ref (g.fa f))) ∧ PySem.W.typeIn g.K (.ref (g.fa f)) = some (.type "function") ∧ PySem.W.fnIn g.K (g.fa f) = true ∧ Binds g.K (g.fd f) (g.ps f) []
  prop : ∀ c m f, wd.prop c m = some f → Cls g.K (g.ca c) ∧ (∃ p, PropOf g.K (g.ca c) m p (g.fa f)) ∧ (g.ps f).length = 1 ∧ Binds g.K (g.fd f) (g.ps f) []
  kit : ∀ t u b, wd.kit t u = some b → PySem.W.kitOne g.K (tyVal g t) (tyVal g u) = some b
  kitc : ∀ c u b, wd.kit (.c c) u = some b → Cls g.K (g.ca c) ∧ PySem.W.findIn g.K (.ref (g.ca c)) "__class__" = some (some (.builtin "object.__class__")) ∧
    PySem.W.specialIn g.K (.builtin "object.__class__") "__get__" = some (some (.builtin "getset_descriptor.__get__")) ∧ PySem.W.takesIn g.K (.builtin "object.__class__") = some true ∧ PySem.W.mroIn g.K (g.ca c) (.type "object") = some true
  kitx : ∀ c u b, wd.kit (.x c) u = some b → ExcC g.K (g.ca c)
  exk : ∀ c x p, wd.exk c = some (x, p) → p = g.efld c ∧ g.mg x = some (.ref (g.ca c)) ∧ PySem.W.keepIn g.K (.ref (g.ca c)) = true ∧ MkX g.P g.w g.K g.mg (g.ca c) p ∧ PySem.W.typeIn g.K (.ref (g.ca c)) = some (.type "type") ∧ ExcC g.K (g.ca c) ∧ PySem.W.findIn g.K (.ref (g.ca c)) p = some none
  lams : wd.lams = g.lams
  oeq : ∀ c t f, wd.oeq c t = some f → PySem.W.findIn g.K (.ref (g.ca c)) "__eq__" = some (some (.ref (g.fa f))) ∧ PySem.W.isFn g.K (.ref (g.fa f)) = true ∧ Binds g.K (g.fd f) (g.ps f) [] ∧ (g.ps f).length = 2 ∧ PySem.W.notFirst g.K (g.ca c) (tyVal g t) = true
  one : ∀ c t f, wd.one c t = some f → (PySem.W.findIn g.K (.ref (g.ca c)) "__eq__" = some (some (.ref (g.fa f))) ∧ PySem.W.isFn g.K (.ref (g.fa f)) = true ∧ Binds g.K (g.fd f) (g.ps f) [] ∧ (g.ps f).length = 2 ∧ PySem.W.notFirst g.K (g.ca c) (tyVal g t) = true) ∧ PySem.W.findIn g.K (.ref (g.ca c)) "__ne__" = some (some (.builtin "object.__ne__")) ∧ PySem.W.subIn g.K (.ref (g.ca c)) (.type "object") = some true
  oin : ∀ c f, wd.oin c = some f → PySem.W.findIn g.K (.ref (g.ca c)) "__contains__" = some (some (.ref (g.fa f))) ∧ PySem.W.isFn g.K (.ref (g.fa f)) = true ∧ Binds g.K (g.fd f) (g.ps f) [] ∧ (g.ps f).length = 2
  exm : ∀ ks c b, wd.exm ks c = some b → PySem.W.exmAny g.K (.ref (g.ca c)) (ks.map fun k => .ref (g.ca k)) = some b
/-- what is said of each def's text -/
structure FnT (g : G) (T : Tab) (f : Nat) (s : S) (nl : Nat) : Prop where
  ex : ∃ (N : List Str) (x qual : Str) (params : Arguments) (body : List Stmt) (scope : Scope) (dvs : List V) (kws : List (Str × V)), FunD g.K x qual params body scope dvs kws (g.fa f) (g.fd f) ∧ FnScope N (g.ps f) scope ∧ N.length = nl ∧
    chkSs T.st N scope s body = true ∧ (scope ∈ g.lams → ∃ c P, (g.fd f).code = .ref c ∧ LamX.TabB g.base g.mg c P ∧ (P, (qual ++ ".<locals>.") ++ "<lambda>") ∈ g.T ∧ ∀ p ∈ g.T, p.1 = P → p.2 = (qual ++ ".<locals>.") ++ "<lambda>")
theorem Fst.fx {g : G} {wd : Wd} {st : Ws} {k : Nat} (F : Fst g st) (e : wd.toWs = st)
    (h1 : ∀ f, FnG g.P g.w g.K g.mg g.base (L2.CX g.P g.w) k (g.fa f) (g.fd f) (g.ps f) (spOf g (g.ps f).length (wd.phi f)))
    (h2 : ∀ f, FnG g.P g.w g.K g.mg g.base (L2.CX g.P g.w) k (g.fa f) (g.fd f) (g.ps f) (spOfL g (g.ps f).length (wd.phl f)))
    (h3 : ∀ f, FnD g g.P g.w g.K g.mg g.base (k + 1) f (wd.phd f)) (h4 : (∃ kk, kk + 3 = k) ∨ ∀ f th cs, wd.phd f th cs = .bad)
    (h5 : ∀ {t : E} {N : List Str} {scope : Scope} {body : Expr} {X : Cx} {Wx : WX} {kk : Nat}, kk + 3 = k → chk wd N scope t body = true → Okx g N scope false kk X Wx → PE X body (tE g Wx fun fr cs => (wd.phc t fr cs).map W.d)) : Fx g wd k := by
  subst e
  exact ⟨h1, h2, F.nm, F.pat, F.npar, F.gd, F.bi, F.bx, F.br, F.bt, F.cnm, F.mk_, F.fld, F.meth, F.sup, F.prop, F.kit, F.kitc, F.kitx, F.exk, F.lams, F.oeq, F.one, F.oin, F.exm, h3, h4, h5⟩
theorem ok_none {g : G} {k f : Nat} {sp : Sp} (h : ∀ vs H Q E, ¬ sp vs H Q E) : FnG g.P g.w g.K g.mg g.base (L2.CX g.P g.w) k (g.fa f) (g.fd f) (g.ps f) sp :=
  ⟨fun vs H Q E q => absurd q (h _ _ _ _), fun A outer s H args us vs Q E hr hgd he hb hv hs => absurd hs (h _ _ _ _)⟩
/-- a def by its body -/
theorem okG {CX : CXT} {P : Program} {w : World} {K : PySem.W.Frag} {mg : Str → Option Value} {base : Heap} {N ps : List Str} {x qual : Str} {params : Arguments} {body : List Stmt} {scope : Scope} {dvs : List V} {kws : List (Str × V)} {f : Addr} {fd : FuncData} {k : Nat} {sp : Sp}
    (F : FunD K x qual params body scope dvs kws f fd) (Sc : FnScope N ps scope) (len : ∀ vs H Q E, sp vs H Q E → vs.length = ps.length)
    (hbody : ∀ (cdv : Value), fd.code = cdv → ∀ (A : Around) (outer : List Env) (s : Shared) (H : Hp) (vs : List V) (Q : VK) (E : XK), Room k (A.deeper (PyProof.Rows.envOfC qual scope s.heap.objs.size f cdv)) → (A.deeper (PyProof.Rows.envOfC qual scope s.heap.objs.size f cdv)).guards = some [] → sp vs H Q E →
      ∃ t, PSs (cxOf CX P w K mg base N qual scope f cdv A outer s H E) body t ∧ t { nx := fun _ H' => Q .non H', rt := Q } (L2.start N vs) H) : FnG P w K mg base CX (k + 1) f fd ps sp := by
  obtain ⟨oc, od, dV, kV, doc, pm, an, cdv, ct, osl, rfl, lk, hcd, _, _⟩ := F.ex
  refine ⟨len, fun A outer s H args us vs Q E hr hgd e0 hb r hsp => ?_⟩
  have hl := len _ _ _ _ hsp
  have KX : K.In s.heap := e0.mod.kin.keeps fun b o e => (e0.bs b o e).1
  have lim : s.heap.NoLimit := e0.mod.nolimit.keeps fun b o e => (e0.bs b o e).1
  have hkind : ∀ y ∈ ps.zip us, scope.names.lookup y.1 = some .local ∨ (scope.names.lookup y.1 = some .cell ∧ ((cellsFrom (s.heap.objs.size + 1) scope.names []).lookup y.1).isSome = true) := fun ⟨n, v⟩ hy => by
    rcases Sc.par n (List.of_mem_zip hy).1 with q | q
    · exact .inl q
    · exact .inr ⟨q, PySem.W.cellsFrom_some _ _ _ (.inl q)⟩
  refine codeAny_call_function hr.depth (KX _ _ lk) rfl Sc.co Sc.gen rfl (PySem.W.codeRec_of KX hcd) (hb _ _ _ _ ?_)
  refine wpAny_newFunctionEnv_cells Sc.kind hkind fun env he s1 x => ?_
  subst he
  refine ⟨lim.keeps x.toInCall.keep, codeAny_func ?_⟩
  obtain ⟨t, ht, hq⟩ := hbody cdv rfl A outer s H vs Q E (hr.deeper _) hgd hsp
  have I : Inv (cxOf CX P w K mg base N qual scope f cdv A outer s H E) [] (L2.start N vs) H s1 := inv_start Sc hr.hd e0 hl r x
  refine wpAny_mono (ht.run [] s1 (L2.start N vs) H _ I hq) (fun fl s' hs => ?_) fun e s' hs => hs
  have fin : ∀ {σ' : L2.St} {H' : Hp} {v : V} {u : Value}, Inv (cxOf CX P w K mg base N qual scope f cdv A outer s H E) [] σ' H' s' → RelV v u → Q v H' → CE outer P w H s Q u s' :=
    fun {σ' H' v u} J rv q => ⟨v, H', J.os, J.bare, J.base, J.hok, rv, q⟩
  cases fl with
  | ret u =>
    obtain ⟨v, σ', H', J, rv, q⟩ := hs
    exact fin J rv q
  | next =>
    obtain ⟨σ', H', J, q⟩ := hs
    exact fin (v := V.non) (u := Value.none) J rfl q
  | brk =>
    obtain ⟨_, _, _, q⟩ := hs
    exact False.elim q
  | cont =>
    obtain ⟨_, _, _, q⟩ := hs
    exact False.elim q
theorem ok_fn {g : G} {T : Tab} {k n f nl : Nat} {s : S} {wd : Wd} (F : Fx g wd k) (est : wd.toWs = T.st) (t : FnT g T f s nl) :
    FnG g.P g.w g.K g.mg g.base (L2.CX g.P g.w) (k + 3) (g.fa f) (g.fd f) (g.ps f) (spOf g (g.ps f).length (fnRun wd n s nl)) := by
  obtain ⟨N, x, qual, params, body, scope, dvs, kws, D, Sc, hN, hc, hlam⟩ := t.ex
  refine okG D (k := k + 2) Sc (fun vs H Q E h => ?_) (fun cdv hcd A outer s' H vs Q E hr hgd h => ?_)
  · obtain ⟨ws, cs, ra, R, r, hl, _⟩ := h
    rw [← r.length]; exact hl
  · obtain ⟨ws, cs, ra, R, r, hl, post⟩ := h
    have ok : Okx g N scope true k (cxOf (L2.CX g.P g.w) g.P g.w g.K g.mg g.base N qual scope (g.fa f) cdv A outer s' H E) (fun c d _ H' => E c d H') :=
      ⟨rfl, rfl, rfl, rfl, rfl, rfl, Sc.nd, rfl, rfl, fun _ _ _ => rfl, hr, takes_of rfl rfl rfl rfl, hgd, fun h => by
        obtain ⟨c, P, e1, e2⟩ := hlam h
        exact ⟨c, P, by rw [← e1, hcd]; rfl, e2⟩, fun _ => ⟨rfl, rfl, rfl⟩⟩
    refine ⟨_, (sndS F s).l (n := n) (b := cs.length) ok (passes_of rfl) body (by rw [est]; exact hc), ?_⟩
    exact ⟨bs0 ra H, _, cs, ra, R.len, bs0_ok ra H, R, start_ok r hN, end_post R post⟩
theorem ok_fnL {g : G} {T : Tab} {k n f nl : Nat} {s : S} {wd : Wd} (F : Fx g wd k) (est : wd.toWs = T.st) (t : FnT g T f s nl) :
    FnG g.P g.w g.K g.mg g.base (L2.CX g.P g.w) (k + 3) (g.fa f) (g.fd f) (g.ps f) (spOfL g (g.ps f).length (fnRunL wd n s nl)) := by
  obtain ⟨N, x, qual, params, body, scope, dvs, kws, D, Sc, hN, hc, hlam⟩ := t.ex
  refine okG D (k := k + 2) Sc (fun vs H Q E h => ?_) (fun cdv hcd A outer s' H vs Q E hr hgd h => ?_)
  · obtain ⟨ws, cs, ra, R, r, hl, _⟩ := h
    rw [← r.length]; exact hl
  · obtain ⟨ws, cs, ra, R, r, hl, post⟩ := h
    have ok : Okx g N scope true k (cxOf (L2.CX g.P g.w) g.P g.w g.K g.mg g.base N qual scope (g.fa f) cdv A outer s' H E) (fun c d _ H' => E c d H') :=
      ⟨rfl, rfl, rfl, rfl, rfl, rfl, Sc.nd, rfl, rfl, fun _ _ _ => rfl, hr, takes_of rfl rfl rfl rfl, hgd, fun h => by
        obtain ⟨c, P, e1, e2⟩ := hlam h
        exact ⟨c, P, by rw [← e1, hcd]; rfl, e2⟩, fun _ => ⟨rfl, rfl, rfl⟩⟩
    refine ⟨_, (sndS F s).l (n := n) (b := cs.length) ok (passes_of rfl) body (by rw [est]; exact hc), ?_⟩
    exact ⟨bs0 ra H, _, cs, ra, R.len, bs0_ok ra H, R, start_ok r hN, endL_post R post⟩
end BV

namespace BV
open PySem L2

/-! ### super().m(..) in the first statement of a method -/
def PEa (X : Cx) (body : List Stmt) (e : Expr) (t : TE) : Prop := ∀ (pins : List (Addr × Obj)) (s : Shared) (σ : L2.St) (H : Hp) (Q : VK), Inv X pins σ H s → t σ H Q →
  PySem.wpAt (model X.prog X.w) X.A (.func body X.env) (eval e X.env) (EP X pins σ Q) X.xe s
/-- what is true of such a method's context: d its class -/
structure SupX (X : Cx) (D : Addr) : Prop where
  k1 : X.env.kindOf "super" = some .globalImplicit
  k2 : X.env.kindOf "__class__" = some .free
  nm : X.mg "super" = none
  top : (X.prog.main.scope.names.lookup ("super" : Str)).isSome = false
  cls : ∃ cd, PySem.W.clsIn X.K D = some cd
  cell : ∃ cc cl cld csl, X.env.cells.lookup ("__class__" : Str) = some cc ∧ X.K.lookup cc = some ⟨cl, cld, .cell (some (.ref D)), csl⟩
  code : ∃ cda oc vs file tf, X.env.code = .ref cda ∧ X.K.lookup cda = some oc ∧ oc.data = .fields vs ∧ vs[2]? = some (.str file tf) ∧ ((X.prog.main.file : Str) == file) = true
  fn : ∃ f of fd ar, X.env.func = some f ∧ X.K.lookup f = some of ∧ of.data = .func fd ∧ (fd.params.posonlyargs ++ fd.params.args).head? = some ar ∧ X.N[0]? = some ar.arg ∧ X.env.kindOf ar.arg = some .local
  opq : PySem.W.nsIn X.K cStatics "thirdparty.any" = some none
section
variable {g : G} {wd : Wd} {N : List Str} {sc : Scope} {ac : Bool} {k n b : Nat} {X : Cx} {Wx : WX} {fa fb : Fra → Cells → R W} {fl : Fra → Cells → R (List W)} {l r e : Expr} {es : List Expr} {p : Pos} {body : List Stmt}
theorem PEa.of {t : TE} (h : PE X e t) : PEa X body e t := fun pins s σ H Q I q => PySem.wpAt_of_wpAny (h.run pins s σ H Q I q)
theorem PEa.imp {t t' : TE} (h : PEa X body e t) (i : ∀ σ H Q, t' σ H Q → t σ H Q) : PEa X body e t' := fun pins s σ H Q I q => h pins s σ H Q I (i σ H Q q)
theorem PEa.eqf {f f' : Fra → Cells → R W} (h : PEa X body e (tE g Wx f)) (q : ∀ fr cs, f fr cs = f' fr cs) : PEa X body e (tE g Wx f') := by
  have : f = f' := funext fun a => funext fun b => q a b
  rw [← this]; exact h
theorem sup_rule {m : Str} {apos : Pos} {s : Shared} {Q : Value → Shared → Prop} (hline : (apos.endLine == p.line) = true) (hlen : es.length < 20) (hs : ∀ x ∈ es, notSt x = true)
    (h : PySem.wpAt (model X.prog X.w) X.A (.func body X.env) (attributeBase l m X.env (eval l X.env)) (fun ov s₁ => wpAny (model X.prog X.w) X.A (getMethod ov m (do return (← importBound l X.env).getD true)) (fun fx s2 => wpAny (model X.prog X.w) X.A (callWith p fx.1 fx.2 (backTo p (starEach es X.env)) []) Q X.xe s2) X.xe s₁) X.xe s) :
    PySem.wpAt (model X.prog X.w) X.A (.func body X.env) (eval (.Call (.Attribute l m apos) es [] p) X.env) Q X.xe s := by
  rw [PySem.arm_eval_Call]
  have hal := (nostar_any (env := X.env) (pos := p) hs).2
  have hform : methodCallForm (es.length + ([] : List Keyword).length) (backTo p (starEach es X.env)) (backToKw p (keywordEach [] X.env)) = true := by
    unfold methodCallForm
    rw [hal]
    have : es.length + 0 + 0 < 30 := by omega
    show (true && true && decide (es.length + 0 + 0 < 30)) = true
    rw [decide_eq_true this]
    rfl
  have hpos : methodCallPos true l X.env apos p = pure p := by unfold methodCallPos; simp [hline]
  refine PySem.wpAt_bind (PySem.wpAt_mono h (fun ov s1 h1 => PySem.wpAt_of_wpAny ?_) fun _ _ z => z)
  refine wpAny_bind (wpAny_standAt ?_)
  unfold methodCall
  rw [hform]
  refine wpAny_bind (wpAny_holding (thn (show wpAny _ _ (getMethod ov m _) _ _ _ from h1) fun fx s2 h2 => ?_))
  exact wpAny_bind (wpAny_of_eq hpos h2)
/-- a def behind a bound method -/
theorem run_M {pins : List (Addr × Obj)} {σ : L2.St} {H : Hp} {s : Shared} {Q : VK} {q : Addr} {a : Addr} {us : List Value} {vs : List V} {j : Nat} {f : Addr} {fd : FuncData} {ps : List Str} {sp : Sp} {E : XK} (F : FnG X.prog X.w X.K X.mg X.base (L2.CX X.prog X.w) j f fd ps sp) (hr : Room j X.A) (hgd : X.A.guards = some []) (hb : Binds X.K fd ps [])
    (hx : PassesAt (L2.CX X.prog X.w) X σ E) (I : Inv X pins σ H s) (ho : s.heap.get? q = some (PySem.W.methodObj (.ref f) (.ref a))) (r : Vals vs us) (h : sp (.ref a :: vs) H Q E) : wpAny (model X.prog X.w) X.A (call (.ref q) us) (EP X pins σ Q) X.xe s := by
  have r2 : Vals (V.ref a :: vs) (.ref a :: us) := .cons rfl r
  have hl : (Value.ref a :: us).length = ps.length := by rw [← r2.length]; exact F.len _ _ _ _ h
  have hb2 := hb s (.ref a :: us) I.kIn (by rw [List.append_nil]; exact hl)
  rw [List.append_nil] at hb2
  refine wpAny_call (PySem.W.method_call ho (codeAny_mono (F.run X.A X.stack s H ⟨.ref a :: us, []⟩ (.ref a :: us) (.ref a :: vs) Q E hr hgd I.env0 hb2 r2 h) fun r s' hq => ?_))
  cases r with
  | error e => exact hx pins H s e s' I hq
  | ok fl =>
    cases fl with
    | ret u => exact I.after hq
    | next => exact False.elim hq
    | brk => exact False.elim hq
    | cont => exact False.elim hq
def evSup (wd : Wd) (d : Nat) (m : Str) (fl : Fra → Cells → R (List W)) : Fra → Cells → R W := fun fr cs => match supW wd d m fr cs with
  | some (w, f) => (fl fr cs).bind fun ws c1 => if wd.npar f = ws.length + 1 then callW wd f (w :: ws) c1 else .bad
  | none => .bad
theorem supW_ok {d f : Nat} {m : Str} {fr : Fra} {cs : Cells} {ra : Ra} {H : Hp} {σ : L2.St} {w : W} (R : Rel g ra cs H) (Fr : FrR g H ra fr σ) (h : supW wd d m fr cs = some (w, f)) :
    ∃ a c dx vs, σ[0]? = some (some (.ref a)) ∧ H a = some (.ins (g.ca c) dx vs) ∧ wd.sup d c m = some f ∧ RepW g (frz H ra) ra w (.ref a) := by
  unfold supW at h
  split at h
  · rename_i w' e0
    split at h
    · rename_i c fs ec
      split at h
      · rename_i f' ef
        cases h
        obtain ⟨v, hv, rv⟩ := Fr.2 _ _ e0
        obtain ⟨a, dx, vs, rfl, ea, rf⟩ := clsOf_ok R rv ec
        exact ⟨a, c, dx, vs, hv, ea, ef, rv⟩
      · cases h
    · cases h
  · cases h
theorem pea_sup {d : Nat} {m : Str} {p0 p1 apos : Pos} (ok : Okx g N sc ac k X Wx) (F : Fx g wd k) (S : SupX X (g.ca d)) (hm : (m == ("__class__" : Str)) = false) (hline : (apos.endLine == p.line) = true) (hlen : es.length < 20) (hs : ∀ x ∈ es, notSt x = true) (hl : PA X es (tA g Wx fl)) (hnil : es = [] → ∀ fr cs, fl fr cs = .ok [] cs) :
    PEa X body (.Call (.Attribute (.Call (.Name "super" p0) [] [] p1) m apos) es [] p) (tE g Wx (evSup wd d m fl)) := by
  rintro pins s σ H Q I ⟨fr, cs, ra, R, Fr, q⟩
  unfold evSup at q
  split at q
  · rename_i w f2 esup
    obtain ⟨a, c, dx, vs0, hσ, ea, hsup, rw'⟩ := supW_ok R Fr esup
    obtain ⟨hmro, hsin, hty, hfn, hbi⟩ := F.sup _ _ _ _ hsup
    rw [← ok.K] at hmro hsin hty hfn hbi
    obtain ⟨cdD, hD⟩ := S.cls
    obtain ⟨cc, cl, cld, csl, hcc, lcc⟩ := S.cell
    obtain ⟨cda, oc, vsc, file, tf, hcd, lcd, hod, hvs, hfile⟩ := S.code
    obtain ⟨f0, of0, fd0, ar, hf0, lf0, hfd0, har, hN0, hka⟩ := S.fn
    have hk : X.env.scope.kind = .function := I.ok.kind
    obtain ⟨mA, O, _, _, _, _⟩ := ins_get I.hok ea
    obtain ⟨od, hod2, _⟩ := lookIn_ns O.ns
    have J : PySem.W.InstAt s.heap a (PySem.W.instObj (g.ca c) dx) (g.ca c) (some od) := ⟨O.obj, rfl, rfl, hod2⟩
    obtain ⟨oD, hD1, hD2⟩ : ∃ oD, s.heap.get? (g.ca d) = some oD ∧ oD.data = .cls cdD := by
      unfold PySem.W.clsIn at hD
      split at hD
      · rename_i c d cd' sl ho
        cases hD
        exact ⟨_, I.kIn _ _ ho, rfl⟩
      · cases hD
    refine sup_rule hline hlen hs (PySem.ks_wpAt_super_base S.k1 S.k2 hm hf0 (I.kIn _ _ lf0) hfd0 har hcd (I.kIn _ _ lcd) hod hvs hfile S.top ?_)
    refine PySem.W.ks_loadName_global hk S.k1 ?_
    obtain ⟨mb, hb1, hb2⟩ := I.mod.blt
    refine Calls.loadGlobal_builtin (by rw [I.ok.glob]; exact I.mod.glob.keeps I.bk) S.nm (by rw [I.ok.blt]; exact hb1.keeps I.bk) ((hb2 "super" (by decide +kernel)).trans (show bootBuiltins "super" = some (.type "super") by decide +kernel)) ⟨rfl, ?_⟩
    refine wpAny_loadName_free hk S.k2 hcc ⟨_, I.kIn _ _ lcc, rfl⟩ ?_
    obtain ⟨mL, hnL, hlook⟩ := I.loc
    obtain ⟨u, hu, hLk⟩ := hlook 0 ar.arg (.ref a) hN0 hσ (.inl hka)
    obtain rfl : u = Value.ref a := hu
    have hmL : mL ar.arg = some (.ref a) := by
      rcases hLk with ⟨_, h⟩ | ⟨h, _⟩
      · exact h
      · rw [hka] at h; rcases h with h | h <;> cases h
    refine wpAny_loadName_local hk hka hnL hmL ?_
    refine PySem.ks_wpAny_isType_cls hD1 hD2 ⟨rfl, ?_⟩
    obtain ⟨hh, gg, dd, tt, os⟩ := s
    refine PySem.ks_wpAny_call_super hD1 hD2 J.at_ J.cls (fun c e => ?_) (PySem.W.looks_mroIn I.kIn hmro) (fun h' e1 k1 => ?_)
    · have := J.no
      unfold PySem.W.notCls at this
      rw [e] at this
      exact Bool.noConfusion this
    · have I1 : Inv X pins σ H ⟨h', gg, dd, tt, os⟩ := I.kept (t' := tt) k1
      have J1 : PySem.W.InstAt h' a (PySem.W.instObj (g.ca c) dx) (g.ca c) (some od) := ⟨k1 _ _ O.obj, rfl, rfl, k1 _ _ hod2⟩
      obtain ⟨of2, hof2, hofc⟩ : ∃ of, h'.get? (g.fa f2) = some of ∧ of.cls = .type "function" := by
        have ht' : (X.K.lookup (g.fa f2)).map (·.cls) = some (.type "function") := hty
        cases z : X.K.lookup (g.fa f2) with
        | none => rw [z] at ht'; cases ht'
        | some of => rw [z] at ht'; exact ⟨of, I1.kIn _ _ z, Option.some.inj ht'⟩
      cases hcC : PySem.W.clsIn X.K (g.ca c) with
      | none => unfold PySem.W.ks_superIn at hsin; rw [hcC] at hsin; cases hsin
      | some cd =>
        unfold PySem.W.ks_superIn at hsin
        rw [hcC] at hsin
        refine PySem.ks_wpAny_getMethod_super e1 (PySem.W.looks_opaque I1.kIn S.opq) (l₀ := cd.mro) (fun A Q E s k q => wpAny_bind ((PySem.W.looks_clsIn I1.kIn hcC) A _ E s k (wpAny_pure q))) rfl I1.kIn hsin hof2 hofc (PySem.W.ks_ne I1.kIn J1 hcC) hm ?_
        have I2 := ClX.pin_new (o := PySem.W.methodObj (.ref (g.fa f2)) (.ref a)) (t' := tt + 1) I1 (fun _ _ z => Heap.get?_push_of_some _ z) (Nat.le_refl _) (Heap.get?_push_size _ rfl) (fun v z => nomatch z)
        have hq2 := ClX.pin_at I2
        have hL2 := (I2.pin (_, PySem.W.methodObj (.ref (g.fa f2)) (.ref a)) (List.mem_append_right _ List.mem_cons_self)).2.2.1
        have hbn := ClX.base_none I1 (Nat.le_refl _)
        have fin : ∀ {s3 : Shared} {us : List Value} {vs : List V} {ws : List W} {c1 : Cells} {H1 : Hp}, Inv X ((_, PySem.W.methodObj (.ref (g.fa f2)) (.ref a)) :: pins) σ H1 s3 → Rel g ra c1 H1 → RepW g (frz H1 ra) ra w (.ref a) → RepWs g (frz H1 ra) ra ws vs → Vals vs us →
            PostR g (rpW g ra) (if wd.npar f2 = ws.length + 1 then callW wd f2 (w :: ws) c1 else .bad) ra H1 Q (fun c d H' => Wx c d σ H') → wpAny (model X.prog X.w) X.A (call (.ref h'.objs.size) us) (EP X pins σ Q) X.xe s3 := fun {s3 us vs ws c1 H1} I3 R3 rw3 r3 v3 p3 => by
          split at p3
          · rename_i hn
            exact thn (run_M (F.fn' ok f2) (ok.hr.mono (by omega)) ok.gd hbi (passAt ok.tk σ) I3 (ClX.pin_at I3) v3 ⟨w :: ws, c1, ra, R3, .cons rw3 r3, by rw [← F.npar f2, hn]; rfl, callW_post p3⟩) fun _ _ y => ClX.unpinE y
          · exact p3.elim
        cases es with
        | nil =>
          have e0 := hnil rfl fr cs
          rw [e0] at q
          exact PySem.W.callWith_M0 (K := X.K) (g := g.fa f2) (self := .ref a) ⟨hq2, I2.kIn⟩ hfn (fin I2 R rw' .nil .nil q)
        | cons e1 es1 =>
          have hst := star_of (es := es1) (env := X.env) (hs e1 (List.mem_cons_self ..))
          have hpl := (nostar_any (env := X.env) (pos := p) fun x hx => hs x (List.mem_cons_of_mem _ hx)).1
          refine PySem.W.callWith_M (K := X.K) (h₀ := X.base) (first := []) I.ok.mod.kin (news_at hL2 hbn hq2) List.mem_cons_self hfn ?_ hst hpl
          refine thn (hl.run p _ _ σ H _ I2 ⟨fr, cs, ra, R, Fr, PostR.bind (rp := rpA g ra) q⟩) fun us s3 ⟨vs, H1, I3, v3, ws, c1, k3, R3, r3, p3⟩ => ⟨⟨ClX.pin_at I3, I3.kIn⟩, ?_⟩
          exact fin I3 R3 (rw'.mono k3.same) r3 v3 p3
  · exact q.elim

def PSa (X : Cx) (body : List Stmt) (st : Stmt) (t : TS) : Prop := ∀ (pins : List (Addr × Obj)) (s : Shared) (σ : L2.St) (H : Hp) (D : Ends), Inv X pins σ H s → t D σ H →
  PySem.wpAt (model X.prog X.w) X.A (.func body X.env) (exec st X.env) (SP X pins D) X.xe s
theorem PSa.imp {st : Stmt} {t t' : TS} (h : PSa X body st t) (i : ∀ D σ H, t' D σ H → t D σ H) : PSa X body st t' := fun pins s σ H D I q => h pins s σ H D I (i D σ H q)
theorem psa_expr {te : TE} (he : PEa X body e te) (hs : isComp e = false) : PSa X body (.Expr e p) (tDrop te) := fun pins s σ H D I h =>
  PySem.ks_wpAt_Expr_any (PySem.wpAt_mono (he pins s σ H _ I h) (fun v s1 ⟨x, H1, I1, r1, q1⟩ => ⟨σ, H1, I1, q1⟩) fun _ _ z => z) I.quiet (swap_no hs)
theorem psa_ret {te : TE} (he : PEa X body e te) : PSa X body (.Return (some e) p) (tRet te) := fun pins s σ H D I h =>
  PySem.ks_wpAt_Return_some (PySem.wpAt_mono (he pins s σ H _ I h) (fun v s1 ⟨x, H1, I1, r1, q1⟩ => ⟨x, σ, H1, I1, r1, q1⟩) fun _ _ z => z)
theorem psa_set {i : Nat} {t : Expr} {te : TE} (ok : Okx g N sc true k X Wx) (h : chkNm N sc true i t = true) (he : PEa X body e te) (hs : isComp e = false) : PSa X body (.Assign [t] e p) (tAsg te (gName i)) := by
  cases t <;> first | (simp [chkNm] at h; done) | skip
  rename_i x px
  simp only [chkNm, Bool.and_eq_true, decide_eq_true_eq] at h
  obtain ⟨h3, h4⟩ := loc_of ok h.2
  intro pins s σ H D I q
  refine PySem.ks_wpAt_Assign_Name (PySem.wpAt_mono (he pins s σ H _ I q) (fun v s1 ⟨y, H1, I1, r1, q1⟩ => ?_) fun _ _ z => z) (swap_no hs)
  exact store_ok I1 (by rw [ok.hN]; exact ok.nd) (by rw [ok.hN]; exact h.1) h3 r1 (fun s2 I2 => ⟨_, H1, I2, q1⟩) h4
theorem pssa_cons {st : Stmt} {rest : List Stmt} {t u : TS} (h1 : PSa X body st t) (h2 : PSs X rest u) : ∀ (pins : List (Addr × Obj)) (s : Shared) (σ : L2.St) (H : Hp) (D : Ends), Inv X pins σ H s → tSeq t u D σ H →
    PySem.wpAt (model X.prog X.w) X.A (.func body X.env) (execs (st :: rest) X.env) (SP X pins D) X.xe s := fun pins s σ H D I h => by
  refine PySem.ks_wpAt_execs_cons (PySem.wpAt_mono (h1 pins s σ H { D with nx := u D } I h) (fun f s1 q => ?_) fun _ _ z => z)
  cases f with
  | next =>
    obtain ⟨σ', H', I', q⟩ := q
    exact PySem.wpAt_of_wpAny (h2.run pins s1 σ' H' D I' q)
  | ret v => exact q
  | brk => exact q
  | cont => exact q
theorem pea_op {o : Operator} (ok : Okx g N sc ac k X Wx) (ha : PEa X body l (tE g Wx fa)) (hb : PEa X body r (tE g Wx fb)) : PEa X body (.BinOp l o r p) (tE g Wx fun fr cs => (fa fr cs).bind fun w1 c1 => (fb fr c1).bind fun w2 c2 => wOp o w1 w2 c2) := by
  rintro pins s σ H Q I ⟨fr, cs, ra, R, Fr, q⟩
  refine PySem.ks_wpAt_BinOp2 (PySem.wpAt_mono (ha pins s σ H _ I ⟨fr, cs, ra, R, Fr, PostR.bind (rp := rpW g ra) q⟩) (fun v s1 ⟨x, H1, I1, r1, w1, c1, k1, R1, rw1, p1⟩ => ?_) fun _ _ z => z)
  refine PySem.wpAt_mono (hb pins s1 σ H1 _ I1 ⟨fr, c1, ra, R1, Fr.mono k1, PostR.bind (rp := rpW g ra) p1⟩) (fun u s2 ⟨y, H2, I2, r2, w2, c2, k2, R2, rw2, p2⟩ => ?_) fun _ _ z => z
  exact op_all o pins s2 σ H2 x y v u Q I2 r1 r2 (by rw [ok.K]; exact wOp_ok R2 (rw1.mono k2.same) rw2 p2)
def chkAt (wd : Ws) (N : List Str) (sc : Scope) (d : Nat) : E → Expr → Bool
  | .sup d' m as, .Call (.Attribute (.Call (.Name x _) [] [] _) m' ap) es [] p => decide (x = "super") && decide (d' = d) && decide (m = m') && !(m == ("__class__" : Str)) && (ap.endLine == p.line) && decide (es.length < 20) && chkA wd N sc as es
  | .op o a b, .BinOp l o' r _ => decide (o = o') && (chkAt wd N sc d a l || chk wd N sc a l) && (chkAt wd N sc d b r || chk wd N sc b r)
  | _, _ => false
def chkS1 (wd : Ws) (N : List Str) (sc : Scope) (d : Nat) : S → Stmt → Bool
  | .expr e, .Expr v _ => !isComp v && chkAt wd N sc d e v
  | .set i e, .Assign [t] v _ => chkNm N sc true i t && !isComp v && chkAt wd N sc d e v
  | .ret e, .Return (some v) _ => chkAt wd N sc d e v
  | _, _ => false
def chkFS (wd : Ws) (N : List Str) (sc : Scope) (d : Nat) : S → List Stmt → Bool
  | .cons s r, st :: ss => chkS1 wd N sc d s st && chkSs wd N sc r ss
  | _, _ => false
theorem sndAt (F : Fx g wd k) {d : Nat} (ok : Okx g N sc ac k X Wx) (S : SupX X (g.ca d)) : ∀ (z : E) (ex : Expr), chkAt wd N sc d z ex = true → PEa X body ex (tE g Wx (ev wd z)) := by
  intro z
  induction z with
  | sup d' m as ih =>
    intro ex h
    match ex, h with
    | .Call (.Attribute (.Call (.Name x p0) [] [] p1) m' ap) es [] p, h =>
      simp only [chkAt, Bool.and_eq_true, Bool.not_eq_true', decide_eq_true_eq] at h
      obtain ⟨⟨⟨⟨⟨⟨rfl, rfl⟩, rfl⟩, h4⟩, h5⟩, h6⟩, h7⟩ := h
      obtain ⟨a1, a2, a3⟩ := (snd F as).a ok h7
      refine (pea_sup ok F S h4 h5 h6 a2 a1 fun e fr cs => ?_).eqf fun fr cs => by rw [ev]; rfl
      subst e
      cases as <;> first | (simp [chkA] at h7; done) | (rw [evA])
  | op o a b iha ihb =>
    intro ex h
    cases ex <;> first | (simp [chkAt] at h; done) | skip
    simp only [chkAt, Bool.and_eq_true, Bool.or_eq_true, decide_eq_true_eq] at h
    obtain ⟨⟨rfl, h1⟩, h2⟩ := h
    have ha := h1.elim (iha _) fun z => PEa.of (body := body) ((snd F a).ex_ ok z)
    have hb := h2.elim (ihb _) fun z => PEa.of (body := body) ((snd F b).ex_ ok z)
    exact (pea_op ok ha hb).eqf fun fr cs => by rw [ev]
  | _ => intro ex h; cases ex <;> simp [chkAt] at h
theorem sndS1 (F : Fx g wd k) {d : Nat} (ok : Okx g N sc true k X Wx) (S : SupX X (g.ca d)) (z : BV.S) (st : Stmt) (h : chkS1 wd N sc d z st = true) : PSa X body st (tS g Wx b (exS wd n b z)) := by
  cases z <;> first | (cases st <;> simp [chkS1] at h; done) | skip
  · rename_i i e
    cases st <;> first | (simp [chkS1] at h; done) | skip
    rename_i ts v p
    match ts, h with
    | [t], h =>
      simp only [chkS1, Bool.and_eq_true, Bool.not_eq_true'] at h
      exact PSa.imp (psa_set ok h.1.1 (sndAt F ok S e v h.2) h.1.2) fun D σ H q => r_set (tS_eq (fun fr cs => by rw [exS]) q)
  · rename_i e
    cases st <;> first | (simp [chkS1] at h; done) | skip
    simp only [chkS1, Bool.and_eq_true, Bool.not_eq_true'] at h
    exact PSa.imp (psa_expr (sndAt F ok S e _ h.2) h.1) fun D σ H q => r_expr (tS_eq (fun fr cs => by rw [exS]) q)
  · rename_i e
    cases st <;> first | (simp [chkS1] at h; done) | skip
    rename_i v p
    cases v with
    | none => simp [chkS1] at h
    | some v =>
      simp only [chkS1] at h
      exact PSa.imp (psa_ret (sndAt F ok S e v h)) fun D σ H q => r_ret (tS_eq (fun fr cs => by rw [exS]) q)
end
/-! ### a def that closes over its class -/
structure FnScopeS (N P : List Str) (sc : Scope) : Prop where
  kind : sc.kind = .function
  co : sc.isCoroutine = false
  gen : sc.isGenerator = false
  nd : N.Nodup
  pre : N.take P.length = P
  par : ∀ x ∈ P, sc.names.lookup x = some .local
  nocell : ∀ y ∈ sc.names, y.2 ≠ .cell
  free : ∀ y ∈ sc.names, y.2 = .free → y.1 = ("__class__" : Str)
def cxS (CX : CXT) (P : Program) (w : World) (K : PySem.W.Frag) (mg : Str → Option Value) (base : Heap) (N : List Str) (qual : Str) (scope : Scope) (f : Addr) (cd : Value) (cc : Addr) (A : Around) (outer : List Env) (s : Shared) (H : Hp) (E : XK) : Cx where
  prog := P
  w := w
  K := K
  mg := mg
  base := base
  A := A.deeper (PySem.W.ksEnv qual scope s.heap.objs.size f cd cc)
  N := N
  s_0 := s
  H_0 := H
  env := PySem.W.ksEnv qual scope s.heap.objs.size f cd cc
  outer := outer
  stack := PySem.W.ksEnv qual scope s.heap.objs.size f cd cc :: outer
  ex := []
  fn := fun x => decide (x ≠ ("__class__" : Str))
  calm := true
  pn := []
  xe := fun e s' => wpAny (model P w) (A.deeper (PySem.W.ksEnv qual scope s.heap.objs.size f cd cc)) (leaving (PySem.W.ksEnv qual scope s.heap.objs.size f cd cc) e) (fun _ s'' => CX outer H s E e s'') (fun e' s'' => CX outer H s E e' s'') s'
theorem lookup_mem {α : Type} {k : Str} {v : α} : ∀ {l : List (Str × α)}, (l.map (·.1)).Nodup → (k, v) ∈ l → l.lookup k = some v
  | (k', v') :: l, nd, h => by
    rw [List.map_cons, List.nodup_cons] at nd
    rcases List.mem_cons.mp h with e | h
    · cases e; simp [List.lookup]
    · have hne : k ≠ k' := fun e => nd.1 (by rw [← e]; exact List.mem_map_of_mem (f := (·.1)) h)
      have : (k == k') = false := by simpa using hne
      rw [List.lookup, this]
      exact lookup_mem nd.2 h
theorem one_cell {cc c : Addr} {x : Str} (h : List.lookup x [(("__class__" : Str), cc)] = some c) : x = ("__class__" : Str) ∧ c = cc := by
  by_cases e : x = ("__class__" : Str)
  · subst e
    simp [List.lookup] at h
    exact ⟨rfl, h.symm⟩
  · have : (x == ("__class__" : Str)) = false := by simpa using e
    simp [List.lookup, this] at h
theorem inv_startS {CX : CXT} {P : Program} {w : World} {K : PySem.W.Frag} {mg : Str → Option Value} {base : Heap} {N ps : List Str} {qual : Str} {scope : Scope} {f cc D : Addr} {cd : Value} {A : Around} {outer : List Env} {s : Shared} {H : Hp} {E : XK} {us : List Value} {vs : List V} {cl : Value} {cld : Option Addr} {csl : Array (Option Value)}
    (S : FnScopeS N ps scope) (hd : A.handled = none) (e0 : Env0 P w K mg base A outer s H) (hl : vs.length = ps.length) (r : Vals vs us) (lcc : K.lookup cc = some ⟨cl, cld, .cell (some (.ref D)), csl⟩)
    {h1 : Heap} {tk : Nat} (hns : h1.Ns s.heap.objs.size (fun x => (ps.zip us).reverse.lookup x)) (hk : ∀ b o, s.heap.get? b = some o → h1.get? b = some o) :
    Inv (cxS CX P w K mg base N qual scope f cd cc A outer s H E) [] (L2.start N vs) H { s with heap := h1, toks := tk } := by
  have hpl : ps.length ≤ N.length := by have := congrArg List.length S.pre; rw [List.length_take] at this; omega
  have noA : ∀ b : Addr, b ∉ (cxS CX P w K mg base N qual scope f cd cc A outer s H E).ex := fun b z => absurd (show b ∈ ([] : List Addr) from z) (by simp)
  have hccb := e0.mod.kin _ _ lcc
  refine ⟨⟨e0.mod, S.kind, rfl, rfl, Nat.le_refl _, fun y z c h1 h2 => ?_, fun y hy => ?_, fun y c hy h => ?_, fun _ => hd, Around.frames_deeper e0.frames, .inr ⟨rfl, rfl⟩, fun b z => absurd z (noA b), e0.bs, e0.bsz, fun b _ _ => noA b, fun b z => absurd z (noA b), e0.funs, e0.frf⟩,
    rfl, e0.bare, Un.kept hk, ⟨_, hns, fun i y v h1 h2 h3 => ?_⟩, fun y c h => ?_, e0.hok.fresh (Nat.le_refl _), fun y c h => ?_, fun p hp => absurd (show p ∈ ([] : List (Addr × Obj)) from hp) (by simp), e0.hok.kept hk, ?_⟩
  · rw [(one_cell h1).1, (one_cell h2).1]
  · have hy : scope.names.lookup y = some .cell ∨ scope.names.lookup y = some .free := hy
    rcases hy with hy | hy
    · exact absurd rfl (S.nocell _ (PySem.mem_of_lookup hy))
    · have := S.free _ (PySem.mem_of_lookup hy) rfl
      exact ⟨cc, by rw [show y = ("__class__" : Str) from this]; show List.lookup ("__class__" : Str) [(("__class__" : Str), cc)] = some cc; simp [List.lookup]⟩
  · exact absurd (one_cell h).1 (of_decide_eq_true hy)
  · have hi : i < vs.length := by
      unfold L2.start at h2
      by_cases hi : i < vs.length
      · exact hi
      · rw [List.getElem?_append_right (by simpa using hi)] at h2
        rw [List.getElem?_replicate] at h2
        split at h2 <;> cases h2
    have ha : vs[i]? = some v := by
      unfold L2.start at h2
      rw [List.getElem?_append_left (by simpa using hi), List.getElem?_map] at h2
      cases e : vs[i]? with
      | none => rw [e] at h2; cases h2
      | some a => rw [e] at h2; cases h2; rfl
    obtain ⟨u, hu, rv⟩ := r.get ha
    have hp : ps[i]? = some y := by
      rw [← S.pre, List.getElem?_take_of_lt (by omega)]; exact h1
    have ndP : ps.Nodup := by rw [← S.pre]; exact S.nd.sublist (List.take_sublist _ _)
    refine ⟨u, rv, .inl ⟨S.par y (List.mem_of_getElem? hp), ?_⟩⟩
    refine lookup_mem ?_ (List.mem_reverse.mpr ?_)
    · rw [List.map_reverse, List.map_fst_zip (by rw [← r.length, hl]; exact Nat.le_refl _)]
      exact (List.reverse_perm _).nodup_iff.mpr ndP
    · have : (ps.zip us)[i]? = some (y, u) := List.getElem?_zip_eq_some.mpr ⟨hp, hu⟩
      exact List.mem_of_getElem? this
  · rw [(one_cell h).2]
    exact ⟨_, _, hk _ _ (e0.bs _ _ hccb).1, rfl⟩
  · rw [(one_cell h).2]
    exact (e0.bs _ _ hccb).2
  · unfold L2.start
    show _ = N.length
    rw [List.length_append, List.length_map, List.length_replicate]
    omega
/-- what is said of such a def's text -/
structure FnTS (g : G) (T : Tab) (f : Nat) (s : S) (nl : Nat) : Prop where
  ex : ∃ (N : List Str) (x qual : Str) (params : Arguments) (body : List Stmt) (scope : Scope) (cc cda : Addr) (d : Nat) (oc : Value) (od : Option Addr) (dV kV doc pm : Value) (an : Option Addr) (ct : Value) (osl : Array (Option Value)),
    g.fd f = PySem.W.ksFn x qual params body scope dV kV doc pm an (.ref cda) ct cc ∧ g.K.lookup (g.fa f) = some ⟨oc, od, .func (g.fd f), osl⟩ ∧ PySem.W.codeIn g.K (.ref cda) qual = true ∧ FnScopeS N (g.ps f) scope ∧ N.length = nl ∧
    chkFS T.st N scope d s body = true ∧ scope ∉ g.lams ∧ scope.names.lookup ("super" : Str) = some .globalImplicit ∧ scope.names.lookup ("__class__" : Str) = some .free ∧ g.mg "super" = none ∧ (g.P.main.scope.names.lookup ("super" : Str)).isSome = false ∧
    (∃ cd, PySem.W.clsIn g.K (g.ca d) = some cd) ∧ (∃ cl cld csl, g.K.lookup cc = some ⟨cl, cld, .cell (some (.ref (g.ca d))), csl⟩) ∧
    (∃ oc vs file tf, g.K.lookup cda = some oc ∧ oc.data = .fields vs ∧ vs[2]? = some (.str file tf) ∧ ((g.P.main.file : Str) == file) = true) ∧
    (∃ ar, (params.posonlyargs ++ params.args).head? = some ar ∧ N[0]? = some ar.arg ∧ scope.names.lookup ar.arg = some .local) ∧ PySem.W.nsIn g.K cStatics "thirdparty.any" = some none
theorem ok_fnS {g : G} {T : Tab} {k f nl : Nat} {s : S} {wd : Wd} {sp : Sp} {pure_ : Fra → Cells → Nat → RS} (F : Fx g wd k) (est : wd.toWs = T.st) (t : FnTS g T f s nl) {n : Nat} (len : ∀ vs H Q E, sp vs H Q E → vs.length = (g.ps f).length)
    (hsp : ∀ {N : List Str} {vs : List V} {H : Hp} {Q : VK} {E : XK}, N.length = nl → sp vs H Q E → ∃ b, tS g (fun c d _ H' => E c d H') b (exS wd n b s) { nx := fun _ H' => Q .non H', rt := Q } (L2.start N vs) H) :
    FnG g.P g.w g.K g.mg g.base (L2.CX g.P g.w) (k + 3) (g.fa f) (g.fd f) (g.ps f) sp := by
  obtain ⟨N, x, qual, params, body, scope, cc, cda, d, oc, od, dV, kV, doc, pm, an, ct, osl, hfd, lk, hcode, Sc, hN, hc, hnl, hks, hkc, hms, htop, hcls, ⟨cl, cld, csl, lcc⟩, ⟨oc2, vs2, file, tf, lcd, hod, hvs, hfile⟩, ⟨ar, har, hN0, hka⟩, hopq⟩ := t.ex
  refine ⟨len, fun A outer s0 H args us vs Q E hr hgd e0 hb r h => ?_⟩
  have hl := len _ _ _ _ h
  have KX : g.K.In s0.heap := e0.mod.kin.keeps fun b o e => (e0.bs b o e).1
  have lim : s0.heap.NoLimit := e0.mod.nolimit.keeps fun b o e => (e0.bs b o e).1
  have hl2 : (g.ps f).length = us.length := by rw [← hl, r.length]
  refine PySem.ks_codeAny_call_defAt (fd := g.fd f) (body := body) (binds := (g.ps f).zip us) hr.depth (KX _ _ lk) rfl lim (by rw [hfd]; exact PySem.W.codeRec_of KX hcode) (by rw [hfd]) hb (by rw [hfd]; exact Sc.nocell) (fun y hy => by rw [hfd]; exact Sc.par _ (List.of_mem_zip hy).1) (fun h₀ hns hk₁ => ?_) (by rw [hfd]; exact Sc.co) (by rw [hfd]; exact Sc.gen) (by rw [hfd]; exact Sc.kind)
  have henv : callEnv (g.fd f) s0.heap.objs.size (g.fa f) = PySem.W.ksEnv qual scope s0.heap.objs.size (g.fa f) (.ref cda) cc := by rw [hfd]; rfl
  rw [henv]
  have ok : Okx g N scope true k (cxS (L2.CX g.P g.w) g.P g.w g.K g.mg g.base N qual scope (g.fa f) (.ref cda) cc A outer s0 H E) (fun c d _ H' => E c d H') :=
    ⟨rfl, rfl, rfl, rfl, rfl, rfl, Sc.nd, rfl, rfl, fun _ x hx => absurd rfl (Sc.nocell _ (PySem.mem_of_lookup hx)), hr.deeper _, takes_of rfl rfl rfl rfl, hgd, fun h => absurd h hnl, fun _ => ⟨rfl, rfl, rfl⟩⟩
  have SX : SupX (cxS (L2.CX g.P g.w) g.P g.w g.K g.mg g.base N qual scope (g.fa f) (.ref cda) cc A outer s0 H E) (g.ca d) :=
    ⟨hks, hkc, hms, htop, hcls, ⟨cc, cl, cld, csl, by simp [cxS, List.lookup], lcc⟩, ⟨cda, oc2, vs2, file, tf, rfl, lcd, hod, hvs, hfile⟩, ⟨g.fa f, _, _, ar, rfl, lk, rfl, by rw [hfd]; exact har, hN0, hka⟩, hopq⟩
  have I := inv_startS (CX := L2.CX g.P g.w) (qual := qual) (f := g.fa f) (cd := .ref cda) (E := E) (tk := s0.toks + ((g.ps f).zip us).length) Sc hr.hd e0 hl r lcc hns hk₁
  obtain ⟨b, hq⟩ := hsp hN h
  cases s <;> first | (simp [chkFS] at hc; done) | skip
  rename_i s1 sr
  cases body with
  | nil => simp [chkFS] at hc
  | cons st ss =>
    have hcc := hc
    rw [← est] at hcc
    simp only [chkFS, Bool.and_eq_true] at hcc
    have run := pssa_cons (sndS1 (n := n) (b := b) (body := st :: ss) F ok SX s1 st hcc.1) ((sndS F sr).l (n := n) (b := b) ok (passes_of rfl) ss hcc.2) [] _ _ H _ I (tS_seq (tS_eq (fun fr cs => by rw [exS]) hq))
    refine PySem.wpAt_mono run (fun fl s' hs => ?_) fun e s' hs => hs
    have fin : ∀ {σ' : L2.St} {H' : Hp} {v : V} {u : Value}, Inv (cxS (L2.CX g.P g.w) g.P g.w g.K g.mg g.base N qual scope (g.fa f) (.ref cda) cc A outer s0 H E) [] σ' H' s' → RelV v u → Q v H' → CE outer g.P g.w H s0 Q u s' :=
      fun {σ' H' v u} J rv q => ⟨v, H', J.os, J.bare, J.base, J.hok, rv, q⟩
    cases fl with
    | ret u =>
      obtain ⟨v, σ', H', J, rv, q⟩ := hs
      exact fin J rv q
    | next =>
      obtain ⟨σ', H', J, q⟩ := hs
      exact fin (v := .non) J rfl q
    | brk => obtain ⟨σ', H', J, q⟩ := hs; exact q.elim
    | cont => obtain ⟨σ', H', J, q⟩ := hs; exact q.elim
theorem toD_post {g : G} {ra : Ra} {H : Hp} {Q : VK} {E : XK} {r : R W} (h : PostR g (rpW g ra) ((toD r).map W.d) ra H Q E) : PostR g (rpW g ra) r ra H Q E := by
  cases r with
  | ok w c =>
    cases w with
    | d d => exact h
    | loc n => exact h.elim
  | exc c x cc => exact h
  | bad => exact h
theorem Tab.fx {g : G} {T : Tab} {n : Nat} (F : Fst g T.st) (t : ∀ f s nl, T.fn f = some (s, nl) → FnT g T f s nl ∨ FnTS g T f s nl)
    (td : ∀ (wd : Wd) (k f : Nat) (d : DeedD), Fx g wd k → wd.toWs = T.st → T.dn f = some d → FnD g g.P g.w g.K g.mg g.base (k + 4) f (fnRunD wd n d)) : ∀ j, Fx g (T.at n j) (3 * j)
  | 0 => F.fx rfl (fun f => ok_none fun vs H Q E ⟨_, _, _, _, _, _, p⟩ => p) (fun f => ok_none fun vs H Q E ⟨_, _, _, _, _, _, p⟩ => p) (fun f => ⟨fun A outer s H u th ra cs Q E _ _ _ _ _ _ _ _ p => p.elim⟩) (.inr fun _ _ _ => rfl) (fun h _ _ => by omega)
  | j + 1 => by
    have ih := Tab.fx (n := n) F t td j
    have est := T.at_st n j
    refine F.fx (wd := T.step n (T.at n j)) rfl (fun f => ?_) (fun f => ?_) (fun f => ?_) (.inl ⟨3 * j, by omega⟩) (fun {z N scope body X Wx kk} hk hc ok => ?_)
    · show FnG _ _ _ _ _ _ _ _ _ _ (spOf g _ fun ws cs => match T.fn f with | some (s, nl) => fnRun (T.at n j) n s nl ws cs | none => .bad)
      cases e : T.fn f with
      | none => exact ok_none fun vs H Q E ⟨_, _, _, _, _, _, p⟩ => p
      | some x =>
        obtain ⟨s, nl⟩ := x
        rcases t f s nl e with t | t
        · exact ok_fn ih est t
        · refine ok_fnS ih est t (n := n) (pure_ := fun _ _ _ => .bad) (fun vs H Q E ⟨ws, cs, ra, R, r, hl, _⟩ => by rw [← r.length]; exact hl) fun {N vs H Q E} hN ⟨ws, cs, ra, R, r, hl, post⟩ => ?_
          exact ⟨cs.length, bs0 ra H, _, cs, ra, R.len, bs0_ok ra H, R, start_ok r hN, end_post R post⟩
    · show FnG _ _ _ _ _ _ _ _ _ _ (spOfL g _ fun ws cs => match T.fn f with | some (s, nl) => fnRunL (T.at n j) n s nl ws cs | none => .bad)
      cases e : T.fn f with
      | none => exact ok_none fun vs H Q E ⟨_, _, _, _, _, _, p⟩ => p
      | some x =>
        obtain ⟨s, nl⟩ := x
        rcases t f s nl e with t | t
        · exact ok_fnL ih est t
        · refine ok_fnS ih est t (n := n) (pure_ := fun _ _ _ => .bad) (fun vs H Q E ⟨ws, cs, ra, R, r, hl, _⟩ => by rw [← r.length]; exact hl) fun {N vs H Q E} hN ⟨ws, cs, ra, R, r, hl, post⟩ => ?_
          exact ⟨cs.length, bs0 ra H, _, cs, ra, R.len, bs0_ok ra H, R, start_ok r hN, endL_post R post⟩
    · show FnD _ _ _ _ _ _ _ _ (fun th cs => match T.dn f with | some d => fnRunD (T.at n j) n d th cs | none => .bad)
      cases e : T.dn f with
      | none => exact ⟨fun A outer s H u th ra cs Q E _ _ _ _ _ _ _ _ p => p.elim⟩
      | some d => exact td _ _ f d ih est e
    · have hkk : kk = 3 * j := by omega
      subst hkk
      refine PE.imp ((snd ih z).ex_ ok (by rw [est]; exact hc)) fun σ H Q ⟨fr, cs, ra, R, Fr, q⟩ => ⟨fr, cs, ra, R, Fr, toD_post q⟩
end BV

namespace BV
open PySem L2

/-! ### the end: the law's call -/
/-- the end: what the law's def promises, of any script; T: the tables of code objects with the lambdas' names -/
def spLaw (K : PySem.W.Frag) (T : List (Addr × Str)) : Sp := fun vs H Q _ => ∃ (a : Addr) (ns : List Int), vs = [.ref a] ∧ SqL K H a (ns.map V.int) ∧ ns.length ≤ 63 ∧ LamX.Tabs T H ∧ ∀ H', Q (.bl true) H'
abbrev tab0 : Obj := { cls := .none, data := .fields #[] }
/-- what is known of the code objects that make lambdas and of their tables -/
structure Cods (K : PySem.W.Frag) (h : Heap) (cs : List (Addr × Addr)) : Prop where
  hd : ∀ p ∈ cs, PySem.W.CodeHd h p.1 p.2
  emp : ∀ p ∈ cs, h.get? p.2 = some tab0
  off : ∀ p ∈ cs, K.lookup p.2 = none
abbrev BmAt (mg : Str → Option Value) (h : Heap) : Prop := ∃ (bm : Addr) (ob : Obj), mg "__builtins__" = some (.ref bm) ∧ bm ≠ builtinsNs ∧ h.get? bm = some ob ∧ ob.cls = .type "module" ∧ ob.dict = some builtinsNs ∧ ob.data = .plain
/-- from an abstract heap H that tracks at most the script and the tables -/
theorem lawG_core {P : Program} {w : World} {K : PySem.W.Frag} {mg mb : Str → Option Value} {k : Nat} {fa a : Addr} {fd : FuncData} {x : Str} {sp : Sp} {s : Shared} {vs : List Value} {cs : List (Addr × Addr)}
    (KX : K.In s.heap) (hns : s.heap.Ns mainGlobals mg) (hb : s.heap.Ns builtinsNs mb) (hbb : ∀ x : Str, x ≠ "__name__" → mb x = bootBuiltins x) (hlim : s.heap.NoLimit) (hg : s.gens = #[])
    (C : Cods K s.heap cs) (hbm : BmAt mg s.heap)
    (ha : s.heap.get? a = some { cls := .type "list", data := .seq vs.toArray }) (hr : Room k callerA)
    (F : ∀ base : Heap, K.In base → base.Ns mainGlobals mg → (∀ p ∈ cs, LamX.TabB base mg p.1 p.2) → FnG P w K mg base (L2.CX P w) k fa fd [x] sp) (hbind : ∀ (s : Shared) (u : Value), BindsTo s fd ⟨[u], []⟩ [(x, u)])
    {H : Hp} (hO : ∀ b, H b = none ∨ (∃ p ∈ cs, p.2 = b) ∨ ∃ ob xs, H b = some (.frz ob (.lst xs))) (hT : ∀ p ∈ cs, H p.2 = some (.tbl #[])) (hok : HOk P w H s.heap) (hA : ∀ b, H b ≠ none → b = a ∨ ∃ p ∈ cs, p.2 = b) (hK : H a ≠ none → K.lookup a = none) (hsp : sp [.ref a] H (fun v _ => v = .bl true) fun _ _ _ => False) :
    codeAny (model P w) callerA (.call (.ref fa) ⟨[.ref a], []⟩) (fun r s' => r = .ok (.ret (.bool true)) ∧ OldK s.heap s'.heap ∧ s'.os = s.os ∧ PyProof.Rows.AllBare s'.gens) s := by
  have noH : ∀ {b : Addr} {o : Obj}, s.heap.get? b = some o → (b = a → H a = none) → (∀ p ∈ cs, p.2 ≠ b) → H b = none := fun {b o} e n1 n2 => by
    cases q : H b with
    | none => rfl
    | some u =>
      rcases hA b (by rw [q]; simp) with e' | ⟨p, hp, e'⟩
      · subst e'; rw [n1 rfl] at q; cases q
      · exact absurd e' (n2 p hp)
  have vis : ∀ {b : Addr} {o : Obj}, s.heap.get? b = some o → (∀ ws n, o.data ≠ .seq ws n) → o.data ≠ .fields #[] → (hidT s.heap H).get? b = some o := fun {b o} e n1 n2 => hidT_get e (noH e (fun e' => by
    subst e'
    rw [ha] at e
    cases e
    exact absurd rfl (n1 _ _)) fun p hp e' => by
      subst e'
      rw [C.emp p hp] at e
      cases e
      exact absurd rfl n2)
  have nsK : ∀ {b : Addr} {m : Str → Option Value}, s.heap.Ns b m → (hidT s.heap H).Ns b m := fun {b m} ⟨o, es, ep, e, d, r⟩ => ⟨o, es, ep, vis e (fun ws n z => by rw [d] at z; cases z) (fun z => by rw [d] at z; cases z), d, r⟩
  have hKb : K.In (hidT s.heap H) := fun b o e => hidT_get (KX b o e) (noH (KX b o e) (fun e' => by
    cases q : H a with
    | none => rfl
    | some u =>
      have z := hK (by rw [q]; simp)
      rw [e', z] at e
      cases e) fun p hp e' => by
      have z := C.off p hp
      rw [e', e] at z
      cases z)
  have hTB : ∀ p ∈ cs, LamX.TabB (hidT s.heap H) mg p.1 p.2 := fun p hp => by
    have hp0 := C.emp p hp
    obtain ⟨ob0, es0, ep0, eG, dG, _⟩ := hns
    refine ⟨?_, ?_, fun z => ?_⟩
    · obtain ⟨o, us, f, tf, fl, tg, iF, tx, tt, e1, r⟩ := C.hd p hp
      have d1 := r.2.1
      have d2 := r.2.2.1
      refine ⟨o, us, f, tf, fl, tg, iF, tx, tt, vis e1 (fun ws n z => by rw [d1] at z; cases z) (fun z => ?_), r⟩
      rw [d1] at z
      cases z
      simp at d2
    · obtain ⟨bm, ob, m1, m2, m3, m4, m5, m6⟩ := hbm
      refine ⟨bm, ob, m1, m2, fun q => ?_, fun q => ?_, vis m3 (fun ws n z => by rw [m6] at z; cases z) (fun z => by rw [m6] at z; cases z), m4, m5, m6⟩
      · rw [q, eG] at m3
        cases m3
        rw [dG] at m6
        cases m6
      · rw [q, hp0] at m3
        cases m3
        cases m6
    · rw [z, hp0] at eG
      cases eG
      cases dG
  have e0 : Env0 P w K mg (hidT s.heap H) callerA [] s H :=
    ⟨rfl, ⟨hKb, nsK hns, ⟨mb, nsK hb, hbb⟩, let ⟨mc, h1, h2⟩ := hlim; ⟨mc, nsK h1, h2⟩⟩, fun b o e => of_hidT e, Nat.le_of_eq (hidT_size _ _), trivial, fun b hb => absurd (show b ∈ ([] : List Addr) from hb) (by simp), hok, .of_eq hg⟩
  refine codeAny_mono ((F _ hKb (nsK hns) hTB).run callerA [] s H ⟨[.ref a], []⟩ [.ref a] [.ref a] _ _ hr rfl e0 (hbind s (.ref a)) (.cons rfl .nil) hsp) fun r s' h => ?_
  match r, h with
  | .ok (.ret u), h =>
    obtain ⟨v, H', os, bare, un, hok', r', q⟩ := h
    obtain rfl : v = .bl true := q
    obtain rfl : u = Value.bool true := r'
    have old : ∀ b o, s.heap.get? b = some o → (∀ p ∈ cs, p.2 ≠ b) → s'.heap.get? b = some o := fun b o e nt => by
      rcases hO b with q | ⟨p, hp, q⟩ | ⟨ob, xs, q⟩
      · exact un.keep b o e q (by intro z; exact absurd (show b ∈ ([] : List Addr) from z) (by simp)) (by simp)
      · exact absurd q (nt p hp)
      · obtain ⟨e1, _⟩ := hok b _ q
        obtain ⟨e2, _⟩ := hok' b _ (un.frzs b ob _ q)
        rw [e] at e1
        cases e1
        exact e2
    have grow : ∀ p ∈ cs, ∃ ps : Array Value, s'.heap.get? p.2 = some { cls := .none, data := .fields ps } := fun p hp => by
      obtain ⟨ms, z⟩ := un.tbls p.2 #[] (hT p hp)
      exact ⟨_, hok' p.2 _ z⟩
    refine ⟨rfl, ⟨fun b o e => ?_, fun b o e => ?_⟩, os, bare⟩
    · by_cases hb : ∃ p ∈ cs, p.2 = b
      · obtain ⟨p, hp, rfl⟩ := hb
        obtain ⟨ps, hm⟩ := grow p hp
        rw [C.emp p hp] at e
        cases e
        refine .inr (.inl ⟨((C.hd p hp).tab (C.emp p hp)).isCodeTable, rfl, #[], ps, rfl, ?_⟩)
        rw [Array.empty_append]
        exact hm
      · exact .inl (old b o e fun p hp z => hb ⟨p, hp, z⟩)
    · by_cases hb : ∃ p ∈ cs, p.2 = b
      · obtain ⟨p, hp, rfl⟩ := hb
        obtain ⟨ps, hm⟩ := grow p hp
        exact ⟨_, hm⟩
      · exact ⟨o, old b o e fun p hp z => hb ⟨p, hp, z⟩⟩
  | .ok .next, h => exact False.elim h
  | .ok .brk, h => exact False.elim h
  | .ok .cont, h => exact False.elim h
  | .error e, h =>
    obtain ⟨_, _, _, _, _, _, _, _, _, _, _, _, z⟩ := h
    exact z.elim
theorem lawG {P : Program} {w : World} {K : PySem.W.Frag} {mg mb : Str → Option Value} {k : Nat} {fa a : Addr} {fd : FuncData} {x : Str} {T : List (Addr × Str)} {s : Shared} {vs : List Value} {ns : List Int} {cs : List (Addr × Addr)}
    (KX : K.In s.heap) (hns : s.heap.Ns mainGlobals mg) (hb : s.heap.Ns builtinsNs mb) (hbb : ∀ x : Str, x ≠ "__name__" → mb x = bootBuiltins x) (hlim : s.heap.NoLimit) (hg : s.gens = #[])
    (C : Cods K s.heap cs) (hbm : BmAt mg s.heap) (hTc : ∀ q ∈ T, ∃ c, (c, q.1) ∈ cs)
    (ha : s.heap.get? a = some { cls := .type "list", data := .seq vs.toArray }) (hi : PyProof.Rows.IntsAre vs ns) (hl : ns.length ≤ 63) (hr : Room k callerA)
    (F : ∀ base : Heap, K.In base → base.Ns mainGlobals mg → (∀ p ∈ cs, LamX.TabB base mg p.1 p.2) → FnG P w K mg base (L2.CX P w) k fa fd [x] (spLaw K T)) (hbind : ∀ (s : Shared) (u : Value), BindsTo s fd ⟨[u], []⟩ [(x, u)]) :
    codeAny (model P w) callerA (.call (.ref fa) ⟨[.ref a], []⟩) (fun r s' => r = .ok (.ret (.bool true)) ∧ OldK s.heap s'.heap ∧ s'.os = s.os ∧ PyProof.Rows.AllBare s'.gens) s := by
  classical
  have rv := vals_ints hi
  have lenV := hi.length
  have hz : (63 : Nat) ≤ sizeLine := by rw [sizeLine_eq]; decide
  have hl2 : ns.length ≤ sizeLine := Nat.le_trans hl hz
  have aT : ∀ p ∈ cs, p.2 ≠ a := fun p hp z => by
    have q := C.emp p hp
    rw [z, ha] at q
    cases q
  have sp_of : ∀ H : Hp, SqL K H a (ns.map V.int) → (∀ p ∈ cs, H p.2 = some (.tbl #[])) → spLaw K T [.ref a] H (fun v _ => v = .bl true) fun _ _ _ => False := fun H hS hT => ⟨a, ns, rfl, hS, hl, fun q hq => by
    obtain ⟨c, hc⟩ := hTc q hq
    exact LamX.TabS.nil (hT _ hc), fun _ => rfl⟩
  let tabsH : Hp := fun b => if ∃ p ∈ cs, p.2 = b then some (.tbl #[]) else none
  have tT : ∀ p ∈ cs, tabsH p.2 = some (.tbl #[]) := fun p hp => if_pos ⟨p, hp, rfl⟩
  have tok : ∀ b u, tabsH b = some u → ObjOk P w tabsH s.heap b u ∧ (∃ p ∈ cs, p.2 = b) ∧ u = .tbl #[] := fun b u z => by
    by_cases hb : ∃ p ∈ cs, p.2 = b
    · have z' := (if_pos hb).symm.trans z
      cases z'
      obtain ⟨p, hp, rfl⟩ := hb
      exact ⟨C.emp p hp, ⟨p, hp, rfl⟩, rfl⟩
    · have z' := (if_neg hb).symm.trans z
      cases z'
  cases hk : K.lookup a with
  | some o =>
    have e := KX a o hk
    rw [ha] at e
    cases e
    have na : tabsH a = none := if_neg fun ⟨p, hp, z⟩ => aT p hp z
    refine lawG_core KX hns hb hbb hlim hg C hbm ha hr F hbind (H := tabsH) (fun b => ?_) tT (fun b u z => (tok b u z).1) (fun b z => ?_) (fun z => absurd na z) (sp_of _ (.inr ⟨_, vs.toArray, _, hk, rfl, rfl, rfl, by rw [List.size_toArray, lenV]; exact hl2, by simpa using rv⟩) tT)
    · by_cases hb : ∃ p ∈ cs, p.2 = b
      · exact .inr (.inl hb)
      · exact .inl (if_neg hb)
    · cases q : tabsH b with
      | none => exact absurd q z
      | some u => exact .inr (tok b u q).2.1
  | none =>
    let H : Hp := upd tabsH a (.frz { cls := .type "list", data := .seq vs.toArray } (.lst (ns.map V.int)))
    have at_ : H a = some (.frz { cls := .type "list", data := .seq vs.toArray } (.lst (ns.map V.int))) := upd_same
    have off : ∀ b, b ≠ a → H b = tabsH b := fun b h => upd_ne h
    have hT : ∀ p ∈ cs, H p.2 = some (.tbl #[]) := fun p hp => by rw [off _ (aT p hp)]; exact tT p hp
    refine lawG_core KX hns hb hbb hlim hg C hbm ha hr F hbind (H := H) (fun b => ?_) hT (fun b u z => ?_) (fun b z => ?_) (fun _ => hk) (sp_of H (.inl (.inr ⟨_, at_⟩)) hT)
    · by_cases e : b = a
      · exact .inr (.inr ⟨_, _, by rw [e]; exact at_⟩)
      · rw [off b e]
        by_cases hb : ∃ p ∈ cs, p.2 = b
        · exact .inr (.inl hb)
        · exact .inl (if_neg hb)
    · by_cases e : b = a
      · subst e
        rw [at_] at z
        cases z
        exact ⟨ha, by rw [List.length_map]; exact hl2, vs, _, rv, ha⟩
      · rw [off b e] at z
        obtain ⟨h1, h2, rfl⟩ := tok b u z
        exact h1
    · by_cases e : b = a
      · exact .inl e
      · rw [off b e] at z
        cases q : tabsH b with
        | none => exact absurd q z
        | some u => exact .inr (tok b u q).2.1
/-- the goal that k_head leaves, from the promise of the law's def -/
theorem walkG {l : PySem.W.OpenLaw} {k : Nat} {q : Program} {loose : List Str} {XP : (Str → Option Value) → Heap → Prop} {YP : World → Heap → Prop} {d : DefRec} {K : Params → PySem.W.Frag} {x : Str}
    (hn : l.most = some 63) (hdf : d.params.defaults = []) (hr : Room k callerA) (hY : ∀ (w : World) (h : Heap), YP w h → (K w.params).In h)
    (F : ∀ (w : World) (mg : Str → Option Value) (fa : Addr) (h : Heap), (K w.params).In h → h.Ns mainGlobals mg → mg d.name = some (.ref fa) →
      YP w h →
      ∃ (fd : FuncData) (cs : List (Addr × Addr)) (T : List (Addr × Str)), Cods (K w.params) h cs ∧ (∀ q ∈ T, ∃ c, (c, q.1) ∈ cs) ∧ (∀ (s : Shared) (u : Value), BindsTo s fd ⟨[u], []⟩ [(x, u)]) ∧
        ∀ base : Heap, (K w.params).In base → base.Ns mainGlobals mg → (∀ p ∈ cs, LamX.TabB base mg p.1 p.2) → FnG l.prog w (K w.params) mg base (L2.CX l.prog w) k fa fd [x] (spLaw (K w.params) T)) :
    PySem.W.WalkO q loose XP YP l.row.toRowW d [] (fun f vs => PySem.call f vs) := by
  refine Att.attach_call hn hdf fun w s₀ s₁ mg mb fa o pm cd doc a vs ns G Y ho hd hcd hmg hobj hints hlen hg => ?_
  have KX := hY w _ Y
  obtain ⟨fd, cs, T, C, hTc, hb, hF⟩ := F w mg fa _ KX G.T.g hmg Y
  exact lawG KX G.T.g G.T.b G.T.builtins G.T.nolimit hg C G.T.bmain hTc hobj hints hlen hr hF hb
end BV

namespace BV
open PySem L2
/-! ### own exceptions whose __init__ says super().__init__(p) and self.p = p -/
/-- a built-in base of exceptions -/
structure XBase (B newId initId : String) (bmB : List Value) : Prop where
  fb : ExcBaseFacts B newId initId bmB
  kf : PySem.W.KxsFacts B initId
  sf : StoreFacts B bmB "object.__setattr__" "object"
  qi : initId.startsWith "lifetime." = false
  ob : bmB.contains (.type "object") = true
def excBody (p : Str) : List Stmt → Bool
  | [.Expr (.Call (.Attribute (.Call (.Name s _) [] [] _) m ap) [.Name x _] [] cp) _, .Assign [.Attribute (.Name y _) a _] (.Name z _) _] => decide (s = "super") && decide (m = "__init__") && decide (x = p) && decide (y = "self") && decide (a = p) && decide (z = p) && (ap.endLine == cp.line)
  | _ => false
/-- what the written part says of such a class, at C, of its family, at Fam, and of its __init__, at fI -/
structure ExT (P : Program) (K : PySem.W.Frag) (mg : Str → Option Value) (B newId initId : String) (bmB : List Value) (C Fam fI : Addr) (p : Str) : Prop where
  obj : ∃ nm q N bs sn sub ab col dd k0 k1 k2 k3 k5, K.lookup C = some (excClassObj nm q C N bs (.ref Fam :: bmB) true sn sub ab col dd k0 k1 k2 k3 k5 newId)
  sa : PySem.W.findIn K (.ref C) "__setattr__" = some (some (.builtin "object.__setattr__"))
  noP : PySem.W.findIn K (.ref C) p = some none
  iC : PySem.W.findIn K (.ref C) "__init__" = some (some (.ref fI))
  tI : PySem.W.typeIn K (.ref fI) = some (.type "function")
  kC : PySem.W.keepIn K (.ref C) = true
  exC : PySem.W.subIn K (.ref C) (.type "BaseException") = some true
  tyC : PySem.W.typeIn K (.ref C) = some (.type "type")
  sup : PySem.W.ks_superIn K C C "__init__" = some (some (.builtin initId))
  subB : PySem.W.subIn K (.ref C) (.type B) = some true
  opq : PySem.W.nsIn K cStatics "thirdparty.any" = some none
  nsup : mg "super" = none
  top : (P.main.scope.names.lookup ("super" : Str)).isSome = false
  db : (p == ("__debug__" : Str)) = false
  fn : ∃ (qual : Str) (params : Arguments) (body : List Stmt) (scope : Scope) (cc cda : Addr) (oc : Value) (od : Option Addr) (dV kV doc pm : Value) (an : Option Addr) (ct : Value) (osl : Array (Option Value)),
    K.lookup fI = some ⟨oc, od, .func (PySem.W.ksFn "__init__" qual params body scope dV kV doc pm an (.ref cda) ct cc), osl⟩ ∧ PySem.W.codeIn K (.ref cda) qual = true ∧ excBody p body = true ∧ FnScopeS ["self", p] ["self", p] scope ∧
    scope.names.lookup ("super" : Str) = some .globalImplicit ∧ scope.names.lookup ("__class__" : Str) = some .free ∧
    (∀ us : List Value, us.length = 2 → bindArgs (PySem.W.ksFn "__init__" qual params body scope dV kV doc pm an (.ref cda) ct cc) ⟨us, []⟩ = pure ((["self", p] : List Str).zip us)) ∧
    (∃ cl cld csl, K.lookup cc = some ⟨cl, cld, .cell (some (.ref C)), csl⟩) ∧
    (∃ oc vs file tf, K.lookup cda = some oc ∧ oc.data = .fields vs ∧ vs[2]? = some (.str file tf) ∧ ((P.main.file : Str) == file) = true) ∧
    (∃ ar, (params.posonlyargs ++ params.args).head? = some ar ∧ ar.arg = ("self" : Str))
section
variable {prog : Program} {w : World} {M : Model} {A : Around} {E : Value → Shared → Prop} {h : Heap} {g : Array GenState} {d : Drawn} {t : Nat} {os : OsState}
variable {nm q : Str} {C N : Addr} {bs bm bmB : List Value} {hdct : Bool} {sn : List Str} {sub : List Value} {ab : Bool} {col : Option Bool} {dd : Option Addr} {k0 k1 k2 k3 k5 : Option Value} {B newId initId : String}
/-- the bound __init__ of the built-in base is called -/
theorem call_mw (F : ExcBaseFacts B newId initId bmB) (hqi : initId.startsWith "lifetime." = false) {u e t0 : Addr} {rest : List Value} {Q : Value → Shared → Prop}
    (hC : h.get? C = some (excClassObj nm q C N bs bm hdct sn sub ab col dd k0 k1 k2 k3 k5 newId)) (he : h.get? e = some (HandSPX.excO C t0)) (hu : h.get? u = some (PySem.W.kxs_mw initId e)) (hrest : rest.length ≤ sizeLine)
    (hq : ∀ h' t1, (∀ b o, b ≠ e → h.get? b = some o → h'.get? b = some o) → h'.get? e = some (HandSPX.excO C t1) → Q .none ⟨h', g, d, t, os⟩) :
    wpAny (model prog w) A (call (.ref u) rest) Q E ⟨h, g, d, t, os⟩ := by
  refine wpAny_call (codeAny_of_tree ?_)
  show wpAny _ A.in1 (callAny (.ref u) ⟨rest, []⟩) _ _ _
  simp only [callAny]
  refine wpAny_bind (wpAny_load hu ?_)
  simp only [PySem.W.kxs_mw, show (Value.type "method-wrapper" == Value.type "method" || Value.type "method-wrapper" == Value.type "builtin_function_or_method" || Value.type "method-wrapper" == Value.type "method-wrapper") = true by decide, if_true]
  refine PySem.W.KFB.if_so (by decide) ?_
  refine wpAny_bind (PySem.W.check_bound_init F.toExcCallFacts hC he rfl ?_)
  refine wpAny_bind (wpAny_pure (wpAny_pure ?_))
  refine ⟨Code.quiet_builtin _ hqi, codeAny_builtin F.initEntry ?_⟩
  rw [Around.under_plainId F.init.plain _]
  refine PySem.W.exc_init_tree (cls := .ref C) (t0 := t0) (dv := none) (c2 := .none) (c3 := .none) (b4 := .bool false) he hrest fun h' k1 e1 t1 => ?_
  exact hq h' _ k1 e1
/-- self.name = v on an exception that has no dict yet -/
theorem exc_osaX {K : PySem.W.Frag} {name : Str} {tk : Tok} {v : Value} {x Fam : Addr} {fv : Array Value} {cd : ClassData} {R : Result → Shared → Prop} (XB : XBase B newId initId bmB)
    (X : K.In h) (hx : h.get? x = some { cls := .ref C, data := .fields fv }) (hcd : PySem.W.clsIn K C = some cd) (hm : cd.mro = .ref C :: .ref Fam :: bmB) (hh : cd.hasDict = true) (ha : PySem.W.findIn K (.ref C) name = some none)
    (hq : ∀ h' tk' dx, (∀ b o, b ≠ x → h.get? b = some o → h'.get? b = some o) → h.objs.size ≤ dx → dx ≠ x → h'.get? x = some { cls := .ref C, dict := some dx, data := .fields fv } →
      h'.Ns1 dx (fun y => if y = name then some v else none) → R (.ok (.ret .none)) ⟨h', g, d, tk', os⟩) :
    codeAny (model prog w) A (.call (.builtin "object.__setattr__") ⟨[.ref x, .str name tk, v], []⟩) R ⟨h, g, d, t, os⟩ := by
  have I : PySem.W.InstAt h x { cls := .ref C, data := .fields fv } C none := ⟨hx, rfl, rfl, trivial⟩
  have SF := F.store_object
  have ne : cd.mro.isEmpty = false := by rw [hm]; rfl
  have hob : cd.mro.contains (.type "object") = true := by rw [hm, List.contains_cons, List.contains_cons, XB.ob]; simp
  have hxs : x ≠ h.objs.size := Nat.ne_of_lt (Heap.lt_size hx)
  have sub : PySem.W.Looks (model prog w) h (isInstance (.ref x) (.type "object")) true := I.type.andThen (PySem.W.looks_mroIn X (by unfold PySem.W.mroIn; rw [hcd, Option.bind_some, if_neg (by rw [ne]; decide), hob]))
  refine codeAny_call_builtin SF.slot.plain SF.entry (@PySem.W.check_slot (model prog w) _ _ ⟨h, g, d, t, os⟩ "object.__setattr__" "object" "__setattr__" (.ref x) [.str name tk, v] [] _ SF.kind SF.split sub (SF.args (.ref x) (.str name tk) v) ?_)
  have hmr : PySem.W.Looks (model prog w) h (mroOf (.ref C)) cd.mro := (PySem.W.looks_clsIn X hcd).andThen .now
  have L3 : PySem.W.Looks (model prog w) h (Builtin.ObjectAttr.storeTaker? none) none := .now
  have hcls : PySem.W.Looks (model prog w) h (classData C) cd := PySem.W.looks_clsIn X hcd
  have hpass : refuseLoop (.ref x) "__setattr__" cd.mro = pure () := by
    rw [hm, refuseLoop_ref, refuseLoop_ref]
    exact XB.sf.passes _
  rw [PySem.W.osa_eq, refuse_eq]
  refine wpAny_bind (wpAny_bind (I.type.at (wpAny_bind (hmr.at ?_))))
  rw [hpass]
  refine wpAny_pure (wpAny_bind (I.type.at (wpAny_bind ((PySem.W.looks_findIn X ha).at (wpAny_bind (L3.at ?_))))))
  show wpAny _ _ (Builtin.ObjectAttr.storeInOwnDict (.ref x) (.ref C) (.str name tk) name v false) _ _ _
  obtain ⟨nm, bs, mro, ns, qn, hd, sn, sb, ab, col, del⟩ := cd
  dsimp only at hh
  subst hh
  unfold Builtin.ObjectAttr.storeInOwnDict Builtin.ObjectAttr.ownDictForStores
  repeat (first | with_reducible refine HandSPX.store_in_new ?_ ?_ | with_reducible refine wpAny_loadPart_at hx ?_ | with_reducible refine hcls.at ?_ | wp_step)
  · exact ⟨_, #[], _, (Heap.get?_update_ne _ _ _ _ hxs.symm).trans (Heap.get?_push_at rfl rfl), rfl, fun e he => absurd he (by simp), fun _ => rfl⟩
  · intro h' tk' hn' hs
    have hx₁ : (h.push { cls := .type "dict", data := .dict #[] }).get? x = some { cls := .ref C, data := .fields fv } := Heap.get?_push_of_some _ hx
    refine hq h' tk' h.objs.size (fun b o hb ho => ?_) (Nat.le_refl _) hxs.symm ?_ hn'
    · exact (hs.2 b (Nat.ne_of_lt (Heap.lt_size ho))).trans ((Heap.get?_update_ne _ _ _ _ hb).trans (Heap.get?_push_of_some _ ho))
    · exact (hs.2 x hxs).trans (Heap.get?_update_self _ hx₁ rfl)
end
theorem kept_but {K : PySem.W.Frag} {h h' : Heap} {x : Addr} (X : K.In h) (hx : K.lookup x = none) (k : ∀ b o, b ≠ x → h.get? b = some o → h'.get? b = some o) : K.In h' := fun a o e =>
  k a o (fun z => by rw [z, hx] at e; cases e) (X a o e)
theorem sup_ruleX {prog : Program} {w : World} {A : Around} {env : Env} {body : List Stmt} {l : Expr} {es : List Expr} {p : Pos} {Q : Value → Shared → Prop} {E : Value → Shared → Prop} {m : Str} {apos : Pos} {s : Shared} (hline : (apos.endLine == p.line) = true) (hlen : es.length < 20) (hs : ∀ x ∈ es, notSt x = true)
    (h : PySem.wpAt (model prog w) A (.func body env) (attributeBase l m env (eval l env)) (fun ov s₁ => wpAny (model prog w) A (getMethod ov m (do return (← importBound l env).getD true)) (fun fx s2 => wpAny (model prog w) A (callWith p fx.1 fx.2 (backTo p (starEach es env)) []) Q E s2) E s₁) E s) :
    PySem.wpAt (model prog w) A (.func body env) (eval (.Call (.Attribute l m apos) es [] p) env) Q E s := by
  rw [PySem.arm_eval_Call]
  have hal := (nostar_any (env := env) (pos := p) hs).2
  have hform : methodCallForm (es.length + ([] : List Keyword).length) (backTo p (starEach es env)) (backToKw p (keywordEach [] env)) = true := by
    unfold methodCallForm
    rw [hal]
    have : es.length + 0 + 0 < 30 := by omega
    show (true && true && decide (es.length + 0 + 0 < 30)) = true
    rw [decide_eq_true this]
    rfl
  have hpos : methodCallPos true l env apos p = pure p := by unfold methodCallPos; simp [hline]
  refine PySem.wpAt_bind (PySem.wpAt_mono h (fun ov s1 h1 => PySem.wpAt_of_wpAny ?_) fun _ _ z => z)
  refine wpAny_bind (wpAny_standAt ?_)
  unfold methodCall
  rw [hform]
  refine wpAny_bind (wpAny_holding (thn (show wpAny _ _ (getMethod ov m _) _ _ _ from h1) fun fx s2 h2 => ?_))
  exact wpAny_bind (wpAny_of_eq hpos h2)
section
variable {P : Program} {w : World} {A : Around} {R : Result → Shared → Prop} {s : Shared} {K : PySem.W.Frag} {mg mb : Str → Option Value} {B newId initId : String} {bmB : List Value} {C Fam fI : Addr} {p : Str}
theorem exc_init (XB : XBase B newId initId bmB) (T : ExT P K mg B newId initId bmB C Fam fI p) {x t0 : Addr} {v : Value} (X : K.In s.heap) (GN : s.heap.Ns mainGlobals mg) (BN : s.heap.Ns builtinsNs mb) (hsb : mb "super" = some (.type "super")) (hlim : s.heap.NoLimit)
    (hx : s.heap.get? x = some (HandSPX.excO C t0)) (hnx : K.lookup x = none) (hroom : A.depth < recursionLimit)
    (hq : ∀ h' tk dx t1, (∀ b o, b ≠ x → s.heap.get? b = some o → h'.get? b = some o) → h'.get? x = some { cls := .ref C, dict := some dx, data := .fields #[.ref t1, .none, .none, .none, .bool false, .none] } → s.heap.objs.size ≤ dx → dx ≠ x →
      h'.Ns1 dx (fun y => if y = p then some v else none) → R (.ok (.ret .none)) { s with heap := h', toks := tk }) :
    codeAny (model P w) A (.call (.ref fI) ⟨[.ref x, v], []⟩) R s := by
  obtain ⟨qual, params, body, scope, cc, cda, oc, od, dV, kV, doc, pm, an, ct, osl, lk, hcode, hbody, Sc, hks, hkc, hbind, ⟨cl, cld, csl, lcc⟩, ⟨oc2, vs2, file, tf, lcd, hod, hvs, hfile⟩, ⟨ar, har, hself⟩⟩ := T.fn
  obtain ⟨nm, q, N, bs, sn, sub, ab, col, dd, k0, k1, k2, k3, k5, lC⟩ := T.obj
  have hcl : PySem.W.clsIn K C = some { name := nm, bases := bs, mro := .ref C :: .ref Fam :: bmB, ns := N, qualname := q, hasDict := true, slotNames := sn, subclasses := sub, abstract := ab, collection := col, hasDel := false } := by unfold PySem.W.clsIn; rw [lC] <;> rfl
  refine PySem.ks_codeAny_call_defAt (binds := [("self", .ref x), (p, v)]) hroom (X _ _ lk) rfl hlim (PySem.W.codeRec_of X hcode) rfl (.of_eq (hbind [.ref x, v] rfl)) Sc.nocell (fun y hy => ?_) (fun h₁ hns hk₁ => ?_) Sc.co Sc.gen Sc.kind
  · simp only [List.mem_cons, List.not_mem_nil, or_false] at hy
    rcases hy with rfl | rfl
    · exact Sc.par _ (List.mem_cons_self ..)
    · exact Sc.par _ (by simp)
  unfold excBody at hbody
  split at hbody
  · rename_i s0 p0 p1 m ap x1 pn cp ep y q1 a q2 z q3 q4
    simp only [Bool.and_eq_true, decide_eq_true_eq] at hbody
    obtain ⟨⟨⟨⟨⟨⟨e1, e2⟩, e3⟩, e4⟩, e5⟩, e6⟩, hline⟩ := hbody
    have e3 := e3.symm
    have e5 := e5.symm
    have e6 := e6.symm
    subst e1 e2 e4
    subst e3
    subst e5
    subst e6
    have henv : callEnv (PySem.W.ksFn "__init__" qual params [.Expr (.Call (.Attribute (.Call (.Name "super" p0) [] [] p1) "__init__" ap) [.Name p pn] [] cp) ep, .Assign [.Attribute (.Name "self" q1) p q2] (.Name p q3) q4] scope dV kV doc pm an (.ref cda) ct cc) s.heap.objs.size fI = PySem.W.ksEnv qual scope s.heap.objs.size fI (.ref cda) cc := rfl
    rw [henv]
    have hk : (PySem.W.ksEnv qual scope s.heap.objs.size fI (.ref cda) cc).scope.kind = .function := Sc.kind
    have hxL : s.heap.objs.size ≠ x := Nat.ne_of_gt (Heap.lt_size hx)
    have X1 : K.In h₁ := X.keeps hk₁
    have hx1 := hk₁ _ _ hx
    have locP : scope.names.lookup p = some .local := Sc.par _ (by simp)
    have locS : scope.names.lookup ("self" : Str) = some .local := Sc.par _ (List.mem_cons_self ..)
    have ndN := Sc.nd
    have hps : ¬ (("self" : Str) = p) := by
      intro e
      rw [List.nodup_cons] at ndN
      exact ndN.1 (by rw [e]; simp)
    have lS : (fun y => ([("self", Value.ref x), (p, v)] : List (Str × Value)).reverse.lookup y) ("self" : Str) = some (.ref x) := by
      show List.lookup ("self" : Str) [(p, v), (("self" : Str), Value.ref x)] = _
      have : (("self" : Str) == p) = false := by simpa using hps
      rw [List.lookup_cons, this]
      simp [List.lookup]
    have lP : (fun y => ([("self", Value.ref x), (p, v)] : List (Str × Value)).reverse.lookup y) p = some v := by
      show List.lookup p [(p, v), (("self" : Str), Value.ref x)] = _
      simp [List.lookup]
    refine PySem.ks_wpAt_execs_cons (PySem.ks_wpAt_Expr_any ?_ (by show interactive _ = false; simp [interactive, PySem.W.envX, newEnv, Sc.kind]) rfl)
    have hkS : (PySem.W.ksEnv qual scope s.heap.objs.size fI (.ref cda) cc).kindOf "super" = some .globalImplicit := hks
    have hkC : (PySem.W.ksEnv qual scope s.heap.objs.size fI (.ref cda) cc).kindOf "__class__" = some .free := hkc
    have hcells : (PySem.W.ksEnv qual scope s.heap.objs.size fI (.ref cda) cc).cells.lookup ("__class__" : Str) = some cc := by show List.lookup ("__class__" : Str) [(("__class__" : Str), cc)] = some cc; simp [List.lookup]
    have hg1 : h₁.Ns mainGlobals mg := GN.keeps hk₁
    have hb1 : h₁.Ns builtinsNs mb := BN.keeps hk₁
    refine sup_ruleX hline (by simp) (fun e he => by rw [List.mem_singleton.mp he]; rfl) (PySem.ks_wpAt_super_base hkS hkC (by decide +kernel) rfl (X1 _ _ lk) rfl har rfl (X1 _ _ lcd) hod hvs hfile T.top ?_)
    refine PySem.W.ks_loadName_global hk hkS ?_
    refine Calls.loadGlobal_builtin hg1 T.nsup hb1 hsb ⟨rfl, ?_⟩
    refine wpAny_loadName_free hk hkC hcells ⟨_, X1 _ _ lcc, rfl⟩ ?_
    rw [hself]
    refine wpAny_loadName_local hk locS hns lS ?_
    have hC1 := X1 _ _ lC
    refine PySem.ks_wpAny_isType_cls hC1 rfl ⟨rfl, ?_⟩
    have hmC : PySem.W.mroIn K C (.ref C) = some true := by unfold PySem.W.mroIn; rw [hcl, Option.bind_some, if_neg (by simp)]; simp
    refine PySem.ks_wpAny_call_super hC1 rfl hx1 rfl (fun c e => by cases e) (PySem.W.looks_mroIn X1 hmC) (fun h2 e2 k2 => ?_)
    have X2 : K.In h2 := X1.keeps k2
    have hx2 := k2 _ _ hx1
    have hsub : PySem.W.Looks (model P w) h2 (isInstance (.ref x) (.type B)) true := (PySem.W.InstAt.type (ox := HandSPX.excO C t0) (od := none) ⟨hx2, rfl, rfl, trivial⟩).andThen (PySem.W.looks_subIn X2 T.subB)
    have hsupI := T.sup
    unfold PySem.W.ks_superIn at hsupI
    rw [hcl, Option.bind_some] at hsupI
    have hne : x ≠ C := fun z => by
      rw [z] at hnx
      rw [lC] at hnx
      cases hnx
    refine PySem.W.kxs_getMethod XB.kf e2 (PySem.W.looks_opaque X2 T.opq) (l₀ := .ref C :: .ref Fam :: bmB) (fun A Q E s k q => wpAny_bind ((PySem.W.looks_clsIn X2 hcl) A _ E s k (wpAny_pure q))) rfl X2 hsupI hsub hne (by decide +kernel) ?_
    have k3 : ∀ b o, h2.get? b = some o → (h2.push (PySem.W.kxs_mw initId x)).get? b = some o := fun b o e => Heap.get?_push_of_some _ e
    have hmw : (h2.push (PySem.W.kxs_mw initId x)).get? h2.objs.size = some (PySem.W.kxs_mw initId x) := Heap.get?_push_size _ rfl
    refine PySem.W.kxs_callWith (i := initId) (x := x) (by rfl) (PySem.Calls.evalArgs_plain ?_)
    have hns3 : (h2.push (PySem.W.kxs_mw initId x)).Ns s.heap.objs.size (fun y => ([("self", Value.ref x), (p, v)] : List (Str × Value)).reverse.lookup y) := (hns.keeps k2).keeps k3
    show wpAny _ _ (spliced ((false, eval (.Name p pn) (PySem.W.ksEnv qual scope s.heap.objs.size fI (.ref cda) cc)) :: backTo cp (starEach [] (PySem.W.ksEnv qual scope s.heap.objs.size fI (.ref cda) cc)))) _ _ _
    refine Calls.spliced_cons (wpAny_Name (wpAny_loadName_local hk locP hns3 lP ?_) T.db)
    refine Calls.spliced_nil ⟨hmw, ?_⟩
    have X3 : K.In (h2.push (PySem.W.kxs_mw initId x)) := X2.keeps k3
    refine call_mw XB.fb XB.qi (X3 _ _ lC) (k3 _ _ hx2) hmw (by show 1 ≤ sizeLine; rw [sizeLine_eq]; decide) (fun h4 t1 k4 hx4 => ?_)
    have X4 : K.In h4 := kept_but X3 hnx k4
    have hns4 : h4.Ns s.heap.objs.size (fun y => ([("self", Value.ref x), (p, v)] : List (Str × Value)).reverse.lookup y) := by
      obtain ⟨o, es, ep, ho, r⟩ := hns3
      exact ⟨o, es, ep, k4 _ _ hxL ho, r⟩
    refine PySem.wpAt_of_wpAny (wpAny_execs_cons (plainObj_wpAny_Assign_Attribute ?_))
    refine wpAny_Name (wpAny_loadName_local hk locP hns4 lP ?_) T.db
    refine wpAny_Name (wpAny_loadName_local hk locS hns4 lS ?_)
    refine PySem.W.set_plain X4 (ox := HandSPX.excO C t1) (od := none) ⟨hx4, rfl, rfl, trivial⟩ T.sa ?_
    refine exc_osaX XB X4 hx4 hcl rfl rfl T.noP (fun h5 tk5 dx k5' dn dne hx5 hn5 => ?_)
    show wpAny _ _ (execs [] _) _ _ _
    exact wpAny_execs_nil (hq h5 tk5 dx t1 (fun b o hb e => k5' b o hb (k4 b o hb (k3 b o (k2 b o (hk₁ b o e))))) hx5 (Nat.le_of_lt (Nat.lt_of_lt_of_le hns4.lt dn)) dne hn5)
  · cases hbody
theorem exc_made (XB : XBase B newId initId bmB) (T : ExT P K mg B newId initId bmB C Fam fI p) {v : Value} (X : K.In s.heap) (GN : s.heap.Ns mainGlobals mg) (BN : s.heap.Ns builtinsNs mb) (hsb : mb "super" = some (.type "super")) (hlim : s.heap.NoLimit) (hroom : A.depth + 1 < recursionLimit)
    (hq : ∀ h' tk e d, XMade s.heap h' e C d p v → R (.ok (.ret (.ref e))) { s with heap := h', toks := tk }) :
    codeAny (model P w) A (.call (.ref C) ⟨[v], []⟩) R s := by
  obtain ⟨nm, q, N, bs, sn, sub, ab, col, dd, k0, k1, k2, k3, k5, lC⟩ := T.obj
  obtain ⟨hp, g, dr, tk, os⟩ := s
  have k : ∀ b o, hp.get? b = some o → ((hp.push (PySem.W.kdv_tup [v])).push (HandSPX.excO C hp.objs.size)).get? b = some o := fun b o e => Heap.get?_push_of_some _ (Heap.get?_push_of_some _ e)
  have hget : ((hp.push (PySem.W.kdv_tup [v])).push (HandSPX.excO C hp.objs.size)).get? (hp.objs.size + 1) = some (HandSPX.excO C hp.objs.size) := by heap_get
  have hnx : K.lookup (hp.objs.size + 1) = none := by
    cases e : K.lookup (hp.objs.size + 1) with
    | none => rfl
    | some o =>
      have z : hp.get? (hp.objs.size + 1) = some o := X _ _ e
      exact absurd (Nat.lt_of_succ_lt (Heap.lt_size z)) (Nat.lt_irrefl _)
  refine HandSPX.call_own XB.fb (fun X => by rw [List.contains_cons]; simp) (X _ _ lC) (PySem.W.looks_findIn X T.iC) (fun self => PySem.W.bind_fn X self T.tI) (by show 1 ≤ sizeLine; rw [sizeLine_eq]; decide) ?_
  refine exc_init (s := ⟨(hp.push (PySem.W.kdv_tup [v])).push (HandSPX.excO C hp.objs.size), g, dr, tk, os⟩) XB T (X.keeps k) (GN.keeps k) (BN.keeps k) hsb (hlim.keeps k) hget hnx ?_ fun h' tk' dx t1 k' hx dn dne hns => ?_
  · show A.depth + 1 < recursionLimit
    exact hroom
  · have old : ∀ b o, hp.get? b = some o → h'.get? b = some o := fun b o e => k' b o (Nat.ne_of_lt (Nat.lt_succ_of_lt (Heap.lt_size e))) (k b o e)
    have z : hp.objs.size + 1 + 1 ≤ dx := by
      first
        | (simpa only [Heap.size_push] using dn)
        | exact dn
        | (have q := dn; rw [Heap.size_push, Heap.size_push] at q; exact q)
    exact ⟨rfl, hq h' tk' (hp.objs.size + 1) dx ⟨old, Nat.le_succ _, ⟨t1, hx⟩, Nat.le_trans (Nat.le_trans (Nat.le_succ _) (Nat.le_succ _)) z, dne, hns⟩⟩
theorem mkx_of (XB : XBase B newId initId bmB) (T : ExT P K mg B newId initId bmB C Fam fI p) : MkX P w K mg C p := fun X GN BN hsb hlim hroom hq => exc_made XB T X GN BN hsb hlim hroom hq
end
end BV

namespace BV
open PySem L2

/-! ### facts of the written part, from tables -/
theorem vals_getD : ∀ {vs : List V} {us : List Value}, Vals vs us → ∀ i : Nat, RelV (vs.getD i .non) (us.getD i .none)
  | _, _, .nil, i => rfl
  | _, _, .cons r t, 0 => r
  | _, _, .cons r t, i + 1 => vals_getD t i
inductive Sr2 where
  | p (i : Nat) | k (i : Nat) | d (i : Nat) | m (i : Nat)
def src2 {α : Type} (z : α) (vs ds ms zs : List α) : List Sr2 → List α
  | [] => []
  | .p i :: r => vs.getD i z :: src2 z vs ds ms zs r
  | .k i :: r => zs.getD i z :: src2 z vs ds ms zs r
  | .d i :: r => ds.getD i z :: src2 z vs ds ms zs r
  | .m i :: r => ms.getD i z :: src2 z vs ds ms zs r
theorem vals_src2 {vs ds ms zs : List V} {us its mv ws : List Value} (r1 : Vals vs us) (r2 : Vals ds its) (r3 : Vals ms mv) (r4 : Vals zs ws) : ∀ l : List Sr2, Vals (src2 .non vs ds ms zs l) (src2 .none us its mv ws l)
  | [] => .nil
  | .p i :: r => .cons (vals_getD r1 i) (vals_src2 r1 r2 r3 r4 r)
  | .k i :: r => .cons (vals_getD r4 i) (vals_src2 r1 r2 r3 r4 r)
  | .d i :: r => .cons (vals_getD r2 i) (vals_src2 r1 r2 r3 r4 r)
  | .m i :: r => .cons (vals_getD r3 i) (vals_src2 r1 r2 r3 r4 r)
/-- a def of the written part; cl: what it closes over -/
structure DF (K : PySem.W.Frag) (x qual : Str) (nd : Stmt) (cl : List (Str × Addr)) (dvs : List V) (kws : List (Str × V)) (f : Addr) (fd : FuncData) : Prop where
  ex : ∃ (oc : Value) (od : Option Addr) (dV kV doc pm : Value) (an : Option Addr) (cda : Addr) (ct : Value) (osl : Array (Option Value)),
    fd = PySem.W.fnX x qual (defArgs nd) (defBody nd) (defScope nd) cl dV kV doc pm an (.ref cda) ct ∧ K.lookup f = some ⟨oc, od, .func fd, osl⟩ ∧ PySem.W.codeIn K (.ref cda) qual = true ∧ DflV K dV dvs ∧ KwdV K kV kws
  kp : PySem.W.keepIn K (.ref f) = true
section
variable {K : PySem.W.Frag} {x qual : Str} {nd : Stmt} {cl : List (Str × Addr)} {dvs : List V} {kws : List (Str × V)} {f : Addr} {fd : FuncData} {ps : List Str}
theorem DF.funD (F : DF K x qual nd [] dvs kws f fd) : FunD K x qual (defArgs nd) (defBody nd) (defScope nd) dvs kws f fd := by
  obtain ⟨oc, od, dV, kV, doc, pm, an, cda, ct, osl, rfl, h1, h2, h3, h4⟩ := F.ex
  exact ⟨⟨oc, od, dV, kV, doc, pm, an, _, ct, osl, rfl, h1, h2, h3, h4⟩, F.kp⟩
theorem DF.kbnN (F : DF K x qual nd cl [] kws f fd) (n : Nat) (ks : List Str) (pm : List Src) (l : List Sr2)
    (h : ∀ (kV doc pm : Value) (an : Option Addr) (cdv ct : Value) (us ws : List Value), us.length = n → ws.length = ks.length → bindArgs (PySem.W.fnX x qual (defArgs nd) (defBody nd) (defScope nd) cl .none kV doc pm an cdv ct) ⟨us, ks.zip ws⟩ = pure (ps.zip (src2 .none us [] [] ws l)))
    (e : ∀ vs zs, src2 V.non vs [] [] zs l = srcV vs zs pm) : ∃ gg, KBn K fd ps n ks gg fun vs zs => srcV vs zs pm := by
  obtain ⟨oc, od, dV, kV, doc, pm', an, cda, ct, osl, rfl, lk, hcd, hD, hK⟩ := F.ex
  rcases hD with ⟨_, rfl⟩ | ⟨e, _⟩
  · exact ⟨fun us ws => src2 .none us [] [] ws l, ⟨fun s us ws X l1 l2 => .of_eq (h kV doc pm' an (.ref cda) ct us ws l1 l2), fun r1 r2 => by rw [← e]; exact vals_src2 r1 .nil .nil r2 l⟩⟩
  · exact absurd rfl e
theorem DF.binds (F : DF K x qual nd cl [] kws f fd)
    (h : ∀ (kV doc pm : Value) (an : Option Addr) (cdv ct : Value) (us : List Value), us.length = ps.length → bindArgs (PySem.W.fnX x qual (defArgs nd) (defBody nd) (defScope nd) cl .none kV doc pm an cdv ct) ⟨us, []⟩ = pure (ps.zip us)) : Binds K fd ps [] := by
  obtain ⟨oc, od, dV, kV, doc, pm', an, cda, ct, osl, rfl, lk, hcd, hD, hK⟩ := F.ex
  rcases hD with ⟨_, rfl⟩ | ⟨e, _⟩
  · exact .all (h kV doc pm' an (.ref cda) ct)
  · exact absurd rfl e
theorem DF.bindsA (F : DF K x qual nd cl [] kws f fd)
    (h : ∀ (kV doc pm : Value) (an : Option Addr) (cdv ct : Value) (us : List Value), us.length = ps.length → bindArgs (PySem.W.fnX x qual (defArgs nd) (defBody nd) (defScope nd) cl .none kV doc pm an cdv ct) ⟨us, []⟩ = pure (ps.zip us)) (s : Shared) (us : List Value) (hl : us.length = ps.length) : BindsTo s fd ⟨us, []⟩ (ps.zip us) := by
  obtain ⟨oc, od, dV, kV, doc, pm, an, cdv, ct, osl, rfl, lk, hcd, hD, hK⟩ := F.ex
  rcases hD with ⟨_, rfl⟩ | ⟨e, _⟩
  · exact .of_eq (h kV doc pm an (.ref cdv) ct us hl)
  · exact absurd rfl e
/-- defaults and keyword-only defaults; ms: the keyword-only ones that lack -/
theorem DF.kbnD (F : DF K x qual nd cl dvs kws f fd) (n : Nat) (ks : List Str) (ms : List (Str × V)) (pm : List Src) (l : List Sr2) (hd : dvs ≠ []) (hk : kws ≠ []) (hms : ∀ q ∈ ms, q ∈ kws)
    (h : ∀ (T D : Addr) (doc pm : Value) (an : Option Addr) (cdv ct : Value) (us its mv ws : List Value), us.length = n → its.length = dvs.length → mv.length = ms.length → ws.length = ks.length →
      ∃ k, bindArgs (PySem.W.fnX x qual (defArgs nd) (defBody nd) (defScope nd) cl (.ref T) (.ref D) doc pm an cdv ct) ⟨us, ks.zip ws⟩ = seqItems? (.ref T) >>= k ∧ KwChain D ((ms.map (·.1)).zip mv) (k (some its.toArray)) (ps.zip (src2 .none us its mv ws l)))
    (e : ∀ vs zs, src2 V.non vs dvs (ms.map (·.2)) zs l = srcV vs zs pm) : ∃ gg, KBn K fd ps n ks gg fun vs zs => srcV vs zs pm := by
  obtain ⟨oc, od, dV, kV, doc, pm', an, cda, ct, osl, rfl, lk, hcd, hD, hK⟩ := F.ex
  rcases hD with ⟨e', _⟩ | ⟨_, T, o, its, m, rfl, lT, oT, rT⟩
  · exact absurd e' hd
  · rcases hK with e' | ⟨D, rfl, hq⟩
    · exact absurd e' hk
    · obtain ⟨mv, hl, rk, hks⟩ := kwd_vals (ms := ms) fun q hm => hq q (hms q hm)
      refine ⟨fun us ws => src2 .none us its mv ws l, ⟨fun s us ws X l1 l2 => ?_, fun r1 r2 => by rw [← e]; exact vals_src2 r1 rT rk r2 l⟩⟩
      obtain ⟨k, e1, e2⟩ := h T D doc pm' an (.ref cda) ct us its mv ws l1 rT.length.symm hl l2
      refine BindsTo.of_looks fun M => ?_
      rw [e1]
      exact looks_items X lT oT (KwChain.looks X hks e2)
/-- defaults, no keyword-only parameter that lacks -/
theorem DF.kbnD0 (F : DF K x qual nd cl dvs kws f fd) (n : Nat) (ks : List Str) (pm : List Src) (l : List Sr2) (hd : dvs ≠ [])
    (h : ∀ (T : Addr) (kV doc pm : Value) (an : Option Addr) (cdv ct : Value) (us its ws : List Value), us.length = n → its.length = dvs.length → ws.length = ks.length →
      ∃ k, bindArgs (PySem.W.fnX x qual (defArgs nd) (defBody nd) (defScope nd) cl (.ref T) kV doc pm an cdv ct) ⟨us, ks.zip ws⟩ = seqItems? (.ref T) >>= k ∧ k (some its.toArray) = pure (ps.zip (src2 .none us its [] ws l)))
    (e : ∀ vs zs, src2 V.non vs dvs [] zs l = srcV vs zs pm) : ∃ gg, KBn K fd ps n ks gg fun vs zs => srcV vs zs pm := by
  obtain ⟨oc, od, dV, kV, doc, pm', an, cda, ct, osl, rfl, lk, hcd, hD, hK⟩ := F.ex
  rcases hD with ⟨e', _⟩ | ⟨_, T, o, its, m, rfl, lT, oT, rT⟩
  · exact absurd e' hd
  · refine ⟨fun us ws => src2 .none us its [] ws l, ⟨fun s us ws X l1 l2 => ?_, fun r1 r2 => by rw [← e]; exact vals_src2 r1 rT .nil r2 l⟩⟩
    obtain ⟨k, e1, e2⟩ := h T kV doc pm' an (.ref cda) ct us its ws l1 rT.length.symm l2
    refine BindsTo.of_looks fun M => ?_
    rw [e1]
    exact looks_items X lT oT (.of_pure e2)
/-- keyword-only defaults alone -/
theorem DF.kbnK (F : DF K x qual nd cl [] kws f fd) (n : Nat) (ks : List Str) (ms : List (Str × V)) (pm : List Src) (l : List Sr2) (hk : kws ≠ []) (hms : ∀ q ∈ ms, q ∈ kws)
    (h : ∀ (D : Addr) (doc pm : Value) (an : Option Addr) (cdv ct : Value) (us mv ws : List Value), us.length = n → mv.length = ms.length → ws.length = ks.length →
      KwChain D ((ms.map (·.1)).zip mv) (bindArgs (PySem.W.fnX x qual (defArgs nd) (defBody nd) (defScope nd) cl .none (.ref D) doc pm an cdv ct) ⟨us, ks.zip ws⟩) (ps.zip (src2 .none us [] mv ws l)))
    (e : ∀ vs zs, src2 V.non vs [] (ms.map (·.2)) zs l = srcV vs zs pm) : ∃ gg, KBn K fd ps n ks gg fun vs zs => srcV vs zs pm := by
  obtain ⟨oc, od, dV, kV, doc, pm', an, cda, ct, osl, rfl, lk, hcd, hD, hK⟩ := F.ex
  rcases hD with ⟨_, rfl⟩ | ⟨e', _⟩
  · rcases hK with e' | ⟨D, rfl, hq⟩
    · exact absurd e' hk
    · obtain ⟨mv, hl, rk, hks⟩ := kwd_vals (ms := ms) fun q hm => hq q (hms q hm)
      exact ⟨fun us ws => src2 .none us [] mv ws l, ⟨fun s us ws X l1 l2 => BindsTo.of_looks fun M => KwChain.looks X hks (h D doc pm' an (.ref cda) ct us mv ws l1 hl l2), fun r1 r2 => by rw [← e]; exact vals_src2 r1 .nil rk r2 l⟩⟩
  · exact absurd rfl e'
end
/-! tables: what holds of each entry -/
def AllO {α : Type} (P : Nat → α → Prop) : Nat → List (Option α) → Prop
  | _, [] => True
  | i, some x :: l => P i x ∧ AllO P (i + 1) l
  | i, none :: l => AllO P (i + 1) l
theorem AllO.get {α : Type} {P : Nat → α → Prop} : ∀ {l : List (Option α)} {i : Nat}, AllO P i l → ∀ (f : Nat) (x : α), l.getD f none = some x → P (i + f) x
  | [], _, _, f, x, e => by simp at e
  | some y :: l, i, h, 0, x, e => by cases e; exact h.1
  | some y :: l, i, h, f + 1, x, e => by
    have := AllO.get h.2 f x (by simpa using e)
    rw [show i + (f + 1) = i + 1 + f by omega]; exact this
  | none :: l, i, h, 0, x, e => by cases e
  | none :: l, i, h, f + 1, x, e => by
    have := AllO.get (l := l) (i := i + 1) h f x (by simpa using e)
    rw [show i + (f + 1) = i + 1 + f by omega]; exact this
def AllP {κ α : Type} (P : κ → α → Prop) : List (κ × α) → Prop
  | [] => True
  | p :: l => P p.1 p.2 ∧ AllP P l
theorem AllP.get {κ α : Type} [BEq κ] [LawfulBEq κ] {P : κ → α → Prop} : ∀ {l : List (κ × α)}, AllP P l → ∀ (k : κ) (x : α), l.lookup k = some x → P k x
  | [], _, k, x, e => by simp [List.lookup] at e
  | (k', y) :: l, h, k, x, e => by
    rw [List.lookup_cons] at e
    split at e
    · rename_i q
      cases e
      rw [eq_of_beq q]; exact h.1
    · exact AllP.get h.2 k x e
theorem getD_imp {α : Type} {P : Nat → α → Prop} {l : List (Option α)} (h : AllO P 0 l) (f : Nat) (x : α) (e : l.getD f none = some x) : P f x := by
  have := h.get f x e
  rwa [Nat.zero_add] at this
theorem sqL_frz {K : PySem.W.Frag} {H : Hp} {a : Addr} {vs : List V} (h : SqL K H a vs) : SqL K (frz H []) a vs := by
  rcases h with (h | ⟨o, h⟩) | h
  · exact .inl (.inl (frz_at h (by simp)))
  · exact .inl (.inr ⟨o, frz_at h (by simp)⟩)
  · exact .inr h
theorem repL_ints {g : G} {F : Hp} : ∀ ns : List Int, RepL g F (ns.map D.int) (ns.map V.int)
  | [] => .nil
  | n :: ns => .cons (.int n) (repL_ints ns)
theorem fnG_imp {P : Program} {w : World} {K : PySem.W.Frag} {mg : Str → Option Value} {base : Heap} {CX : CXT} {k : Nat} {f : Addr} {fd : FuncData} {ps : List Str} {sp sp' : Sp} (F : FnG P w K mg base CX k f fd ps sp) (h : ∀ vs H Q E, sp' vs H Q E → sp vs H Q E) : FnG P w K mg base CX k f fd ps sp' :=
  ⟨fun vs H Q E q => F.len vs H Q E (h _ _ _ _ q), fun A outer s H args us vs Q E hr hg e0 hb r q => F.run A outer s H args us vs Q E hr hg e0 hb r (h _ _ _ _ q)⟩
/-- from the run of the table to the law's promise -/
theorem law_end {g : G} {T : Tab} {n j : Nat} (F : Fx g (T.at n j) (3 * j)) (hps : (g.ps 0).length = 1) (law : ∀ ns : List Int, ns.length ≤ 63 → ∃ cs, (T.phs n j).1 0 [.d (.flst (ns.map D.int))] [] = .ok (.bl true) cs) :
    FnG g.P g.w g.K g.mg g.base (L2.CX g.P g.w) (3 * j) (g.fa 0) (g.fd 0) (g.ps 0) (spLaw g.K g.T) := by
  refine fnG_imp (F.fn 0) fun vs H Q E ⟨a, ns, ev, hS, hl, hT, q⟩ => ?_
  subst ev
  obtain ⟨cs, e⟩ := law ns hl
  refine ⟨[.d (.flst (ns.map D.int))], [], [], ⟨rfl, fun n c e => by simp at e, fun n e => by simp at e, fun n m a e => by simp at e, hT⟩, .cons ?_ .nil, by rw [hps]; rfl, ?_⟩
  · show Rep g (frz H []) _ _
    exact .flst (sqL_frz hS) (repL_ints ns)
  · rw [show (T.at n j).phi = (T.phs n j).1 from rfl, e]
    intro H' v _ _ r
    cases r
    exact q H'
end BV

namespace BV
open PySem L2 PySem.Spec PyProof.Rows
/-! ### defs that are handed a lambda -/
/-- one such def: name = None; try: deed() except ks as e: name = e; rest -/
structure FnTD (g : G) (T : Tab) (f : Nat) (d : DeedD) : Prop where
  ex : ∃ (N : List Str) (x qual : Str) (params : Arguments) (scope : Scope) (dvs : List V) (kws : List (Str × V)) (a v n' : Str) (te : Expr) (rest : List Stmt) (pv cp ap p1 p2 p3 pv2 pm pa ph pp : Pos) (cj : Nat),
    FunD g.K x qual params (.Assign [.Name v pv] (.Constant .none cj cp) ap :: .Try [.Expr (.Call (.Name a p1) [] [] p2) p3] [.ExceptHandler (some te) (some n') [.Assign [.Name v pv2] (.Name n' pm) pa] ph] [] [] pp :: rest) scope dvs kws (g.fa f) (g.fd f) ∧ FnScope N [a] scope ∧ N.length = d.nl ∧
    Binds g.K (g.fd f) [a] [] ∧ d.pre = [d.j] ∧ d.tgt = none ∧ d.i ≠ d.j ∧ d.j ≠ 0 ∧ N[0]? = some a ∧ N[d.i]? = some n' ∧ N[d.j]? = some v ∧ scope.names.lookup n' = some .local ∧ scope.names.lookup v = some .local ∧ visB scope a = true ∧ nodbg a = true ∧ nodbg n' = true ∧
    chkTe T.st scope d.ks te = true ∧ chkSs T.st N scope d.rest rest = true ∧ scope ∉ g.lams
end BV

namespace BV
open PySem L2 PySem.Spec PyProof.Rows
section
variable {g : G} {X : Cx} {Wx : WX} {N : List Str}
def tDeed (g : G) (W : WX) (th : Cells → R D) (u : Addr) (ra : Ra) (H0 : Hp) : TS := fun D σ H => σ[0]? = some (some (V.ref u)) ∧ ∃ cs, Keep ra H0 H ∧ Rel g ra cs H ∧ PostR g (fun H' d v => Rep g (frz H' ra) d v) (th cs) ra H (fun _ H' => D.nx σ H') (fun c dd H' => W c dd σ H')
def tDeed2 (g : G) (W : WX) (th : Cells → R D) (u : Addr) (ra : Ra) (H0 : Hp) (t : Nat) : TS := fun D σ H => σ[0]? = some (some (V.ref u)) ∧ ∃ cs, Keep ra H0 H ∧ Rel g ra cs H ∧ PostR g (fun H' d v => Rep g (frz H' ra) d v) (th cs) ra H (fun v H' => D.nx (σ.set t (some v)) H') (fun c dd H' => W c dd σ H')
theorem pe_deed {W : WX} {th : Cells → R D} {u : Addr} {ra : Ra} {H0 : Hp} {s0 : Shared} {outer : List Env} {a : Str} {p1 p2 : Pos} {k : Nat} (hX : X.s_0 = s0 ∧ X.H_0 = H0 ∧ X.fs = frs outer ∧ X.ex = [] ∧ X.stack = X.env :: outer) (hr : Room k X.A) (hgd : X.A.guards = some []) (tk : Takes X W) (hN : X.N[0]? = some a) (hv : Vis X.env.scope a) (hd : (a == ("__debug__" : Str)) = false) (hcd : (a == ("__classdict__" : Str)) = false)
    (fn : PySem.W.FnAt u s0.heap) (hu : H0 u = none) (hfr : u ∉ frs outer) (deed : DeedRun g X.prog X.w X.K X.mg X.base k (frs outer) (.ref u) th ra s0 H0) :
    PE X (.Call (.Name a p1) [] [] p2) (fun σ H Q => σ[0]? = some (some (V.ref u)) ∧ ∃ cs, Keep ra H0 H ∧ Rel g ra cs H ∧ PostR g (fun H' d v => Rep g (frz H' ra) d v) (th cs) ra H Q (fun c dd H' => W c dd σ H')) := by
  obtain ⟨e1, e2, e3, e4, e5⟩ := hX
  refine ⟨fun pins s σ H Q I h => ?_⟩
  obtain ⟨hs, cs, kp, R, post⟩ := h
  refine wpAny_Call_Name_kw (thn ((pe_var (pos := p1) (i := 0) hN hv hd hcd).run pins s σ H (fun v H1 => v = .ref u ∧ H1 = H) I ⟨.ref u, hs, rfl, rfl⟩) fun uu s1 ⟨v, H1, I1, r1, q1⟩ => ?_)
  obtain ⟨ev, eH⟩ := q1
  subst ev
  subst eH
  obtain rfl : uu = Value.ref u := r1
  have un : Un (frs outer) [] H0 H1 s0.heap s1.heap := by
    have := I1.base
    rw [e1, e2, e3, e4] at this
    exact this
  obtain ⟨c1, d1, f1, sl, hf⟩ := fn
  have of1 := un.keep u _ hf hu hfr (fun z => nomatch (show u ∈ ([] : List Addr) from z))
  refine PySem.W.callWith_F0 ⟨_, _, _, _, of1⟩ ?_
  have rc := deed X.A X.stack s1 H1 cs Q (fun c dd H' => W c dd σ H') hr hgd I1.env0 un kp R post
  refine wpAny_call (codeAny_mono rc fun r s2 hq => ?_)
  cases r with
  | error e => exact tk e s2 (XE.of_call I1 (fun cls d H' z => z) hq)
  | ok fl =>
    cases fl with
    | ret w => exact I1.after hq
    | next => exact False.elim hq
    | brk => exact False.elim hq
    | cont => exact False.elim hq
theorem ps_deed {W : WX} {th : Cells → R D} {u : Addr} {ra : Ra} {H0 : Hp} {s0 : Shared} {outer : List Env} {a : Str} {p1 p2 p3 : Pos} {k : Nat} (hX : X.s_0 = s0 ∧ X.H_0 = H0 ∧ X.fs = frs outer ∧ X.ex = [] ∧ X.stack = X.env :: outer) (hr : Room k X.A) (hgd : X.A.guards = some []) (tk : Takes X W) (hN : X.N[0]? = some a) (hv : Vis X.env.scope a) (hd : (a == ("__debug__" : Str)) = false) (hcd : (a == ("__classdict__" : Str)) = false)
    (fn : PySem.W.FnAt u s0.heap) (hu : H0 u = none) (hfr : u ∉ frs outer) (deed : DeedRun g X.prog X.w X.K X.mg X.base k (frs outer) (.ref u) th ra s0 H0) :
    PS X (.Expr (.Call (.Name a p1) [] [] p2) p3) (tDeed g W th u ra H0) :=
  PS.imp (ps_expr (pe_deed hX hr hgd tk hN hv hd hcd fn hu hfr deed) rfl) fun D σ H q => q
/-- name = deed() -/
theorem ps_deed2 {W : WX} {th : Cells → R D} {u : Addr} {ra : Ra} {H0 : Hp} {s0 : Shared} {outer : List Env} {a : Str} {p1 p2 p3 : Pos} {k t : Nat} {v2 : Str} {pr : Pos} (hX : X.s_0 = s0 ∧ X.H_0 = H0 ∧ X.fs = frs outer ∧ X.ex = [] ∧ X.stack = X.env :: outer) (hr : Room k X.A) (hgd : X.A.guards = some []) (tk : Takes X W) (hN : X.N[0]? = some a) (hv : Vis X.env.scope a) (hd : (a == ("__debug__" : Str)) = false) (hcd : (a == ("__classdict__" : Str)) = false)
    (fn : PySem.W.FnAt u s0.heap) (hu : H0 u = none) (hfr : u ∉ frs outer) (deed : DeedRun g X.prog X.w X.K X.mg X.base k (frs outer) (.ref u) th ra s0 H0) (hnd : X.N.Nodup) (ht : X.N[t]? = some v2) (hl : X.env.scope.names.lookup v2 = some .local) :
    PS X (.Assign [.Name v2 pr] (.Call (.Name a p1) [] [] p2) p3) (tDeed2 g W th u ra H0 t) :=
  PS.imp (ps_asg (pe_deed hX hr hgd tk hN hv hd hcd fn hu hfr deed) (pg_name (i := t) hnd ht (.inl hl) (.inr hl)) rfl rfl rfl) fun D σ H q => q
end
end BV

namespace BV
open PySem L2 PySem.Spec PyProof.Rows
theorem pre_ok {g : G} {H : Hp} {ra : Ra} {u : Addr} {N : List Str} {nl j : Nat} (hN : N.length = nl) (hj : j ≠ 0) (hn : 0 < nl) : FrR g H ra (preF nl [j]) ((L2.start N [V.ref u]).set j (some .non)) := by
  have len : (L2.start N [V.ref u]).length = nl := by
    unfold L2.start
    simp
    omega
  refine ⟨by unfold preF; simp [len], fun m w e => ?_⟩
  unfold preF at e
  simp only [List.foldl] at e
  by_cases hm : m = j
  · subst hm
    have hlt : m < nl := by
      have := (List.getElem?_eq_some_iff.mp e).1
      simpa using this
    rw [List.getElem?_set_self (by simpa using hlt)] at e
    cases e
    exact ⟨.non, List.getElem?_set_self (by rw [len]; exact hlt), .non⟩
  · rw [List.getElem?_set_ne (Ne.symm hm)] at e
    have := List.mem_of_getElem? e
    rw [List.mem_replicate] at this
    exact absurd this.2 (by simp)
theorem hold_fr {g : G} {H : Hp} {ra : Ra} {fr : Fra} {σ : L2.St} {i j : Nat} {b : Addr} {dx : D} (hij : i ≠ j) (F2 : FrR g H ra fr σ) (r : Rep g (frz H ra) dx (.ref b)) : FrR g H ra ((fr.set i none).set j (some (.d dx))) (((σ.set i (some (.ref b))).set j (some (.ref b))).set i none) := by
  refine ⟨by rw [List.length_set, List.length_set, List.length_set, List.length_set, List.length_set]; exact F2.1, fun m w hm => ?_⟩
  by_cases hmj : m = j
  · subst hmj
    have hlt : m < (fr.set i none).length := by
      have := (List.getElem?_eq_some_iff.mp hm).1
      rwa [List.length_set] at this
    rw [List.getElem?_set_self hlt] at hm
    cases hm
    rw [List.length_set, F2.1] at hlt
    refine ⟨.ref b, ?_, r⟩
    rw [List.getElem?_set_ne hij, List.getElem?_set_self (by rw [List.length_set]; exact hlt)]
  · rw [List.getElem?_set_ne (Ne.symm hmj)] at hm
    by_cases hmi : m = i
    · subst hmi
      rw [List.getElem?_set] at hm
      simp at hm
    · rw [List.getElem?_set_ne (Ne.symm hmi)] at hm
      obtain ⟨v2, q1, q2⟩ := F2.2 m w hm
      refine ⟨v2, ?_, q2⟩
      rw [List.getElem?_set_ne (Ne.symm hmi), List.getElem?_set_ne (Ne.symm hmj), List.getElem?_set_ne (Ne.symm hmi)]
      exact q1
theorem ok_fnD {g : G} {T : Tab} {k f n : Nat} {d : DeedD} {wd : Wd} (F : Fx g wd k) (est : wd.toWs = T.st) (t : FnTD g T f d) : FnD g g.P g.w g.K g.mg g.base (k + 4) f (fnRunD wd n d) := by
  obtain ⟨N, x, qual, params, scope, dvs, kws, a, v, n', te, rest, pv, cp, ap, p1, p2, p3, pv2, pm, pa, ph, pp, cj, D, Sc, hNl, hB, hpre, htgt, hij, hj0, h0, hi, hj, hln, hlv, hva, hda, hdn, hte, hrest, hnl⟩ := t.ex
  obtain ⟨oc, od, dV, kV, doc, pm', an, cdv, ct, osl, efd, lk, hcd, _, _⟩ := D.ex
  unfold nodbg at hda hdn
  simp only [Bool.and_eq_true, Bool.not_eq_true'] at hda hdn
  refine ⟨fun A outer s H u th ra cs Q E hr hgd e0 hfn hHu hfr deed R post => ?_⟩
  have KX : g.K.In s.heap := e0.mod.kin.keeps fun b o e => (e0.bs b o e).1
  have hb := hB s [.ref u] KX rfl
  rw [efd] at lk hb
  refine LamX.run_ofS (CX := L2.CX g.P g.w) (N := N) (ps := [a]) (us := [.ref u]) (vs := [.ref u]) (k := k + 4) lk hcd Sc hr e0 hb (.cons rfl .nil) rfl fun hr' => ?_
  have ok : Okx g N scope true k (cxOf (L2.CX g.P g.w) g.P g.w g.K g.mg g.base N qual scope (g.fa f) cdv A outer s H E) (fun c d _ H' => E c d H') :=
    ⟨rfl, rfl, rfl, rfl, rfl, rfl, Sc.nd, rfl, rfl, fun _ _ _ => rfl, hr'.mono (by omega), takes_of rfl rfl rfl rfl, hgd, fun h => absurd h hnl, fun _ => ⟨rfl, rfl, rfl⟩⟩
  have S1 := ps_asg (X := cxOf (L2.CX g.P g.w) g.P g.w g.K g.mg g.base N qual scope (g.fa f) cdv A outer s H E) (pos := ap) (pe_non (j := cj) (pos := cp)) (pg_name (pos := pv) (i := d.j) Sc.nd hj (.inl hlv) (.inr hlv)) rfl rfl rfl
  have S2 := ps_try_hold (X := cxOf (L2.CX g.P g.w) g.P g.w g.K g.mg g.base N qual scope (g.fa f) cdv A outer s H E) (pos := pp) (pos' := ph) (body := [.Expr (.Call (.Name a p1) [] [] p2) p3]) (b₀ := .Assign [.Name v pv2] (.Name n' pm) pa) (suite := []) (tb := fun W => tDeed g W th u ra H) (i := d.i) (j := d.j) (Wout := fun c d _ H' => E c d H') rfl rfl Sc.nd hi hln (testOk F ok (by rw [est]; exact hte)) ok.tk
    (fun W pn xe tk po => PSs.imp (pss_one (ps_deed (k := k + 4) (s0 := s) (outer := outer) ⟨rfl, rfl, rfl, rfl, rfl⟩ hr' hgd tk h0 (vis_of hva) hda.1 hda.2 hfn hHu hfr deed)) fun D σ H q => q)
    (fun b pn => PSs.imp (pss_one (ps_asg (pe_var (i := d.i) hi (.inl hln) hdn.1 hdn.2) (pg_name (i := d.j) Sc.nd hj (.inl hlv) (.inr hlv)) rfl rfl rfl)) fun D σ H q => q) rfl
  have S3 := (sndS F d.rest).l (n := n) (b := cs.length) ok (passes_of rfl) rest (by rw [est]; exact hrest)
  refine ⟨_, pss_cons S1 (pss_cons S2 S3), ?_⟩
  have hpos : 0 < d.nl := by
    rw [← hNl]
    exact (List.getElem?_eq_some_iff.mp h0).1
  show tDeed g _ th u ra H _ ((L2.start N [V.ref u]).set d.j (some .non)) H
  refine ⟨by rw [List.getElem?_set_ne hj0]; simp [L2.start], cs, Keep.refl _ _, R, ?_⟩
  unfold fnRunD at post
  rw [hpre, htgt] at post
  cases e : th cs with
  | bad => rw [e] at post; exact post.elim
  | ok dd c1 =>
    rw [e] at post
    intro H' v k' R' r'
    exact ⟨bs0 ra H, preF d.nl [d.j], c1, ra, R.len, (bs0_ok ra H).keep k', R', pre_ok hNl hj0 hpos, end_post R post⟩
  | exc c x c1 =>
    rw [e] at post
    intro H' dd v k' R' hx rx
    simp only [deedR, holdR] at post
    split at post
    · rename_i em
      refine ⟨true, F.exm _ _ _ em, fun _ b hb => ?_, fun z => by cases z⟩
      have nt : noTbl (ExcV (.ref (g.ca c)) (some dd) b) := fun _ z => by unfold ExcV at z; cases z
      obtain ⟨k2, R2, f2⟩ := R'.new (o := ExcV (.ref (g.ca c)) (some dd) b) hb nt
      have F2 : FrR g (upd H' b (ExcV (.ref (g.ca c)) (some dd) b)) ra (preF d.nl [d.j]) ((L2.start N [V.ref u]).set d.j (some .non)) := pre_ok hNl hj0 hpos
      have hdd : frz (upd H' b (ExcV (.ref (g.ca c)) (some dd) b)) ra dd = some (.xd [(g.efld c, v)]) := by
        refine frz_at (k2.at hx ?_) ?_
        all_goals
          intro z
          obtain ⟨m, hm⟩ := mem_ra z
          obtain ⟨c0, _, q⟩ := R'.back hm
          rcases q.kind with ⟨vs, q⟩ | ⟨c0, dx, vs, q⟩ <;> rw [hx] at q <;> cases q
      exact ⟨bs0 ra H, _, c1, ra, R.len, ((bs0_ok ra H).keep k').keep k2, R2, hold_fr hij F2 (.exc f2 hdd (Rep.mono k2.same rx)), end_post R post⟩
    · rename_i em
      exact ⟨false, F.exm _ _ _ em, fun z _ _ => Bool.noConfusion z, fun _ => post H' dd v k' (by rw [List.take_of_length_le (by rw [← R.len, R'.len]; exact Nat.le_refl _)]; exact R') hx rx⟩
    · exact post.elim
end BV

namespace BV
open PySem L2
theorem xbV : XBase "ValueError" "ValueError.__new__" "ValueError.__init__" [.type "ValueError", .type "Exception", .type "BaseException", .type "object"] := ⟨PySem.F.excBase_ValueError, PySem.W.kxs_ValueError, PySem.F.store_ValueError, by decide +kernel, by decide +kernel⟩
theorem xbL : XBase "LookupError" "LookupError.__new__" "LookupError.__init__" [.type "LookupError", .type "Exception", .type "BaseException", .type "object"] := ⟨PySem.F.excBase_LookupError, PySem.W.kxs_LookupError, PySem.F.store_LookupError, by decide +kernel, by decide +kernel⟩
theorem xbA : XBase "ArithmeticError" "ArithmeticError.__new__" "ArithmeticError.__init__" [.type "ArithmeticError", .type "Exception", .type "BaseException", .type "object"] := ⟨PySem.F.excBase_ArithmeticError, PySem.W.kxs_ArithmeticError, PySem.F.store_ArithmeticError, by decide +kernel, by decide +kernel⟩
end BV

namespace BV
open PySem L2 PySem.Spec PyProof.Rows
/-- a def that is handed a lambda: v, v2 = (None, None); try: v2 = deed() except ks as e: v = e; rest -/
structure FnTD2 (g : G) (T : Tab) (f : Nat) (d : DeedD) : Prop where
  ex : ∃ (N : List Str) (x qual : Str) (params : Arguments) (scope : Scope) (dvs : List V) (kws : List (Str × V)) (a v v2 n' : Str) (t : Nat) (te : Expr) (rest : List Stmt) (pv pw ptt cp cq ptv ap pr p1 p2 p3 pv2 pm pa ph pp : Pos) (kt kv cj ck : Nat),
    FunD g.K x qual params (.Assign [.Tuple [.Name v pv, .Name v2 pw] kt ptt] (.Tuple [.Constant .none cj cp, .Constant .none ck cq] kv ptv) ap :: .Try [.Assign [.Name v2 pr] (.Call (.Name a p1) [] [] p2) p3] [.ExceptHandler (some te) (some n') [.Assign [.Name v pv2] (.Name n' pm) pa] ph] [] [] pp :: rest) scope dvs kws (g.fa f) (g.fd f) ∧ FnScope N [a] scope ∧ N.length = d.nl ∧
    Binds g.K (g.fd f) [a] [] ∧ d.pre = [d.j, t] ∧ d.tgt = some t ∧ (d.i ≠ d.j ∧ d.i ≠ t ∧ t ≠ d.j ∧ d.j ≠ 0 ∧ t ≠ 0) ∧ N[0]? = some a ∧ N[d.i]? = some n' ∧ N[d.j]? = some v ∧ N[t]? = some v2 ∧ scope.names.lookup n' = some .local ∧ scope.names.lookup v = some .local ∧ scope.names.lookup v2 = some .local ∧ visB scope a = true ∧ nodbg a = true ∧ nodbg n' = true ∧
    chkTe T.st scope d.ks te = true ∧ chkSs T.st N scope d.rest rest = true ∧ scope ∉ g.lams
theorem sw0 {x y : Str} {px py pt pv cp cq : Pos} {kt kv cj ck : Nat} {env : Env} : swappedStores [.Tuple [.Name x px, .Name y py] kt pt] (.Tuple [.Constant .none cj cp, .Constant .none ck cq] kv pv) env = pure none := by
  unfold swappedStores
  simp only [foldedForSure, List.all_cons, List.all_nil, Bool.and_true, if_true]
  repeat' split
  all_goals first | rfl | simp_all
theorem pre_ok2 {g : G} {H : Hp} {ra : Ra} {u : Addr} {N : List Str} {nl j t : Nat} (hN : N.length = nl) (hj : j ≠ 0) (hn : 0 < nl) : FrR g H ra (preF nl [j, t]) (((L2.start N [V.ref u]).set j (some .non)).set t (some .non)) :=
  FrR.set (w := .d .non) (pre_ok hN hj hn) .non
theorem ok_fnD2 {g : G} {T : Tab} {k f n : Nat} {d : DeedD} {wd : Wd} (F : Fx g wd k) (est : wd.toWs = T.st) (t : FnTD2 g T f d) : FnD g g.P g.w g.K g.mg g.base (k + 4) f (fnRunD wd n d) := by
  obtain ⟨N, x, qual, params, scope, dvs, kws, a, v, v2, n', t2, te, rest, pv, pw, ptt, cp, cq, ptv, ap, pr, p1, p2, p3, pv2, pm, pa, ph, pp, kt, kv, cj, ck, D, Sc, hNl, hB, hpre, htgt, ⟨hij, hit, htj, hj0, ht0⟩, h0, hi, hj, ht, hln, hlv, hlv2, hva, hda, hdn, hte, hrest, hnl⟩ := t.ex
  obtain ⟨oc, od, dV, kV, doc, pm', an, cdv, ct, osl, efd, lk, hcd, _, _⟩ := D.ex
  unfold nodbg at hda hdn
  simp only [Bool.and_eq_true, Bool.not_eq_true'] at hda hdn
  refine ⟨fun A outer s H u th ra cs Q E hr hgd e0 hfn hHu hfr deed R post => ?_⟩
  have KX : g.K.In s.heap := e0.mod.kin.keeps fun b o e => (e0.bs b o e).1
  have hb := hB s [.ref u] KX rfl
  rw [efd] at lk hb
  refine LamX.run_ofS (CX := L2.CX g.P g.w) (N := N) (ps := [a]) (us := [.ref u]) (vs := [.ref u]) (k := k + 4) lk hcd Sc hr e0 hb (.cons rfl .nil) rfl fun hr' => ?_
  have ok : Okx g N scope true k (cxOf (L2.CX g.P g.w) g.P g.w g.K g.mg g.base N qual scope (g.fa f) cdv A outer s H E) (fun c d _ H' => E c d H') :=
    ⟨rfl, rfl, rfl, rfl, rfl, rfl, Sc.nd, rfl, rfl, fun _ _ _ => rfl, hr'.mono (by omega), takes_of rfl rfl rfl rfl, hgd, fun h => absurd h hnl, fun _ => ⟨rfl, rfl, rfl⟩⟩
  have S1 := ps_asg (X := cxOf (L2.CX g.P g.w) g.P g.w g.K g.mg g.base N qual scope (g.fa f) cdv A outer s H E) (pos := ap) (pe_tup (x1 := kv) (pos := ptv) (pa_cons (pe_non (j := cj) (pos := cp)) (pa_cons (pe_non (j := ck) (pos := cq)) pa_nil rfl) rfl))
    (pg_tup (n := 2) (k := kt) (pos := ptt) ok.calm (pgs_cons (pg_name (pos := pv) (i := d.j) Sc.nd hj (.inl hlv) (.inr hlv)) (pgs_cons (pg_name (pos := pw) (i := t2) Sc.nd ht (.inl hlv2) (.inr hlv2)) pgs_nil rfl) rfl)) rfl sw0 rfl
  have S2 := ps_try_hold (X := cxOf (L2.CX g.P g.w) g.P g.w g.K g.mg g.base N qual scope (g.fa f) cdv A outer s H E) (pos := pp) (pos' := ph) (body := [.Assign [.Name v2 pr] (.Call (.Name a p1) [] [] p2) p3]) (b₀ := .Assign [.Name v pv2] (.Name n' pm) pa) (suite := []) (tb := fun W => tDeed2 g W th u ra H t2) (i := d.i) (j := d.j) (Wout := fun c d _ H' => E c d H') rfl rfl Sc.nd hi hln (testOk F ok (by rw [est]; exact hte)) ok.tk
    (fun W pn xe tk po => PSs.imp (pss_one (ps_deed2 (k := k + 4) (s0 := s) (outer := outer) ⟨rfl, rfl, rfl, rfl, rfl⟩ hr' hgd tk h0 (vis_of hva) hda.1 hda.2 hfn hHu hfr deed Sc.nd ht hlv2)) fun D σ H q => q)
    (fun b pn => PSs.imp (pss_one (ps_asg (pe_var (i := d.i) hi (.inl hln) hdn.1 hdn.2) (pg_name (i := d.j) Sc.nd hj (.inl hlv) (.inr hlv)) rfl rfl rfl)) fun D σ H q => q) rfl
  have S3 := (sndS F d.rest).l (n := n) (b := cs.length) ok (passes_of rfl) rest (by rw [est]; exact hrest)
  refine ⟨_, pss_cons S1 (pss_cons S2 S3), ?_⟩
  have hpos : 0 < d.nl := by
    rw [← hNl]
    exact (List.getElem?_eq_some_iff.mp h0).1
  refine ⟨by decide, fun p hp => ?_⟩
  obtain ⟨kp, Rp, _⟩ := R.new (o := HO.tup [V.non, V.non]) hp
  refine ⟨p, [V.non, V.non], rfl, SqT.of upd_same, rfl, .non, [.non], rfl, .non, [], rfl, rfl, ?_⟩
  show tDeed2 g _ th u ra H t2 _ (((L2.start N [V.ref u]).set d.j (some .non)).set t2 (some .non)) (upd H p (HO.tup [V.non, V.non]))
  refine ⟨by rw [List.getElem?_set_ne ht0, List.getElem?_set_ne hj0]; simp [L2.start], cs, kp, Rp, ?_⟩
  unfold fnRunD at post
  rw [hpre, htgt] at post
  cases e : th cs with
  | bad => rw [e] at post; exact post.elim
  | ok dd c1 =>
    rw [e] at post
    intro H' v k' R' r'
    refine ⟨bs0 ra H, (preF d.nl [d.j, t2]).set t2 (some (.d dd)), c1, ra, R.len, ((bs0_ok ra H).keep kp).keep k', R', FrR.set (w := .d dd) (pre_ok2 hNl hj0 hpos) r', ?_⟩
    exact end_post R post
  | exc c x c1 =>
    rw [e] at post
    intro H' dd v k' R' hx rx
    simp only [deedR, holdR] at post
    split at post
    · rename_i em
      refine ⟨true, F.exm _ _ _ em, fun _ b hb => ?_, fun z => by cases z⟩
      have nt : noTbl (ExcV (.ref (g.ca c)) (some dd) b) := fun _ z => by unfold ExcV at z; cases z
      obtain ⟨k2, R2, f2⟩ := R'.new (o := ExcV (.ref (g.ca c)) (some dd) b) hb nt
      have F2 : FrR g (upd H' b (ExcV (.ref (g.ca c)) (some dd) b)) ra (preF d.nl [d.j, t2]) (((L2.start N [V.ref u]).set d.j (some .non)).set t2 (some .non)) := pre_ok2 hNl hj0 hpos
      have hdd : frz (upd H' b (ExcV (.ref (g.ca c)) (some dd) b)) ra dd = some (.xd [(g.efld c, v)]) := by
        refine frz_at (k2.at hx ?_) ?_
        all_goals
          intro z
          obtain ⟨m, hm⟩ := mem_ra z
          obtain ⟨c0, _, q⟩ := R'.back hm
          rcases q.kind with ⟨vs, q⟩ | ⟨c0, dx, vs, q⟩ <;> rw [hx] at q <;> cases q
      exact ⟨bs0 ra H, _, c1, ra, R.len, (((bs0_ok ra H).keep kp).keep k').keep k2, R2, hold_fr hij F2 (.exc f2 hdd (Rep.mono k2.same rx)), end_post R post⟩
    · rename_i em
      exact ⟨false, F.exm _ _ _ em, fun z _ _ => Bool.noConfusion z, fun _ => post H' dd v (kp.trans k') (by rw [List.take_of_length_le (by rw [← R.len, R'.len]; exact Nat.le_refl _)]; exact R') hx rx⟩
    · exact post.elim
end BV

namespace K38
open PySem L2 BV
def top (i : Nat) : Stmt := PySem.Challenge.pw_diagramtext_k38_boxes.main.body.getD i (.Pass ⟨0, 0, 0, 0⟩)
def lfnm : List (Option Str) := [some "law", some "_law_box", none, some "_law_refused", some "_law_cells_right", some "_law_pair_right", some "_law_next", some "_law_source", none, none, some "is_integer", some "_law_error", some "_law_pick", none, some "_law_box_cells", none, none, none, none, none, some "need_box"]
def wfnm (f : Nat) : Option Str := lfnm.getD f none
def lcnm : List (Option Str) := [some "Box", some "BadNumber", some "Invalid", some "Conflict", some "Excess", some "NoPart", some "NoEdge", some "NoPort", some "BadChange", some "BadDiagram", some "BadMember", some "BadPort", some "BadName"]
def wcnm (c : Nat) : Option Str := lcnm.getD c none
def lgd : List (Str × D) := []
def wgd (x : Str) : Option D := lgd.lookup x
def lpat : List ((Nat × Nat) × (Nat × List Str × List Src)) := [((1, 0), (1, [], [.p 0])), ((2, 0), (5, [], [.p 0, .p 1, .p 2, .p 3, .p 4])), ((2, 1), (1, ["x", "y", "width", "height"], [.p 0, .k 0, .k 1, .k 2, .k 3])), ((3, 0), (2, [], [.p 0, .p 1])), ((4, 0), (1, [], [.p 0])), ((5, 0), (2, [], [.p 0, .p 1])), ((6, 0), (2, [], [.p 0, .p 1])), ((7, 0), (2, [], [.p 0, .p 1])), ((9, 0), (1, ["other"], [.p 0, .k 0])), ((10, 0), (1, [], [.p 0])), ((12, 0), (2, [], [.p 0, .p 1])), ((13, 0), (1, ["other"], [.p 0, .k 0])), ((14, 0), (1, [], [.p 0])), ((20, 0), (1, [], [.p 0]))]
def wpat (f p : Nat) : Option (Nat × List Str × List Src) := lpat.lookup (f, p)
def linit : List (Option Nat) := [some 2, none, none, none, none, none, none, none, none, none, none, none, none]
def winit (c : Nat) : Option Nat := linit.getD c none
def lps : List (List Str) := [["_law_script"], ["_law_told"], ["self", "x", "y", "width", "height"], ["_law_source_here", "_law_one"], ["_law_one"], ["_law_one", "_law_second"], ["_law_source_here", "_law_many"], ["_law_script", "_law_k"], ["self", "cell"], ["self", "other"], ["value"], ["_law_deed"], ["_law_source_here", "_law_items"], ["self", "other"], ["_law_told"], ["self", "other"], ["self"], ["self"], ["self"], ["self"], ["value"]]
def wps (f : Nat) : List Str := lps.getD f []
def lnpar : List Nat := [1, 1, 5, 2, 1, 2, 2, 2, 2, 2, 1, 1, 2, 2, 1, 2, 1, 1, 1, 1, 1]
def wnpar (f : Nat) : Nat := lnpar.getD f 0
def lmeth : List ((Nat × Str) × Nat) := [((0, ("is_inside" : Str)), 9), ((0, ("overlaps" : Str)), 13)]
def wmeth (c : Nat) (m : Str) : Option Nat := lmeth.lookup (c, m)
def lsup : List ((Nat × Nat × Str) × Nat) := []
def wsup (d c : Nat) (m : Str) : Option Nat := lsup.lookup (d, c, m)
def lprop : List ((Nat × Str) × Nat) := [((0, ("height" : Str)), 16), ((0, ("width" : Str)), 17), ((0, ("x" : Str)), 18), ((0, ("y" : Str)), 19)]
def wprop (c : Nat) (m : Str) : Option Nat := lprop.lookup (c, m)
def lfldk : List ((Nat × Str) × Unit) := [((0, ("missing" : Str)), ()), ((0, ("own_key" : Str)), ())]
def wfldk (c : Nat) (f : Str) : Bool := (lfldk.lookup (c, f)).isSome
def lkit : List ((Ty × Ty) × Bool) := [((.b "NoneType", .b "bool"), false), ((.b "NoneType", .b "int"), false), ((.b "NoneType", .b "tuple"), false), ((.b "bool", .b "bool"), true), ((.b "bool", .b "int"), true), ((.b "bool", .b "tuple"), false), ((.b "int", .b "bool"), false), ((.b "int", .b "int"), true), ((.b "int", .b "tuple"), false), ((.b "str", .b "bool"), false), ((.b "str", .b "int"), false), ((.b "str", .b "tuple"), false), ((.b "tuple", .b "bool"), false), ((.b "tuple", .b "int"), false), ((.b "tuple", .b "tuple"), true), ((.b "list", .b "bool"), false), ((.b "list", .b "int"), false), ((.b "list", .b "tuple"), false), ((.b "dict", .b "bool"), false), ((.b "dict", .b "int"), false), ((.b "dict", .b "tuple"), false), ((.b "NoneType", .c 0), false), ((.b "bool", .c 0), false), ((.b "int", .c 0), false), ((.b "str", .c 0), false), ((.b "tuple", .c 0), false), ((.b "list", .c 0), false), ((.b "dict", .c 0), false), ((.c 0, .c 0), true), ((.c 0, .b "bool"), false), ((.c 0, .b "int"), false), ((.c 0, .b "tuple"), false), ((.x 1, .c 1), true), ((.x 1, .c 5), false), ((.x 1, .c 6), false), ((.x 1, .c 7), false), ((.x 1, .c 8), false), ((.x 1, .c 9), false), ((.x 1, .c 10), false), ((.x 1, .c 11), false), ((.x 1, .c 12), false), ((.x 10, .c 1), false), ((.x 10, .c 5), false), ((.x 10, .c 6), false), ((.x 10, .c 7), false), ((.x 10, .c 8), false), ((.x 10, .c 9), false), ((.x 10, .c 10), true), ((.x 10, .c 11), false), ((.x 10, .c 12), false)]
def wkit (t u : Ty) : Option Bool := lkit.lookup (t, u)
def lexk : List (Option (Str × Str)) := [none, some (("BadNumber" : Str), ("reason" : Str)), none, none, none, none, none, none, none, none, some (("BadMember" : Str), ("reason" : Str)), none, none]
def wexk (c : Nat) : Option (Str × Str) := lexk.getD c none
def lexm : List ((List Nat × Nat) × Bool) := [(([2, 3, 4], 1), true), (([2, 3, 4], 10), true)]
def wexm (ks : List Nat) (c : Nat) : Option Bool := lexm.lookup (ks, c)
def loeq : List ((Nat × Ty) × Nat) := [((0, .b "NoneType"), 15), ((0, .b "bool"), 15), ((0, .b "int"), 15), ((0, .b "str"), 15), ((0, .b "tuple"), 15), ((0, .b "list"), 15), ((0, .b "dict"), 15), ((0, .c 0), 15)]
def woeq (c : Nat) (t : Ty) : Option Nat := loeq.lookup (c, t)
def lone : List ((Nat × Ty) × Nat) := [((0, .b "NoneType"), 15), ((0, .b "bool"), 15), ((0, .b "int"), 15), ((0, .b "str"), 15), ((0, .b "tuple"), 15), ((0, .b "list"), 15), ((0, .b "dict"), 15), ((0, .c 0), 15)]
def wone (c : Nat) (t : Ty) : Option Nat := lone.lookup (c, t)
def loin : List (Option Nat) := [some 8, none, none, none, none, none, none, none, none, none, none, none, none]
def woin (c : Nat) : Option Nat := loin.getD c none
def lams : List Scope := [defScope (top 27)]
def st : Ws := { fnm := wfnm, cnm := wcnm, gd := wgd, pat := wpat, init := winit, npar := wnpar, meth := wmeth, sup := wsup, prop := wprop, fldk := wfldk, kit := wkit, exk := wexk, oeq := woeq, one := wone, oin := woin, exm := wexm, lams := lams }
def s0 : BV.S := (.cons (.loop (.rng1 (.bi .max (.cons (.cst (.int 1)) (.cons (.bi .min (.cons (.cst (.int 4)) (.cons (.bi .len (.cons (.var 0) .nil)) .nil))) .nil)))) [2] true (.cons (.setL 4 (.call 7 0 (.cons (.var 0) (.cons (.var 2) .nil)) .nil)) (.cons (.set 3 (.bi .tuple (.cons (.op .Add (.lc (.op .Sub (.call 6 0 (.cons (.var 4) (.cons (.cst (.int 8)) .nil)) .nil) (.cst (.int 3))) (.rng1 (.cst (.int 2))) .nil [6] true [("_law_at", 6)]) (.lc (.op .Add (.cst (.int 1)) (.call 6 0 (.cons (.var 4) (.cons (.cst (.int 5)) .nil)) .nil)) (.rng1 (.cst (.int 2))) .nil [6] true [("_law_at", 6)])) .nil))) (.cons (.set 5 (.bi .tuple (.cons (.op .Add (.lc (.op .Sub (.call 6 0 (.cons (.var 4) (.cons (.cst (.int 8)) .nil)) .nil) (.cst (.int 3))) (.rng1 (.cst (.int 2))) .nil [6] true [("_law_at", 6)]) (.lc (.op .Add (.cst (.int 1)) (.call 6 0 (.cons (.var 4) (.cons (.cst (.int 5)) .nil)) .nil)) (.rng1 (.cst (.int 2))) .nil [6] true [("_law_at", 6)])) .nil))) (.cons (.ife (.or (.cons (.not (.call 5 0 (.cons (.var 3) (.cons (.var 5) .nil)) .nil)) (.cons (.not (.call 5 0 (.cons (.var 5) (.cons (.var 3) .nil)) .nil)) (.cons (.not (.call 5 0 (.cons (.var 3) (.cons (.var 3) .nil)) .nil)) .nil)))) (.cons (.ret (.cst (.bl false))) .nil) .nil) (.cons (.ife (.or (.cons (.not (.call 4 0 (.cons (.var 3) .nil) .nil)) (.cons (.not (.call 4 0 (.cons (.var 5) .nil) .nil)) (.cons (.not (.call 3 0 (.cons (.var 4) (.cons (.var 3) .nil)) .nil)) .nil)))) (.cons (.ret (.cst (.bl false))) .nil) .nil) .nil)))))) (.cons (.set 1 (.make 0 0 (.cons (.op .Sub (.cst (.int 0)) (.op .Pow (.cst (.int 10)) (.cst (.int 30)))) (.cons (.cst (.int 5)) (.cons (.op .Mult (.cst (.int 2)) (.op .Pow (.cst (.int 10)) (.cst (.int 30)))) (.cons (.cst (.int 3)) .nil)))) .nil)) (.cons (.ret (.and (.cons (.ino false (.tup (.cons (.op .Sub (.op .Pow (.cst (.int 10)) (.cst (.int 30))) (.cst (.int 1))) (.cons (.cst (.int 7)) .nil))) (.var 1)) (.cons (.ino true (.tup (.cons (.op .Pow (.cst (.int 10)) (.cst (.int 30))) (.cons (.cst (.int 7)) .nil))) (.var 1)) (.cons (.meth (.call 1 0 (.cons (.tup (.cons (.cst (.int 0)) (.cons (.cst (.int 6)) (.cons (.cst (.int 1)) (.cons (.cst (.int 1)) .nil))))) .nil) .nil) "is_inside" (.cons (.var 1) .nil)) .nil))))) .nil)))
theorem c0 : chkSs st ["_law_script", "_law_great", "_law_k", "_law_one", "_law_source_here", "_law_second", "_law_at"] (defScope (top 28)) s0 (defBody (top 28)) = true := rfl -- law
def s1 : BV.S := (.cons (.ret (.make 0 0 (.cons (.ix (.var 0) (.cst (.int 0))) (.cons (.ix (.var 0) (.cst (.int 1))) (.cons (.ix (.var 0) (.cst (.int 2))) (.cons (.ix (.var 0) (.cst (.int 3))) .nil)))) .nil)) .nil)
theorem c1 : chkSs st ["_law_told"] (defScope (top 24)) s1 (defBody (top 24)) = true := rfl -- _law_box
def s2 : BV.S := (.cons (.ife (.or (.cons (.not (.bi .all (.cons (.lc (.call 10 0 (.cons (.var 5) .nil) .nil) (.itt (.tup (.cons (.var 1) (.cons (.var 2) (.cons (.var 3) (.cons (.var 4) .nil)))))) .nil [5] true [("value", 5)]) .nil))) (.cons (.cmp .Lt (.var 3) (.cst (.int 1))) (.cons (.cmp .Lt (.var 4) (.cst (.int 1))) .nil)))) (.cons (.raise 1 (.cst (.str "expected integers, the width and the height at least 1"))) .nil) .nil) (.cons (.fld (.var 0) "own_key" (.tup (.cons (.var 1) (.cons (.var 2) (.cons (.var 3) (.cons (.var 4) .nil)))))) .nil))
theorem c2 : chkSs st ["self", "x", "y", "width", "height", "value"] (defScope (inClass (top 16) 0)) s2 (defBody (inClass (top 16) 0)) = true := rfl -- Box.__init__
def s3 : BV.S := (.cons (.par [7, 8] (.cons (.call 6 0 (.cons (.var 0) (.cons (.cst (.int 4)) .nil)) .nil) (.cons (.call 12 0 (.cons (.var 0) (.cons (.lst (.cons (.cst .non) (.cons (.cst (.bl true)) (.cons (.cst (.bl false)) (.cons (.cst (.str "1")) (.cons (.tup (.cons (.cst (.int 1)) .nil)) (.cons (.lst (.cons (.cst (.int 2)) .nil)) (.cons .dct0 (.cons (.cst (.str "")) (.cons (.tup .nil) .nil)))))))))) .nil)) .nil) .nil))) (.cons (.setL 6 (.ofl (.var 1))) (.cons (.put (.var 6) (.var 7) (.var 8)) (.cons (.frz 6) (.cons (.setL 5 (.ofl (.var 1))) (.cons (.put (.var 5) (.op .Add (.cst (.int 2)) (.call 6 0 (.cons (.var 0) (.cons (.cst (.int 2)) .nil)) .nil)) (.call 12 0 (.cons (.var 0) (.cons (.lst (.cons (.cst (.int 0)) (.cons (.neg (.cst (.int 1))) (.cons (.neg (.cst (.int 7))) (.cons (.op .Sub (.cst (.int 0)) (.op .Pow (.cst (.int 10)) (.cst (.int 20)))) .nil))))) .nil)) .nil)) (.cons (.frz 5) (.cons (.setT [3, 4] (.tup (.cons (.call 1 0 (.cons (.var 1) .nil) .nil) (.cons (.call 12 0 (.cons (.var 0) (.cons (.lst (.cons (.cst .non) (.cons (.var 1) (.cons (.cst (.int 5)) (.cons (.cst (.str "box")) (.cons (.lst .nil) (.cons (.cst (.bl true)) .nil))))))) .nil)) .nil) .nil)))) (.cons (.setL 2 (.lst (.cons (.lam 11 (.call 1 0 (.cons (.var 6) .nil) .nil)) .nil))) (.cons (.expr (.bm .append (.var 2) (.cons (.lam 11 (.call 1 0 (.cons (.var 5) .nil) .nil)) .nil))) (.cons (.expr (.bm .append (.var 2) (.cons (.lam 11 (.meth (.var 3) "overlaps" (.cons (.var 4) .nil))) .nil))) (.cons (.expr (.bm .append (.var 2) (.cons (.lam 11 (.meth (.var 3) "is_inside" (.cons (.var 4) .nil))) .nil))) (.cons (.ret (.cmp .Eq (.var 2) (.op .Add (.op .Mult (.lst (.cons (.tup (.cons (.cst (.str "number")) (.cons (.cst .non) .nil))) .nil)) (.cst (.int 2))) (.op .Mult (.lst (.cons (.tup (.cons (.cst (.str "member")) (.cons (.cst .non) .nil))) .nil)) (.cst (.int 2)))))) .nil)))))))))))))
theorem c3 : chkSs st ["_law_source_here", "_law_one", "_law_told", "_law_box_here", "_law_far", "_law_small", "_law_wrong", "_law_at", "_law_odd"] (defScope (top 27)) s3 (defBody (top 27)) = true := rfl -- _law_refused
def s4 : BV.S := (.cons (.set 3 (.make 0 1 .nil (.cons (.ix (.var 0) (.cst (.int 0))) (.cons (.ix (.var 0) (.cst (.int 1))) (.cons (.ix (.var 0) (.cst (.int 2))) (.cons (.ix (.var 0) (.cst (.int 3))) .nil)))))) (.cons (.set 6 (.call 14 0 (.cons (.tup (.cons (.neg (.cst (.int 6))) (.cons (.neg (.cst (.int 6))) (.cons (.cst (.int 18)) (.cons (.cst (.int 18)) .nil))))) .nil) .nil)) (.cons (.ife (.cmp .NotEq (.lc (.var 7) (.itl (.var 6)) (.cons (.ino false (.var 7) (.var 3)) .nil) [7] true [("_law_cell", 7)]) (.call 14 0 (.cons (.var 0) .nil) .nil)) (.cons (.ret (.cst (.bl false))) .nil) .nil) (.cons (.setT [5, 4] (.sl (.var 0) .nil (.cons (.cst (.int 2)) .nil))) (.cons (.setL 1 (.lst (.cons (.cst .non) (.cons (.var 5) (.cons (.tup (.cons (.var 5) .nil)) (.cons (.tup (.cons (.var 5) (.cons (.var 4) (.cons (.var 5) .nil)))) (.cons (.lst (.cons (.var 5) (.cons (.var 4) .nil))) (.cons (.tup (.cons (.cst (.bl true)) (.cons (.var 4) .nil))) (.cons (.tup (.cons (.var 5) (.cons (.cst (.bl false)) .nil))) (.cons (.tup (.cons (.bi .str (.cons (.var 5) .nil)) (.cons (.var 4) .nil))) (.cons (.tup (.cons (.var 5) (.cons (.cst .non) .nil))) (.cons .dct0 (.cons (.var 3) (.cons (.cst (.str "ab")) .nil)))))))))))))) (.cons (.expr (.bm .append (.var 1) (.cons (.tup (.cons (.tup (.cons (.var 5) (.cons (.var 4) .nil))) .nil)) .nil))) (.cons (.frz 1) (.cons (.ret (.cmp .Eq (.lc (.var 2) (.itl (.var 1)) (.cons (.ino false (.var 2) (.var 3)) .nil) [2] true [("_law_value", 2)]) (.lst .nil))) .nil))))))))
theorem c4 : chkSs st ["_law_one", "_law_odd", "_law_value", "_law_box_here", "_law_to", "_law_at", "_law_around", "_law_cell"] (defScope (top 26)) s4 (defBody (top 26)) = true := rfl -- _law_cells_right
def s5 : BV.S := (.cons (.par [5, 6] (.cons (.call 1 0 (.cons (.var 0) .nil) .nil) (.cons (.call 1 0 (.cons (.var 1) .nil) .nil) .nil))) (.cons (.setT [7, 10] (.tup (.cons (.call 14 0 (.cons (.var 0) .nil) .nil) (.cons (.call 14 0 (.cons (.var 1) .nil) .nil) .nil)))) (.cons (.set 9 (.call 14 0 (.cons (.tup (.cons (.op .Add (.ix (.var 1) (.cst (.int 0))) (.cst (.int 1))) (.cons (.op .Add (.ix (.var 1) (.cst (.int 1))) (.cst (.int 1))) (.cons (.op .Sub (.ix (.var 1) (.cst (.int 2))) (.cst (.int 2))) (.cons (.op .Sub (.ix (.var 1) (.cst (.int 3))) (.cst (.int 2))) .nil))))) .nil) .nil)) (.cons (.set 4 (.cmp .NotEq (.lc (.var 8) (.itl (.var 7)) (.cons (.cmp .In (.var 8) (.var 10)) .nil) [8] true [("_law_cell", 8)]) (.lst .nil))) (.cons (.set 3 (.cmp .Eq (.lc (.var 8) (.itl (.var 7)) (.cons (.cmp .NotIn (.var 8) (.var 9)) .nil) [8] true [("_law_cell", 8)]) (.lst .nil))) (.cons (.set 2 (.lst (.cons (.meth (.var 5) "overlaps" (.cons (.var 6) .nil)) (.cons (.methk (.var 6) "overlaps" 0 ["other"] (.cons (.var 5) .nil)) (.cons (.meth (.var 5) "is_inside" (.cons (.var 6) .nil)) (.cons (.methk (.var 5) "is_inside" 0 ["other"] (.cons (.var 6) .nil)) (.cons (.eqo false (.var 5) (.var 6)) .nil))))))) (.cons (.set 2 (.op .Add (.var 2) (.lst (.cons (.eqo true (.var 5) (.var 6)) (.cons (.eqo false (.var 5) (.var 0)) (.cons (.cmp .Eq (.tup (.cons (.fld (.var 5) "x") (.cons (.fld (.var 5) "y") (.cons (.fld (.var 5) "width") (.cons (.fld (.var 5) "height") .nil))))) (.var 0)) (.cons (.eqo false (.var 5) (.call 1 0 (.cons (.var 0) .nil) .nil)) .nil))))))) (.cons (.ret (.cmp .Eq (.rep (.var 2)) (.rep (.lst (.cons (.var 4) (.cons (.var 4) (.cons (.var 3) (.cons (.var 3) (.cons (.cmp .Eq (.var 0) (.var 1)) (.cons (.cmp .NotEq (.var 0) (.var 1)) (.cons (.cst (.bl false)) (.cons (.cst (.bl true)) (.cons (.cst (.bl true)) .nil))))))))))))) .nil))))))))
theorem c5 : chkSs st ["_law_one", "_law_second", "_law_told", "_law_within", "_law_shares", "_law_own", "_law_far", "_law_cells", "_law_cell", "_law_inner", "_law_others"] (defScope (top 25)) s5 (defBody (top 25)) = true := rfl -- _law_pair_right
def s6 : BV.S := (.cons (.ife (.cmp .Gt (.ix (.var 0) (.cst (.int 2))) (.cst (.int 0))) (.cons (.set 4 (.op .Mod (.ix (.var 0) (.cst (.int 2))) (.var 1))) (.cons (.put (.var 0) (.cst (.int 2)) (.op .FloorDiv (.ix (.var 0) (.cst (.int 2))) (.var 1))) (.cons (.ret (.var 4)) .nil))) .nil) (.cons (.put (.var 0) (.cst (.int 1)) (.op .Add (.ix (.var 0) (.cst (.int 1))) (.cst (.int 1)))) (.cons (.set 3 (.lst (.cons (.cst (.int 2147483647)) (.cons (.cst (.int 2147483629)) (.cons (.cst (.int 2147483587)) (.cons (.cst (.int 2147483579)) (.cons (.cst (.int 2147483563)) (.cons (.cst (.int 2147483549)) (.cons (.cst (.int 2147483543)) (.cons (.cst (.int 2147483497)) .nil)))))))))) (.cons (.set 2 (.ix (.op .Add (.var 3) (.lst (.cons (.cst (.int 2147483489)) (.cons (.cst (.int 2147483477)) (.cons (.cst (.int 2147483423)) .nil))))) (.op .Mod (.ix (.var 0) (.cst (.int 1))) (.cst (.int 11))))) (.cons (.ret (.op .Mod (.op .FloorDiv (.op .Mod (.op .Pow (.op .Add (.op .Add (.op .Mod (.ix (.var 0) (.cst (.int 0))) (.var 2)) (.op .Mult (.cst (.int 7919)) (.ix (.var 0) (.cst (.int 1))))) (.cst (.int 1))) (.cst (.int 5))) (.var 2)) (.cst (.int 13))) (.var 1))) .nil)))))
theorem c6 : chkSs st ["_law_source_here", "_law_many", "_law_prime", "_law_primes", "_law_found"] (defScope (top 20)) s6 (defBody (top 20)) = true := rfl -- _law_next
def s7 : BV.S := (.cons (.set 2 (.ife (.cmp .NotEq (.var 0) (.lst .nil)) (.ix (.var 0) (.op .Mod (.var 1) (.bi .len (.cons (.var 0) .nil)))) (.cst (.int 1)))) (.cons (.retL (.lst (.cons (.var 2) (.cons (.op .Mult (.cst (.int 3)) (.var 1)) (.cons (.ife (.cmp .GtE (.var 2) (.op .Pow (.cst (.int 10)) (.cst (.int 18)))) (.op .FloorDiv (.var 2) (.op .Pow (.cst (.int 10)) (.cst (.int 18)))) (.cst (.int 0))) .nil))))) .nil))
theorem c7 : chkSs st ["_law_script", "_law_k", "_law_cell"] (defScope (top 19)) s7 (defBody (top 19)) = true := rfl -- _law_source
def s8 : BV.S := (.cons (.ife (.or (.cons (.not (.isi (.var 1) [.b "tuple"] false)) (.cons (.cmp .NotEq (.bi .len (.cons (.var 1) .nil)) (.cst (.int 2))) (.cons (.not (.bi .all (.cons (.lc (.call 10 0 (.cons (.var 4) .nil) .nil) (.itt (.var 1)) .nil [4] true [("value", 4)]) .nil))) .nil)))) (.cons (.ret (.cst (.bl false))) .nil) .nil) (.cons (.setT [3, 2] (.var 1)) (.cons (.ret (.and (.cons (.chain .LtE .Lt (.fld (.var 0) "x") (.var 3) (.op .Add (.fld (.var 0) "x") (.fld (.var 0) "width"))) (.cons (.chain .LtE .Lt (.fld (.var 0) "y") (.var 2) (.op .Add (.fld (.var 0) "y") (.fld (.var 0) "height"))) .nil)))) .nil)))
theorem c8 : chkSs st ["self", "cell", "y", "x", "value"] (defScope (inClass (top 16) 8)) s8 (defBody (inClass (top 16) 8)) = true := rfl -- Box.__contains__
def s9 : BV.S := (.cons (.expr (.call 20 0 (.cons (.var 1) .nil) .nil)) (.cons (.ife (.or (.cons (.cmp .LtE (.fld (.var 0) "x") (.fld (.var 1) "x")) (.cons (.cmp .GtE (.op .Add (.fld (.var 0) "x") (.fld (.var 0) "width")) (.op .Add (.fld (.var 1) "x") (.fld (.var 1) "width"))) .nil))) (.cons (.ret (.cst (.bl false))) .nil) .nil) (.cons (.ret (.and (.cons (.cmp .Gt (.fld (.var 0) "y") (.fld (.var 1) "y")) (.cons (.cmp .Lt (.op .Add (.fld (.var 0) "y") (.fld (.var 0) "height")) (.op .Add (.fld (.var 1) "y") (.fld (.var 1) "height"))) .nil)))) .nil)))
theorem c9 : chkSs st ["self", "other"] (defScope (inClass (top 16) 6)) s9 (defBody (inClass (top 16) 6)) = true := rfl -- Box.is_inside
def s10 : BV.S := (.cons (.ret (.and (.cons (.isi (.var 0) [.b "int"] false) (.cons (.not (.isi (.var 0) [.b "bool"] false)) .nil)))) .nil)
theorem c10 : chkSs st ["value"] (defScope (top 14)) s10 (defBody (top 14)) = true := rfl -- is_integer
def r11 : BV.S := (.cons (.ife (.cmp .Is (.var 2) (.cst .non)) (.cons (.ret (.lst (.cons (.var 3) .nil))) .nil) .nil) (.cons (.set 4 (.lst (.cons (.tup (.cons (.cst (.str "name")) (.cons (.isi (.var 2) [.c 12] false) .nil))) (.cons (.tup (.cons (.cst (.str "port")) (.cons (.isi (.var 2) [.c 11] false) .nil))) .nil)))) (.cons (.set 4 (.op .Add (.var 4) (.lst (.cons (.tup (.cons (.cst (.str "number")) (.cons (.isi (.var 2) [.c 1] false) .nil))) (.cons (.tup (.cons (.cst (.str "member")) (.cons (.isi (.var 2) [.c 10] false) .nil))) .nil))))) (.cons (.set 4 (.op .Add (.var 4) (.lst (.cons (.tup (.cons (.cst (.str "diagram")) (.cons (.isi (.var 2) [.c 9] false) .nil))) (.cons (.tup (.cons (.cst (.str "change")) (.cons (.isi (.var 2) [.c 8] false) .nil))) .nil))))) (.cons (.set 4 (.op .Add (.var 4) (.lst (.cons (.tup (.cons (.cst (.str "part")) (.cons (.isi (.var 2) [.c 5] false) .nil))) (.cons (.tup (.cons (.cst (.str "edge")) (.cons (.isi (.var 2) [.c 6] false) .nil))) .nil))))) (.cons (.set 4 (.op .Add (.var 4) (.lst (.cons (.tup (.cons (.cst (.str "no port")) (.cons (.isi (.var 2) [.c 7] false) .nil))) .nil)))) (.cons (.setL 3 (.lc (.var 5) (.itl (.var 4)) (.cons (.var 6) .nil) [5, 6] false [("_law_word", 5), ("_law_is_so", 6)])) (.cons (.frz 3) (.cons (.ife (.cmp .NotEq (.bi .len (.cons (.var 3) .nil)) (.cst (.int 1))) (.cons (.ret (.tup (.cons (.cst (.str "other")) (.cons (.cst .non) .nil)))) .nil) .nil) (.cons (.ret (.tup (.cons (.ix (.var 3) (.cst (.int 0))) (.cons (.ife (.isi (.var 2) [.c 5, .c 6, .c 7] true) (.fld (.var 2) "missing") (.cst .non)) .nil)))) .nil))))))))))
def d11 : DeedD := ⟨[2, 3], some 3, [2, 3, 4], 1, 2, r11, 7⟩
theorem b11 : ∃ (te : Expr) (rest : List Stmt) (pv pw ptt cp cq ptv ap pr p1 p2 p3 pv2 pm pa ph pp : Pos) (kt kv cj ck : Nat), defBody (top 22) = (.Assign [.Tuple [.Name "_law_caught" pv, .Name "_law_found" pw] kt ptt] (.Tuple [.Constant .none cj cp, .Constant .none ck cq] kv ptv) ap :: .Try [.Assign [.Name "_law_found" pr] (.Call (.Name "_law_deed" p1) [] [] p2) p3] [.ExceptHandler (some te) (some "error") [.Assign [.Name "_law_caught" pv2] (.Name "error" pm) pa] ph] [] [] pp :: rest) ∧ chkTe st (defScope (top 22)) d11.ks te = true ∧ chkSs st ["_law_deed", "error", "_law_caught", "_law_found", "_law_words", "_law_word", "_law_is_so"] (defScope (top 22)) d11.rest rest = true := ⟨_, _, _, _, _, _, _, _, _, _, _, _, _, _, _, _, _, _, _, _, _, _, rfl, rfl, rfl⟩ -- _law_error
def s12 : BV.S := (.cons (.ret (.ix (.var 1) (.call 6 0 (.cons (.var 0) (.cons (.bi .len (.cons (.var 1) .nil)) .nil)) .nil))) .nil)
theorem c12 : chkSs st ["_law_source_here", "_law_items"] (defScope (top 21)) s12 (defBody (top 21)) = true := rfl -- _law_pick
def s13 : BV.S := (.cons (.expr (.call 20 0 (.cons (.var 1) .nil) .nil)) (.cons (.ife (.or (.cons (.cmp .GtE (.fld (.var 0) "x") (.op .Add (.fld (.var 1) "x") (.fld (.var 1) "width"))) (.cons (.cmp .GtE (.fld (.var 1) "x") (.op .Add (.fld (.var 0) "x") (.fld (.var 0) "width"))) .nil))) (.cons (.ret (.cst (.bl false))) .nil) .nil) (.cons (.ret (.and (.cons (.cmp .Lt (.fld (.var 0) "y") (.op .Add (.fld (.var 1) "y") (.fld (.var 1) "height"))) (.cons (.cmp .Lt (.fld (.var 1) "y") (.op .Add (.fld (.var 0) "y") (.fld (.var 0) "height"))) .nil)))) .nil)))
theorem c13 : chkSs st ["self", "other"] (defScope (inClass (top 16) 5)) s13 (defBody (inClass (top 16) 5)) = true := rfl -- Box.overlaps
def s14 : BV.S := (.cons (.setT [7, 6, 4, 2] (.var 0)) (.cons (.setL 1 (.lst .nil)) (.cons (.loop (.rng1 (.var 2)) [3] true (.cons (.expr (.bm .extend (.var 1) (.cons (.lc (.tup (.cons (.op .Add (.var 7) (.var 5)) (.cons (.op .Add (.var 6) (.var 3)) .nil))) (.rng1 (.var 4)) .nil [5] true [("_law_dx", 5)]) .nil))) .nil)) (.cons (.ret (.var 1)) .nil))))
theorem c14 : chkSs st ["_law_told", "_law_found", "_law_down", "_law_dy", "_law_across", "_law_dx", "_law_top", "_law_left"] (defScope (top 23)) s14 (defBody (top 23)) = true := rfl -- _law_box_cells
def s15 : BV.S := (.cons (.ret (.and (.cons (.isi (.var 1) [.c 0] false) (.cons (.cmp .Eq (.fld (.var 0) "own_key") (.fld (.var 1) "own_key")) .nil)))) .nil)
theorem c15 : chkSs st ["self", "other"] (defScope (inClass (top 16) 7)) s15 (defBody (inClass (top 16) 7)) = true := rfl -- Box.__eq__
def s16 : BV.S := (.cons (.ret (.ix (.fld (.var 0) "own_key") (.cst (.int 3)))) .nil)
theorem c16 : chkSs st ["self"] (defScope (inClass (top 16) 4)) s16 (defBody (inClass (top 16) 4)) = true := rfl -- Box.height
def s17 : BV.S := (.cons (.ret (.ix (.fld (.var 0) "own_key") (.cst (.int 2)))) .nil)
theorem c17 : chkSs st ["self"] (defScope (inClass (top 16) 3)) s17 (defBody (inClass (top 16) 3)) = true := rfl -- Box.width
def s18 : BV.S := (.cons (.ret (.ix (.fld (.var 0) "own_key") (.cst (.int 0)))) .nil)
theorem c18 : chkSs st ["self"] (defScope (inClass (top 16) 1)) s18 (defBody (inClass (top 16) 1)) = true := rfl -- Box.x
def s19 : BV.S := (.cons (.ret (.ix (.fld (.var 0) "own_key") (.cst (.int 1)))) .nil)
theorem c19 : chkSs st ["self"] (defScope (inClass (top 16) 2)) s19 (defBody (inClass (top 16) 2)) = true := rfl -- Box.y
def s20 : BV.S := (.cons (.ife (.not (.isi (.var 0) [.c 0] false)) (.cons (.raise 10 (.cst (.str "expected a box"))) .nil) .nil) .nil)
theorem c20 : chkSs st ["value"] (defScope (top 17)) s20 (defBody (top 17)) = true := rfl -- need_box
def lfn : List (Option (BV.S × Nat)) := [some (s0, 7), some (s1, 1), some (s2, 6), some (s3, 9), some (s4, 8), some (s5, 11), some (s6, 5), some (s7, 3), some (s8, 5), some (s9, 2), some (s10, 1), none, some (s12, 2), some (s13, 2), some (s14, 8), some (s15, 2), some (s16, 1), some (s17, 1), some (s18, 1), some (s19, 1), some (s20, 1)]
def wfn (f : Nat) : Option (BV.S × Nat) := lfn.getD f none
def ldn : List (Option DeedD) := [none, none, none, none, none, none, none, none, none, none, none, some d11, none, none, none, none, none, none, none, none, none]
def wdn (f : Nat) : Option DeedD := ldn.getD f none
def tab : Tab := ⟨st, wfn, wdn⟩
end K38

namespace K38
open PySem L2 BV
theorem sc0 : FnScope ["_law_script", "_law_great", "_law_k", "_law_one", "_law_source_here", "_law_second", "_law_at"] ["_law_script"] (defScope (top 28)) := ⟨rfl, rfl, rfl, by decide +kernel, rfl, by decide +kernel, by decide +kernel⟩
theorem sc1 : FnScope ["_law_told"] ["_law_told"] (defScope (top 24)) := ⟨rfl, rfl, rfl, by decide +kernel, rfl, by decide +kernel, by decide +kernel⟩
theorem sc2 : FnScope ["self", "x", "y", "width", "height", "value"] ["self", "x", "y", "width", "height"] (defScope (inClass (top 16) 0)) := ⟨rfl, rfl, rfl, by decide +kernel, rfl, by decide +kernel, by decide +kernel⟩
theorem sc3 : FnScope ["_law_source_here", "_law_one", "_law_told", "_law_box_here", "_law_far", "_law_small", "_law_wrong", "_law_at", "_law_odd"] ["_law_source_here", "_law_one"] (defScope (top 27)) := ⟨rfl, rfl, rfl, by decide +kernel, rfl, by decide +kernel, by decide +kernel⟩
theorem sc4 : FnScope ["_law_one", "_law_odd", "_law_value", "_law_box_here", "_law_to", "_law_at", "_law_around", "_law_cell"] ["_law_one"] (defScope (top 26)) := ⟨rfl, rfl, rfl, by decide +kernel, rfl, by decide +kernel, by decide +kernel⟩
theorem sc5 : FnScope ["_law_one", "_law_second", "_law_told", "_law_within", "_law_shares", "_law_own", "_law_far", "_law_cells", "_law_cell", "_law_inner", "_law_others"] ["_law_one", "_law_second"] (defScope (top 25)) := ⟨rfl, rfl, rfl, by decide +kernel, rfl, by decide +kernel, by decide +kernel⟩
theorem sc6 : FnScope ["_law_source_here", "_law_many", "_law_prime", "_law_primes", "_law_found"] ["_law_source_here", "_law_many"] (defScope (top 20)) := ⟨rfl, rfl, rfl, by decide +kernel, rfl, by decide +kernel, by decide +kernel⟩
theorem sc7 : FnScope ["_law_script", "_law_k", "_law_cell"] ["_law_script", "_law_k"] (defScope (top 19)) := ⟨rfl, rfl, rfl, by decide +kernel, rfl, by decide +kernel, by decide +kernel⟩
theorem sc8 : FnScope ["self", "cell", "y", "x", "value"] ["self", "cell"] (defScope (inClass (top 16) 8)) := ⟨rfl, rfl, rfl, by decide +kernel, rfl, by decide +kernel, by decide +kernel⟩
theorem sc9 : FnScope ["self", "other"] ["self", "other"] (defScope (inClass (top 16) 6)) := ⟨rfl, rfl, rfl, by decide +kernel, rfl, by decide +kernel, by decide +kernel⟩
theorem sc10 : FnScope ["value"] ["value"] (defScope (top 14)) := ⟨rfl, rfl, rfl, by decide +kernel, rfl, by decide +kernel, by decide +kernel⟩
theorem sc11 : FnScope ["_law_deed", "error", "_law_caught", "_law_found", "_law_words", "_law_word", "_law_is_so"] ["_law_deed"] (defScope (top 22)) := ⟨rfl, rfl, rfl, by decide +kernel, rfl, by decide +kernel, by decide +kernel⟩
theorem sc12 : FnScope ["_law_source_here", "_law_items"] ["_law_source_here", "_law_items"] (defScope (top 21)) := ⟨rfl, rfl, rfl, by decide +kernel, rfl, by decide +kernel, by decide +kernel⟩
theorem sc13 : FnScope ["self", "other"] ["self", "other"] (defScope (inClass (top 16) 5)) := ⟨rfl, rfl, rfl, by decide +kernel, rfl, by decide +kernel, by decide +kernel⟩
theorem sc14 : FnScope ["_law_told", "_law_found", "_law_down", "_law_dy", "_law_across", "_law_dx", "_law_top", "_law_left"] ["_law_told"] (defScope (top 23)) := ⟨rfl, rfl, rfl, by decide +kernel, rfl, by decide +kernel, by decide +kernel⟩
theorem sc15 : FnScope ["self", "other"] ["self", "other"] (defScope (inClass (top 16) 7)) := ⟨rfl, rfl, rfl, by decide +kernel, rfl, by decide +kernel, by decide +kernel⟩
theorem sc16 : FnScope ["self"] ["self"] (defScope (inClass (top 16) 4)) := ⟨rfl, rfl, rfl, by decide +kernel, rfl, by decide +kernel, by decide +kernel⟩
theorem sc17 : FnScope ["self"] ["self"] (defScope (inClass (top 16) 3)) := ⟨rfl, rfl, rfl, by decide +kernel, rfl, by decide +kernel, by decide +kernel⟩
theorem sc18 : FnScope ["self"] ["self"] (defScope (inClass (top 16) 1)) := ⟨rfl, rfl, rfl, by decide +kernel, rfl, by decide +kernel, by decide +kernel⟩
theorem sc19 : FnScope ["self"] ["self"] (defScope (inClass (top 16) 2)) := ⟨rfl, rfl, rfl, by decide +kernel, rfl, by decide +kernel, by decide +kernel⟩
theorem sc20 : FnScope ["value"] ["value"] (defScope (top 17)) := ⟨rfl, rfl, rfl, by decide +kernel, rfl, by decide +kernel, by decide +kernel⟩
theorem scx1 : FnScopeS ["self", "reason"] ["self", "reason"] (defScope (inClass (top 4) 0)) := ⟨rfl, rfl, rfl, by decide +kernel, rfl, by decide +kernel, by decide +kernel, by decide +kernel⟩
theorem scx10 : FnScopeS ["self", "reason"] ["self", "reason"] (defScope (inClass (top 5) 0)) := ⟨rfl, rfl, rfl, by decide +kernel, rfl, by decide +kernel, by decide +kernel, by decide +kernel⟩
theorem nl0 : defScope (top 28) ∉ lams := by decide +kernel
theorem nl1 : defScope (top 24) ∉ lams := by decide +kernel
theorem nl2 : defScope (inClass (top 16) 0) ∉ lams := by decide +kernel
theorem nl4 : defScope (top 26) ∉ lams := by decide +kernel
theorem nl5 : defScope (top 25) ∉ lams := by decide +kernel
theorem nl6 : defScope (top 20) ∉ lams := by decide +kernel
theorem nl7 : defScope (top 19) ∉ lams := by decide +kernel
theorem nl8 : defScope (inClass (top 16) 8) ∉ lams := by decide +kernel
theorem nl9 : defScope (inClass (top 16) 6) ∉ lams := by decide +kernel
theorem nl10 : defScope (top 14) ∉ lams := by decide +kernel
theorem nl11 : defScope (top 22) ∉ lams := by decide +kernel
theorem nl12 : defScope (top 21) ∉ lams := by decide +kernel
theorem nl13 : defScope (inClass (top 16) 5) ∉ lams := by decide +kernel
theorem nl14 : defScope (top 23) ∉ lams := by decide +kernel
theorem nl15 : defScope (inClass (top 16) 7) ∉ lams := by decide +kernel
theorem nl16 : defScope (inClass (top 16) 4) ∉ lams := by decide +kernel
theorem nl17 : defScope (inClass (top 16) 3) ∉ lams := by decide +kernel
theorem nl18 : defScope (inClass (top 16) 1) ∉ lams := by decide +kernel
theorem nl19 : defScope (inClass (top 16) 2) ∉ lams := by decide +kernel
theorem nl20 : defScope (top 17) ∉ lams := by decide +kernel
theorem all_mk {l : PySem.W.OpenLaw} {P : Program} {w : World} {K : PySem.W.Frag} {h : Heap} {mg : Str → Option Value} {fq : Addr} (eP : l.prog = P) (X : K.In h) (GG : h.Ns mainGlobals mg) (hfa : mg "law" = some (.ref fq))
    {C0 C1 C2 C3 C4 C5 C6 C7 C8 C9 C10 C11 C12 f0 f1 f2 f3 f4 f5 f6 f7 f8 f9 f10 f11 f12 f13 f14 f15 f16 f17 f18 f19 f20 : Addr}
    {oc0 doc0 pm0 ct0 kV0 : Value} {od0 an0 : Option Addr} {cd0 : Addr} {sl0 : Array (Option Value)}
    {oc1 doc1 pm1 ct1 kV1 : Value} {od1 an1 : Option Addr} {cd1 : Addr} {sl1 : Array (Option Value)}
    {oc2 doc2 pm2 ct2 kV2 : Value} {od2 an2 : Option Addr} {cd2 : Addr} {sl2 : Array (Option Value)}
    {oc3 doc3 pm3 ct3 kV3 : Value} {od3 an3 : Option Addr} {cd3 : Addr} {sl3 : Array (Option Value)}
    {yl3 : Value} {yd3 : Option Addr} {yv3 : Array Value} {ys3 : Array (Option Value)} {P3 : Addr}
    {oc4 doc4 pm4 ct4 kV4 : Value} {od4 an4 : Option Addr} {cd4 : Addr} {sl4 : Array (Option Value)}
    {oc5 doc5 pm5 ct5 kV5 : Value} {od5 an5 : Option Addr} {cd5 : Addr} {sl5 : Array (Option Value)}
    {oc6 doc6 pm6 ct6 kV6 : Value} {od6 an6 : Option Addr} {cd6 : Addr} {sl6 : Array (Option Value)}
    {oc7 doc7 pm7 ct7 kV7 : Value} {od7 an7 : Option Addr} {cd7 : Addr} {sl7 : Array (Option Value)}
    {oc8 doc8 pm8 ct8 kV8 : Value} {od8 an8 : Option Addr} {cd8 : Addr} {sl8 : Array (Option Value)}
    {oc9 doc9 pm9 ct9 kV9 : Value} {od9 an9 : Option Addr} {cd9 : Addr} {sl9 : Array (Option Value)}
    {oc10 doc10 pm10 ct10 kV10 : Value} {od10 an10 : Option Addr} {cd10 : Addr} {sl10 : Array (Option Value)}
    {oc11 doc11 pm11 ct11 kV11 : Value} {od11 an11 : Option Addr} {cd11 : Addr} {sl11 : Array (Option Value)}
    {oc12 doc12 pm12 ct12 kV12 : Value} {od12 an12 : Option Addr} {cd12 : Addr} {sl12 : Array (Option Value)}
    {oc13 doc13 pm13 ct13 kV13 : Value} {od13 an13 : Option Addr} {cd13 : Addr} {sl13 : Array (Option Value)}
    {oc14 doc14 pm14 ct14 kV14 : Value} {od14 an14 : Option Addr} {cd14 : Addr} {sl14 : Array (Option Value)}
    {oc15 doc15 pm15 ct15 kV15 : Value} {od15 an15 : Option Addr} {cd15 : Addr} {sl15 : Array (Option Value)}
    {oc16 doc16 pm16 ct16 kV16 : Value} {od16 an16 : Option Addr} {cd16 : Addr} {sl16 : Array (Option Value)}
    {p16 : Addr} {pr16 : List Value}
    {oc17 doc17 pm17 ct17 kV17 : Value} {od17 an17 : Option Addr} {cd17 : Addr} {sl17 : Array (Option Value)}
    {p17 : Addr} {pr17 : List Value}
    {oc18 doc18 pm18 ct18 kV18 : Value} {od18 an18 : Option Addr} {cd18 : Addr} {sl18 : Array (Option Value)}
    {p18 : Addr} {pr18 : List Value}
    {oc19 doc19 pm19 ct19 kV19 : Value} {od19 an19 : Option Addr} {cd19 : Addr} {sl19 : Array (Option Value)}
    {p19 : Addr} {pr19 : List Value}
    {oc20 doc20 pm20 ct20 kV20 : Value} {od20 an20 : Option Addr} {cd20 : Addr} {sl20 : Array (Option Value)}
    {nmX1 qX1 : Str} {NX1 xI1 xcd1 xcc1 : Addr} {bsX1 subX1 : List Value} {snX1 : List Str} {abX1 : Bool} {colX1 : Option Bool} {ddX1 : Option Addr} {k0X1 k1X1 k2X1 k3X1 k5X1 : Option Value}
    {xoc1 xkV1 xdoc1 xpm1 xct1 : Value} {xod1 xan1 : Option Addr} {xsl1 : Array (Option Value)} {xcl1 : Value} {xcld1 : Option Addr} {xcsl1 : Array (Option Value)} {xyl1 : Value} {xyd1 : Option Addr} {xyv1 : Array Value} {xys1 : Array (Option Value)} {xfi1 : Str} {xtf1 : Tok}
    {nmX10 qX10 : Str} {NX10 xI10 xcd10 xcc10 : Addr} {bsX10 subX10 : List Value} {snX10 : List Str} {abX10 : Bool} {colX10 : Option Bool} {ddX10 : Option Addr} {k0X10 k1X10 k2X10 k3X10 k5X10 : Option Value}
    {xoc10 xkV10 xdoc10 xpm10 xct10 : Value} {xod10 xan10 : Option Addr} {xsl10 : Array (Option Value)} {xcl10 : Value} {xcld10 : Option Addr} {xcsl10 : Array (Option Value)} {xyl10 : Value} {xyd10 : Option Addr} {xyv10 : Array Value} {xys10 : Array (Option Value)} {xfi10 : Str} {xtf10 : Tok}
    (aC0 : PySem.W.nsIn K mainGlobals ("Box" : Str) = some (some (.ref C0)))
    (aC1 : PySem.W.nsIn K mainGlobals ("BadNumber" : Str) = some (some (.ref C1)))
    (aC2 : PySem.W.nsIn K mainGlobals ("Invalid" : Str) = some (some (.ref C2)))
    (aC3 : PySem.W.nsIn K mainGlobals ("Conflict" : Str) = some (some (.ref C3)))
    (aC4 : PySem.W.nsIn K mainGlobals ("Excess" : Str) = some (some (.ref C4)))
    (aC5 : PySem.W.nsIn K mainGlobals ("NoPart" : Str) = some (some (.ref C5)))
    (aC6 : PySem.W.nsIn K mainGlobals ("NoEdge" : Str) = some (some (.ref C6)))
    (aC7 : PySem.W.nsIn K mainGlobals ("NoPort" : Str) = some (some (.ref C7)))
    (aC8 : PySem.W.nsIn K mainGlobals ("BadChange" : Str) = some (some (.ref C8)))
    (aC9 : PySem.W.nsIn K mainGlobals ("BadDiagram" : Str) = some (some (.ref C9)))
    (aC10 : PySem.W.nsIn K mainGlobals ("BadMember" : Str) = some (some (.ref C10)))
    (aC11 : PySem.W.nsIn K mainGlobals ("BadPort" : Str) = some (some (.ref C11)))
    (aC12 : PySem.W.nsIn K mainGlobals ("BadName" : Str) = some (some (.ref C12)))
    (a0 : PySem.W.nsIn K mainGlobals ("law" : Str) = some (some (.ref f0)))
    (l0 : K.lookup f0 = some ⟨oc0, od0, .func (PySem.W.fnX "law" "law" (defArgs (top 28)) (defBody (top 28)) (defScope (top 28)) [] .none kV0 doc0 pm0 an0 (.ref cd0) ct0), sl0⟩)
    (c0 : PySem.W.codeIn K (.ref cd0) ("law" : Str) = true)
    (k0 : PySem.W.keepIn K (.ref f0) = true)
    (a1 : PySem.W.nsIn K mainGlobals ("_law_box" : Str) = some (some (.ref f1)))
    (l1 : K.lookup f1 = some ⟨oc1, od1, .func (PySem.W.fnX "_law_box" "_law_box" (defArgs (top 24)) (defBody (top 24)) (defScope (top 24)) [] .none kV1 doc1 pm1 an1 (.ref cd1) ct1), sl1⟩)
    (c1 : PySem.W.codeIn K (.ref cd1) ("_law_box" : Str) = true)
    (k1 : PySem.W.keepIn K (.ref f1) = true)
    (a2 : PySem.W.findIn K (.ref C0) ("__init__" : Str) = some (some (.ref f2)))
    (l2 : K.lookup f2 = some ⟨oc2, od2, .func (PySem.W.fnX "__init__" "Box.__init__" (defArgs (inClass (top 16) 0)) (defBody (inClass (top 16) 0)) (defScope (inClass (top 16) 0)) [] .none kV2 doc2 pm2 an2 (.ref cd2) ct2), sl2⟩)
    (c2 : PySem.W.codeIn K (.ref cd2) ("Box.__init__" : Str) = true)
    (k2 : PySem.W.keepIn K (.ref f2) = true)
    (i2 : PySem.W.isFn K (.ref f2) = true)
    (a3 : PySem.W.nsIn K mainGlobals ("_law_refused" : Str) = some (some (.ref f3)))
    (l3 : K.lookup f3 = some ⟨oc3, od3, .func (PySem.W.fnX "_law_refused" "_law_refused" (defArgs (top 27)) (defBody (top 27)) (defScope (top 27)) [] .none kV3 doc3 pm3 an3 (.ref cd3) ct3), sl3⟩)
    (c3 : PySem.W.codeIn K (.ref cd3) ("_law_refused" : Str) = true)
    (k3 : PySem.W.keepIn K (.ref f3) = true)
    (y3 : K.lookup cd3 = some ⟨yl3, yd3, .fields yv3, ys3⟩)
    (z3 : yv3[11]? = some (.ref P3))
    (po3 : K.lookup P3 = none)
    (ch3 : PySem.W.codeHdIn K cd3 P3 = true)
    (te3 : h.get? P3 = some tab0)
    (a4 : PySem.W.nsIn K mainGlobals ("_law_cells_right" : Str) = some (some (.ref f4)))
    (l4 : K.lookup f4 = some ⟨oc4, od4, .func (PySem.W.fnX "_law_cells_right" "_law_cells_right" (defArgs (top 26)) (defBody (top 26)) (defScope (top 26)) [] .none kV4 doc4 pm4 an4 (.ref cd4) ct4), sl4⟩)
    (c4 : PySem.W.codeIn K (.ref cd4) ("_law_cells_right" : Str) = true)
    (k4 : PySem.W.keepIn K (.ref f4) = true)
    (a5 : PySem.W.nsIn K mainGlobals ("_law_pair_right" : Str) = some (some (.ref f5)))
    (l5 : K.lookup f5 = some ⟨oc5, od5, .func (PySem.W.fnX "_law_pair_right" "_law_pair_right" (defArgs (top 25)) (defBody (top 25)) (defScope (top 25)) [] .none kV5 doc5 pm5 an5 (.ref cd5) ct5), sl5⟩)
    (c5 : PySem.W.codeIn K (.ref cd5) ("_law_pair_right" : Str) = true)
    (k5 : PySem.W.keepIn K (.ref f5) = true)
    (a6 : PySem.W.nsIn K mainGlobals ("_law_next" : Str) = some (some (.ref f6)))
    (l6 : K.lookup f6 = some ⟨oc6, od6, .func (PySem.W.fnX "_law_next" "_law_next" (defArgs (top 20)) (defBody (top 20)) (defScope (top 20)) [] .none kV6 doc6 pm6 an6 (.ref cd6) ct6), sl6⟩)
    (c6 : PySem.W.codeIn K (.ref cd6) ("_law_next" : Str) = true)
    (k6 : PySem.W.keepIn K (.ref f6) = true)
    (a7 : PySem.W.nsIn K mainGlobals ("_law_source" : Str) = some (some (.ref f7)))
    (l7 : K.lookup f7 = some ⟨oc7, od7, .func (PySem.W.fnX "_law_source" "_law_source" (defArgs (top 19)) (defBody (top 19)) (defScope (top 19)) [] .none kV7 doc7 pm7 an7 (.ref cd7) ct7), sl7⟩)
    (c7 : PySem.W.codeIn K (.ref cd7) ("_law_source" : Str) = true)
    (k7 : PySem.W.keepIn K (.ref f7) = true)
    (a8 : PySem.W.findIn K (.ref C0) ("__contains__" : Str) = some (some (.ref f8)))
    (l8 : K.lookup f8 = some ⟨oc8, od8, .func (PySem.W.fnX "__contains__" "Box.__contains__" (defArgs (inClass (top 16) 8)) (defBody (inClass (top 16) 8)) (defScope (inClass (top 16) 8)) [] .none kV8 doc8 pm8 an8 (.ref cd8) ct8), sl8⟩)
    (c8 : PySem.W.codeIn K (.ref cd8) ("Box.__contains__" : Str) = true)
    (k8 : PySem.W.keepIn K (.ref f8) = true)
    (i8 : PySem.W.isFn K (.ref f8) = true)
    (a9 : PySem.W.findIn K (.ref C0) ("is_inside" : Str) = some (some (.ref f9)))
    (l9 : K.lookup f9 = some ⟨oc9, od9, .func (PySem.W.fnX "is_inside" "Box.is_inside" (defArgs (inClass (top 16) 6)) (defBody (inClass (top 16) 6)) (defScope (inClass (top 16) 6)) [] .none kV9 doc9 pm9 an9 (.ref cd9) ct9), sl9⟩)
    (c9 : PySem.W.codeIn K (.ref cd9) ("Box.is_inside" : Str) = true)
    (k9 : PySem.W.keepIn K (.ref f9) = true)
    (i9 : PySem.W.isFn K (.ref f9) = true)
    (a10 : PySem.W.nsIn K mainGlobals ("is_integer" : Str) = some (some (.ref f10)))
    (l10 : K.lookup f10 = some ⟨oc10, od10, .func (PySem.W.fnX "is_integer" "is_integer" (defArgs (top 14)) (defBody (top 14)) (defScope (top 14)) [] .none kV10 doc10 pm10 an10 (.ref cd10) ct10), sl10⟩)
    (c10 : PySem.W.codeIn K (.ref cd10) ("is_integer" : Str) = true)
    (k10 : PySem.W.keepIn K (.ref f10) = true)
    (a11 : PySem.W.nsIn K mainGlobals ("_law_error" : Str) = some (some (.ref f11)))
    (l11 : K.lookup f11 = some ⟨oc11, od11, .func (PySem.W.fnX "_law_error" "_law_error" (defArgs (top 22)) (defBody (top 22)) (defScope (top 22)) [] .none kV11 doc11 pm11 an11 (.ref cd11) ct11), sl11⟩)
    (c11 : PySem.W.codeIn K (.ref cd11) ("_law_error" : Str) = true)
    (k11 : PySem.W.keepIn K (.ref f11) = true)
    (a12 : PySem.W.nsIn K mainGlobals ("_law_pick" : Str) = some (some (.ref f12)))
    (l12 : K.lookup f12 = some ⟨oc12, od12, .func (PySem.W.fnX "_law_pick" "_law_pick" (defArgs (top 21)) (defBody (top 21)) (defScope (top 21)) [] .none kV12 doc12 pm12 an12 (.ref cd12) ct12), sl12⟩)
    (c12 : PySem.W.codeIn K (.ref cd12) ("_law_pick" : Str) = true)
    (k12 : PySem.W.keepIn K (.ref f12) = true)
    (a13 : PySem.W.findIn K (.ref C0) ("overlaps" : Str) = some (some (.ref f13)))
    (l13 : K.lookup f13 = some ⟨oc13, od13, .func (PySem.W.fnX "overlaps" "Box.overlaps" (defArgs (inClass (top 16) 5)) (defBody (inClass (top 16) 5)) (defScope (inClass (top 16) 5)) [] .none kV13 doc13 pm13 an13 (.ref cd13) ct13), sl13⟩)
    (c13 : PySem.W.codeIn K (.ref cd13) ("Box.overlaps" : Str) = true)
    (k13 : PySem.W.keepIn K (.ref f13) = true)
    (i13 : PySem.W.isFn K (.ref f13) = true)
    (a14 : PySem.W.nsIn K mainGlobals ("_law_box_cells" : Str) = some (some (.ref f14)))
    (l14 : K.lookup f14 = some ⟨oc14, od14, .func (PySem.W.fnX "_law_box_cells" "_law_box_cells" (defArgs (top 23)) (defBody (top 23)) (defScope (top 23)) [] .none kV14 doc14 pm14 an14 (.ref cd14) ct14), sl14⟩)
    (c14 : PySem.W.codeIn K (.ref cd14) ("_law_box_cells" : Str) = true)
    (k14 : PySem.W.keepIn K (.ref f14) = true)
    (a15 : PySem.W.findIn K (.ref C0) ("__eq__" : Str) = some (some (.ref f15)))
    (l15 : K.lookup f15 = some ⟨oc15, od15, .func (PySem.W.fnX "__eq__" "Box.__eq__" (defArgs (inClass (top 16) 7)) (defBody (inClass (top 16) 7)) (defScope (inClass (top 16) 7)) [] .none kV15 doc15 pm15 an15 (.ref cd15) ct15), sl15⟩)
    (c15 : PySem.W.codeIn K (.ref cd15) ("Box.__eq__" : Str) = true)
    (k15 : PySem.W.keepIn K (.ref f15) = true)
    (i15 : PySem.W.isFn K (.ref f15) = true)
    (a16 : PySem.W.findIn K (.ref C0) ("height" : Str) = some (some (.ref p16)))
    (pg16 : PySem.W.specialIn K (.ref p16) "__get__" = some (some (.builtin "property.__get__")))
    (pt16 : PySem.W.takesIn K (.ref p16) = some true)
    (pf16 : PySem.W.recIn K p16 "property" = some (.ref f16 :: pr16))
    (l16 : K.lookup f16 = some ⟨oc16, od16, .func (PySem.W.fnX "height" "Box.height" (defArgs (inClass (top 16) 4)) (defBody (inClass (top 16) 4)) (defScope (inClass (top 16) 4)) [] .none kV16 doc16 pm16 an16 (.ref cd16) ct16), sl16⟩)
    (c16 : PySem.W.codeIn K (.ref cd16) ("Box.height" : Str) = true)
    (k16 : PySem.W.keepIn K (.ref f16) = true)
    (i16 : PySem.W.isFn K (.ref f16) = true)
    (a17 : PySem.W.findIn K (.ref C0) ("width" : Str) = some (some (.ref p17)))
    (pg17 : PySem.W.specialIn K (.ref p17) "__get__" = some (some (.builtin "property.__get__")))
    (pt17 : PySem.W.takesIn K (.ref p17) = some true)
    (pf17 : PySem.W.recIn K p17 "property" = some (.ref f17 :: pr17))
    (l17 : K.lookup f17 = some ⟨oc17, od17, .func (PySem.W.fnX "width" "Box.width" (defArgs (inClass (top 16) 3)) (defBody (inClass (top 16) 3)) (defScope (inClass (top 16) 3)) [] .none kV17 doc17 pm17 an17 (.ref cd17) ct17), sl17⟩)
    (c17 : PySem.W.codeIn K (.ref cd17) ("Box.width" : Str) = true)
    (k17 : PySem.W.keepIn K (.ref f17) = true)
    (i17 : PySem.W.isFn K (.ref f17) = true)
    (a18 : PySem.W.findIn K (.ref C0) ("x" : Str) = some (some (.ref p18)))
    (pg18 : PySem.W.specialIn K (.ref p18) "__get__" = some (some (.builtin "property.__get__")))
    (pt18 : PySem.W.takesIn K (.ref p18) = some true)
    (pf18 : PySem.W.recIn K p18 "property" = some (.ref f18 :: pr18))
    (l18 : K.lookup f18 = some ⟨oc18, od18, .func (PySem.W.fnX "x" "Box.x" (defArgs (inClass (top 16) 1)) (defBody (inClass (top 16) 1)) (defScope (inClass (top 16) 1)) [] .none kV18 doc18 pm18 an18 (.ref cd18) ct18), sl18⟩)
    (c18 : PySem.W.codeIn K (.ref cd18) ("Box.x" : Str) = true)
    (k18 : PySem.W.keepIn K (.ref f18) = true)
    (i18 : PySem.W.isFn K (.ref f18) = true)
    (a19 : PySem.W.findIn K (.ref C0) ("y" : Str) = some (some (.ref p19)))
    (pg19 : PySem.W.specialIn K (.ref p19) "__get__" = some (some (.builtin "property.__get__")))
    (pt19 : PySem.W.takesIn K (.ref p19) = some true)
    (pf19 : PySem.W.recIn K p19 "property" = some (.ref f19 :: pr19))
    (l19 : K.lookup f19 = some ⟨oc19, od19, .func (PySem.W.fnX "y" "Box.y" (defArgs (inClass (top 16) 2)) (defBody (inClass (top 16) 2)) (defScope (inClass (top 16) 2)) [] .none kV19 doc19 pm19 an19 (.ref cd19) ct19), sl19⟩)
    (c19 : PySem.W.codeIn K (.ref cd19) ("Box.y" : Str) = true)
    (k19 : PySem.W.keepIn K (.ref f19) = true)
    (i19 : PySem.W.isFn K (.ref f19) = true)
    (a20 : PySem.W.nsIn K mainGlobals ("need_box" : Str) = some (some (.ref f20)))
    (l20 : K.lookup f20 = some ⟨oc20, od20, .func (PySem.W.fnX "need_box" "need_box" (defArgs (top 17)) (defBody (top 17)) (defScope (top 17)) [] .none kV20 doc20 pm20 an20 (.ref cd20) ct20), sl20⟩)
    (c20 : PySem.W.codeIn K (.ref cd20) ("need_box" : Str) = true)
    (k20 : PySem.W.keepIn K (.ref f20) = true)
    (pgC0 : PySem.W.plainGet K C0 Str.empty = true)
    (hdC0 : PySem.W.hasDictIn K C0 = true)
    (poC0 : PySem.W.plainOver K C0 = true)
    (saC0 : PySem.W.findIn K (.ref C0) "__setattr__" = some (some (.builtin "object.__setattr__")))
    (kiC0 : PySem.W.findIn K (.ref C0) "__class__" = some (some (.builtin "object.__class__")))
    (moC0 : PySem.W.mroIn K C0 (.type "object") = some true)
    (gsK : PySem.W.specialIn K (.builtin "object.__class__") "__get__" = some (some (.builtin "getset_descriptor.__get__")))
    (tkK : PySem.W.takesIn K (.builtin "object.__class__") = some true)
    (xL1 : K.lookup C1 = some (excClassObj nmX1 qX1 C1 NX1 bsX1 [.ref C2, .type "ValueError", .type "Exception", .type "BaseException", .type "object"] true snX1 subX1 abX1 colX1 ddX1 k0X1 k1X1 k2X1 k3X1 k5X1 "ValueError.__new__"))
    (xsa1 : PySem.W.findIn K (.ref C1) "__setattr__" = some (some (.builtin "object.__setattr__")))
    (xnp1 : PySem.W.findIn K (.ref C1) ("reason" : Str) = some none)
    (xin1 : PySem.W.findIn K (.ref C1) "__init__" = some (some (.ref xI1)))
    (xti1 : PySem.W.typeIn K (.ref xI1) = some (.type "function"))
    (xkc1 : PySem.W.keepIn K (.ref C1) = true)
    (xec1 : PySem.W.subIn K (.ref C1) (.type "BaseException") = some true)
    (xty1 : PySem.W.typeIn K (.ref C1) = some (.type "type"))
    (xsu1 : PySem.W.ks_superIn K C1 C1 "__init__" = some (some (.builtin "ValueError.__init__")))
    (xsb1 : PySem.W.subIn K (.ref C1) (.type "ValueError") = some true)
    (xga1 : PySem.W.findIn K (.ref C1) "__getattribute__" = some (some (.builtin "BaseException.__getattribute__")))
    (xgg1 : PySem.W.findIn K (.ref C1) "__getattr__" = some none)
    (xhd1 : PySem.W.hasDictIn K C1 = true)
    (xki1 : PySem.W.findIn K (.ref C1) "__class__" = some (some (.builtin "object.__class__")))
    (xmo1 : PySem.W.mroIn K C1 (.type "object") = some true)
    (xl1 : K.lookup xI1 = some ⟨xoc1, xod1, .func (PySem.W.ksFn "__init__" "BadNumber.__init__" (defArgs (inClass (top 4) 0)) (defBody (inClass (top 4) 0)) (defScope (inClass (top 4) 0)) .none xkV1 xdoc1 xpm1 xan1 (.ref xcd1) xct1 xcc1), xsl1⟩)
    (xcd_1 : PySem.W.codeIn K (.ref xcd1) ("BadNumber.__init__" : Str) = true)
    (xx1 : K.lookup xcc1 = some ⟨xcl1, xcld1, .cell (some (.ref C1)), xcsl1⟩)
    (xy1 : K.lookup xcd1 = some ⟨xyl1, xyd1, .fields xyv1, xys1⟩)
    (xz1 : xyv1[2]? = some (.str xfi1 xtf1))
    (xw1 : ((P.main.file : Str) == xfi1) = true)
    (xL10 : K.lookup C10 = some (excClassObj nmX10 qX10 C10 NX10 bsX10 [.ref C2, .type "ValueError", .type "Exception", .type "BaseException", .type "object"] true snX10 subX10 abX10 colX10 ddX10 k0X10 k1X10 k2X10 k3X10 k5X10 "ValueError.__new__"))
    (xsa10 : PySem.W.findIn K (.ref C10) "__setattr__" = some (some (.builtin "object.__setattr__")))
    (xnp10 : PySem.W.findIn K (.ref C10) ("reason" : Str) = some none)
    (xin10 : PySem.W.findIn K (.ref C10) "__init__" = some (some (.ref xI10)))
    (xti10 : PySem.W.typeIn K (.ref xI10) = some (.type "function"))
    (xkc10 : PySem.W.keepIn K (.ref C10) = true)
    (xec10 : PySem.W.subIn K (.ref C10) (.type "BaseException") = some true)
    (xty10 : PySem.W.typeIn K (.ref C10) = some (.type "type"))
    (xsu10 : PySem.W.ks_superIn K C10 C10 "__init__" = some (some (.builtin "ValueError.__init__")))
    (xsb10 : PySem.W.subIn K (.ref C10) (.type "ValueError") = some true)
    (xga10 : PySem.W.findIn K (.ref C10) "__getattribute__" = some (some (.builtin "BaseException.__getattribute__")))
    (xgg10 : PySem.W.findIn K (.ref C10) "__getattr__" = some none)
    (xhd10 : PySem.W.hasDictIn K C10 = true)
    (xki10 : PySem.W.findIn K (.ref C10) "__class__" = some (some (.builtin "object.__class__")))
    (xmo10 : PySem.W.mroIn K C10 (.type "object") = some true)
    (xl10 : K.lookup xI10 = some ⟨xoc10, xod10, .func (PySem.W.ksFn "__init__" "BadMember.__init__" (defArgs (inClass (top 5) 0)) (defBody (inClass (top 5) 0)) (defScope (inClass (top 5) 0)) .none xkV10 xdoc10 xpm10 xan10 (.ref xcd10) xct10 xcc10), xsl10⟩)
    (xcd_10 : PySem.W.codeIn K (.ref xcd10) ("BadMember.__init__" : Str) = true)
    (xx10 : K.lookup xcc10 = some ⟨xcl10, xcld10, .cell (some (.ref C10)), xcsl10⟩)
    (xy10 : K.lookup xcd10 = some ⟨xyl10, xyd10, .fields xyv10, xys10⟩)
    (xz10 : xyv10[2]? = some (.str xfi10 xtf10))
    (xw10 : ((P.main.file : Str) == xfi10) = true)
    (xm0 : PySem.W.exmAny K (.ref C1) [.ref C2, .ref C3, .ref C4] = some true)
    (xm1 : PySem.W.exmAny K (.ref C10) [.ref C2, .ref C3, .ref C4] = some true)
    (mkC0 : PySem.W.makesIn K C0 = true)
    (kpC0 : PySem.W.keepIn K (.ref C0) = true)
    (inC0 : PySem.W.findIn K (.ref C0) "__init__" = some (some (.ref f2)))
    (n0 : PySem.W.findIn K (.ref C0) ("missing" : Str) = some none)
    (n1 : PySem.W.findIn K (.ref C0) ("own_key" : Str) = some none)
    (m0 : PySem.W.findIn K (.ref C0) ("is_inside" : Str) = some (some (.ref f9)))
    (m1 : PySem.W.findIn K (.ref C0) ("overlaps" : Str) = some (some (.ref f13)))
    (q0 : PySem.W.findIn K (.ref C0) ("height" : Str) = some (some (.ref p16)))
    (q1 : PySem.W.findIn K (.ref C0) ("width" : Str) = some (some (.ref p17)))
    (q2 : PySem.W.findIn K (.ref C0) ("x" : Str) = some (some (.ref p18)))
    (q3 : PySem.W.findIn K (.ref C0) ("y" : Str) = some (some (.ref p19)))
    (kt0 : PySem.W.kitOne K (.type "NoneType") (.type "bool") = some false)
    (kt1 : PySem.W.kitOne K (.type "NoneType") (.type "int") = some false)
    (kt2 : PySem.W.kitOne K (.type "NoneType") (.type "tuple") = some false)
    (kt3 : PySem.W.kitOne K (.type "bool") (.type "bool") = some true)
    (kt4 : PySem.W.kitOne K (.type "bool") (.type "int") = some true)
    (kt5 : PySem.W.kitOne K (.type "bool") (.type "tuple") = some false)
    (kt6 : PySem.W.kitOne K (.type "int") (.type "bool") = some false)
    (kt7 : PySem.W.kitOne K (.type "int") (.type "int") = some true)
    (kt8 : PySem.W.kitOne K (.type "int") (.type "tuple") = some false)
    (kt9 : PySem.W.kitOne K (.type "str") (.type "bool") = some false)
    (kt10 : PySem.W.kitOne K (.type "str") (.type "int") = some false)
    (kt11 : PySem.W.kitOne K (.type "str") (.type "tuple") = some false)
    (kt12 : PySem.W.kitOne K (.type "tuple") (.type "bool") = some false)
    (kt13 : PySem.W.kitOne K (.type "tuple") (.type "int") = some false)
    (kt14 : PySem.W.kitOne K (.type "tuple") (.type "tuple") = some true)
    (kt15 : PySem.W.kitOne K (.type "list") (.type "bool") = some false)
    (kt16 : PySem.W.kitOne K (.type "list") (.type "int") = some false)
    (kt17 : PySem.W.kitOne K (.type "list") (.type "tuple") = some false)
    (kt18 : PySem.W.kitOne K (.type "dict") (.type "bool") = some false)
    (kt19 : PySem.W.kitOne K (.type "dict") (.type "int") = some false)
    (kt20 : PySem.W.kitOne K (.type "dict") (.type "tuple") = some false)
    (kt21 : PySem.W.kitOne K (.type "NoneType") (.ref C0) = some false)
    (kt22 : PySem.W.kitOne K (.type "bool") (.ref C0) = some false)
    (kt23 : PySem.W.kitOne K (.type "int") (.ref C0) = some false)
    (kt24 : PySem.W.kitOne K (.type "str") (.ref C0) = some false)
    (kt25 : PySem.W.kitOne K (.type "tuple") (.ref C0) = some false)
    (kt26 : PySem.W.kitOne K (.type "list") (.ref C0) = some false)
    (kt27 : PySem.W.kitOne K (.type "dict") (.ref C0) = some false)
    (kt28 : PySem.W.kitOne K (.ref C0) (.ref C0) = some true)
    (kt29 : PySem.W.kitOne K (.ref C0) (.type "bool") = some false)
    (kt30 : PySem.W.kitOne K (.ref C0) (.type "int") = some false)
    (kt31 : PySem.W.kitOne K (.ref C0) (.type "tuple") = some false)
    (kt32 : PySem.W.kitOne K (.ref C1) (.ref C1) = some true)
    (kt33 : PySem.W.kitOne K (.ref C1) (.ref C5) = some false)
    (kt34 : PySem.W.kitOne K (.ref C1) (.ref C6) = some false)
    (kt35 : PySem.W.kitOne K (.ref C1) (.ref C7) = some false)
    (kt36 : PySem.W.kitOne K (.ref C1) (.ref C8) = some false)
    (kt37 : PySem.W.kitOne K (.ref C1) (.ref C9) = some false)
    (kt38 : PySem.W.kitOne K (.ref C1) (.ref C10) = some false)
    (kt39 : PySem.W.kitOne K (.ref C1) (.ref C11) = some false)
    (kt40 : PySem.W.kitOne K (.ref C1) (.ref C12) = some false)
    (kt41 : PySem.W.kitOne K (.ref C10) (.ref C1) = some false)
    (kt42 : PySem.W.kitOne K (.ref C10) (.ref C5) = some false)
    (kt43 : PySem.W.kitOne K (.ref C10) (.ref C6) = some false)
    (kt44 : PySem.W.kitOne K (.ref C10) (.ref C7) = some false)
    (kt45 : PySem.W.kitOne K (.ref C10) (.ref C8) = some false)
    (kt46 : PySem.W.kitOne K (.ref C10) (.ref C9) = some false)
    (kt47 : PySem.W.kitOne K (.ref C10) (.ref C10) = some true)
    (kt48 : PySem.W.kitOne K (.ref C10) (.ref C11) = some false)
    (kt49 : PySem.W.kitOne K (.ref C10) (.ref C12) = some false)
    (oe0 : PySem.W.findIn K (.ref C0) "__eq__" = some (some (.ref f15)))
    (on0 : PySem.W.findIn K (.ref C0) "__ne__" = some (some (.builtin "object.__ne__")))
    (os0 : PySem.W.subIn K (.ref C0) (.type "object") = some true)
    (of0_0 : PySem.W.notFirst K C0 (.type "NoneType") = true)
    (of0_1 : PySem.W.notFirst K C0 (.type "bool") = true)
    (of0_2 : PySem.W.notFirst K C0 (.type "int") = true)
    (of0_3 : PySem.W.notFirst K C0 (.type "str") = true)
    (of0_4 : PySem.W.notFirst K C0 (.type "tuple") = true)
    (of0_5 : PySem.W.notFirst K C0 (.type "list") = true)
    (of0_6 : PySem.W.notFirst K C0 (.type "dict") = true)
    (of0_7 : PySem.W.notFirst K C0 (.ref C0) = true)
    (od0_ : PySem.W.findIn K (.ref C0) "__contains__" = some (some (.ref f8)))
    (z_len : PySem.W.nsIn K mainGlobals ("len" : Str) = some none)
    (z_max : PySem.W.nsIn K mainGlobals ("max" : Str) = some none)
    (z_min : PySem.W.nsIn K mainGlobals ("min" : Str) = some none)
    (z_str : PySem.W.nsIn K mainGlobals ("str" : Str) = some none)
    (z_int : PySem.W.nsIn K mainGlobals ("int" : Str) = some none)
    (z_tuple : PySem.W.nsIn K mainGlobals ("tuple" : Str) = some none)
    (z_list : PySem.W.nsIn K mainGlobals ("list" : Str) = some none)
    (z_sum : PySem.W.nsIn K mainGlobals ("sum" : Str) = some none)
    (z_all : PySem.W.nsIn K mainGlobals ("all" : Str) = some none)
    (z_any : PySem.W.nsIn K mainGlobals ("any" : Str) = some none)
    (z_abs : PySem.W.nsIn K mainGlobals ("abs" : Str) = some none)
    (z_range : PySem.W.nsIn K mainGlobals ("range" : Str) = some none)
    (z_enumerate : PySem.W.nsIn K mainGlobals ("enumerate" : Str) = some none)
    (z_zip : PySem.W.nsIn K mainGlobals ("zip" : Str) = some none)
    (z_isinstance : PySem.W.nsIn K mainGlobals ("isinstance" : Str) = some none)
    (z_repr : PySem.W.nsIn K mainGlobals ("repr" : Str) = some none)
    (z_bool : PySem.W.nsIn K mainGlobals ("bool" : Str) = some none)
    (z_super : PySem.W.nsIn K mainGlobals ("super" : Str) = some none)
    (opq : PySem.W.nsIn K cStatics "thirdparty.any" = some none)
    (stop : (P.main.scope.names.lookup ("super" : Str)).isSome = false)
    (plain : ∀ ns : List Int, ns.length ≤ 63 → ∃ cs, (tab.phs 20 10).1 0 [.d (.flst (ns.map D.int))] [] = .ok (.bl true) cs) :
    ∃ (fd : FuncData) (cs : List (Addr × Addr)) (T : List (Addr × Str)), Cods K h cs ∧ (∀ q ∈ T, ∃ c, (c, q.1) ∈ cs) ∧ (∀ (s : Shared) (v : Value), BindsTo s fd ⟨[v], []⟩ [(("_law_script" : Str), v)]) ∧ ∀ base : Heap, K.In base → base.Ns mainGlobals mg → (∀ p ∈ cs, LamX.TabB base mg p.1 p.2) → FnG l.prog w K mg base (L2.CX l.prog w) 30 fq fd [("_law_script" : Str)] (spLaw K T) := by
  have e : f0 = fq := by
    have e := (PySem.W.mg_of X GG a0).symm.trans hfa
    cases e; rfl
  subst e
  subst eP
  have F0 : DF K "law" "law" (top 28) [] [] [] f0 (PySem.W.fnX "law" "law" (defArgs (top 28)) (defBody (top 28)) (defScope (top 28)) [] .none kV0 doc0 pm0 an0 (.ref cd0) ct0) := ⟨⟨_, _, _, _, _, _, _, _, _, _, rfl, l0, c0, .inl ⟨rfl, rfl⟩, .inl rfl⟩, k0⟩
  have F1 : DF K "_law_box" "_law_box" (top 24) [] [] [] f1 (PySem.W.fnX "_law_box" "_law_box" (defArgs (top 24)) (defBody (top 24)) (defScope (top 24)) [] .none kV1 doc1 pm1 an1 (.ref cd1) ct1) := ⟨⟨_, _, _, _, _, _, _, _, _, _, rfl, l1, c1, .inl ⟨rfl, rfl⟩, .inl rfl⟩, k1⟩
  have F2 : DF K "__init__" "Box.__init__" (inClass (top 16) 0) [] [] [] f2 (PySem.W.fnX "__init__" "Box.__init__" (defArgs (inClass (top 16) 0)) (defBody (inClass (top 16) 0)) (defScope (inClass (top 16) 0)) [] .none kV2 doc2 pm2 an2 (.ref cd2) ct2) := ⟨⟨_, _, _, _, _, _, _, _, _, _, rfl, l2, c2, .inl ⟨rfl, rfl⟩, .inl rfl⟩, k2⟩
  have F3 : DF K "_law_refused" "_law_refused" (top 27) [] [] [] f3 (PySem.W.fnX "_law_refused" "_law_refused" (defArgs (top 27)) (defBody (top 27)) (defScope (top 27)) [] .none kV3 doc3 pm3 an3 (.ref cd3) ct3) := ⟨⟨_, _, _, _, _, _, _, _, _, _, rfl, l3, c3, .inl ⟨rfl, rfl⟩, .inl rfl⟩, k3⟩
  have F4 : DF K "_law_cells_right" "_law_cells_right" (top 26) [] [] [] f4 (PySem.W.fnX "_law_cells_right" "_law_cells_right" (defArgs (top 26)) (defBody (top 26)) (defScope (top 26)) [] .none kV4 doc4 pm4 an4 (.ref cd4) ct4) := ⟨⟨_, _, _, _, _, _, _, _, _, _, rfl, l4, c4, .inl ⟨rfl, rfl⟩, .inl rfl⟩, k4⟩
  have F5 : DF K "_law_pair_right" "_law_pair_right" (top 25) [] [] [] f5 (PySem.W.fnX "_law_pair_right" "_law_pair_right" (defArgs (top 25)) (defBody (top 25)) (defScope (top 25)) [] .none kV5 doc5 pm5 an5 (.ref cd5) ct5) := ⟨⟨_, _, _, _, _, _, _, _, _, _, rfl, l5, c5, .inl ⟨rfl, rfl⟩, .inl rfl⟩, k5⟩
  have F6 : DF K "_law_next" "_law_next" (top 20) [] [] [] f6 (PySem.W.fnX "_law_next" "_law_next" (defArgs (top 20)) (defBody (top 20)) (defScope (top 20)) [] .none kV6 doc6 pm6 an6 (.ref cd6) ct6) := ⟨⟨_, _, _, _, _, _, _, _, _, _, rfl, l6, c6, .inl ⟨rfl, rfl⟩, .inl rfl⟩, k6⟩
  have F7 : DF K "_law_source" "_law_source" (top 19) [] [] [] f7 (PySem.W.fnX "_law_source" "_law_source" (defArgs (top 19)) (defBody (top 19)) (defScope (top 19)) [] .none kV7 doc7 pm7 an7 (.ref cd7) ct7) := ⟨⟨_, _, _, _, _, _, _, _, _, _, rfl, l7, c7, .inl ⟨rfl, rfl⟩, .inl rfl⟩, k7⟩
  have F8 : DF K "__contains__" "Box.__contains__" (inClass (top 16) 8) [] [] [] f8 (PySem.W.fnX "__contains__" "Box.__contains__" (defArgs (inClass (top 16) 8)) (defBody (inClass (top 16) 8)) (defScope (inClass (top 16) 8)) [] .none kV8 doc8 pm8 an8 (.ref cd8) ct8) := ⟨⟨_, _, _, _, _, _, _, _, _, _, rfl, l8, c8, .inl ⟨rfl, rfl⟩, .inl rfl⟩, k8⟩
  have F9 : DF K "is_inside" "Box.is_inside" (inClass (top 16) 6) [] [] [] f9 (PySem.W.fnX "is_inside" "Box.is_inside" (defArgs (inClass (top 16) 6)) (defBody (inClass (top 16) 6)) (defScope (inClass (top 16) 6)) [] .none kV9 doc9 pm9 an9 (.ref cd9) ct9) := ⟨⟨_, _, _, _, _, _, _, _, _, _, rfl, l9, c9, .inl ⟨rfl, rfl⟩, .inl rfl⟩, k9⟩
  have F10 : DF K "is_integer" "is_integer" (top 14) [] [] [] f10 (PySem.W.fnX "is_integer" "is_integer" (defArgs (top 14)) (defBody (top 14)) (defScope (top 14)) [] .none kV10 doc10 pm10 an10 (.ref cd10) ct10) := ⟨⟨_, _, _, _, _, _, _, _, _, _, rfl, l10, c10, .inl ⟨rfl, rfl⟩, .inl rfl⟩, k10⟩
  have F11 : DF K "_law_error" "_law_error" (top 22) [] [] [] f11 (PySem.W.fnX "_law_error" "_law_error" (defArgs (top 22)) (defBody (top 22)) (defScope (top 22)) [] .none kV11 doc11 pm11 an11 (.ref cd11) ct11) := ⟨⟨_, _, _, _, _, _, _, _, _, _, rfl, l11, c11, .inl ⟨rfl, rfl⟩, .inl rfl⟩, k11⟩
  have F12 : DF K "_law_pick" "_law_pick" (top 21) [] [] [] f12 (PySem.W.fnX "_law_pick" "_law_pick" (defArgs (top 21)) (defBody (top 21)) (defScope (top 21)) [] .none kV12 doc12 pm12 an12 (.ref cd12) ct12) := ⟨⟨_, _, _, _, _, _, _, _, _, _, rfl, l12, c12, .inl ⟨rfl, rfl⟩, .inl rfl⟩, k12⟩
  have F13 : DF K "overlaps" "Box.overlaps" (inClass (top 16) 5) [] [] [] f13 (PySem.W.fnX "overlaps" "Box.overlaps" (defArgs (inClass (top 16) 5)) (defBody (inClass (top 16) 5)) (defScope (inClass (top 16) 5)) [] .none kV13 doc13 pm13 an13 (.ref cd13) ct13) := ⟨⟨_, _, _, _, _, _, _, _, _, _, rfl, l13, c13, .inl ⟨rfl, rfl⟩, .inl rfl⟩, k13⟩
  have F14 : DF K "_law_box_cells" "_law_box_cells" (top 23) [] [] [] f14 (PySem.W.fnX "_law_box_cells" "_law_box_cells" (defArgs (top 23)) (defBody (top 23)) (defScope (top 23)) [] .none kV14 doc14 pm14 an14 (.ref cd14) ct14) := ⟨⟨_, _, _, _, _, _, _, _, _, _, rfl, l14, c14, .inl ⟨rfl, rfl⟩, .inl rfl⟩, k14⟩
  have F15 : DF K "__eq__" "Box.__eq__" (inClass (top 16) 7) [] [] [] f15 (PySem.W.fnX "__eq__" "Box.__eq__" (defArgs (inClass (top 16) 7)) (defBody (inClass (top 16) 7)) (defScope (inClass (top 16) 7)) [] .none kV15 doc15 pm15 an15 (.ref cd15) ct15) := ⟨⟨_, _, _, _, _, _, _, _, _, _, rfl, l15, c15, .inl ⟨rfl, rfl⟩, .inl rfl⟩, k15⟩
  have F16 : DF K "height" "Box.height" (inClass (top 16) 4) [] [] [] f16 (PySem.W.fnX "height" "Box.height" (defArgs (inClass (top 16) 4)) (defBody (inClass (top 16) 4)) (defScope (inClass (top 16) 4)) [] .none kV16 doc16 pm16 an16 (.ref cd16) ct16) := ⟨⟨_, _, _, _, _, _, _, _, _, _, rfl, l16, c16, .inl ⟨rfl, rfl⟩, .inl rfl⟩, k16⟩
  have F17 : DF K "width" "Box.width" (inClass (top 16) 3) [] [] [] f17 (PySem.W.fnX "width" "Box.width" (defArgs (inClass (top 16) 3)) (defBody (inClass (top 16) 3)) (defScope (inClass (top 16) 3)) [] .none kV17 doc17 pm17 an17 (.ref cd17) ct17) := ⟨⟨_, _, _, _, _, _, _, _, _, _, rfl, l17, c17, .inl ⟨rfl, rfl⟩, .inl rfl⟩, k17⟩
  have F18 : DF K "x" "Box.x" (inClass (top 16) 1) [] [] [] f18 (PySem.W.fnX "x" "Box.x" (defArgs (inClass (top 16) 1)) (defBody (inClass (top 16) 1)) (defScope (inClass (top 16) 1)) [] .none kV18 doc18 pm18 an18 (.ref cd18) ct18) := ⟨⟨_, _, _, _, _, _, _, _, _, _, rfl, l18, c18, .inl ⟨rfl, rfl⟩, .inl rfl⟩, k18⟩
  have F19 : DF K "y" "Box.y" (inClass (top 16) 2) [] [] [] f19 (PySem.W.fnX "y" "Box.y" (defArgs (inClass (top 16) 2)) (defBody (inClass (top 16) 2)) (defScope (inClass (top 16) 2)) [] .none kV19 doc19 pm19 an19 (.ref cd19) ct19) := ⟨⟨_, _, _, _, _, _, _, _, _, _, rfl, l19, c19, .inl ⟨rfl, rfl⟩, .inl rfl⟩, k19⟩
  have F20 : DF K "need_box" "need_box" (top 17) [] [] [] f20 (PySem.W.fnX "need_box" "need_box" (defArgs (top 17)) (defBody (top 17)) (defScope (top 17)) [] .none kV20 doc20 pm20 an20 (.ref cd20) ct20) := ⟨⟨_, _, _, _, _, _, _, _, _, _, rfl, l20, c20, .inl ⟨rfl, rfl⟩, .inl rfl⟩, k20⟩
  have hC1 : ∀ p ∈ ([(cd3, P3)] : List (Addr × Addr)), PySem.W.CodeHd h p.1 p.2 := fun p hp => by
    simp only [List.mem_cons, List.not_mem_nil, or_false] at hp
    rcases hp with rfl
    · exact PySem.W.codeHd_of_K X ch3
  have hC2 : ∀ p ∈ ([(cd3, P3)] : List (Addr × Addr)), h.get? p.2 = some tab0 := fun p hp => by
    simp only [List.mem_cons, List.not_mem_nil, or_false] at hp
    rcases hp with rfl
    · exact te3
  have hC3 : ∀ p ∈ ([(cd3, P3)] : List (Addr × Addr)), K.lookup p.2 = none := fun p hp => by
    simp only [List.mem_cons, List.not_mem_nil, or_false] at hp
    rcases hp with rfl
    · exact po3
  have hC4 : ∀ q ∈ ([(P3, ((("_law_refused" : Str) ++ ".<locals>.") ++ "<lambda>" : Str))] : List (Addr × Str)), ∃ c, (c, q.1) ∈ ([(cd3, P3)] : List (Addr × Addr)) := fun p hp => by
    simp only [List.mem_cons, List.not_mem_nil, or_false] at hp
    rcases hp with rfl
    · exact ⟨cd3, by simp⟩
  refine ⟨_, [(cd3, P3)], [(P3, ((("_law_refused" : Str) ++ ".<locals>.") ++ "<lambda>" : Str))], ⟨hC1, hC2, hC3⟩, hC4, fun s v => F0.bindsA (ps := [("_law_script" : Str)]) (fun _ _ _ _ _ _ us hl => match us, hl with | [_], _ => rfl) s [v] rfl, fun base KB GB TB => ?_⟩
  let g : G := ⟨l.prog, w, K, mg, base, fun c => [C0, C1, C2, C3, C4, C5, C6, C7, C8, C9, C10, C11, C12].getD c 0, fun c => [("" : Str), ("reason" : Str), ("" : Str), ("" : Str), ("" : Str), ("" : Str), ("" : Str), ("" : Str), ("" : Str), ("" : Str), ("reason" : Str), ("" : Str), ("" : Str)].getD c "", fun f => [f0, f1, f2, f3, f4, f5, f6, f7, f8, f9, f10, f11, f12, f13, f14, f15, f16, f17, f18, f19, f20].getD f 0, fun f => [(PySem.W.fnX "law" "law" (defArgs (top 28)) (defBody (top 28)) (defScope (top 28)) [] .none kV0 doc0 pm0 an0 (.ref cd0) ct0), (PySem.W.fnX "_law_box" "_law_box" (defArgs (top 24)) (defBody (top 24)) (defScope (top 24)) [] .none kV1 doc1 pm1 an1 (.ref cd1) ct1), (PySem.W.fnX "__init__" "Box.__init__" (defArgs (inClass (top 16) 0)) (defBody (inClass (top 16) 0)) (defScope (inClass (top 16) 0)) [] .none kV2 doc2 pm2 an2 (.ref cd2) ct2), (PySem.W.fnX "_law_refused" "_law_refused" (defArgs (top 27)) (defBody (top 27)) (defScope (top 27)) [] .none kV3 doc3 pm3 an3 (.ref cd3) ct3), (PySem.W.fnX "_law_cells_right" "_law_cells_right" (defArgs (top 26)) (defBody (top 26)) (defScope (top 26)) [] .none kV4 doc4 pm4 an4 (.ref cd4) ct4), (PySem.W.fnX "_law_pair_right" "_law_pair_right" (defArgs (top 25)) (defBody (top 25)) (defScope (top 25)) [] .none kV5 doc5 pm5 an5 (.ref cd5) ct5), (PySem.W.fnX "_law_next" "_law_next" (defArgs (top 20)) (defBody (top 20)) (defScope (top 20)) [] .none kV6 doc6 pm6 an6 (.ref cd6) ct6), (PySem.W.fnX "_law_source" "_law_source" (defArgs (top 19)) (defBody (top 19)) (defScope (top 19)) [] .none kV7 doc7 pm7 an7 (.ref cd7) ct7), (PySem.W.fnX "__contains__" "Box.__contains__" (defArgs (inClass (top 16) 8)) (defBody (inClass (top 16) 8)) (defScope (inClass (top 16) 8)) [] .none kV8 doc8 pm8 an8 (.ref cd8) ct8), (PySem.W.fnX "is_inside" "Box.is_inside" (defArgs (inClass (top 16) 6)) (defBody (inClass (top 16) 6)) (defScope (inClass (top 16) 6)) [] .none kV9 doc9 pm9 an9 (.ref cd9) ct9), (PySem.W.fnX "is_integer" "is_integer" (defArgs (top 14)) (defBody (top 14)) (defScope (top 14)) [] .none kV10 doc10 pm10 an10 (.ref cd10) ct10), (PySem.W.fnX "_law_error" "_law_error" (defArgs (top 22)) (defBody (top 22)) (defScope (top 22)) [] .none kV11 doc11 pm11 an11 (.ref cd11) ct11), (PySem.W.fnX "_law_pick" "_law_pick" (defArgs (top 21)) (defBody (top 21)) (defScope (top 21)) [] .none kV12 doc12 pm12 an12 (.ref cd12) ct12), (PySem.W.fnX "overlaps" "Box.overlaps" (defArgs (inClass (top 16) 5)) (defBody (inClass (top 16) 5)) (defScope (inClass (top 16) 5)) [] .none kV13 doc13 pm13 an13 (.ref cd13) ct13), (PySem.W.fnX "_law_box_cells" "_law_box_cells" (defArgs (top 23)) (defBody (top 23)) (defScope (top 23)) [] .none kV14 doc14 pm14 an14 (.ref cd14) ct14), (PySem.W.fnX "__eq__" "Box.__eq__" (defArgs (inClass (top 16) 7)) (defBody (inClass (top 16) 7)) (defScope (inClass (top 16) 7)) [] .none kV15 doc15 pm15 an15 (.ref cd15) ct15), (PySem.W.fnX "height" "Box.height" (defArgs (inClass (top 16) 4)) (defBody (inClass (top 16) 4)) (defScope (inClass (top 16) 4)) [] .none kV16 doc16 pm16 an16 (.ref cd16) ct16), (PySem.W.fnX "width" "Box.width" (defArgs (inClass (top 16) 3)) (defBody (inClass (top 16) 3)) (defScope (inClass (top 16) 3)) [] .none kV17 doc17 pm17 an17 (.ref cd17) ct17), (PySem.W.fnX "x" "Box.x" (defArgs (inClass (top 16) 1)) (defBody (inClass (top 16) 1)) (defScope (inClass (top 16) 1)) [] .none kV18 doc18 pm18 an18 (.ref cd18) ct18), (PySem.W.fnX "y" "Box.y" (defArgs (inClass (top 16) 2)) (defBody (inClass (top 16) 2)) (defScope (inClass (top 16) 2)) [] .none kV19 doc19 pm19 an19 (.ref cd19) ct19), (PySem.W.fnX "need_box" "need_box" (defArgs (top 17)) (defBody (top 17)) (defScope (top 17)) [] .none kV20 doc20 pm20 an20 (.ref cd20) ct20)].getD f (PySem.W.fnX "law" "law" (defArgs (top 28)) (defBody (top 28)) (defScope (top 28)) [] .none kV0 doc0 pm0 an0 (.ref cd0) ct0), wps, [(P3, ((("_law_refused" : Str) ++ ".<locals>.") ++ "<lambda>" : Str))], lams⟩
  have y_len : mg ("len" : Str) = none := PySem.W.mg_none_of X GG z_len
  have y_max : mg ("max" : Str) = none := PySem.W.mg_none_of X GG z_max
  have y_min : mg ("min" : Str) = none := PySem.W.mg_none_of X GG z_min
  have y_str : mg ("str" : Str) = none := PySem.W.mg_none_of X GG z_str
  have y_int : mg ("int" : Str) = none := PySem.W.mg_none_of X GG z_int
  have y_tuple : mg ("tuple" : Str) = none := PySem.W.mg_none_of X GG z_tuple
  have y_list : mg ("list" : Str) = none := PySem.W.mg_none_of X GG z_list
  have y_sum : mg ("sum" : Str) = none := PySem.W.mg_none_of X GG z_sum
  have y_all : mg ("all" : Str) = none := PySem.W.mg_none_of X GG z_all
  have y_any : mg ("any" : Str) = none := PySem.W.mg_none_of X GG z_any
  have y_abs : mg ("abs" : Str) = none := PySem.W.mg_none_of X GG z_abs
  have y_range : mg ("range" : Str) = none := PySem.W.mg_none_of X GG z_range
  have y_enumerate : mg ("enumerate" : Str) = none := PySem.W.mg_none_of X GG z_enumerate
  have y_zip : mg ("zip" : Str) = none := PySem.W.mg_none_of X GG z_zip
  have y_isinstance : mg ("isinstance" : Str) = none := PySem.W.mg_none_of X GG z_isinstance
  have y_repr : mg ("repr" : Str) = none := PySem.W.mg_none_of X GG z_repr
  have y_bool : mg ("bool" : Str) = none := PySem.W.mg_none_of X GG z_bool
  have y_super : mg ("super" : Str) = none := PySem.W.mg_none_of X GG z_super
  have xc1 : ExcC K C1 := ⟨xga1, xgg1, xec1, xhd1, xki1, gsK, tkK, xmo1⟩
  have xt1 : ExT l.prog K mg "ValueError" "ValueError.__new__" "ValueError.__init__" [.type "ValueError", .type "Exception", .type "BaseException", .type "object"] C1 C2 xI1 ("reason" : Str) := ⟨⟨_, _, _, _, _, _, _, _, _, _, _, _, _, _, xL1⟩, xsa1, xnp1, xin1, xti1, xkc1, xec1, xty1, xsu1, xsb1, opq, y_super, stop, by decide, ⟨_, _, _, _, xcc1, xcd1, _, _, _, _, _, _, _, _, _, xl1, xcd_1, by first | rfl | decide +kernel, K38.scx1, by first | rfl | decide +kernel, by first | rfl | decide +kernel, (fun us hl => match us, hl with | [_, _], _ => rfl), ⟨_, _, _, xx1⟩, ⟨_, _, _, _, xy1, rfl, xz1, xw1⟩, ⟨_, rfl, rfl⟩⟩⟩
  have xk1 : MkX l.prog w K mg C1 ("reason" : Str) := mkx_of xbV xt1
  have xc10 : ExcC K C10 := ⟨xga10, xgg10, xec10, xhd10, xki10, gsK, tkK, xmo10⟩
  have xt10 : ExT l.prog K mg "ValueError" "ValueError.__new__" "ValueError.__init__" [.type "ValueError", .type "Exception", .type "BaseException", .type "object"] C10 C2 xI10 ("reason" : Str) := ⟨⟨_, _, _, _, _, _, _, _, _, _, _, _, _, _, xL10⟩, xsa10, xnp10, xin10, xti10, xkc10, xec10, xty10, xsu10, xsb10, opq, y_super, stop, by decide, ⟨_, _, _, _, xcc10, xcd10, _, _, _, _, _, _, _, _, _, xl10, xcd_10, by first | rfl | decide +kernel, K38.scx10, by first | rfl | decide +kernel, by first | rfl | decide +kernel, (fun us hl => match us, hl with | [_, _], _ => rfl), ⟨_, _, _, xx10⟩, ⟨_, _, _, _, xy10, rfl, xz10, xw10⟩, ⟨_, rfl, rfl⟩⟩⟩
  have xk10 : MkX l.prog w K mg C10 ("reason" : Str) := mkx_of xbV xt10
  have cls0 : Cls K C0 := ⟨pgC0, hdC0, poC0, saC0⟩
  have B1_0 : ∃ gg, KBn K (PySem.W.fnX "_law_box" "_law_box" (defArgs (top 24)) (defBody (top 24)) (defScope (top 24)) [] .none kV1 doc1 pm1 an1 (.ref cd1) ct1) ["_law_told"] 1 [] gg fun vs zs => srcV vs zs [.p 0] := F1.kbnN 1 [] [.p 0] [.p 0] (fun _ _ _ _ _ _ us ws h1 h2 => match us, h1, ws, h2 with | [_], _, [], _ => rfl) (fun _ _ => rfl)
  have B2_0 : ∃ gg, KBn K (PySem.W.fnX "__init__" "Box.__init__" (defArgs (inClass (top 16) 0)) (defBody (inClass (top 16) 0)) (defScope (inClass (top 16) 0)) [] .none kV2 doc2 pm2 an2 (.ref cd2) ct2) ["self", "x", "y", "width", "height"] 5 [] gg fun vs zs => srcV vs zs [.p 0, .p 1, .p 2, .p 3, .p 4] := F2.kbnN 5 [] [.p 0, .p 1, .p 2, .p 3, .p 4] [.p 0, .p 1, .p 2, .p 3, .p 4] (fun _ _ _ _ _ _ us ws h1 h2 => match us, h1, ws, h2 with | [_, _, _, _, _], _, [], _ => rfl) (fun _ _ => rfl)
  have B2_1 : ∃ gg, KBn K (PySem.W.fnX "__init__" "Box.__init__" (defArgs (inClass (top 16) 0)) (defBody (inClass (top 16) 0)) (defScope (inClass (top 16) 0)) [] .none kV2 doc2 pm2 an2 (.ref cd2) ct2) ["self", "x", "y", "width", "height"] 1 ["x", "y", "width", "height"] gg fun vs zs => srcV vs zs [.p 0, .k 0, .k 1, .k 2, .k 3] := F2.kbnN 1 ["x", "y", "width", "height"] [.p 0, .k 0, .k 1, .k 2, .k 3] [.p 0, .k 0, .k 1, .k 2, .k 3] (fun _ _ _ _ _ _ us ws h1 h2 => match us, h1, ws, h2 with | [_], _, [_, _, _, _], _ => rfl) (fun _ _ => rfl)
  have B3_0 : ∃ gg, KBn K (PySem.W.fnX "_law_refused" "_law_refused" (defArgs (top 27)) (defBody (top 27)) (defScope (top 27)) [] .none kV3 doc3 pm3 an3 (.ref cd3) ct3) ["_law_source_here", "_law_one"] 2 [] gg fun vs zs => srcV vs zs [.p 0, .p 1] := F3.kbnN 2 [] [.p 0, .p 1] [.p 0, .p 1] (fun _ _ _ _ _ _ us ws h1 h2 => match us, h1, ws, h2 with | [_, _], _, [], _ => rfl) (fun _ _ => rfl)
  have B4_0 : ∃ gg, KBn K (PySem.W.fnX "_law_cells_right" "_law_cells_right" (defArgs (top 26)) (defBody (top 26)) (defScope (top 26)) [] .none kV4 doc4 pm4 an4 (.ref cd4) ct4) ["_law_one"] 1 [] gg fun vs zs => srcV vs zs [.p 0] := F4.kbnN 1 [] [.p 0] [.p 0] (fun _ _ _ _ _ _ us ws h1 h2 => match us, h1, ws, h2 with | [_], _, [], _ => rfl) (fun _ _ => rfl)
  have B5_0 : ∃ gg, KBn K (PySem.W.fnX "_law_pair_right" "_law_pair_right" (defArgs (top 25)) (defBody (top 25)) (defScope (top 25)) [] .none kV5 doc5 pm5 an5 (.ref cd5) ct5) ["_law_one", "_law_second"] 2 [] gg fun vs zs => srcV vs zs [.p 0, .p 1] := F5.kbnN 2 [] [.p 0, .p 1] [.p 0, .p 1] (fun _ _ _ _ _ _ us ws h1 h2 => match us, h1, ws, h2 with | [_, _], _, [], _ => rfl) (fun _ _ => rfl)
  have B6_0 : ∃ gg, KBn K (PySem.W.fnX "_law_next" "_law_next" (defArgs (top 20)) (defBody (top 20)) (defScope (top 20)) [] .none kV6 doc6 pm6 an6 (.ref cd6) ct6) ["_law_source_here", "_law_many"] 2 [] gg fun vs zs => srcV vs zs [.p 0, .p 1] := F6.kbnN 2 [] [.p 0, .p 1] [.p 0, .p 1] (fun _ _ _ _ _ _ us ws h1 h2 => match us, h1, ws, h2 with | [_, _], _, [], _ => rfl) (fun _ _ => rfl)
  have B7_0 : ∃ gg, KBn K (PySem.W.fnX "_law_source" "_law_source" (defArgs (top 19)) (defBody (top 19)) (defScope (top 19)) [] .none kV7 doc7 pm7 an7 (.ref cd7) ct7) ["_law_script", "_law_k"] 2 [] gg fun vs zs => srcV vs zs [.p 0, .p 1] := F7.kbnN 2 [] [.p 0, .p 1] [.p 0, .p 1] (fun _ _ _ _ _ _ us ws h1 h2 => match us, h1, ws, h2 with | [_, _], _, [], _ => rfl) (fun _ _ => rfl)
  have B9_0 : ∃ gg, KBn K (PySem.W.fnX "is_inside" "Box.is_inside" (defArgs (inClass (top 16) 6)) (defBody (inClass (top 16) 6)) (defScope (inClass (top 16) 6)) [] .none kV9 doc9 pm9 an9 (.ref cd9) ct9) ["self", "other"] 1 ["other"] gg fun vs zs => srcV vs zs [.p 0, .k 0] := F9.kbnN 1 ["other"] [.p 0, .k 0] [.p 0, .k 0] (fun _ _ _ _ _ _ us ws h1 h2 => match us, h1, ws, h2 with | [_], _, [_], _ => rfl) (fun _ _ => rfl)
  have B10_0 : ∃ gg, KBn K (PySem.W.fnX "is_integer" "is_integer" (defArgs (top 14)) (defBody (top 14)) (defScope (top 14)) [] .none kV10 doc10 pm10 an10 (.ref cd10) ct10) ["value"] 1 [] gg fun vs zs => srcV vs zs [.p 0] := F10.kbnN 1 [] [.p 0] [.p 0] (fun _ _ _ _ _ _ us ws h1 h2 => match us, h1, ws, h2 with | [_], _, [], _ => rfl) (fun _ _ => rfl)
  have B12_0 : ∃ gg, KBn K (PySem.W.fnX "_law_pick" "_law_pick" (defArgs (top 21)) (defBody (top 21)) (defScope (top 21)) [] .none kV12 doc12 pm12 an12 (.ref cd12) ct12) ["_law_source_here", "_law_items"] 2 [] gg fun vs zs => srcV vs zs [.p 0, .p 1] := F12.kbnN 2 [] [.p 0, .p 1] [.p 0, .p 1] (fun _ _ _ _ _ _ us ws h1 h2 => match us, h1, ws, h2 with | [_, _], _, [], _ => rfl) (fun _ _ => rfl)
  have B13_0 : ∃ gg, KBn K (PySem.W.fnX "overlaps" "Box.overlaps" (defArgs (inClass (top 16) 5)) (defBody (inClass (top 16) 5)) (defScope (inClass (top 16) 5)) [] .none kV13 doc13 pm13 an13 (.ref cd13) ct13) ["self", "other"] 1 ["other"] gg fun vs zs => srcV vs zs [.p 0, .k 0] := F13.kbnN 1 ["other"] [.p 0, .k 0] [.p 0, .k 0] (fun _ _ _ _ _ _ us ws h1 h2 => match us, h1, ws, h2 with | [_], _, [_], _ => rfl) (fun _ _ => rfl)
  have B14_0 : ∃ gg, KBn K (PySem.W.fnX "_law_box_cells" "_law_box_cells" (defArgs (top 23)) (defBody (top 23)) (defScope (top 23)) [] .none kV14 doc14 pm14 an14 (.ref cd14) ct14) ["_law_told"] 1 [] gg fun vs zs => srcV vs zs [.p 0] := F14.kbnN 1 [] [.p 0] [.p 0] (fun _ _ _ _ _ _ us ws h1 h2 => match us, h1, ws, h2 with | [_], _, [], _ => rfl) (fun _ _ => rfl)
  have B20_0 : ∃ gg, KBn K (PySem.W.fnX "need_box" "need_box" (defArgs (top 17)) (defBody (top 17)) (defScope (top 17)) [] .none kV20 doc20 pm20 an20 (.ref cd20) ct20) ["value"] 1 [] gg fun vs zs => srcV vs zs [.p 0] := F20.kbnN 1 [] [.p 0] [.p 0] (fun _ _ _ _ _ _ us ws h1 h2 => match us, h1, ws, h2 with | [_], _, [], _ => rfl) (fun _ _ => rfl)
  have bb8 : Binds K (PySem.W.fnX "__contains__" "Box.__contains__" (defArgs (inClass (top 16) 8)) (defBody (inClass (top 16) 8)) (defScope (inClass (top 16) 8)) [] .none kV8 doc8 pm8 an8 (.ref cd8) ct8) ["self", "cell"] [] := F8.binds fun _ _ _ _ _ _ us hl => match us, hl with | [_, _], _ => rfl
  have bb9 : Binds K (PySem.W.fnX "is_inside" "Box.is_inside" (defArgs (inClass (top 16) 6)) (defBody (inClass (top 16) 6)) (defScope (inClass (top 16) 6)) [] .none kV9 doc9 pm9 an9 (.ref cd9) ct9) ["self", "other"] [] := F9.binds fun _ _ _ _ _ _ us hl => match us, hl with | [_, _], _ => rfl
  have bb13 : Binds K (PySem.W.fnX "overlaps" "Box.overlaps" (defArgs (inClass (top 16) 5)) (defBody (inClass (top 16) 5)) (defScope (inClass (top 16) 5)) [] .none kV13 doc13 pm13 an13 (.ref cd13) ct13) ["self", "other"] [] := F13.binds fun _ _ _ _ _ _ us hl => match us, hl with | [_, _], _ => rfl
  have bb15 : Binds K (PySem.W.fnX "__eq__" "Box.__eq__" (defArgs (inClass (top 16) 7)) (defBody (inClass (top 16) 7)) (defScope (inClass (top 16) 7)) [] .none kV15 doc15 pm15 an15 (.ref cd15) ct15) ["self", "other"] [] := F15.binds fun _ _ _ _ _ _ us hl => match us, hl with | [_, _], _ => rfl
  have bb16 : Binds K (PySem.W.fnX "height" "Box.height" (defArgs (inClass (top 16) 4)) (defBody (inClass (top 16) 4)) (defScope (inClass (top 16) 4)) [] .none kV16 doc16 pm16 an16 (.ref cd16) ct16) ["self"] [] := F16.binds fun _ _ _ _ _ _ us hl => match us, hl with | [_], _ => rfl
  have bb17 : Binds K (PySem.W.fnX "width" "Box.width" (defArgs (inClass (top 16) 3)) (defBody (inClass (top 16) 3)) (defScope (inClass (top 16) 3)) [] .none kV17 doc17 pm17 an17 (.ref cd17) ct17) ["self"] [] := F17.binds fun _ _ _ _ _ _ us hl => match us, hl with | [_], _ => rfl
  have bb18 : Binds K (PySem.W.fnX "x" "Box.x" (defArgs (inClass (top 16) 1)) (defBody (inClass (top 16) 1)) (defScope (inClass (top 16) 1)) [] .none kV18 doc18 pm18 an18 (.ref cd18) ct18) ["self"] [] := F18.binds fun _ _ _ _ _ _ us hl => match us, hl with | [_], _ => rfl
  have bb19 : Binds K (PySem.W.fnX "y" "Box.y" (defArgs (inClass (top 16) 2)) (defBody (inClass (top 16) 2)) (defScope (inClass (top 16) 2)) [] .none kV19 doc19 pm19 an19 (.ref cd19) ct19) ["self"] [] := F19.binds fun _ _ _ _ _ _ us hl => match us, hl with | [_], _ => rfl
  have FS : Fst g tab.st := by
    refine ⟨?nm, ?pat, fun f => ?npar, ?gd, ?bi, ⟨y_range, y_enumerate, y_zip, y_isinstance⟩, y_repr, ⟨y_int, y_str, y_bool, y_tuple, y_list⟩, ?cnm, ?mk, ?fld, ?meth, ?sup, ?prop, ?kit, ?kitc, ?kitx, ?exk, rfl, ?oeq, ?one, ?oin, ?exm⟩
    case nm => exact getD_imp (P := fun f x => g.mg x = some (.ref (g.fa f)) ∧ PySem.W.keepIn g.K (.ref (g.fa f)) = true) (l := lfnm) ⟨⟨PySem.W.mg_of X GG a0, k0⟩, ⟨PySem.W.mg_of X GG a1, k1⟩, ⟨PySem.W.mg_of X GG a3, k3⟩, ⟨PySem.W.mg_of X GG a4, k4⟩, ⟨PySem.W.mg_of X GG a5, k5⟩, ⟨PySem.W.mg_of X GG a6, k6⟩, ⟨PySem.W.mg_of X GG a7, k7⟩, ⟨PySem.W.mg_of X GG a10, k10⟩, ⟨PySem.W.mg_of X GG a11, k11⟩, ⟨PySem.W.mg_of X GG a12, k12⟩, ⟨PySem.W.mg_of X GG a14, k14⟩, ⟨PySem.W.mg_of X GG a20, k20⟩, trivial⟩
    case pat =>
      intro f p n ks pm e
      refine AllP.get (P := fun (q : Nat × Nat) (y : Nat × List Str × List Src) => (∀ x, Src.d x ∈ y.2.2 → (flatV? x).isSome = true) ∧ y.2.2.length = (g.ps q.1).length ∧ ∃ gg, KBn g.K (g.fd q.1) (g.ps q.1) y.1 y.2.1 gg fun vs zs => srcV vs zs y.2.2) (l := lpat) ?_ (f, p) (n, ks, pm) e
      exact ⟨⟨by simp [flatV?], rfl, B1_0⟩, ⟨by simp [flatV?], rfl, B2_0⟩, ⟨by simp [flatV?], rfl, B2_1⟩, ⟨by simp [flatV?], rfl, B3_0⟩, ⟨by simp [flatV?], rfl, B4_0⟩, ⟨by simp [flatV?], rfl, B5_0⟩, ⟨by simp [flatV?], rfl, B6_0⟩, ⟨by simp [flatV?], rfl, B7_0⟩, ⟨by simp [flatV?], rfl, B9_0⟩, ⟨by simp [flatV?], rfl, B10_0⟩, ⟨by simp [flatV?], rfl, B12_0⟩, ⟨by simp [flatV?], rfl, B13_0⟩, ⟨by simp [flatV?], rfl, B14_0⟩, ⟨by simp [flatV?], rfl, B20_0⟩, trivial⟩
    case npar => show lnpar.getD f 0 = (lps.getD f []).length; rw [show lnpar = lps.map List.length from rfl, List.getD_eq_getElem?_getD, List.getElem?_map, List.getD_eq_getElem?_getD]; cases lps[f]? <;> rfl
    case gd =>
      intro x d e
      exact AllP.get (P := fun x d => ∃ u v, g.mg x = some u ∧ RelV v u ∧ ∀ F, Rep g F d v) (l := lgd) (trivial) x d e
    case bi => intro b; cases b <;> assumption
    case cnm => exact getD_imp (P := fun c x => g.mg x = some (.ref (g.ca c))) (l := lcnm) ⟨PySem.W.mg_of X GG aC0, PySem.W.mg_of X GG aC1, PySem.W.mg_of X GG aC2, PySem.W.mg_of X GG aC3, PySem.W.mg_of X GG aC4, PySem.W.mg_of X GG aC5, PySem.W.mg_of X GG aC6, PySem.W.mg_of X GG aC7, PySem.W.mg_of X GG aC8, PySem.W.mg_of X GG aC9, PySem.W.mg_of X GG aC10, PySem.W.mg_of X GG aC11, PySem.W.mg_of X GG aC12, trivial⟩
    case mk => exact getD_imp (P := fun c f => Mk g.K (g.ca c) (g.fa f)) (l := linit) ⟨⟨mkC0, inC0, i2, kpC0⟩, trivial⟩
    case fld =>
      intro c f e
      obtain ⟨u, e⟩ := Option.isSome_iff_exists.mp e
      exact AllP.get (P := fun (q : Nat × Str) (_ : Unit) => Cls g.K (g.ca q.1) ∧ NoAttr g.K (g.ca q.1) q.2) (l := lfldk) (⟨⟨cls0, n0⟩, ⟨cls0, n1⟩, trivial⟩) (c, f) u e
    case meth =>
      intro c m f e
      exact AllP.get (P := fun (q : Nat × Str) (f : Nat) => Cls g.K (g.ca q.1) ∧ Meth g.K (g.ca q.1) q.2 (g.fa f) ∧ Binds g.K (g.fd f) (g.ps f) []) (l := lmeth) (⟨⟨cls0, ⟨m0, i9, k9⟩, bb9⟩, ⟨cls0, ⟨m1, i13, k13⟩, bb13⟩, trivial⟩) (c, m) f e
    case sup =>
      intro d c m f e
      exact AllP.get (P := fun (q : Nat × Nat × Str) (f : Nat) => PySem.W.mroIn g.K (g.ca q.2.1) (.ref (g.ca q.1)) = some true ∧ PySem.W.ks_superIn g.K (g.ca q.2.1) (g.ca q.1) q.2.2 = some (some (.ref (g.fa f))) ∧ PySem.W.typeIn g.K (.ref (g.fa f)) = some (.type "function") ∧ PySem.W.fnIn g.K (g.fa f) = true ∧ Binds g.K (g.fd f) (g.ps f) []) (l := lsup) (trivial) (d, c, m) f e
    case prop =>
      intro c m f e
      exact AllP.get (P := fun (q : Nat × Str) (f : Nat) => Cls g.K (g.ca q.1) ∧ (∃ p, PropOf g.K (g.ca q.1) q.2 p (g.fa f)) ∧ (g.ps f).length = 1 ∧ Binds g.K (g.fd f) (g.ps f) []) (l := lprop) (⟨⟨cls0, ⟨_, q0, pg16, pt16, _, pf16⟩, rfl, bb16⟩, ⟨cls0, ⟨_, q1, pg17, pt17, _, pf17⟩, rfl, bb17⟩, ⟨cls0, ⟨_, q2, pg18, pt18, _, pf18⟩, rfl, bb18⟩, ⟨cls0, ⟨_, q3, pg19, pt19, _, pf19⟩, rfl, bb19⟩, trivial⟩) (c, m) f e
    case kit =>
      intro t u b e
      exact AllP.get (P := fun (q : Ty × Ty) (b : Bool) => PySem.W.kitOne g.K (tyVal g q.1) (tyVal g q.2) = some b) (l := lkit) (⟨kt0, kt1, kt2, kt3, kt4, kt5, kt6, kt7, kt8, kt9, kt10, kt11, kt12, kt13, kt14, kt15, kt16, kt17, kt18, kt19, kt20, kt21, kt22, kt23, kt24, kt25, kt26, kt27, kt28, kt29, kt30, kt31, kt32, kt33, kt34, kt35, kt36, kt37, kt38, kt39, kt40, kt41, kt42, kt43, kt44, kt45, kt46, kt47, kt48, kt49, trivial⟩) (t, u) b e
    case kitc =>
      intro c u b e
      have e : wkit (.c c) u = some b := e
      unfold wkit at e
      exact AllP.get (P := fun (q : Ty × Ty) (_ : Bool) => ∀ c, q.1 = .c c → Cls g.K (g.ca c) ∧ PySem.W.findIn g.K (.ref (g.ca c)) "__class__" = some (some (.builtin "object.__class__")) ∧ PySem.W.specialIn g.K (.builtin "object.__class__") "__get__" = some (some (.builtin "getset_descriptor.__get__")) ∧ PySem.W.takesIn g.K (.builtin "object.__class__") = some true ∧ PySem.W.mroIn g.K (g.ca c) (.type "object") = some true) (l := lkit) (⟨(fun c e => by cases e), (fun c e => by cases e), (fun c e => by cases e), (fun c e => by cases e), (fun c e => by cases e), (fun c e => by cases e), (fun c e => by cases e), (fun c e => by cases e), (fun c e => by cases e), (fun c e => by cases e), (fun c e => by cases e), (fun c e => by cases e), (fun c e => by cases e), (fun c e => by cases e), (fun c e => by cases e), (fun c e => by cases e), (fun c e => by cases e), (fun c e => by cases e), (fun c e => by cases e), (fun c e => by cases e), (fun c e => by cases e), (fun c e => by cases e), (fun c e => by cases e), (fun c e => by cases e), (fun c e => by cases e), (fun c e => by cases e), (fun c e => by cases e), (fun c e => by cases e), (fun c e => by cases e; exact ⟨cls0, kiC0, gsK, tkK, moC0⟩), (fun c e => by cases e; exact ⟨cls0, kiC0, gsK, tkK, moC0⟩), (fun c e => by cases e; exact ⟨cls0, kiC0, gsK, tkK, moC0⟩), (fun c e => by cases e; exact ⟨cls0, kiC0, gsK, tkK, moC0⟩), (fun c e => by cases e), (fun c e => by cases e), (fun c e => by cases e), (fun c e => by cases e), (fun c e => by cases e), (fun c e => by cases e), (fun c e => by cases e), (fun c e => by cases e), (fun c e => by cases e), (fun c e => by cases e), (fun c e => by cases e), (fun c e => by cases e), (fun c e => by cases e), (fun c e => by cases e), (fun c e => by cases e), (fun c e => by cases e), (fun c e => by cases e), (fun c e => by cases e), trivial⟩) (.c c, u) b e c rfl
    case kitx =>
      intro c u b e
      have e : wkit (.x c) u = some b := e
      unfold wkit at e
      exact AllP.get (P := fun (q : Ty × Ty) (_ : Bool) => ∀ c, q.1 = .x c → ExcC g.K (g.ca c)) (l := lkit) (⟨(fun c e => by cases e), (fun c e => by cases e), (fun c e => by cases e), (fun c e => by cases e), (fun c e => by cases e), (fun c e => by cases e), (fun c e => by cases e), (fun c e => by cases e), (fun c e => by cases e), (fun c e => by cases e), (fun c e => by cases e), (fun c e => by cases e), (fun c e => by cases e), (fun c e => by cases e), (fun c e => by cases e), (fun c e => by cases e), (fun c e => by cases e), (fun c e => by cases e), (fun c e => by cases e), (fun c e => by cases e), (fun c e => by cases e), (fun c e => by cases e), (fun c e => by cases e), (fun c e => by cases e), (fun c e => by cases e), (fun c e => by cases e), (fun c e => by cases e), (fun c e => by cases e), (fun c e => by cases e), (fun c e => by cases e), (fun c e => by cases e), (fun c e => by cases e), (fun c e => by cases e; exact xc1), (fun c e => by cases e; exact xc1), (fun c e => by cases e; exact xc1), (fun c e => by cases e; exact xc1), (fun c e => by cases e; exact xc1), (fun c e => by cases e; exact xc1), (fun c e => by cases e; exact xc1), (fun c e => by cases e; exact xc1), (fun c e => by cases e; exact xc1), (fun c e => by cases e; exact xc10), (fun c e => by cases e; exact xc10), (fun c e => by cases e; exact xc10), (fun c e => by cases e; exact xc10), (fun c e => by cases e; exact xc10), (fun c e => by cases e; exact xc10), (fun c e => by cases e; exact xc10), (fun c e => by cases e; exact xc10), (fun c e => by cases e; exact xc10), trivial⟩) (.x c, u) b e c rfl
    case exk =>
      intro c x p e
      exact getD_imp (P := fun c (y : Str × Str) => y.2 = g.efld c ∧ g.mg y.1 = some (.ref (g.ca c)) ∧ PySem.W.keepIn g.K (.ref (g.ca c)) = true ∧ MkX g.P g.w g.K g.mg (g.ca c) y.2 ∧ PySem.W.typeIn g.K (.ref (g.ca c)) = some (.type "type") ∧ ExcC g.K (g.ca c) ∧ PySem.W.findIn g.K (.ref (g.ca c)) y.2 = some none) (l := lexk) (⟨⟨rfl, PySem.W.mg_of X GG aC1, xkc1, xk1, xty1, xc1, xnp1⟩, ⟨rfl, PySem.W.mg_of X GG aC10, xkc10, xk10, xty10, xc10, xnp10⟩, trivial⟩) c (x, p) e
    case oeq =>
      intro c t f e
      exact AllP.get (P := fun (q : Nat × Ty) (f : Nat) => PySem.W.findIn g.K (.ref (g.ca q.1)) "__eq__" = some (some (.ref (g.fa f))) ∧ PySem.W.isFn g.K (.ref (g.fa f)) = true ∧ Binds g.K (g.fd f) (g.ps f) [] ∧ (g.ps f).length = 2 ∧ PySem.W.notFirst g.K (g.ca q.1) (tyVal g q.2) = true) (l := loeq) (⟨⟨oe0, i15, bb15, rfl, of0_0⟩, ⟨oe0, i15, bb15, rfl, of0_1⟩, ⟨oe0, i15, bb15, rfl, of0_2⟩, ⟨oe0, i15, bb15, rfl, of0_3⟩, ⟨oe0, i15, bb15, rfl, of0_4⟩, ⟨oe0, i15, bb15, rfl, of0_5⟩, ⟨oe0, i15, bb15, rfl, of0_6⟩, ⟨oe0, i15, bb15, rfl, of0_7⟩, trivial⟩) (c, t) f e
    case one =>
      intro c t f e
      exact AllP.get (P := fun (q : Nat × Ty) (f : Nat) => (PySem.W.findIn g.K (.ref (g.ca q.1)) "__eq__" = some (some (.ref (g.fa f))) ∧ PySem.W.isFn g.K (.ref (g.fa f)) = true ∧ Binds g.K (g.fd f) (g.ps f) [] ∧ (g.ps f).length = 2 ∧ PySem.W.notFirst g.K (g.ca q.1) (tyVal g q.2) = true) ∧ PySem.W.findIn g.K (.ref (g.ca q.1)) "__ne__" = some (some (.builtin "object.__ne__")) ∧ PySem.W.subIn g.K (.ref (g.ca q.1)) (.type "object") = some true) (l := lone) (⟨⟨⟨oe0, i15, bb15, rfl, of0_0⟩, on0, os0⟩, ⟨⟨oe0, i15, bb15, rfl, of0_1⟩, on0, os0⟩, ⟨⟨oe0, i15, bb15, rfl, of0_2⟩, on0, os0⟩, ⟨⟨oe0, i15, bb15, rfl, of0_3⟩, on0, os0⟩, ⟨⟨oe0, i15, bb15, rfl, of0_4⟩, on0, os0⟩, ⟨⟨oe0, i15, bb15, rfl, of0_5⟩, on0, os0⟩, ⟨⟨oe0, i15, bb15, rfl, of0_6⟩, on0, os0⟩, ⟨⟨oe0, i15, bb15, rfl, of0_7⟩, on0, os0⟩, trivial⟩) (c, t) f e
    case oin =>
      intro c f e
      exact getD_imp (P := fun c f => PySem.W.findIn g.K (.ref (g.ca c)) "__contains__" = some (some (.ref (g.fa f))) ∧ PySem.W.isFn g.K (.ref (g.fa f)) = true ∧ Binds g.K (g.fd f) (g.ps f) [] ∧ (g.ps f).length = 2) (l := loin) (⟨⟨od0_, i8, bb8, rfl⟩, trivial⟩) c f e
    case exm =>
      intro ks c b e
      exact AllP.get (P := fun (q : List Nat × Nat) (b : Bool) => PySem.W.exmAny g.K (.ref (g.ca q.2)) (q.1.map fun k => .ref (g.ca k)) = some b) (l := lexm) (⟨xm0, xm1, trivial⟩) (ks, c) b e
  have lu3 : ∀ p ∈ g.T, p.1 = P3 → p.2 = ((("_law_refused" : Str) ++ ".<locals>.") ++ "<lambda>" : Str) := fun p hp e => by
    simp only [g, List.mem_cons, List.not_mem_nil, or_false] at hp
    subst hp
    rfl
  have td11 : FnTD2 g tab 11 d11 := by
    obtain ⟨te, rest, pv, pw, ptt, cp, cq, ptv, ap, pr, p1, p2, p3, pv2, pm, pa, ph, pp, kt, kv, cj, ck, hb, h1, h2⟩ := K38.b11
    have D : FunD g.K "_law_error" "_law_error" (defArgs (top 22)) (.Assign [.Tuple [.Name "_law_caught" pv, .Name "_law_found" pw] kt ptt] (.Tuple [.Constant .none cj cp, .Constant .none ck cq] kv ptv) ap :: .Try [.Assign [.Name "_law_found" pr] (.Call (.Name "_law_deed" p1) [] [] p2) p3] [.ExceptHandler (some te) (some "error") [.Assign [.Name "_law_caught" pv2] (.Name "error" pm) pa] ph] [] [] pp :: rest) (defScope (top 22)) [] [] (g.fa 11) (g.fd 11) := by
      rw [← hb]
      exact F11.funD
    exact ⟨["_law_deed", "error", "_law_caught", "_law_found", "_law_words", "_law_word", "_law_is_so"], _, _, _, _, _, _, "_law_deed", "_law_caught", "_law_found", "error", 3, te, rest, pv, pw, ptt, cp, cq, ptv, ap, pr, p1, p2, p3, pv2, pm, pa, ph, pp, kt, kv, cj, ck, D, K38.sc11, rfl, F11.binds (fun _ _ _ _ _ _ us hl => match us, hl with | [_], _ => rfl), rfl, rfl, by decide, rfl, rfl, rfl, rfl, by first | rfl | decide +kernel, by first | rfl | decide +kernel, by first | rfl | decide +kernel, by first | rfl | decide +kernel, by decide +kernel, by decide +kernel, h1, h2, K38.nl11⟩
  have FX := Tab.fx (g := g) (T := tab) (n := 20) FS (fun f s nl e => getD_imp (P := fun f y => FnT g tab f y.1 y.2 ∨ FnTS g tab f y.1 y.2) (l := lfn) (by
    exact ⟨.inl ⟨⟨_, _, _, _, _, _, _, _, F0.funD, K38.sc0, rfl, K38.c0, fun h => absurd h K38.nl0⟩⟩, .inl ⟨⟨_, _, _, _, _, _, _, _, F1.funD, K38.sc1, rfl, K38.c1, fun h => absurd h K38.nl1⟩⟩, .inl ⟨⟨_, _, _, _, _, _, _, _, F2.funD, K38.sc2, rfl, K38.c2, fun h => absurd h K38.nl2⟩⟩, .inl ⟨⟨_, _, _, _, _, _, _, _, F3.funD, K38.sc3, rfl, K38.c3, fun _ => ⟨cd3, P3, rfl, TB (cd3, P3) (by simp), by simp [g], lu3⟩⟩⟩, .inl ⟨⟨_, _, _, _, _, _, _, _, F4.funD, K38.sc4, rfl, K38.c4, fun h => absurd h K38.nl4⟩⟩, .inl ⟨⟨_, _, _, _, _, _, _, _, F5.funD, K38.sc5, rfl, K38.c5, fun h => absurd h K38.nl5⟩⟩, .inl ⟨⟨_, _, _, _, _, _, _, _, F6.funD, K38.sc6, rfl, K38.c6, fun h => absurd h K38.nl6⟩⟩, .inl ⟨⟨_, _, _, _, _, _, _, _, F7.funD, K38.sc7, rfl, K38.c7, fun h => absurd h K38.nl7⟩⟩, .inl ⟨⟨_, _, _, _, _, _, _, _, F8.funD, K38.sc8, rfl, K38.c8, fun h => absurd h K38.nl8⟩⟩, .inl ⟨⟨_, _, _, _, _, _, _, _, F9.funD, K38.sc9, rfl, K38.c9, fun h => absurd h K38.nl9⟩⟩, .inl ⟨⟨_, _, _, _, _, _, _, _, F10.funD, K38.sc10, rfl, K38.c10, fun h => absurd h K38.nl10⟩⟩, .inl ⟨⟨_, _, _, _, _, _, _, _, F12.funD, K38.sc12, rfl, K38.c12, fun h => absurd h K38.nl12⟩⟩, .inl ⟨⟨_, _, _, _, _, _, _, _, F13.funD, K38.sc13, rfl, K38.c13, fun h => absurd h K38.nl13⟩⟩, .inl ⟨⟨_, _, _, _, _, _, _, _, F14.funD, K38.sc14, rfl, K38.c14, fun h => absurd h K38.nl14⟩⟩, .inl ⟨⟨_, _, _, _, _, _, _, _, F15.funD, K38.sc15, rfl, K38.c15, fun h => absurd h K38.nl15⟩⟩, .inl ⟨⟨_, _, _, _, _, _, _, _, F16.funD, K38.sc16, rfl, K38.c16, fun h => absurd h K38.nl16⟩⟩, .inl ⟨⟨_, _, _, _, _, _, _, _, F17.funD, K38.sc17, rfl, K38.c17, fun h => absurd h K38.nl17⟩⟩, .inl ⟨⟨_, _, _, _, _, _, _, _, F18.funD, K38.sc18, rfl, K38.c18, fun h => absurd h K38.nl18⟩⟩, .inl ⟨⟨_, _, _, _, _, _, _, _, F19.funD, K38.sc19, rfl, K38.c19, fun h => absurd h K38.nl19⟩⟩, .inl ⟨⟨_, _, _, _, _, _, _, _, F20.funD, K38.sc20, rfl, K38.c20, fun h => absurd h K38.nl20⟩⟩, trivial⟩) f (s, nl) e) (fun wd k f d F est e => Or.elim (getD_imp (P := fun f d => FnTD g tab f d ∨ FnTD2 g tab f d) (l := ldn) ⟨.inr td11, trivial⟩ f d e) (ok_fnD F est) (ok_fnD2 F est)) 10
  exact law_end FX rfl plain
end K38

namespace BV
open PySem L2
/-! the evaluators, a form at a time -/
def tst (wd : Wd) (e : E) : Fra → Cells → R Bool := fun fr cs => asB (ev wd e fr cs)
section
variable {wd : Wd} {n b i f p c : Nat} {is tg : List Nat} {one : Bool} {fr : Fra} {cs : Cells} {a e as ks it lo hi t : E} {x y : Str} {s r : S} {z : L} {d : D} {acc : Str}
@[simp] theorem x_nop : exS wd n b .nop fr cs = .nx fr cs := by rw [exS]
@[simp] theorem x_set : exS wd n b (.set i e) fr cs = onE fr (ev wd e fr cs) fun w c1 => .nx (fr.set i (some w)) c1 := by rw [exS]
@[simp] theorem x_setL : exS wd n b (.setL i z) fr cs = onE fr (evL wd z fr cs) fun _ c1 => .nx (fr.set i (some (.loc (c1.length - 1)))) c1 := by rw [exS]
@[simp] theorem x_setT : exS wd n b (.setT is e) fr cs = onE fr (ev wd e fr cs) fun w c1 => match w with
    | .d d => match setTg is false d fr with
      | some fr1 => .nx fr1 c1
      | none => .bad
    | _ => .bad := by rw [exS] <;> rfl
@[simp] theorem x_par : exS wd n b (.par is as) fr cs = onE fr (evA wd as fr cs) fun ws c1 => .nx (setWs fr (is.zip ws)) c1 := by rw [exS]
@[simp] theorem x_put {j : E} : exS wd n b (.put a j e) fr cs = onE fr (ev wd e fr cs) fun w c1 => onE fr (ev wd a fr c1) fun wa c2 => onE fr (ev wd j fr c2) fun wi c3 => putR fr w wa wi c3 := by rw [exS]
@[simp] theorem x_fld : exS wd n b (.fld a x e) fr cs = onE fr (ev wd e fr cs) fun w c1 => onE fr (ev wd a fr c1) fun wa c2 => fldR wd fr x w wa c2 := by rw [exS]
@[simp] theorem x_expr : exS wd n b (.expr e) fr cs = onE fr (ev wd e fr cs) fun _ c1 => .nx fr c1 := by rw [exS]
@[simp] theorem x_ret : exS wd n b (.ret e) fr cs = onE fr (ev wd e fr cs) fun w c1 => .rt w c1 := by rw [exS]
@[simp] theorem x_retL : exS wd n b (.retL z) fr cs = onE fr (evL wd z fr cs) fun _ c1 => .rt (.loc (c1.length - 1)) c1 := by rw [exS]
@[simp] theorem x_retN : exS wd n b .retN fr cs = .rt (.d .non) cs := by rw [exS]
@[simp] theorem x_ife : exS wd n b (.ife e s r) fr cs = onE fr (asB (ev wd e fr cs)) fun b1 c1 => if b1 then exS wd n b s fr c1 else exS wd n b r fr c1 := by rw [exS]
@[simp] theorem x_loop : exS wd n b (.loop it tg one s) fr cs = onE fr (evI wd it fr cs) fun ds c1 => forGo (exS wd n b s) tg one ds fr c1 := by rw [exS]
@[simp] theorem x_wh : exS wd n b (.wh e s) fr cs = whGo (tst wd e) (exS wd n b s) n fr cs := by rw [exS]; rfl
@[simp] theorem x_brk : exS wd n b .brk fr cs = .bk fr cs := by rw [exS]
@[simp] theorem x_cont : exS wd n b .cont fr cs = .ct fr cs := by rw [exS]
@[simp] theorem x_frz : exS wd n b (.frz i) fr cs = frzR b i fr cs := by rw [exS]
@[simp] theorem x_raise : exS wd n b (.raise c e) fr cs = onE fr (ev wd e fr cs) fun w c1 => raiseR wd c w fr c1 := by rw [exS]
@[simp] theorem x_nil : exS wd n b .nil fr cs = .nx fr cs := by rw [exS]
@[simp] theorem x_cons : exS wd n b (.cons s r) fr cs = (exS wd n b s fr cs).bind fun fr cs => exS wd n b r fr cs := by rw [exS]
@[simp] theorem v_var : ev wd (.var i) fr cs = match fr[i]? with
    | some (some w) => .ok w cs
    | _ => .bad := by rw [ev] <;> rfl
@[simp] theorem v_cst : ev wd (.cst d) fr cs = .ok (.d d) cs := by rw [ev]
@[simp] theorem v_dct0 : ev wd .dct0 fr cs = .ok (.d (.dct [])) cs := by rw [ev]
@[simp] theorem v_lam : ev wd (.lam f t) fr cs = (wd.phd f (wd.phc t fr) cs).map W.d := by rw [ev]
@[simp] theorem v_gv : ev wd (.gv x) fr cs = match wd.gd x with
    | some d => .ok (.d d) cs
    | none => .bad := by rw [ev] <;> rfl
@[simp] theorem v_op {o : Operator} : ev wd (.op o a e) fr cs = (ev wd a fr cs).bind fun w1 c1 => (ev wd e fr c1).bind fun w2 c2 => wOp o w1 w2 c2 := by rw [ev]
@[simp] theorem v_cmp {o : CmpOp} : ev wd (.cmp o a e) fr cs = (ev wd a fr cs).bind fun w1 c1 => (ev wd e fr c1).bind fun w2 c2 => wCmp o w1 w2 c2 := by rw [ev]
@[simp] theorem v_chain {o o' : CmpOp} : ev wd (.chain o o' a e t) fr cs = (ev wd a fr cs).bind fun w1 c1 => (ev wd e fr c1).bind fun w2 c2 => (asB (wCmp o w1 w2 c2)).bind fun q c3 => if q then (ev wd t fr c3).bind fun w3 c4 => wCmp o' w2 w3 c4 else .ok (.d (.bl false)) c3 := by rw [ev]
@[simp] theorem v_and : ev wd (.and as) fr cs = evAnd wd as fr cs := by rw [ev]
@[simp] theorem v_or : ev wd (.or as) fr cs = evOr wd as fr cs := by rw [ev]
@[simp] theorem v_not : ev wd (.not a) fr cs = (asB (ev wd a fr cs)).bind fun b c1 => .ok (.d (.bl (!b))) c1 := by rw [ev]
@[simp] theorem v_ife : ev wd (.ife t a e) fr cs = (asB (ev wd t fr cs)).bind fun x c1 => if x then ev wd a fr c1 else ev wd e fr c1 := by rw [ev]
@[simp] theorem v_tup : ev wd (.tup as) fr cs = (evA wd as fr cs).bind tupW := by rw [ev]
@[simp] theorem v_lst : ev wd (.lst as) fr cs = (evA wd as fr cs).bind lstW := by rw [ev]
@[simp] theorem v_ix : ev wd (.ix a e) fr cs = (ev wd a fr cs).bind fun w1 c1 => (ev wd e fr c1).bind fun w2 c2 => wIx w1 w2 c2 := by rw [ev]
@[simp] theorem v_sl : ev wd (.sl a lo hi) fr cs = (ev wd a fr cs).bind fun w1 c1 => (evO wd lo fr c1).bind fun l c2 => (evO wd hi fr c2).bind fun h c3 => wSl w1 l h c3 := by rw [ev]
@[simp] theorem v_bi {o : Bi} : ev wd (.bi o as) fr cs = (evA wd as fr cs).bind fun ws c1 => wBi o ws c1 := by rw [ev]
@[simp] theorem v_isi {ts : List Ty} : ev wd (.isi a ts one) fr cs = (ev wd a fr cs).bind fun w c1 => wIsi wd w ts c1 := by rw [ev]
@[simp] theorem v_bm {m : Bm} : ev wd (.bm m a as) fr cs = (ev wd a fr cs).bind fun w c1 => if wTy m w c1 then (evA wd as fr c1).bind fun ws c2 => wBm m w ws c2 else .bad := by rw [ev]
@[simp] theorem v_call : ev wd (.call f p as ks) fr cs = (evA wd as fr cs).bind fun ws c1 => (evA wd ks fr c1).bind fun zs c2 => match (wd.pat f p).bind fun q => srcs ws zs q.2.2 with
    | some l => callW wd f l c2
    | none => .bad := by rw [ev] <;> rfl
@[simp] theorem v_make : ev wd (.make c p as ks) fr cs = (evA wd as fr cs).bind fun ws c1 => (evA wd ks fr c1).bind fun zs c2 => makeW wd c p ws zs c2 := by rw [ev]
@[simp] theorem v_fld : ev wd (.fld a x) fr cs = (ev wd a fr cs).bind fun w c1 => fldW wd w x c1 := by rw [ev]
@[simp] theorem v_meth : ev wd (.meth a x as) fr cs = (ev wd a fr cs).bind fun w c1 => match mthW wd w x c1 with
    | some f => (evA wd as fr c1).bind fun ws c2 => if wd.npar f = ws.length + 1 then callW wd f (w :: ws) c2 else .bad
    | none => .bad := by rw [ev] <;> rfl
@[simp] theorem v_eqo {neg : Bool} : ev wd (.eqo neg a e) fr cs = (ev wd a fr cs).bind fun w1 c1 => (ev wd e fr c1).bind fun w2 c2 => eqoW wd neg w1 w2 c2 := by rw [ev]
@[simp] theorem v_ino {neg : Bool} : ev wd (.ino neg a e) fr cs = (ev wd a fr cs).bind fun w1 c1 => (ev wd e fr c1).bind fun w2 c2 => inoW wd neg w1 w2 c2 := by rw [ev]
@[simp] theorem v_methk {nms : List Str} : ev wd (.methk a x p nms ks) fr cs = (ev wd a fr cs).bind fun w c1 => match mthW wd w x c1 with
    | some f => (evA wd ks fr c1).bind fun zs c2 => methkW wd f p nms w zs c2
    | none => .bad := by rw [ev] <;> rfl
@[simp] theorem vL_ofl : evL wd (.ofl a) fr cs = (evA wd (.cons a .nil) fr cs).bind fun ws c1 => oflW ws c1 := rfl
@[simp] theorem v_sup : ev wd (.sup c x as) fr cs = match supW wd c x fr cs with
    | some (w, f) => (evA wd as fr cs).bind fun ws c1 => if wd.npar f = ws.length + 1 then callW wd f (w :: ws) c1 else .bad
    | none => .bad := by rw [ev] <;> rfl
@[simp] theorem v_lzip : ev wd (.lzip a e) fr cs = (ev wd a fr cs).bind fun w1 c1 => (ev wd e fr c1).bind fun w2 c2 => lzipW w1 w2 c2 := by rw [ev]
@[simp] theorem v_rep : ev wd (.rep a) fr cs = (ev wd a fr cs).bind fun w c1 => repW w c1 := by rw [ev]
@[simp] theorem v_neg : ev wd (.neg a) fr cs = (asI (ev wd a fr cs)).bind fun i c1 => .ok (.d (.int (-i))) c1 := by rw [ev]
@[simp] theorem v_fstr : ev wd (.fstr as) fr cs = evJ wd as Str.empty fr cs := by rw [ev]
@[simp] theorem v_fmt : ev wd (.fmt a) fr cs = (ev wd a fr cs).bind fmtW := by rw [ev]
@[simp] theorem vA_nil : evA wd .nil fr cs = .ok [] cs := by rw [evA]
@[simp] theorem vA_cons : evA wd (.cons a as) fr cs = (ev wd a fr cs).bind fun w c1 => (evA wd as fr c1).bind fun ws c2 => .ok (w :: ws) c2 := by rw [evA]
@[simp] theorem vO_nil : evO wd .nil fr cs = .ok none cs := by rw [evO]
@[simp] theorem vO_cons : evO wd (.cons a .nil) fr cs = (asI (ev wd a fr cs)).bind fun i c1 => .ok (some i) c1 := by rw [evO]
@[simp] theorem vAnd_nil : evAnd wd .nil fr cs = .ok (.d (.bl true)) cs := by rw [evAnd]
@[simp] theorem vAnd_cons : evAnd wd (.cons a as) fr cs = (asB (ev wd a fr cs)).bind fun b c1 => if b then evAnd wd as fr c1 else .ok (.d (.bl false)) c1 := by rw [evAnd]
@[simp] theorem vOr_nil : evOr wd .nil fr cs = .ok (.d (.bl false)) cs := by rw [evOr]
@[simp] theorem vOr_cons : evOr wd (.cons a as) fr cs = (asB (ev wd a fr cs)).bind fun b c1 => if b then .ok (.d (.bl true)) c1 else evOr wd as fr c1 := by rw [evOr]
@[simp] theorem vJ_nil : evJ wd .nil acc fr cs = .ok (.d (.str acc)) cs := by rw [evJ]
@[simp] theorem vI_rng1 : evI wd (.rng1 a) fr cs = (asI (ev wd a fr cs)).bind fun i c1 => if small62 i then .ok (rngD 0 i) c1 else .bad := by rw [evI]
@[simp] theorem vI_rng2 : evI wd (.rng2 a e) fr cs = (asI (ev wd a fr cs)).bind fun i c1 => (asI (ev wd e fr c1)).bind fun j c2 => if small62 i && small62 j then .ok (rngD i j) c2 else .bad := by rw [evI]
@[simp] theorem vI_itl : evI wd (.itl a) fr cs = (ev wd a fr cs).bind fun w c1 => match w with
    | .d (.lst xs) => .ok xs c1
    | .d (.flst xs) => .ok xs c1
    | _ => .bad := by rw [evI] <;> rfl
@[simp] theorem vI_itt : evI wd (.itt a) fr cs = (ev wd a fr cs).bind fun w c1 => match w with
    | .d (.tup xs) => .ok xs c1
    | _ => .bad := by rw [evI] <;> rfl
@[simp] theorem vI_its : evI wd (.its a) fr cs = (ev wd a fr cs).bind fun w c1 => match w with
    | .d (.str x) => .ok (strD x) c1
    | _ => .bad := by rw [evI] <;> rfl
@[simp] theorem vI_enum : evI wd (.enum a) fr cs = (ev wd a fr cs).bind fun w c1 => match w with
    | .d (.lst xs) => .ok (enumD xs) c1
    | _ => .bad := by rw [evI] <;> rfl
@[simp] theorem vI_zip : evI wd (.zip a e) fr cs = (ev wd a fr cs).bind fun w1 c1 => (ev wd e fr c1).bind fun w2 c2 => match w1, w2 with
    | .d (.lst xs), .d (.lst ys) => .ok (zipD xs ys) c2
    | _, _ => .bad := by rw [evI] <;> rfl
@[simp] theorem vI_zips : evI wd (.zips a e) fr cs = (ev wd a fr cs).bind fun w1 c1 => (ev wd e fr c1).bind fun w2 c2 => zipsW w1 w2 c2 := by rw [evI]
end
end BV

namespace BV
open PySem L2
section
variable {α β : Type} {wd : Wd} {n b i : Nat} {fr : Fra} {cs : Cells} {w : W} {d : D} {x : D}
@[simp] theorem bind_ok (a : α) (cs : Cells) (k : α → Cells → R β) : R.bind (.ok a cs) k = k a cs := rfl
@[simp] theorem bind_exc (c : Nat) (x : D) (cs : Cells) (k : α → Cells → R β) : R.bind (.exc c x cs) k = .exc c x cs := rfl
@[simp] theorem map_ok (a : α) (cs : Cells) (f : α → β) : R.map f (.ok a cs) = .ok (f a) cs := rfl
@[simp] theorem map_exc (c : Nat) (x : D) (cs : Cells) (f : α → β) : R.map f (.exc c x cs) = .exc c x cs := rfl
@[simp] theorem nox_ok (a : α) (cs : Cells) : R.nox (.ok a cs) = .ok a cs := rfl
@[simp] theorem trim_ok (n : Nat) (a : α) (cs : Cells) : R.trim n (.ok a cs) = .ok a cs := rfl
@[simp] theorem trim_exc (n c : Nat) (x : D) (cs : Cells) : R.trim n (.exc c x cs : R α) = .exc c x (cs.take n) := rfl
@[simp] theorem onE_ok (fr : Fra) (a : α) (cs : Cells) (k : α → Cells → RS) : onE fr (.ok a cs) k = k a cs := rfl
@[simp] theorem onE_exc (fr : Fra) (c : Nat) (x : D) (cs : Cells) (k : α → Cells → RS) : onE fr (.exc c x cs) k = .ex c x fr cs := rfl
@[simp] theorem sbind_nx (fr : Fra) (cs : Cells) (k : Fra → Cells → RS) : RS.bind (.nx fr cs) k = k fr cs := rfl
@[simp] theorem sbind_rt (w : W) (cs : Cells) (k : Fra → Cells → RS) : RS.bind (.rt w cs) k = .rt w cs := rfl
@[simp] theorem sbind_bk (fr : Fra) (cs : Cells) (k : Fra → Cells → RS) : RS.bind (.bk fr cs) k = .bk fr cs := rfl
@[simp] theorem sbind_ct (fr : Fra) (cs : Cells) (k : Fra → Cells → RS) : RS.bind (.ct fr cs) k = .ct fr cs := rfl
@[simp] theorem sbind_ex (c : Nat) (x : D) (fr : Fra) (cs : Cells) (k : Fra → Cells → RS) : RS.bind (.ex c x fr cs) k = .ex c x fr cs := rfl
@[simp] theorem loop_nx (fr : Fra) (cs : Cells) (k : Fra → Cells → RS) : RS.loop (.nx fr cs) k = k fr cs := rfl
@[simp] theorem loop_ct (fr : Fra) (cs : Cells) (k : Fra → Cells → RS) : RS.loop (.ct fr cs) k = k fr cs := rfl
@[simp] theorem loop_bk (fr : Fra) (cs : Cells) (k : Fra → Cells → RS) : RS.loop (.bk fr cs) k = .nx fr cs := rfl
@[simp] theorem loop_rt (w : W) (cs : Cells) (k : Fra → Cells → RS) : RS.loop (.rt w cs) k = .rt w cs := rfl
@[simp] theorem loop_ex (c : Nat) (x : D) (fr : Fra) (cs : Cells) (k : Fra → Cells → RS) : RS.loop (.ex c x fr cs) k = .ex c x fr cs := rfl
@[simp] theorem bind_bad {α β : Type} (k : α → Cells → R β) : R.bind .bad k = .bad := rfl
@[simp] theorem toD_ok (d : D) (cs : Cells) : toD (.ok (.d d) cs) = .ok d cs := rfl
@[simp] theorem toD_exc (c : Nat) (x : D) (cs : Cells) : toD (.exc c x cs) = .exc c x cs := rfl
@[simp] theorem asB_ok (b : Bool) (cs : Cells) : asB (.ok (.d (.bl b)) cs) = .ok b cs := rfl
@[simp] theorem asI_ok (i : Int) (cs : Cells) : asI (.ok (.d (.int i)) cs) = .ok i cs := rfl
@[simp] theorem asB_exc (c : Nat) (x : D) (cs : Cells) : asB (.exc c x cs) = .exc c x cs := rfl
@[simp] theorem asI_exc (c : Nat) (x : D) (cs : Cells) : asI (.exc c x cs) = .exc c x cs := rfl
@[simp] theorem endD_rt (b : Nat) (w : W) (cs : Cells) : endD b (.rt w cs) = retD b w cs := rfl
@[simp] theorem endD_nx (b : Nat) (fr : Fra) (cs : Cells) : endD b (.nx fr cs) = .ok .non (cs.take b) := rfl
@[simp] theorem endD_ex (b : Nat) (c : Nat) (x : D) (fr : Fra) (cs : Cells) : endD b (.ex c x fr cs) = .exc c x (cs.take b) := rfl
@[simp] theorem endL_rt (b : Nat) (w : W) (cs : Cells) : endL b (.rt w cs) = retL b w cs := rfl
@[simp] theorem retD_d (b : Nat) (d : D) (cs : Cells) : retD b (.d d) cs = .ok d (cs.take b) := rfl
@[simp] theorem startF_eq (nl : Nat) (ws : List W) : startF nl ws = ws.map some ++ List.replicate (nl - ws.length) none := rfl
/-! conditions: both ways -/
@[simp] theorem ite_wbl (p : Prop) [Decidable p] (x y : Bool) : (if p then W.d (.bl x) else W.d (.bl y)) = W.d (.bl (if p then x else y)) := by split <;> rfl
@[simp] theorem ite_rok (p : Prop) [Decidable p] (a c : α) (cs : Cells) : (if p then R.ok a cs else R.ok c cs) = R.ok (if p then a else c) cs := by split <;> rfl
@[simp] theorem ite_same {γ : Type} (p : Prop) [Decidable p] (a : γ) : (if p then a else a) = a := by split <;> rfl
/-! cells -/
@[simp] theorem app_set (l : List α) (x y : α) : (l ++ [x]).set l.length y = l ++ [y] := by simp
@[simp] theorem app_take (l : List α) (y : α) : (l ++ [y]).take (l.length + 1) = l ++ [y] := by rw [List.take_of_length_le]; simp
theorem app_get_lt {l m : List α} {i : Nat} {x : α} (h : l[i]? = some x) : (l ++ m)[i]? = some x := by
  rw [List.getElem?_append_left (List.getElem?_eq_some_iff.mp h).1]; exact h
theorem app_set_lt {l m : List α} {i : Nat} {x y : α} (h : l[i]? = some x) : (l ++ m).set i y = l.set i y ++ m := by
  rw [List.set_append]; simp [(List.getElem?_eq_some_iff.mp h).1]
theorem set_get {l : List α} {i : Nat} {x y : α} (h : l[i]? = some x) : (l.set i y)[i]? = some y := by
  rw [List.getElem?_set_self (List.getElem?_eq_some_iff.mp h).1]
@[simp] theorem take_set_len (l : List α) (i : Nat) (x : α) : (l.set i x).take l.length = l.set i x := by
  rw [List.take_of_length_le]; simp
/-! types -/
@[simp] theorem ty_int (cs : Cells) (i : Int) : tyOf cs (.d (.int i)) = some (.b "int") := rfl
@[simp] theorem ty_str (cs : Cells) (i : Str) : tyOf cs (.d (.str i)) = some (.b "str") := rfl
@[simp] theorem ty_bl (cs : Cells) (i : Bool) : tyOf cs (.d (.bl i)) = some (.b "bool") := rfl
@[simp] theorem ty_non (cs : Cells) : tyOf cs (.d .non) = some (.b "NoneType") := rfl
@[simp] theorem ty_tup (cs : Cells) (xs : List D) : tyOf cs (.d (.tup xs)) = some (.b "tuple") := rfl
@[simp] theorem ty_lst (cs : Cells) (xs : List D) : tyOf cs (.d (.lst xs)) = some (.b "list") := rfl
@[simp] theorem ty_dct (cs : Cells) (xs : List (Str × D)) : tyOf cs (.d (.dct xs)) = some (.b "dict") := rfl
@[simp] theorem ty_exc (cs : Cells) (c : Nat) (x : D) : tyOf cs (.d (.exc c x)) = some (.x c) := rfl
@[simp] theorem ty_ins (cs : Cells) (c : Nat) (fs : List (Str × D)) : tyOf cs (.d (.ins c fs)) = some (.c c) := rfl
@[simp] theorem cls_ins (cs : Cells) (c : Nat) (fs : List (Str × D)) : clsOf cs (.d (.ins c fs)) = some (c, fs) := rfl
/-! numbers -/
@[simp] theorem wOp_sub (i j : Int) (cs : Cells) : wOp .Sub (.d (.int i)) (.d (.int j)) cs = .ok (.d (.int (i - j))) cs := rfl
@[simp] theorem wOp_add (i j : Int) (cs : Cells) : wOp .Add (.d (.int i)) (.d (.int j)) cs = .ok (.d (.int (i + j))) cs := rfl
theorem wOp_mod {i j : Int} (h : 0 < j) (cs : Cells) : wOp .Mod (.d (.int i)) (.d (.int j)) cs = .ok (.d (.int (i % j))) cs := by
  simp [wOp, wI, fMod, h]
theorem log2_le {n k : Nat} (h : n ≤ k) : n.log2 ≤ k := Nat.le_trans (Nat.log2_le_self n) h
theorem log2_64 {n : Nat} (h : n < 18446744073709551616) : n.log2 < 64 := by
  by_cases e : n = 0
  · subst e; decide
  · exact (Nat.log2_lt e).mpr h
theorem wOp_div {i j : Int} (h : 0 < j) (h2 : j < 18446744073709551616) (cs : Cells) : wOp .FloorDiv (.d (.int i)) (.d (.int j)) cs = .ok (.d (.int (i / j))) cs := by
  have : j.natAbs.log2 < 64 := log2_64 (by omega)
  simp [wOp, wI, fDiv, h, show j.natAbs.log2 < 9000 by omega]
theorem wOp_mul {i j : Int} (h : i.natAbs < 18446744073709551616) (h2 : j.natAbs < 18446744073709551616) (cs : Cells) : wOp .Mult (.d (.int i)) (.d (.int j)) cs = .ok (.d (.int (i * j))) cs := by
  have h1 := log2_64 h
  have h2 := log2_64 h2
  simp [wOp, wMul, wI, fMul, show i.natAbs.log2 + j.natAbs.log2 < 1000000 by omega]
theorem wOp_pow {i j : Int} (h : 0 ≤ j) (h1 : j ≤ 1000000) (h2 : i.natAbs < 18446744073709551616) (cs : Cells) : wOp .Pow (.d (.int i)) (.d (.int j)) cs = .ok (.d (.int (i ^ j.toNat))) cs := by
  simp [wOp, wI, fPow, h, h1, h2]
@[simp] theorem wCmp_lt (i j : Int) (cs : Cells) : wCmp .Lt (.d (.int i)) (.d (.int j)) cs = .ok (.d (.bl (decide (i < j)))) cs := rfl
@[simp] theorem wCmp_le (i j : Int) (cs : Cells) : wCmp .LtE (.d (.int i)) (.d (.int j)) cs = .ok (.d (.bl (decide (i ≤ j)))) cs := rfl
@[simp] theorem wCmp_gt (i j : Int) (cs : Cells) : wCmp .Gt (.d (.int i)) (.d (.int j)) cs = .ok (.d (.bl (decide (j < i)))) cs := rfl
@[simp] theorem wCmp_ge (i j : Int) (cs : Cells) : wCmp .GtE (.d (.int i)) (.d (.int j)) cs = .ok (.d (.bl (decide (j ≤ i)))) cs := rfl
/-! texts -/
theorem wOp_cat {x y : Str} (h : x.length + y.length ≤ 16777216) (cs : Cells) : wOp .Add (.d (.str x)) (.d (.str y)) cs = .ok (.d (.str (x ++ y))) cs := by
  simp [wOp, wAdd, lit, h]
theorem ofString_inj (a b : String) : Str.ofString a = Str.ofString b ↔ a = b := by
  refine ⟨fun h => ?_, fun h => by rw [h]⟩
  rw [Str.ofString_eq_toList, Str.ofString_eq_toList] at h
  have h : a.toList.map Char.toNat = b.toList.map Char.toNat := by simpa using h
  have inj : ∀ {x y : List Char}, x.map Char.toNat = y.map Char.toNat → x = y := by
    intro x
    induction x with
    | nil => intro y e; cases y <;> simp_all
    | cons c x ih =>
      intro y e
      cases y with
      | nil => simp at e
      | cons d y =>
        simp only [List.map_cons, List.cons.injEq] at e
        rw [ih e.2]
        congr 1
        exact Char.ext (UInt32.toNat_inj.mp e.1)
  exact String.toList_inj.mp (inj h)
theorem ofString_beq (a b : String) : (Str.ofString a == Str.ofString b) = decide (a = b) := by
  rw [Bool.eq_iff_iff]; simp [ofString_inj]
/-! == of data -/
theorem wCmp_eq {w1 w2 : W} {p q : PyData} {cs : Cells} (h1 : wPy cs w1 = some p) (h2 : wPy cs w2 = some q) (s1 : SeqAt.shaped p = true) (s2 : SeqAt.shaped q = true) : wCmp .Eq w1 w2 cs = .ok (.d (.bl (PyData.eqv p q))) cs := by
  simp [wCmp, wEq, h1, h2, s1, s2]
theorem wCmp_ne {w1 w2 : W} {p q : PyData} {cs : Cells} (h1 : wPy cs w1 = some p) (h2 : wPy cs w2 = some q) (s1 : SeqAt.shaped p = true) (s2 : SeqAt.shaped q = true) : wCmp .NotEq w1 w2 cs = .ok (.d (.bl (!PyData.eqv p q))) cs := by
  simp [wCmp, wEq, h1, h2, s1, s2]
@[simp] theorem shaped_int (i : Int) : SeqAt.shaped (.int i) = true := rfl
@[simp] theorem shaped_bool (i : Bool) : SeqAt.shaped (.bool i) = true := rfl
@[simp] theorem shaped_none : SeqAt.shaped .none = true := rfl
/-- a text of at most n signs, all of them small -/
structure Tx (x : Str) (n : Nat) : Prop where
  len : x.length ≤ n
  sm : ∀ c ∈ x.cps.toList, c < 256
theorem Tx.app {x y : Str} {n m : Nat} (h : Tx x n) (k : Tx y m) : Tx (x ++ y) (n + m) := ⟨by rw [Str.length_append]; exact Nat.add_le_add h.len k.len, fun c hc => by
  rw [show (x ++ y).cps = x.cps ++ y.cps from rfl, Array.toList_append, List.mem_append] at hc
  exact hc.elim (h.sm c) (k.sm c)⟩
theorem Tx.mono {x : Str} {n m : Nat} (h : Tx x n) (k : n ≤ m) : Tx x m := ⟨Nat.le_trans h.len k, h.sm⟩
theorem Tx.ok {x : Str} {n : Nat} (h : Tx x n) : PyData.strOk x = true := by
  unfold PyData.strOk
  rw [← Array.all_toList, List.all_eq_true]
  intro c hc
  have := h.sm c hc
  simp; omega
theorem Tx.lit {x : Str} {n : Nat} (h : (decide (x.length ≤ n) && x.cps.toList.all (· < 256)) = true) : Tx x n := by
  simp only [Bool.and_eq_true, decide_eq_true_eq, List.all_eq_true] at h
  exact ⟨h.1, h.2⟩
theorem shaped_str {x : Str} {n : Nat} (h : Tx x n) : SeqAt.shaped (.str x) = true := by
  simp [SeqAt.shaped, PyData.canLay0, h.ok, PyData.depth]
@[simp] theorem eqv_int (i j : Int) : PyData.eqv (.int i) (.int j) = (i == j) := rfl
@[simp] theorem eqv_str (i j : Str) : PyData.eqv (.str i) (.str j) = (i == j) := rfl
end
end BV

namespace BV
open PySem L2
/-! ### comprehensions -/
section
variable {tst : Fra → Cells → R Bool} {elt : Fra → Cells → R W} {tg : List Nat} {one : Bool} {fr : Fra}
/-- the element looks only -/
theorem lcGo_map {cs : Cells} (p : D → Bool) (f : D → D) : ∀ (ds acc : List D), (∀ d ∈ ds, ∃ fr1, setTg tg one d fr = some fr1 ∧ ∀ acc, tst fr1 (cs ++ [some (.lst acc)]) = .ok (p d) (cs ++ [some (.lst acc)]) ∧ (p d = true → elt fr1 (cs ++ [some (.lst acc)]) = .ok (.d (f d)) (cs ++ [some (.lst acc)]))) → acc.length + ds.length < 16777216 →
    lcGo tst elt tg one fr cs.length ds (cs ++ [some (.lst acc)]) = .ok () (cs ++ [some (.lst (acc ++ (ds.filter p).map f))])
  | [], acc, _, _ => by simp [lcGo]
  | d :: ds, acc, h, hl => by
    obtain ⟨fr1, e1, e2⟩ := h d (List.mem_cons_self ..)
    obtain ⟨e3, e4⟩ := e2 acc
    have hl' : acc.length + 1 + ds.length < 16777216 := by simp at hl; omega
    have hlt : acc.length < lit := by unfold lit; omega
    rw [lcGo, e1]
    simp only [lcTurn, e3, nox_ok, bind_ok]
    cases hp : p d with
    | false =>
      rw [if_neg (by simp), bind_ok, List.filter_cons_of_neg (by simp [hp])]
      exact lcGo_map p f ds acc (fun d hd => h d (List.mem_cons_of_mem _ hd)) (by omega)
    | true =>
      rw [if_pos rfl, e4 hp, nox_ok, bind_ok, List.filter_cons_of_pos (by simp [hp])]
      have : lcAdd cs.length (.d (f d)) (cs ++ [some (.lst acc)]) = .ok () (cs ++ [some (.lst (acc ++ [f d]))]) := by
        simp [lcAdd, celL, hlt]
      rw [this, bind_ok, lcGo_map p f ds (acc ++ [f d]) (fun d hd => h d (List.mem_cons_of_mem _ hd)) (by rw [List.length_append]; simp; omega)]
      simp
/-- the element draws -/
theorem lcGo_draw (K : Nat) (J : Nat → Cells → Prop) (P : D → Prop) : ∀ (ds acc : List D) (i : Nat) (cs : Cells), J i cs → (∀ d ∈ ds, ∀ (i : Nat) (cs : Cells) (acc : List D), i < K → J i cs → ∃ fr1 x cs', setTg tg one d fr = some fr1 ∧ tst fr1 (cs ++ [some (.lst acc)]) = .ok true (cs ++ [some (.lst acc)]) ∧ elt fr1 (cs ++ [some (.lst acc)]) = .ok (.d x) (cs' ++ [some (.lst acc)]) ∧ cs'.length = cs.length ∧ J (i + 1) cs' ∧ P x) →
    i + ds.length ≤ K → acc.length + ds.length < 16777216 → ∃ xs cs', lcGo tst elt tg one fr cs.length ds (cs ++ [some (.lst acc)]) = .ok () (cs' ++ [some (.lst (acc ++ xs))]) ∧ xs.length = ds.length ∧ (∀ x ∈ xs, P x) ∧ J (i + ds.length) cs' ∧ cs'.length = cs.length
  | [], acc, i, cs, j, _, _, _ => ⟨[], cs, by simp [lcGo], rfl, (fun x hx => by cases hx), by simpa using j, rfl⟩
  | d :: ds, acc, i, cs, j, h, hK, hl => by
    rw [List.length_cons] at hK
    obtain ⟨fr1, x, cs1, e1, e2, e3, e4, j1, px⟩ := h d (List.mem_cons_self ..) i cs acc (by omega) j
    have hlt : acc.length < lit := by unfold lit; simp at hl; omega
    obtain ⟨xs, cs2, q1, q2, q3, q4, q5⟩ := lcGo_draw K J P ds (acc ++ [x]) (i + 1) cs1 j1 (fun d hd => h d (List.mem_cons_of_mem _ hd)) (by omega) (by rw [List.length_append]; simp at hl ⊢; omega)
    refine ⟨x :: xs, cs2, ?_, by simp [q2], fun y hy => ?_, ?_, by rw [q5, e4]⟩
    · rw [lcGo, e1]
      have : lcAdd cs.length (.d x) (cs1 ++ [some (.lst acc)]) = .ok () (cs1 ++ [some (.lst (acc ++ [x]))]) := by
        rw [← e4]; simp [lcAdd, celL, hlt]
      simp only [lcTurn, e2, nox_ok, bind_ok, if_true]
      rw [e3, nox_ok, bind_ok, this, bind_ok, ← e4, q1]
      simp
    · rcases List.mem_cons.mp hy with rfl | hy
      · exact px
      · exact q3 y hy
    · rw [List.length_cons, show i + (ds.length + 1) = i + 1 + ds.length by omega]; exact q4
end
section
variable {wd : Wd} {elt it conds : E} {tg : List Nat} {one : Bool} {own : List (Str × Nat)} {fr : Fra} {cs c1 : Cells} {ds : List D}
theorem ev_lc (p : D → Bool) (f : D → D) (hi : evI wd it fr cs = .ok ds c1) (h : ∀ d ∈ ds, ∃ fr1, setTg tg one d (wipeF fr (own.map (·.2))) = some fr1 ∧ ∀ acc, asB (evAnd wd conds fr1 (c1 ++ [some (.lst acc)])) = .ok (p d) (c1 ++ [some (.lst acc)]) ∧ (p d = true → ev wd elt fr1 (c1 ++ [some (.lst acc)]) = .ok (.d (f d)) (c1 ++ [some (.lst acc)]))) (hl : ds.length < 16777216) :
    ev wd (.lc elt it conds tg one own) fr cs = .ok (.d (.lst ((ds.filter p).map f))) c1 := by
  rw [ev, hi, bind_ok, lcGo_map p f ds [] h (by simpa using hl)]
  simp [lcEnd, celL]
theorem ev_lcD (K : Nat) (J : Nat → Cells → Prop) (P : D → Prop) (i : Nat) (hi : evI wd it fr cs = .ok ds c1) (j : J i c1) (h : ∀ d ∈ ds, ∀ (i : Nat) (cs : Cells) (acc : List D), i < K → J i cs → ∃ fr1 x cs', setTg tg one d (wipeF fr (own.map (·.2))) = some fr1 ∧ asB (evAnd wd conds fr1 (cs ++ [some (.lst acc)])) = .ok true (cs ++ [some (.lst acc)]) ∧ ev wd elt fr1 (cs ++ [some (.lst acc)]) = .ok (.d x) (cs' ++ [some (.lst acc)]) ∧ cs'.length = cs.length ∧ J (i + 1) cs' ∧ P x)
    (hK : i + ds.length ≤ K) (hl : ds.length < 16777216) : ∃ xs cs', ev wd (.lc elt it conds tg one own) fr cs = .ok (.d (.lst xs)) cs' ∧ xs.length = ds.length ∧ (∀ x ∈ xs, P x) ∧ J (i + ds.length) cs' ∧ cs'.length = c1.length := by
  obtain ⟨xs, cs', e1, e2, e3, e4, e5⟩ := lcGo_draw (tst := fun fr cs => asB (evAnd wd conds fr cs)) (elt := ev wd elt) (tg := tg) (one := one) (fr := wipeF fr (own.map (·.2))) K J P ds [] i c1 j h hK (by simpa using hl)
  refine ⟨xs, cs', ?_, e2, e3, e4, e5⟩
  rw [ev, hi, bind_ok, e1, nox_ok, bind_ok, ← e5]
  simp [lcEnd, celL]
theorem evL_lcD (K : Nat) (J : Nat → Cells → Prop) (P : D → Prop) (i : Nat) (hi : evI wd it fr cs = .ok ds c1) (j : J i c1) (h : ∀ d ∈ ds, ∀ (i : Nat) (cs : Cells) (acc : List D), i < K → J i cs → ∃ fr1 x cs', setTg tg one d (wipeF fr (own.map (·.2))) = some fr1 ∧ asB (evAnd wd conds fr1 (cs ++ [some (.lst acc)])) = .ok true (cs ++ [some (.lst acc)]) ∧ ev wd elt fr1 (cs ++ [some (.lst acc)]) = .ok (.d x) (cs' ++ [some (.lst acc)]) ∧ cs'.length = cs.length ∧ J (i + 1) cs' ∧ P x)
    (hK : i + ds.length ≤ K) (hl : ds.length < 16777216) : ∃ xs cs', evL wd (.lc elt it conds tg one own) fr cs = .ok () (cs' ++ [some (.lst xs)]) ∧ xs.length = ds.length ∧ (∀ x ∈ xs, P x) ∧ J (i + ds.length) cs' ∧ cs'.length = c1.length := by
  obtain ⟨xs, cs', e1, e2, e3, e4, e5⟩ := lcGo_draw (tst := fun fr cs => asB (evAnd wd conds fr cs)) (elt := ev wd elt) (tg := tg) (one := one) (fr := wipeF fr (own.map (·.2))) K J P ds [] i c1 j h hK (by simpa using hl)
  refine ⟨xs, cs', ?_, e2, e3, e4, e5⟩
  show (evI wd it fr cs).bind _ = _
  rw [hi, bind_ok, e1, nox_ok]
  simp
end
/-! ### statements that end in one of several ways -/
def RS.sat (r : RS) (N : Fra → Cells → Prop) (T : W → Cells → Prop) : Prop := match r with
  | .nx fr cs => N fr cs
  | .rt w cs => T w cs
  | _ => False
@[simp] theorem sat_nx (fr : Fra) (cs : Cells) (N : Fra → Cells → Prop) (T : W → Cells → Prop) : (RS.nx fr cs).sat N T ↔ N fr cs := Iff.rfl
@[simp] theorem sat_rt (w : W) (cs : Cells) (N : Fra → Cells → Prop) (T : W → Cells → Prop) : (RS.rt w cs).sat N T ↔ T w cs := Iff.rfl
theorem sat_bind {r : RS} {k : Fra → Cells → RS} {N M : Fra → Cells → Prop} {T : W → Cells → Prop} (h : r.sat M T) (hk : ∀ fr cs, M fr cs → (k fr cs).sat N T) : (r.bind k).sat N T := by
  cases r <;> first | exact hk _ _ h | exact h
theorem sat_imp {r : RS} {N M : Fra → Cells → Prop} {T U : W → Cells → Prop} (h : r.sat M T) (hn : ∀ fr cs, M fr cs → N fr cs) (ht : ∀ w cs, T w cs → U w cs) : r.sat N U := by
  cases r <;> first | exact hn _ _ h | exact ht _ _ h | exact h
theorem sat_for {f : Fra → Cells → RS} {tg : List Nat} {one : Bool} {N : Fra → Cells → Prop} {T : W → Cells → Prop} (I : List D → Fra → Cells → Prop)
    (hs : ∀ d ds fr cs, I (d :: ds) fr cs → ∃ fr1, setTg tg one d fr = some fr1 ∧ (f fr1 cs).sat (I ds) T) (he : ∀ fr cs, I [] fr cs → N fr cs) : ∀ (ds : List D) (fr : Fra) (cs : Cells), I ds fr cs → (forGo f tg one ds fr cs).sat N T
  | [], fr, cs, h => he fr cs h
  | d :: ds, fr, cs, h => by
    obtain ⟨fr1, e1, e2⟩ := hs d ds fr cs h
    rw [forGo, e1]
    show ((f fr1 cs).loop fun fr cs => forGo f tg one ds fr cs).sat N T
    cases e : f fr1 cs with
    | nx fr2 cs2 => rw [e] at e2; exact sat_for I hs he ds fr2 cs2 e2
    | rt w cs2 => rw [e] at e2; exact e2
    | bk _ _ => rw [e] at e2; exact e2.elim
    | ct _ _ => rw [e] at e2; exact e2.elim
    | ex _ _ _ _ => rw [e] at e2; exact e2.elim
    | bad => rw [e] at e2; exact e2.elim
theorem sat_endD {b : Nat} {r : RS} {N : Fra → Cells → Prop} {T : W → Cells → Prop} {Q : D → Cells → Prop} (h : r.sat N T) (hn : ∀ fr cs, N fr cs → Q .non (cs.take b)) (ht : ∀ w cs, T w cs → ∃ d, w = .d d ∧ Q d (cs.take b)) : ∃ d cs, endD b r = .ok d cs ∧ Q d cs := by
  cases r with
  | nx fr cs => exact ⟨_, _, rfl, hn _ _ h⟩
  | rt w cs => obtain ⟨d, rfl, q⟩ := ht _ _ h; exact ⟨_, _, rfl, q⟩
  | _ => exact h.elim
/-- a loop that computes: the frame stands for a state; k: the turns done, at most K -/
theorem for_fold {ι σ : Type} {f : Fra → Cells → RS} {tg : List Nat} {one : Bool} {cs : Cells} (K : Nat) (e : ι → D) (step : σ → ι → σ) (I : Nat → σ → Fra → Prop) : ∀ (l : List ι) (k : Nat) (s : σ) (fr : Fra),
    (∀ i ∈ l, ∀ k s fr, k < K → I k s fr → ∃ fr1 fr2, setTg tg one (e i) fr = some fr1 ∧ (f fr1 cs = .nx fr2 cs ∨ f fr1 cs = .ct fr2 cs) ∧ I (k + 1) (step s i) fr2) → k + l.length ≤ K → I k s fr → ∃ fr', forGo f tg one (l.map e) fr cs = .nx fr' cs ∧ I (k + l.length) (l.foldl step s) fr'
  | [], k, s, fr, _, _, h => ⟨fr, rfl, h⟩
  | i :: l, k, s, fr, hs, hk, h => by
    rw [List.length_cons] at hk
    obtain ⟨fr1, fr2, e1, e2, h2⟩ := hs i (List.mem_cons_self ..) k s fr (by omega) h
    obtain ⟨fr', q1, q2⟩ := for_fold K e step I l (k + 1) (step s i) fr2 (fun i hi => hs i (List.mem_cons_of_mem _ hi)) (by omega) h2
    refine ⟨fr', ?_, by rw [List.length_cons, show k + (l.length + 1) = k + 1 + l.length by omega]; exact q2⟩
    rw [List.map_cons, forGo, e1]
    rcases e2 with e2 | e2 <;> simp only [e2, loop_nx, loop_ct, q1]
/-- the same, cells too -/
theorem for_foldC {ι σ : Type} {f : Fra → Cells → RS} {tg : List Nat} {one : Bool} (K : Nat) (e : ι → D) (step : σ → ι → σ) (I : Nat → σ → Fra → Cells → Prop) : ∀ (l : List ι) (k : Nat) (s : σ) (fr : Fra) (cs : Cells),
    (∀ i ∈ l, ∀ k s fr cs, k < K → I k s fr cs → ∃ fr1 fr2 cs2, setTg tg one (e i) fr = some fr1 ∧ (f fr1 cs = .nx fr2 cs2 ∨ f fr1 cs = .ct fr2 cs2) ∧ I (k + 1) (step s i) fr2 cs2) → k + l.length ≤ K → I k s fr cs → ∃ fr' cs', forGo f tg one (l.map e) fr cs = .nx fr' cs' ∧ I (k + l.length) (l.foldl step s) fr' cs'
  | [], k, s, fr, cs, _, _, h => ⟨fr, cs, rfl, h⟩
  | i :: l, k, s, fr, cs, hs, hk, h => by
    rw [List.length_cons] at hk
    obtain ⟨fr1, fr2, cs2, e1, e2, h2⟩ := hs i (List.mem_cons_self ..) k s fr cs (by omega) h
    obtain ⟨fr', cs', q1, q2⟩ := for_foldC K e step I l (k + 1) (step s i) fr2 cs2 (fun i hi => hs i (List.mem_cons_of_mem _ hi)) (by omega) h2
    refine ⟨fr', cs', ?_, by rw [List.length_cons, show k + (l.length + 1) = k + 1 + l.length by omega]; exact q2⟩
    rw [List.map_cons, forGo, e1]
    rcases e2 with e2 | e2 <;> simp only [e2, loop_nx, loop_ct, q1]
/-- while v < L: v = v + 1 -/
theorem wh_up {t : Fra → Cells → R Bool} {f : Fra → Cells → RS} {cs : Cells} (L : Int) (I : Int → Fra → Prop) (ht : ∀ v fr, I v fr → t fr cs = .ok (decide (v < L)) cs) (hs : ∀ v fr, I v fr → v < L → ∃ fr2, f fr cs = .nx fr2 cs ∧ I (v + 1) fr2) :
    ∀ (n : Nat) (v : Int) (fr : Fra), (L - v).toNat < n → I v fr → ∃ fr', whGo t f n fr cs = .nx fr' cs ∧ I (if v < L then L else v) fr'
  | 0, v, fr, h, _ => absurd h (Nat.not_lt_zero _)
  | n + 1, v, fr, h, hi => by
    rw [whGo, ht v fr hi, onE_ok]
    by_cases hg : v < L
    · obtain ⟨fr2, e2, h2⟩ := hs v fr hi hg
      obtain ⟨fr', q1, q2⟩ := wh_up L I ht hs n (v + 1) fr2 (by omega) h2
      refine ⟨fr', by simp only [hg, decide_true, if_true, e2, loop_nx, q1], ?_⟩
      rw [if_pos hg]
      by_cases h3 : v + 1 < L
      · rwa [if_pos h3] at q2
      · rw [if_neg h3, show v + 1 = L by omega] at q2; exact q2
    · exact ⟨fr, by simp [hg], by rw [if_neg hg]; exact hi⟩
/-! ### drawn numbers -/
structure SrcAt (cs : Cells) (m : Nat) (t : Int) : Prop where
  ex : ∃ a b c : Int, cs[m]? = some (some (.lst [.int a, .int b, .int c])) ∧ 0 ≤ b ∧ b ≤ t ∧ 0 ≤ c
structure Drawn (m : Nat) (t : Int) (cs cs' : Cells) : Prop where
  lt : m < cs.length
  ex : ∃ a b c : Int, cs' = cs.set m (some (.lst [.int a, .int b, .int c])) ∧ 0 ≤ b ∧ b ≤ t ∧ 0 ≤ c
section
variable {m : Nat} {t t' : Int} {cs cs' cs'' : Cells}
theorem SrcAt.mono (h : SrcAt cs m t) (k : t ≤ t') : SrcAt cs m t' := by
  obtain ⟨a, b, c, e, h1, h2, h3⟩ := h.ex
  exact ⟨a, b, c, e, h1, by omega, h3⟩
theorem SrcAt.lt (h : SrcAt cs m t) : m < cs.length := by
  obtain ⟨a, b, c, e, _⟩ := h.ex
  exact (List.getElem?_eq_some_iff.mp e).1
theorem Drawn.src (h : Drawn m t cs cs') : SrcAt cs' m t := by
  obtain ⟨a, b, c, rfl, h1, h2, h3⟩ := h.ex
  exact ⟨a, b, c, List.getElem?_set_self h.lt, h1, h2, h3⟩
theorem Drawn.len (h : Drawn m t cs cs') : cs'.length = cs.length := by
  obtain ⟨a, b, c, rfl, _⟩ := h.ex
  simp
theorem Drawn.mono (h : Drawn m t cs cs') (k : t ≤ t') : Drawn m t' cs cs' := by
  obtain ⟨a, b, c, e, h1, h2, h3⟩ := h.ex
  exact ⟨h.lt, a, b, c, e, h1, by omega, h3⟩
theorem Drawn.trans (h : Drawn m t cs cs') (k : Drawn m t' cs' cs'') : Drawn m t' cs cs'' := by
  obtain ⟨a, b, c, rfl, h1, h2, h3⟩ := h.ex
  obtain ⟨a', b', c', rfl, h1', h2', h3'⟩ := k.ex
  exact ⟨h.lt, a', b', c', by rw [List.set_set], h1', h2', h3'⟩
theorem Drawn.refl (h : SrcAt cs m t) : Drawn m t cs cs := by
  obtain ⟨a, b, c, e, h1, h2, h3⟩ := h.ex
  obtain ⟨hl, he⟩ := List.getElem?_eq_some_iff.mp e
  exact ⟨hl, a, b, c, by rw [← he, List.set_getElem_self], h1, h2, h3⟩
theorem SrcAt.app {ext : Cells} (h : SrcAt cs m t) : SrcAt (cs ++ ext) m t := by
  obtain ⟨a, b, c, e, h1, h2, h3⟩ := h.ex
  exact ⟨a, b, c, app_get_lt e, h1, h2, h3⟩
theorem Drawn.app {ext : Cells} (h : Drawn m t (cs ++ ext) cs') (hm : m < cs.length) : ∃ c1, cs' = c1 ++ ext ∧ Drawn m t cs c1 := by
  obtain ⟨a, b, c, rfl, h1, h2, h3⟩ := h.ex
  exact ⟨_, by rw [List.set_append, if_pos hm], hm, a, b, c, rfl, h1, h2, h3⟩
theorem Drawn.get {n : Nat} {x : Option Cell} (h : Drawn m t cs cs') (hn : n ≠ m) : cs'[n]? = cs[n]? := by
  obtain ⟨a, b, c, rfl, _⟩ := h.ex
  rw [List.getElem?_set_ne (Ne.symm hn)]
end
/-! ### the draws of the laws -/
def sNext : S := (.cons (.ife (.cmp .Gt (.ix (.var 0) (.cst (.int 2))) (.cst (.int 0))) (.cons (.set 4 (.op .Mod (.ix (.var 0) (.cst (.int 2))) (.var 1))) (.cons (.put (.var 0) (.cst (.int 2)) (.op .FloorDiv (.ix (.var 0) (.cst (.int 2))) (.var 1))) (.cons (.ret (.var 4)) .nil))) .nil) (.cons (.put (.var 0) (.cst (.int 1)) (.op .Add (.ix (.var 0) (.cst (.int 1))) (.cst (.int 1)))) (.cons (.set 3 (.lst (.cons (.cst (.int 2147483647)) (.cons (.cst (.int 2147483629)) (.cons (.cst (.int 2147483587)) (.cons (.cst (.int 2147483579)) (.cons (.cst (.int 2147483563)) (.cons (.cst (.int 2147483549)) (.cons (.cst (.int 2147483543)) (.cons (.cst (.int 2147483497)) .nil)))))))))) (.cons (.set 2 (.ix (.op .Add (.var 3) (.lst (.cons (.cst (.int 2147483489)) (.cons (.cst (.int 2147483477)) (.cons (.cst (.int 2147483423)) .nil))))) (.op .Mod (.ix (.var 0) (.cst (.int 1))) (.cst (.int 11))))) (.cons (.ret (.op .Mod (.op .FloorDiv (.op .Mod (.op .Pow (.op .Add (.op .Add (.op .Mod (.ix (.var 0) (.cst (.int 0))) (.var 2)) (.op .Mult (.cst (.int 7919)) (.ix (.var 0) (.cst (.int 1))))) (.cst (.int 1))) (.cst (.int 5))) (.var 2)) (.cst (.int 13))) (.var 1))) .nil)))))
def primes : List D := [.int 2147483647, .int 2147483629, .int 2147483587, .int 2147483579, .int 2147483563, .int 2147483549, .int 2147483543, .int 2147483497, .int 2147483489, .int 2147483477, .int 2147483423]
theorem prime_at {k : Int} (h0 : 0 ≤ k) (h : k < 11) : ∃ p : Int, atI primes k = some (.int p) ∧ 0 < p ∧ p < 2147483648 := by
  have : k = 0 ∨ k = 1 ∨ k = 2 ∨ k = 3 ∨ k = 4 ∨ k = 5 ∨ k = 6 ∨ k = 7 ∨ k = 8 ∨ k = 9 ∨ k = 10 := by omega
  rcases this with rfl | rfl | rfl | rfl | rfl | rfl | rfl | rfl | rfl | rfl | rfl <;> exact ⟨_, rfl, by decide, by decide⟩
theorem wIx_at {xs : List D} {i : Int} {d : D} {cs : Cells} (h : atI xs i = some d) : wIx (.d (.lst xs)) (.d (.int i)) cs = .ok (.d d) cs := by
  simp [wIx, dl, h]
theorem wIx_loc {m : Nat} {xs : List D} {i : Int} {d : D} {cs : Cells} (e : cs[m]? = some (some (.lst xs))) (h : atI xs i = some d) : wIx (.loc m) (.d (.int i)) cs = .ok (.d d) cs := by
  simp [wIx, dl, celL, e, h]
theorem putR_loc {m : Nat} {xs : List D} {i : Int} {d : D} {k : Nat} {cs : Cells} {fr : Fra} (e : cs[m]? = some (some (.lst xs))) (h : ixN xs.length i = some k) : putR fr (.d d) (.loc m) (.d (.int i)) cs = .nx fr (cs.set m (some (.lst (xs.set k d)))) := by
  simp [putR, celL, e, h]
@[simp] theorem at0 (x y z : D) : atI [x, y, z] 0 = some x := rfl
@[simp] theorem at1 (x y z : D) : atI [x, y, z] 1 = some y := rfl
@[simp] theorem at2 (x y z : D) : atI [x, y, z] 2 = some z := rfl
theorem next_run {wd : Wd} {n m : Nat} {t many : Int} {cs : Cells} (h : SrcAt cs m t) (ht : t ≤ 1000000) (hm : 0 < many) (hm2 : many ≤ 1000000) :
    ∃ (r : Int) (cs' : Cells), fnRun wd n sNext 5 [.loc m, .d (.int many)] cs = .ok (.int r) cs' ∧ Drawn m (t + 1) cs cs' ∧ 0 ≤ r ∧ r < many := by
  obtain ⟨a, b, c, e, hb, hbt, hc⟩ := h.ex
  have hlt := (List.getElem?_eq_some_iff.mp e).1
  unfold fnRun sNext
  by_cases hc0 : 0 < c
  · refine ⟨c % many, cs.set m (some (.lst [.int a, .int b, .int (c / many)])), ?_, ⟨hlt, a, b, _, rfl, hb, by omega, Int.ediv_nonneg hc (by omega)⟩, Int.emod_nonneg _ (by omega), Int.emod_lt_of_pos _ hm⟩
    simp [exS, ev, wIx_loc e, hc0, wOp_mod hm, wOp_div hm (by omega), putR_loc (i := 2) (k := 2) e rfl]
  · have hk0 : 0 ≤ (b + 1) % 11 := Int.emod_nonneg _ (by decide)
    have hk1 : (b + 1) % 11 < 11 := Int.emod_lt_of_pos _ (by decide)
    obtain ⟨p, hp, hp0, hp1⟩ := prime_at hk0 hk1
    have e2 : (cs.set m (some (Cell.lst [.int a, .int (b + 1), .int c])))[m]? = some (some (.lst [.int a, .int (b + 1), .int c])) := set_get e
    have q0 : 0 ≤ a % p := Int.emod_nonneg _ (by omega)
    have q1 : a % p < p := Int.emod_lt_of_pos _ hp0
    refine ⟨((a % p + 7919 * (b + 1) + 1) ^ 5 % p / 13) % many, cs.set m (some (.lst [.int a, .int (b + 1), .int c])), ?_, ⟨hlt, a, _, _, rfl, by omega, by omega, hc⟩, Int.emod_nonneg _ (by omega), Int.emod_lt_of_pos _ hm⟩
    have hadd : wOp .Add (.d (.lst [.int 2147483647, .int 2147483629, .int 2147483587, .int 2147483579, .int 2147483563, .int 2147483549, .int 2147483543, .int 2147483497])) (.d (.lst [.int 2147483489, .int 2147483477, .int 2147483423])) (cs.set m (some (Cell.lst [.int a, .int (b + 1), .int c]))) = .ok (.d (.lst primes)) (cs.set m (some (Cell.lst [.int a, .int (b + 1), .int c]))) := by
      simp [wOp, wAdd, dlt, lit, primes]
    simp [exS, ev, evA, wIx_loc e, wIx_loc e2, hc0, putR_loc (i := 1) (k := 1) e rfl, lstW, pureDs, lit, hadd, wOp_mod (show (0 : Int) < 11 by decide), wIx_at hp, wOp_mod hp0, wOp_mod hm, wOp_mul (i := 7919) (j := b + 1) (by decide) (by omega), wOp_pow (i := a % p + 7919 * (b + 1) + 1) (j := 5) (by decide) (by decide) (by omega), wOp_div (j := 13) (by decide) (by decide)]
end BV

namespace BV
open PySem L2
theorem toPyL_ints : ∀ ns : List Int, toPyL (ns.map D.int) = some (ns.map PyData.int)
  | [] => rfl
  | n :: ns => by
    have h := toPyL_ints ns
    rw [List.map_cons, toPyL, h]
    rfl
theorem shaped_ints (ns : List Int) : SeqAt.shaped (.list (ns.map PyData.int)) = true := by
  have h1 : ∀ ns : List Int, PyData.canLayAll0 (ns.map PyData.int) = true := fun ns => by
    induction ns with
    | nil => rfl
    | cons n ns ih => rw [List.map_cons, PyData.canLayAll0, ih]; rfl
  have h2 : ∀ ns : List Int, PyData.depthAll (ns.map PyData.int) ≤ 1 := fun ns => by
    induction ns with
    | nil => decide
    | cons n ns ih => rw [List.map_cons, PyData.depthAll]; exact Nat.max_le.mpr ⟨Nat.zero_le _, ih⟩
  simp only [SeqAt.shaped, PyData.canLay0, PyData.depth, h1, Bool.true_and, decide_eq_true_eq]
  have h3 := h2 ns
  refine decide_eq_true ?_
  omega
def sSource : S := (.cons (.set 2 (.ife (.cmp .NotEq (.var 0) (.lst .nil)) (.ix (.var 0) (.op .Mod (.var 1) (.bi .len (.cons (.var 0) .nil)))) (.cst (.int 1)))) (.cons (.retL (.lst (.cons (.var 2) (.cons (.op .Mult (.cst (.int 3)) (.var 1)) (.cons (.ife (.cmp .GtE (.var 2) (.op .Pow (.cst (.int 10)) (.cst (.int 18)))) (.op .FloorDiv (.var 2) (.op .Pow (.cst (.int 10)) (.cst (.int 18)))) (.cst (.int 0))) .nil))))) .nil))
theorem atI_ints {ns : List Int} {k : Int} (h0 : 0 ≤ k) (h : k < ns.length) : ∃ a : Int, atI (ns.map D.int) k = some (.int a) := by
  refine ⟨ns[k.toNat]'(by omega), ?_⟩
  unfold L2.atI L2.ixN
  rw [if_pos h0, if_pos (by rw [List.length_map]; exact h)]
  simp
theorem source_run {wd : Wd} {n : Nat} {ns : List Int} {k : Int} {cs : Cells} (h0 : 0 ≤ k) (h : k ≤ 1000) :
    ∃ a c : Int, fnRunL wd n sSource 3 [.d (.flst (ns.map D.int)), .d (.int k)] cs = .ok () (cs ++ [some (.lst [.int a, .int (3 * k), .int c])]) ∧ 0 ≤ c := by
  have hne : wCmp .NotEq (.d (.flst (ns.map D.int))) (.d (.lst [])) cs = .ok (.d (.bl (!PyData.eqv (.list (ns.map PyData.int)) (.list [])))) cs :=
    wCmp_ne (by simp [wPy, toPy, toPyL_ints]) (by simp [wPy, toPy, toPyL]) (shaped_ints ns) (shaped_ints [])
  obtain ⟨a, ha⟩ : ∃ a : Int, (onE [some (W.d (.flst (ns.map D.int))), some (.d (.int k)), none] (ev wd (.ife (.cmp .NotEq (.var 0) (.lst .nil)) (.ix (.var 0) (.op .Mod (.var 1) (.bi .len (.cons (.var 0) .nil)))) (.cst (.int 1))) [some (W.d (.flst (ns.map D.int))), some (.d (.int k)), none] cs) fun w c1 => .nx ([some (W.d (.flst (ns.map D.int))), some (.d (.int k)), none].set 2 (some w)) c1) = .nx [some (W.d (.flst (ns.map D.int))), some (.d (.int k)), some (.d (.int a))] cs := by
    by_cases hn : ns = []
    · refine ⟨1, ?_⟩
      subst hn
      simp at hne
      simp [ev, evA, lstW, pureDs, lit, hne, PyData.eqv, PyData.eqvAll]
    · have hpos : (0 : Int) < ns.length := by
        have := List.length_pos_iff.mpr hn
        omega
      have hf : PyData.eqv (.list (ns.map PyData.int)) (.list []) = false := by
        cases ns with
        | nil => exact absurd rfl hn
        | cons n ns => rfl
      obtain ⟨a, ea⟩ := atI_ints (ns := ns) (k := k % ns.length) (Int.emod_nonneg _ (by omega)) (Int.emod_lt_of_pos _ hpos)
      refine ⟨a, ?_⟩
      rw [hf] at hne
      simp [ev, evA, lstW, pureDs, lit, hne, wBi, dl, wOp_mod hpos, wIx, ea]
  have h18 : ((10 : Int) ^ (18 : Int).toNat) = 1000000000000000000 := by decide
  refine ⟨a, if 1000000000000000000 ≤ a then a / 1000000000000000000 else 0, ?_, ?_⟩
  · unfold fnRunL sSource
    simp only [exS, startF_eq, List.map_cons, List.map_nil, List.length_cons, List.length_nil, List.cons_append, List.nil_append, List.replicate, ha, sbind_nx]
    by_cases hc : 1000000000000000000 ≤ a
    · simp [evL, ev, evA, lstL, wOp_mul (i := 3) (j := k) (by decide) (by omega), wOp_pow (i := 10) (j := 18) (by decide) (by decide) (by decide), h18, hc, wOp_div (i := a) (j := 1000000000000000000) (by decide) (by decide), pureDs, lit, retL]
    · simp [evL, ev, evA, lstL, wOp_mul (i := 3) (j := k) (by decide) (by omega), wOp_pow (i := 10) (j := 18) (by decide) (by decide) (by decide), h18, hc, pureDs, lit, retL]
  · split
    · exact Int.ediv_nonneg (by omega) (by decide)
    · decide
/-- f is the law's next -/
structure Nx (wd : Wd) (f : Nat) : Prop where
  pat : wd.pat f 0 = some (2, [], [.p 0, .p 1])
  run : ∀ {m : Nat} {t many : Int} {cs : Cells}, SrcAt cs m t → t ≤ 1000000 → 0 < many → many ≤ 1000000 → ∃ (r : Int) (cs' : Cells), wd.phi f [.loc m, .d (.int many)] cs = .ok (.int r) cs' ∧ Drawn m (t + 1) cs cs' ∧ 0 ≤ r ∧ r < many
theorem ev_next {wd : Wd} {f i m : Nat} {t many : Int} {e : E} {fr : Fra} {cs : Cells} (N : Nx wd f) (hi : fr[i]? = some (some (.loc m))) (he : ev wd e fr cs = .ok (.d (.int many)) cs) (h : SrcAt cs m t) (ht : t ≤ 1000000) (h0 : 0 < many) (h1 : many ≤ 1000000) :
    ∃ (r : Int) (cs' : Cells), ev wd (.call f 0 (.cons (.var i) (.cons e .nil)) .nil) fr cs = .ok (.d (.int r)) cs' ∧ Drawn m (t + 1) cs cs' ∧ 0 ≤ r ∧ r < many := by
  obtain ⟨r, cs', e1, e2⟩ := N.run h ht h0 h1
  refine ⟨r, cs', ?_, e2⟩
  simp [ev, evA, hi, he, N.pat, srcs, callW, e1]
def sPick (f : Nat) : S := (.cons (.ret (.ix (.var 1) (.call f 0 (.cons (.var 0) (.cons (.bi .len (.cons (.var 1) .nil)) .nil)) .nil))) .nil)
theorem pick_str {wd : Wd} {n f m : Nat} {t : Int} {z : Str} {cs : Cells} (N : Nx wd f) (h : SrcAt cs m t) (ht : t ≤ 1000000) (h0 : 0 < z.length) (h1 : z.length ≤ 1000000) :
    ∃ (c : Nat) (cs' : Cells), fnRun wd n (sPick f) 2 [.loc m, .d (.str z)] cs = .ok (.str ⟨#[c]⟩) cs' ∧ Drawn m (t + 1) cs cs' ∧ c ∈ z.cps.toList := by
  have hl : wBi .len [.d (.str z)] cs = .ok (.d (.int z.length)) cs := by simp [wBi, lit, show z.length ≤ 16777216 by omega]
  obtain ⟨r, cs', e1, e2, e3, e4⟩ := ev_next (fr := [some (.loc m), some (.d (.str z))]) (i := 0) (e := .bi .len (.cons (.var 1) .nil)) (many := z.length) N rfl (by simp [ev, evA, hl]) h ht (by omega) (by omega)
  have hr : r.toNat < z.cps.toList.length := by rw [Array.length_toList]; unfold Str.length at e4; omega
  refine ⟨z.cps.toList[r.toNat], cs', ?_, e2, List.getElem_mem hr⟩
  have ha : atI z.cps.toList r = some z.cps.toList[r.toNat] := by
    unfold L2.atI L2.ixN
    rw [if_pos e3, if_pos (by omega)]
    simp
  have hz : z.length ≤ lit := by unfold lit; omega
  unfold fnRun sPick
  simp [exS, ev, evA] at e1 ⊢
  rw [e1]
  simp [wIx, hz, ha, ← e2.len]
theorem pick_lst {wd : Wd} {n f m : Nat} {t : Int} {xs : List D} {cs : Cells} (N : Nx wd f) (h : SrcAt cs m t) (ht : t ≤ 1000000) (h0 : 0 < xs.length) (h1 : xs.length ≤ 1000000) :
    ∃ (x : D) (cs' : Cells), fnRun wd n (sPick f) 2 [.loc m, .d (.lst xs)] cs = .ok x cs' ∧ Drawn m (t + 1) cs cs' ∧ x ∈ xs := by
  have hl : wBi .len [.d (.lst xs)] cs = .ok (.d (.int xs.length)) cs := by simp [wBi, dl]
  obtain ⟨r, cs', e1, e2, e3, e4⟩ := ev_next (fr := [some (.loc m), some (.d (.lst xs))]) (i := 0) (e := .bi .len (.cons (.var 1) .nil)) (many := xs.length) N rfl (by simp [ev, evA, hl]) h ht (by omega) (by omega)
  have hr : r.toNat < xs.length := by omega
  refine ⟨xs[r.toNat], cs', ?_, e2, List.getElem_mem hr⟩
  have ha : atI xs r = some xs[r.toNat] := by
    unfold L2.atI L2.ixN
    rw [if_pos e3, if_pos (by omega)]
    simp
  unfold fnRun sPick
  simp [exS, ev, evA] at e1 ⊢
  rw [e1]
  simp [wIx, dl, ha, ← e2.len]
/-- f is the law's pick -/
structure Pk (wd : Wd) (f : Nat) : Prop where
  pat : wd.pat f 0 = some (2, [], [.p 0, .p 1])
  str : ∀ {m : Nat} {t : Int} {z : Str} {cs : Cells}, SrcAt cs m t → t ≤ 1000000 → 0 < z.length → z.length ≤ 1000000 → ∃ (c : Nat) (cs' : Cells), wd.phi f [.loc m, .d (.str z)] cs = .ok (.str ⟨#[c]⟩) cs' ∧ Drawn m (t + 1) cs cs' ∧ c ∈ z.cps.toList
  lst : ∀ {m : Nat} {t : Int} {xs : List D} {cs : Cells}, SrcAt cs m t → t ≤ 1000000 → 0 < xs.length → xs.length ≤ 1000000 → ∃ (x : D) (cs' : Cells), wd.phi f [.loc m, .d (.lst xs)] cs = .ok x cs' ∧ Drawn m (t + 1) cs cs' ∧ x ∈ xs
theorem ev_pickS {wd : Wd} {f i m : Nat} {t : Int} {z : Str} {e : E} {fr : Fra} {cs : Cells} (N : Pk wd f) (hi : fr[i]? = some (some (.loc m))) (he : ev wd e fr cs = .ok (.d (.str z)) cs) (h : SrcAt cs m t) (ht : t ≤ 1000000) (h0 : 0 < z.length) (h1 : z.length ≤ 1000000) :
    ∃ (c : Nat) (cs' : Cells), ev wd (.call f 0 (.cons (.var i) (.cons e .nil)) .nil) fr cs = .ok (.d (.str ⟨#[c]⟩)) cs' ∧ Drawn m (t + 1) cs cs' ∧ c ∈ z.cps.toList := by
  obtain ⟨r, cs', e1, e2⟩ := N.str h ht h0 h1
  refine ⟨r, cs', ?_, e2⟩
  simp [ev, evA, hi, he, N.pat, srcs, callW, e1]
theorem ev_pickL {wd : Wd} {f i m : Nat} {t : Int} {xs : List D} {e : E} {fr : Fra} {cs : Cells} (N : Pk wd f) (hi : fr[i]? = some (some (.loc m))) (he : ev wd e fr cs = .ok (.d (.lst xs)) cs) (h : SrcAt cs m t) (ht : t ≤ 1000000) (h0 : 0 < xs.length) (h1 : xs.length ≤ 1000000) :
    ∃ (x : D) (cs' : Cells), ev wd (.call f 0 (.cons (.var i) (.cons e .nil)) .nil) fr cs = .ok (.d x) cs' ∧ Drawn m (t + 1) cs cs' ∧ x ∈ xs := by
  obtain ⟨r, cs', e1, e2⟩ := N.lst h ht h0 h1
  refine ⟨r, cs', ?_, e2⟩
  simp [ev, evA, hi, he, N.pat, srcs, callW, e1]
/-! texts of single signs, joined -/
theorem strsOf_map (l : List Nat) : strsOf (l.map fun c => D.str ⟨#[c]⟩) = some (l.map fun c => ⟨#[c]⟩) := by
  induction l with
  | nil => rfl
  | cons c l ih => rw [List.map_cons, strsOf, ih]; rfl
end BV

namespace BV
open PySem L2
/-! ### names and labels -/
/-- a comprehension over what stands for the items of l -/
theorem lcGo_fun {ι : Type} {tst : Fra → Cells → R Bool} {elt : Fra → Cells → R W} {tg : List Nat} {one : Bool} {fr : Fra} {cs : Cells} (e f : ι → D) (p : ι → Bool) : ∀ (l : List ι) (acc : List D),
    (∀ i ∈ l, ∃ fr1, setTg tg one (e i) fr = some fr1 ∧ ∀ acc, tst fr1 (cs ++ [some (.lst acc)]) = .ok (p i) (cs ++ [some (.lst acc)]) ∧ (p i = true → elt fr1 (cs ++ [some (.lst acc)]) = .ok (.d (f i)) (cs ++ [some (.lst acc)]))) → acc.length + l.length < 16777216 →
    lcGo tst elt tg one fr cs.length (l.map e) (cs ++ [some (.lst acc)]) = .ok () (cs ++ [some (.lst (acc ++ (l.filter p).map f))])
  | [], acc, _, _ => by simp [lcGo]
  | d :: ds, acc, h, hl => by
    obtain ⟨fr1, e1, e2⟩ := h d (List.mem_cons_self ..)
    obtain ⟨e3, e4⟩ := e2 acc
    have hl' : acc.length + 1 + ds.length < 16777216 := by simp at hl; omega
    have hlt : acc.length < lit := by unfold lit; omega
    rw [List.map_cons, lcGo, e1]
    simp only [lcTurn, e3, nox_ok, bind_ok]
    cases hp : p d with
    | false =>
      rw [if_neg (by simp), bind_ok, List.filter_cons_of_neg (by simp [hp])]
      exact lcGo_fun e f p ds acc (fun d hd => h d (List.mem_cons_of_mem _ hd)) (by omega)
    | true =>
      rw [if_pos rfl, e4 hp, nox_ok, bind_ok, List.filter_cons_of_pos (by simp [hp])]
      have : lcAdd cs.length (.d (f d)) (cs ++ [some (.lst acc)]) = .ok () (cs ++ [some (.lst (acc ++ [f d]))]) := by
        simp [lcAdd, celL, hlt]
      rw [this, bind_ok, lcGo_fun e f p ds (acc ++ [f d]) (fun d hd => h d (List.mem_cons_of_mem _ hd)) (by rw [List.length_append]; simp; omega)]
      simp
theorem ev_lcF {ι : Type} {wd : Wd} {elt it : E} {tg : List Nat} {one : Bool} {own : List (Str × Nat)} {fr : Fra} {cs c1 : Cells} (l : List ι) (e f : ι → D) (hi : evI wd it fr cs = .ok (l.map e) c1)
    (h : ∀ i ∈ l, ∃ fr1, setTg tg one (e i) (wipeF fr (own.map (·.2))) = some fr1 ∧ ∀ acc, ev wd elt fr1 (c1 ++ [some (.lst acc)]) = .ok (.d (f i)) (c1 ++ [some (.lst acc)])) (hl : l.length < 16777216) :
    ev wd (.lc elt it .nil tg one own) fr cs = .ok (.d (.lst (l.map f))) c1 := by
  rw [ev, hi, bind_ok, lcGo_fun e f (fun _ => true) l [] (fun i hi => ?_) (by simpa using hl)]
  · have : l.filter (fun _ => true) = l := List.filter_eq_self.mpr fun _ _ => rfl
    rw [this]
    simp [lcEnd, celL]
  · obtain ⟨fr1, e1, e2⟩ := h i hi
    exact ⟨fr1, e1, fun acc => ⟨by simp [evAnd], fun _ => e2 acc⟩⟩
theorem ev_lcP {ι : Type} {wd : Wd} {elt it conds : E} {tg : List Nat} {one : Bool} {own : List (Str × Nat)} {fr : Fra} {cs c1 : Cells} (l : List ι) (e f : ι → D) (p : ι → Bool) (hi : evI wd it fr cs = .ok (l.map e) c1)
    (h : ∀ i ∈ l, ∃ fr1, setTg tg one (e i) (wipeF fr (own.map (·.2))) = some fr1 ∧ ∀ acc, asB (evAnd wd conds fr1 (c1 ++ [some (.lst acc)])) = .ok (p i) (c1 ++ [some (.lst acc)]) ∧ (p i = true → ev wd elt fr1 (c1 ++ [some (.lst acc)]) = .ok (.d (f i)) (c1 ++ [some (.lst acc)]))) (hl : l.length < 16777216) :
    ev wd (.lc elt it conds tg one own) fr cs = .ok (.d (.lst ((l.filter p).map f))) c1 := by
  rw [ev, hi, bind_ok, lcGo_fun e f p l [] h (by simpa using hl)]
  simp [lcEnd, celL]
def sIsName : S := (.cons (.ife (.or (.cons (.not (.isi (.var 0) [.b "str"] false)) (.cons (.not (.chain .LtE .LtE (.cst (.int 1)) (.bi .len (.cons (.var 0) .nil)) (.gv "MAX_NAME"))) .nil))) (.cons (.ret (.cst (.bl false))) .nil) .nil) (.cons (.ret (.bi .all (.cons (.lc (.cmp .In (.var 1) (.gv "LETTERS")) (.its (.var 0)) .nil [1] true [("sign", 1)]) .nil))) .nil))
def letters : Str := "abcdefghijklmnopqrstuvwxyz"
def signs (x : Str) : List Nat := x.cps.toList
theorem letters_eq : signs letters = [97, 98, 99, 100, 101, 102, 103, 104, 105, 106, 107, 108, 109, 110, 111, 112, 113, 114, 115, 116, 117, 118, 119, 120, 121, 122] := by decide +kernel
theorem mem_letters (c : Nat) : c ∈ signs letters ↔ 97 ≤ c ∧ c ≤ 122 := by
  rw [letters_eq]
  simp only [List.mem_cons, List.not_mem_nil, or_false]
  omega
def isNameB (x : Str) : Bool := decide (1 ≤ (x.length : Int)) && decide ((x.length : Int) ≤ 8) && (signs x).all fun c => decide (97 ≤ c ∧ c ≤ 122)
theorem blsOf_map {α : Type} (f : α → Bool) (l : List α) : blsOf (l.map fun c => D.bl (f c)) = some (l.map f) := by
  induction l with
  | nil => rfl
  | cons c l ih => rw [List.map_cons, blsOf, ih]; rfl
@[simp] theorem bl_in_sign (c : Nat) (z : Str) (cs : Cells) : wCmp .In (.d (.str ⟨#[c]⟩)) (.d (.str z)) cs = .ok (.d (.bl (decide (c ∈ signs z)))) cs := rfl
theorem isName_run {wd : Wd} {n : Nat} {x : Str} {cs : Cells} (g1 : wd.gd "MAX_NAME" = some (.int 8)) (g2 : wd.gd "LETTERS" = some (.str letters)) (k : wd.kit (.b "str") (.b "str") = some true) (hl : x.length ≤ 16777215) :
    fnRun wd n sIsName 2 [.d (.str x)] cs = .ok (.bl (isNameB x)) cs := by
  unfold fnRun sIsName isNameB
  have hlen : wBi .len [.d (.str x)] cs = .ok (.d (.int x.length)) cs := by simp [wBi, lit, show x.length ≤ 16777216 by omega]
  by_cases h1 : 1 ≤ (x.length : Int)
  · by_cases h2 : (x.length : Int) ≤ 8
    · have hc : ev wd (.lc (.cmp .In (.var 1) (.gv "LETTERS")) (.its (.var 0)) .nil [1] true [("sign", 1)]) [some (.d (.str x)), none] cs = .ok (.d (.lst ((signs x).map fun c => D.bl (decide (c ∈ signs letters))))) cs :=
        ev_lcF (signs x) (fun c => .str ⟨#[c]⟩) _ (by simp [evI, ev, strD, signs]) (fun c _ => ⟨_, rfl, fun acc => by simp [wipeF, ev, g2]⟩) (by unfold signs; rw [Array.length_toList]; unfold Str.length at hl; omega)
      simp [exS, ev, evOr, evA, wIsi, kitAnyD, k, hlen, g1, h1, h2] at hc ⊢
      rw [hc]
      simp only [bind_ok]
      rw [wBi]
      simp only [dl, Option.bind_some, blsOf_map]
      have e : ((signs x).map fun c => decide (c ∈ signs letters)).all id = (signs x).all fun c => decide (97 ≤ c) && decide (c ≤ 122) := by
        rw [List.all_map]
        congr 1
        funext c
        simp [mem_letters]
      simp [e]
      all_goals (intros; simp_all)
    · simp [exS, ev, evOr, evA, wIsi, kitAnyD, k, hlen, g1, h1, h2]
  · simp [exS, ev, evOr, evA, wIsi, kitAnyD, k, hlen, g1, h1]
end BV

namespace BV
open PySem L2
theorem tx_lit_sp : Tx (" " : Str) 1 := .lit (by decide +kernel)
theorem signs_app (x y : Str) : signs (x ++ y) = signs x ++ signs y := by
  show (x.cps ++ y.cps).toList = _
  rw [Array.toList_append]; rfl
theorem signs_len (x : Str) : (signs x).length = x.length := Array.length_toList
theorem signs_inj {x y : Str} : signs x = signs y ↔ x = y := by
  refine ⟨fun h => ?_, fun h => by rw [h]⟩
  cases x; cases y
  simp only [signs] at h
  rw [Array.toList_inj.mp h]
theorem signs_mk (l : List Nat) : signs ⟨l.toArray⟩ = l := rfl
theorem signs_last (z : Str) : signs (cutS z (some (-1)) none) = (signs z).drop (z.length - 1) := by
  have hz : (signs z).length = z.length := signs_len z
  show ((z.cps.toList.drop (HT.sIx z.length 0 (some (-1)))).take (HT.sIx z.length z.length none - HT.sIx z.length 0 (some (-1)))) = _
  have e1 : HT.sIx z.length 0 (some (-1)) = z.length - 1 := by simp only [HT.sIx]; split <;> omega
  have e2 : HT.sIx z.length z.length none = z.length := rfl
  rw [e1, e2]
  show ((signs z).drop _).take _ = _
  rw [List.take_of_length_le]
  rw [List.length_drop, hz]
  omega
theorem signs_butlast (z : Str) : signs (cutS z none (some (-1))) = (signs z).dropLast := by
  have hz : (signs z).length = z.length := signs_len z
  show ((z.cps.toList.drop (HT.sIx z.length 0 none)).take (HT.sIx z.length z.length (some (-1)) - HT.sIx z.length 0 none)) = _
  have e1 : HT.sIx z.length z.length (some (-1)) = z.length - 1 := by simp only [HT.sIx]; split <;> omega
  have e2 : HT.sIx z.length 0 none = 0 := rfl
  rw [e1, e2, List.drop_zero, Nat.sub_zero, List.dropLast_eq_take, ← hz]
  rfl
theorem one_lt (c d : Nat) : decide ([c] < [d]) = decide (c < d) := by
  rw [decide_eq_decide, List.cons_lt_cons_iff]
  simp
def sIsLabel : S := (.cons (.ife (.or (.cons (.not (.isi (.var 0) [.b "str"] false)) (.cons (.cmp .Gt (.bi .len (.cons (.var 0) .nil)) (.gv "MAX_LABEL")) (.cons (.cmp .Eq (.sl (.var 0) (.cons (.neg (.cst (.int 1))) .nil) .nil) (.cst (.str " "))) .nil)))) (.cons (.ret (.cst (.bl false))) .nil) .nil) (.cons (.ret (.bi .all (.cons (.lc (.and (.cons (.chain .LtE .LtE (.cst (.str " ")) (.var 1) (.cst (.str "~"))) (.cons (.cmp .NotEq (.var 1) (.gv "QUOTE")) .nil))) (.its (.var 0)) .nil [1] true [("sign", 1)]) .nil))) .nil))
def labelSign (c : Nat) : Bool := decide (32 ≤ c) && decide (c ≤ 126) && !decide (c = 34)
def isLabelB (x : Str) : Bool := decide (x.length ≤ 12) && !decide ((signs x).drop (x.length - 1) = [32]) && (signs x).all labelSign
theorem sp_eq : (" " : Str) = ⟨#[32]⟩ := by decide +kernel
theorem til_eq : ("~" : Str) = ⟨#[126]⟩ := by decide +kernel
theorem quote_eq : ("\"" : Str) = ⟨#[34]⟩ := by decide +kernel
theorem str_beq (x y : Str) : (x == y) = decide (signs x = signs y) := by
  rw [Bool.eq_iff_iff, beq_iff_eq, decide_eq_true_eq, signs_inj]
theorem isLabel_run {wd : Wd} {n m : Nat} {x : Str} {cs : Cells} (g1 : wd.gd "MAX_LABEL" = some (.int 12)) (g2 : wd.gd "QUOTE" = some (.str "\"")) (k : wd.kit (.b "str") (.b "str") = some true) (hx : Tx x m) (hl : m ≤ 16777215) :
    fnRun wd n sIsLabel 2 [.d (.str x)] cs = .ok (.bl (isLabelB x)) cs := by
  have hl : x.length ≤ 16777215 := Nat.le_trans hx.len hl
  unfold fnRun sIsLabel isLabelB
  have hlen : wBi .len [.d (.str x)] cs = .ok (.d (.int x.length)) cs := by simp [wBi, lit, show x.length ≤ 16777216 by omega]
  have hcut : Tx (cutS x (some (-1)) none) m := ⟨Nat.le_trans (cutS_length _ _ _) hx.len, fun c hc => hx.sm c (by
    have h := signs_last x
    unfold signs at h
    rw [h] at hc
    exact List.mem_of_mem_drop hc)⟩
  have heq : wCmp .Eq (.d (.str (cutS x (some (-1)) none))) (.d (.str " ")) cs = .ok (.d (.bl (decide ((signs x).drop (x.length - 1) = [32])))) cs := by
    rw [wCmp_eq (p := .str (cutS x (some (-1)) none)) (q := .str " ") rfl rfl (shaped_str hcut) (shaped_str tx_lit_sp), eqv_str, str_beq, signs_last, sp_eq]
    rfl
  by_cases h1 : x.length ≤ 12
  · have h1' : ¬ (12 : Int) < x.length := by omega
    by_cases h2 : (signs x).drop (x.length - 1) = [32]
    · simp [exS, ev, evO, evOr, evA, wIsi, kitAnyD, k, hlen, g1, h1, h1', wSl, lit, show x.length ≤ 16777216 by omega, heq, h2]
    · have hc : ev wd (.lc (.and (.cons (.chain .LtE .LtE (.cst (.str " ")) (.var 1) (.cst (.str "~"))) (.cons (.cmp .NotEq (.var 1) (.gv "QUOTE")) .nil))) (.its (.var 0)) .nil [1] true [("sign", 1)]) [some (.d (.str x)), none] cs = .ok (.d (.lst ((signs x).map fun c => D.bl (labelSign c)))) cs :=
        ev_lcF (signs x) (fun c => .str ⟨#[c]⟩) _ (by simp [evI, ev, strD, signs]) (fun c hc => ⟨_, rfl, fun acc => by
          have hq : Tx ⟨#[c]⟩ 1 := ⟨by simp [Str.length], fun d hd => by simp at hd; subst hd; exact hx.sm d hc⟩
          have hq2 : Tx ("\"" : Str) 1 := .lit (by decide +kernel)
          have e3 : ∀ cs, wCmp .NotEq (.d (.str ⟨#[c]⟩)) (.d (.str "\"")) cs = .ok (.d (.bl (!decide (c = 34)))) cs := fun cs => by
            rw [wCmp_ne (p := .str ⟨#[c]⟩) (q := .str "\"") rfl rfl (shaped_str hq) (shaped_str hq2), eqv_str, str_beq, quote_eq]
            simp [signs]
          have e4 : ∀ cs, wCmp .LtE (.d (.str " ")) (.d (.str ⟨#[c]⟩)) cs = .ok (.d (.bl (decide (32 ≤ c)))) cs := fun cs => by
            rw [sp_eq]
            simp only [wCmp, wOrd, one_lt]
            by_cases q : 32 ≤ c <;> simp [q, Nat.not_lt.mpr, Nat.lt_of_not_le]
          have e5 : ∀ cs, wCmp .LtE (.d (.str ⟨#[c]⟩)) (.d (.str "~")) cs = .ok (.d (.bl (decide (c ≤ 126)))) cs := fun cs => by
            rw [til_eq]
            simp only [wCmp, wOrd, one_lt]
            by_cases q : c ≤ 126 <;> simp [q, Nat.not_lt.mpr, Nat.lt_of_not_le]
          by_cases q1 : 32 ≤ c
          · by_cases q2 : c ≤ 126
            · simp [wipeF, ev, evAnd, g2, e3, e4, e5, q1, q2, labelSign]
            · simp [wipeF, ev, evAnd, g2, e3, e4, e5, q1, q2, labelSign]
          · simp [wipeF, ev, evAnd, g2, e3, e4, e5, q1, labelSign]⟩) (by rw [signs_len]; omega)
      simp [exS, ev, evO, evOr, evA, wIsi, kitAnyD, k, hlen, g1, h1, h1', wSl, lit, show x.length ≤ 16777216 by omega, heq, h2] at hc ⊢
      rw [hc]
      simp only [bind_ok]
      rw [wBi]
      simp only [dl, Option.bind_some, blsOf_map]
      have e : ((signs x).map labelSign).all id = (signs x).all labelSign := by rw [List.all_map]; rfl
      simp [e]
  · have h1' : (12 : Int) < x.length := by omega
    simp [exS, ev, evOr, evA, wIsi, kitAnyD, k, hlen, g1, h1, h1']
end BV

namespace BV
open PySem L2
/-! ### two generators; texts of numbers -/
theorem lcGo2_fun {ι κ : Type} {tst : Fra → Cells → R Bool} {it1 : Fra → Cells → R (List D)} {tst1 : Fra → Cells → R Bool} {elt : Fra → Cells → R W} {tg tg1 : List Nat} {one one1 : Bool} {fr : Fra} {cs : Cells} (e : ι → D) (g : ι → List κ) (e1 f : ι → κ → D) : ∀ (l : List ι) (acc : List D),
    (∀ i ∈ l, (g i).length ≤ 1000 ∧ ∃ fr1, setTg tg one (e i) fr = some fr1 ∧ ∀ acc, tst fr1 (cs ++ [some (.lst acc)]) = .ok true (cs ++ [some (.lst acc)]) ∧ it1 fr1 (cs ++ [some (.lst acc)]) = .ok ((g i).map (e1 i)) (cs ++ [some (.lst acc)]) ∧
      ∀ k ∈ g i, ∃ fr2, setTg tg1 one1 (e1 i k) (wipeF fr1 tg1) = some fr2 ∧ ∀ acc, tst1 fr2 (cs ++ [some (.lst acc)]) = .ok true (cs ++ [some (.lst acc)]) ∧ elt fr2 (cs ++ [some (.lst acc)]) = .ok (.d (f i k)) (cs ++ [some (.lst acc)])) → acc.length + l.length * 1000 < 16777216 →
    lcGo2 tst it1 tst1 elt tg one tg1 one1 fr cs.length (l.map e) (cs ++ [some (.lst acc)]) = .ok () (cs ++ [some (.lst (acc ++ l.flatMap fun i => (g i).map (f i)))])
  | [], acc, _, _ => by simp [lcGo2]
  | d :: ds, acc, h, hl => by
    obtain ⟨hg, fr1, e1', e2⟩ := h d (List.mem_cons_self ..)
    obtain ⟨e3, e4, e5⟩ := e2 acc
    rw [List.length_cons] at hl
    rw [List.map_cons, lcGo2, e1']
    simp only [lcTurn2, e3, nox_ok, bind_ok, if_true, e4]
    rw [lcGo_fun (e1 d) (f d) (fun _ => true) (g d) acc (fun k hk => by
      obtain ⟨fr2, q1, q2⟩ := e5 k hk
      exact ⟨fr2, q1, fun acc => ⟨(q2 acc).1, fun _ => (q2 acc).2⟩⟩) (by omega)]
    have hf : (g d).filter (fun _ => true) = g d := List.filter_eq_self.mpr fun _ _ => rfl
    rw [hf, bind_ok, lcGo2_fun e g e1 f ds (acc ++ (g d).map (f d)) (fun d hd => h d (List.mem_cons_of_mem _ hd)) (by rw [List.length_append, List.length_map]; omega)]
    simp
theorem ev_lc2F {ι κ : Type} {wd : Wd} {elt it it1 : E} {tg tg1 : List Nat} {one one1 : Bool} {own : List (Str × Nat)} {fr : Fra} {cs c1 : Cells} (l : List ι) (e : ι → D) (g : ι → List κ) (e1 f : ι → κ → D) (hi : evI wd it fr cs = .ok (l.map e) c1)
    (h : ∀ i ∈ l, (g i).length ≤ 1000 ∧ ∃ fr1, setTg tg one (e i) (wipeF fr (own.map (·.2))) = some fr1 ∧ ∀ acc, evI wd it1 fr1 (c1 ++ [some (.lst acc)]) = .ok ((g i).map (e1 i)) (c1 ++ [some (.lst acc)]) ∧
      ∀ k ∈ g i, ∃ fr2, setTg tg1 one1 (e1 i k) (wipeF fr1 tg1) = some fr2 ∧ ∀ acc, ev wd elt fr2 (c1 ++ [some (.lst acc)]) = .ok (.d (f i k)) (c1 ++ [some (.lst acc)])) (hl : l.length ≤ 1000) :
    ev wd (.lc2 elt it .nil it1 .nil tg one tg1 one1 own) fr cs = .ok (.d (.lst (l.flatMap fun i => (g i).map (f i)))) c1 := by
  rw [ev, hi, bind_ok, lcGo2_fun e g e1 f l [] (fun i hi => ?_) (by simp; omega)]
  · simp [lcEnd, celL]
  · obtain ⟨h0, fr1, h1, h2⟩ := h i hi
    exact ⟨h0, fr1, h1, fun acc => ⟨by simp [evAnd], (h2 acc).1, fun k hk => by
      obtain ⟨fr2, q1, q2⟩ := (h2 acc).2 k hk
      exact ⟨fr2, q1, fun acc => ⟨by simp [evAnd], q2 acc⟩⟩⟩⟩
def numS (i : Int) : Str := Str.ofString (toString i)
theorem tx_num {i : Int} (h0 : 0 ≤ i) (h : i ≤ 9) : Tx (numS i) 1 := by
  have : i = 0 ∨ i = 1 ∨ i = 2 ∨ i = 3 ∨ i = 4 ∨ i = 5 ∨ i = 6 ∨ i = 7 ∨ i = 8 ∨ i = 9 := by omega
  rcases this with rfl | rfl | rfl | rfl | rfl | rfl | rfl | rfl | rfl | rfl <;> exact .lit (by decide +kernel)
theorem empty_app (x : Str) : Str.empty ++ x = x := by
  rw [← signs_inj, signs_app]; rfl
theorem app_assoc (x y z : Str) : x ++ y ++ z = x ++ (y ++ z) := by
  rw [← signs_inj]; simp [signs_app]
theorem wStr_num {i : Int} (h : i.natAbs < 18446744073709551616) (cs : Cells) : wBi .str [.d (.int i)] cs = .ok (.d (.str (numS i))) cs := by
  have := log2_64 h
  simp [wBi, show i.natAbs.log2 < 1920 by omega, numS]
theorem wFmt_num {i : Int} (h : i.natAbs < 18446744073709551616) (cs : Cells) : fmtW (.d (.int i)) cs = .ok (.d (.str (numS i))) cs := by
  have := log2_64 h
  simp [fmtW, show i.natAbs.log2 < 1920 by omega, numS]
theorem wFmt_str {x : Str} {n : Nat} (h : Tx x n) (hn : n ≤ 16777216) (cs : Cells) : fmtW (.d (.str x)) cs = .ok (.d (.str x)) cs := by
  simp [fmtW, lit, show x.length ≤ 16777216 from Nat.le_trans h.len hn]
theorem evJ_cons {wd : Wd} {a as : E} {acc y : Str} {n m : Nat} {fr : Fra} {c1 : Cells} (h : ev wd a fr c1 = .ok (.d (.str y)) c1) (h1 : Tx acc n) (h2 : Tx y m) (h3 : n + m ≤ 16777216) : evJ wd (.cons a as) acc fr c1 = evJ wd as (acc ++ y) fr c1 := by
  have := (h1.app h2).len
  rw [evJ, h, bind_ok]
  exact if_pos (Nat.le_trans this h3)
theorem wOp_catT {x y : Str} {n m : Nat} (h1 : Tx x n) (h2 : Tx y m) (h : n + m ≤ 16777216) (cs : Cells) : wOp .Add (.d (.str x)) (.d (.str y)) cs = .ok (.d (.str (x ++ y))) cs :=
  wOp_cat (Nat.le_trans (Nat.add_le_add h1.len h2.len) h) cs
theorem rngD0 (k : Int) : rngD 0 k = (List.range k.toNat).map fun i => D.int (i : Nat) := by
  unfold rngD
  simp
end BV

namespace BV
open PySem L2
/-! ### how long a repr is -/
mutual
def rsz : PyData → Nat
  | .none => 4
  | .bool _ => 5
  | .int i => (numS i).length
  | .str x => 10 * x.length + 2
  | .list xs => rszAll xs + 3
  | .tuple xs => rszAll xs + 4
  | .dict kvs => (PyData.shown (.dict kvs)).length
def rszAll : List PyData → Nat
  | [] => 0
  | x :: xs => rsz x + 2 + rszAll xs
end
theorem textFrom_le : ∀ (ts : List Str) (k : Nat) (acc : Str), (textFrom k acc ts).length ≤ acc.length + piled ts
  | [], k, acc => by rw [piled_nil]; exact Nat.le_refl _
  | t :: r, k, acc => by
    have h := textFrom_le r (k + 1) (acc ++ (if k > 0 then ", " else "" : String) ++ t)
    have e : (acc ++ (if k > 0 then ", " else "" : String) ++ t).length ≤ acc.length + 2 + t.length := by
      rw [Str.length_append, Str.length_append]
      split
      · exact Nat.le_refl _
      · show acc.length + 0 + t.length ≤ _
        omega
    rw [piled_cons]
    show (textFrom (k + 1) _ r).length ≤ _
    omega
theorem listText_le (ts : List Str) : (listText ts).length ≤ piled ts + 3 := by
  have := textFrom_le ts 0 "["
  unfold listText
  rw [Str.length_append]
  have e1 : ((("[" : String) : Str)).length = 1 := rfl
  have e2 : ((("]" : String) : Str)).length = 1 := rfl
  omega
theorem tupleText_le (ts : List Str) : (tupleText ts).length ≤ piled ts + 4 := by
  unfold tupleText
  rw [Str.length_append, Str.length_append]
  have e1 : ((("(" : String) : Str)).length = 1 := rfl
  have e3 : (((if ts.length == 1 then ",)" else ")" : String) : Str)).length ≤ 2 := by split <;> decide
  cases ts with
  | nil =>
    have e4 : (Str.join ", " []).length = 0 := rfl
    omega
  | cons t ts =>
    have := join_length_add (t :: ts) (by simp)
    omega
mutual
theorem shown_le : ∀ d : PyData, d.canLay0 = true → d.shown.length ≤ rsz d
  | .none, _ => by decide
  | .bool b, _ => by cases b <;> decide
  | .int i, _ => by unfold PyData.shown rsz; exact Nat.le_refl _
  | .str x, h => by
    unfold PyData.shown rsz
    refine PySem.StrLaws.reprText_len x fun c hc => ?_
    have h : PyData.strOk x = true := by simpa [PyData.canLay0] using h
    unfold PyData.strOk at h
    rw [← Array.all_toList, List.all_eq_true] at h
    have := of_decide_eq_true (h c hc)
    exact Nat.lt_trans this (by decide)
  | .list xs, h => by
    have := shownAll_le xs (by simpa [PyData.canLay0] using h)
    have h2 := listText_le (PyData.shownAll xs)
    unfold PyData.shown rsz
    omega
  | .tuple xs, h => by
    have := shownAll_le xs (by simpa [PyData.canLay0] using h)
    have h2 := tupleText_le (PyData.shownAll xs)
    unfold PyData.shown rsz
    omega
  | .dict kvs, _ => by unfold rsz; exact Nat.le_refl _
theorem shownAll_le : ∀ xs : List PyData, PyData.canLayAll0 xs = true → piled (PyData.shownAll xs) ≤ rszAll xs
  | [], _ => by unfold PyData.shownAll rszAll; rw [piled_nil]; exact Nat.le_refl _
  | x :: xs, h => by
    simp only [PyData.canLayAll0, Bool.and_eq_true] at h
    have h1 := shown_le x h.1
    have h2 := shownAll_le xs h.2
    unfold PyData.shownAll rszAll
    rw [piled_cons]
    omega
end
theorem repW_ok {w : W} {p : PyData} {cs : Cells} (h : wPr cs w = some p) (h1 : p.showable = true) (h2 : p.depth ≤ 60) (h3 : p.canLay0 = true) (h4 : rsz p ≤ 16777216) : repW w cs = .ok (.d (.str p.shown)) cs := by
  have := shown_le p h3
  simp [repW, h, h1, h2, lit, show p.shown.length ≤ 16777216 by omega]
@[simp] theorem wCmp_eq_int (i j : Int) (cs : Cells) : wCmp .Eq (.d (.int i)) (.d (.int j)) cs = .ok (.d (.bl (i == j))) cs := wCmp_eq (p := .int i) (q := .int j) rfl rfl rfl rfl
@[simp] theorem wCmp_ne_int (i j : Int) (cs : Cells) : wCmp .NotEq (.d (.int i)) (.d (.int j)) cs = .ok (.d (.bl (!(i == j)))) cs := wCmp_ne (p := .int i) (q := .int j) rfl rfl rfl rfl
theorem wCmp_eq_str {x y : Str} {m k : Nat} (hx : Tx x m) (hy : Tx y k) (cs : Cells) : wCmp .Eq (.d (.str x)) (.d (.str y)) cs = .ok (.d (.bl (x == y))) cs := wCmp_eq (p := .str x) (q := .str y) rfl rfl (shaped_str hx) (shaped_str hy)
theorem wCmp_ne_str {x y : Str} {m k : Nat} (hx : Tx x m) (hy : Tx y k) (cs : Cells) : wCmp .NotEq (.d (.str x)) (.d (.str y)) cs = .ok (.d (.bl (!(x == y)))) cs := wCmp_ne (p := .str x) (q := .str y) rfl rfl (shaped_str hx) (shaped_str hy)
theorem wCmp_eq_ints (l m : List Int) (cs : Cells) : wCmp .Eq (.d (.lst (l.map .int))) (.d (.lst (m.map .int))) cs = .ok (.d (.bl (decide (l = m)))) cs := by
  rw [wCmp_eq (p := .list (l.map .int)) (q := .list (m.map .int)) (by simp [wPy, toPy, toPyL_ints]) (by simp [wPy, toPy, toPyL_ints]) (shaped_ints l) (shaped_ints m)]
  congr 3
  show PyData.eqvAll _ _ = _
  induction l generalizing m with
  | nil => cases m <;> rfl
  | cons i l ih => cases m with
    | nil => rfl
    | cons k m =>
      rw [List.map_cons, List.map_cons, PyData.eqvAll, ih m, eqv_int]
      by_cases h : i = k <;> simp [h]
theorem wCmp_ne_ints (l m : List Int) (cs : Cells) : wCmp .NotEq (.d (.lst (l.map .int))) (.d (.lst (m.map .int))) cs = .ok (.d (.bl (!decide (l = m)))) cs := by
  have h := wCmp_eq_ints l m cs
  rw [wCmp_eq (p := .list (l.map .int)) (q := .list (m.map .int)) (by simp [wPy, toPy, toPyL_ints]) (by simp [wPy, toPy, toPyL_ints]) (shaped_ints l) (shaped_ints m)] at h
  rw [wCmp_ne (p := .list (l.map .int)) (q := .list (m.map .int)) (by simp [wPy, toPy, toPyL_ints]) (by simp [wPy, toPy, toPyL_ints]) (shaped_ints l) (shaped_ints m)]
  simp only [R.ok.injEq, W.d.injEq, D.bl.injEq, and_true] at h
  rw [h]
theorem strsOf_strs (l : List Str) : strsOf (l.map D.str) = some l := by
  induction l with
  | nil => rfl
  | cons x l ih => rw [List.map_cons, strsOf, ih]; rfl
theorem join_snoc (sep : Str) : ∀ (q : List Str) (y : Str), q ≠ [] → Str.join sep (q ++ [y]) = Str.join sep q ++ sep ++ y
  | [], _, h => absurd rfl h
  | [x], y, _ => rfl
  | x :: z :: r, y, _ => by
    show x ++ sep ++ Str.join sep (z :: r ++ [y]) = (x ++ sep ++ Str.join sep (z :: r)) ++ sep ++ y
    rw [join_snoc sep (z :: r) y (by simp)]
    simp only [app_assoc]
theorem joinLen_le {m : Nat} : ∀ l : List Str, (∀ x ∈ l, Tx x m) → joinLen l ≤ l.length * m
  | [], _ => Nat.zero_le _
  | x :: l, h => by
    have h1 := joinLen_le l fun y hy => h y (List.mem_cons_of_mem _ hy)
    have h2 := (h x (List.mem_cons_self ..)).len
    unfold joinLen at h1 ⊢
    rw [List.map_cons, List.sum_cons, List.length_cons, Nat.succ_mul]
    omega
theorem wBm_join {sep : Str} {w2 : W} {ys : List Str} {cs : Cells} (h : (seqOf cs w2).bind strsOf = some ys) (hl : joinLen ys + ys.length * sep.length ≤ 16777216) : wBm .join (.d (.str sep)) [w2] cs = .ok (.d (.str (Str.join sep ys))) cs := by
  simp only [wBm, h]
  rw [if_pos hl]
  show R.ok (W.d (D.str (Builtin.Str.glued sep ys))) cs = _
  rw [PySem.StrLaws.glued_eq_join]
theorem wBm_append {m : Nat} {xs : List D} {d : D} {cs : Cells} (h : cs[m]? = some (some (.lst xs))) (hl : xs.length < 16777216) : wBm .append (.loc m) [.d d] cs = .ok (.d .non) (cs.set m (some (.lst (xs ++ [d])))) := by
  simp only [wBm, celL, h]
  exact if_pos hl
@[simp] theorem wTy_join (x : Str) (cs : Cells) : wTy .join (.d (.str x)) cs = true := rfl
/-! tuples and lists of texts -/
theorem toPyL_strs (l : List Str) : toPyL (l.map D.str) = some (l.map PyData.str) := by
  induction l with
  | nil => rfl
  | cons x l ih => rw [List.map_cons, toPyL, ih]; rfl
theorem strs_facts {m : Nat} : ∀ l : List Str, (∀ x ∈ l, Tx x m) → PyData.canLayAll0 (l.map PyData.str) = true ∧ PyData.showableAll (l.map PyData.str) = true ∧ PyData.depthAll (l.map PyData.str) = 0 ∧ rszAll (l.map PyData.str) ≤ l.length * (10 * m + 4)
  | [], _ => ⟨rfl, rfl, rfl, Nat.zero_le _⟩
  | x :: l, h => by
    obtain ⟨h1, h2, h3, h4⟩ := strs_facts l fun y hy => h y (List.mem_cons_of_mem _ hy)
    have hx := h x (List.mem_cons_self ..)
    refine ⟨?_, ?_, ?_, ?_⟩
    · rw [List.map_cons, PyData.canLayAll0, PyData.canLay0, hx.ok, h1]; rfl
    · rw [List.map_cons, PyData.showableAll, h2]; rfl
    · rw [List.map_cons, PyData.depthAll, h3]; rfl
    · rw [List.map_cons, rszAll, rsz]
      have := hx.len
      have e : (x :: l).length * (10 * m + 4) = l.length * (10 * m + 4) + (10 * m + 4) := by rw [List.length_cons, Nat.succ_mul]
      omega
end BV

namespace BV
open PySem L2
/-! ### the signs of a repr -/
def SOk (x : Str) : Prop := ∀ c ∈ signs x, c < 1114112
theorem SOk.ok {x : Str} (h : SOk x) : PyData.strOk x = true := by
  unfold PyData.strOk
  rw [← Array.all_toList, List.all_eq_true]
  intro c hc
  exact decide_eq_true (h c hc)
theorem sok_of {x : Str} (h : PyData.strOk x = true) : SOk x := fun c hc => by
  unfold PyData.strOk at h
  rw [← Array.all_toList, List.all_eq_true] at h
  exact of_decide_eq_true (h c hc)
theorem SOk.app {x y : Str} (h : SOk x) (k : SOk y) : SOk (x ++ y) := fun c hc => by
  rw [signs_app, List.mem_append] at hc
  exact hc.elim (h c) (k c)
theorem char_lt (c : Char) : c.toNat < 1114112 := by
  have h := c.valid
  show c.val.toNat < 1114112
  rcases h with h | ⟨_, h⟩
  · exact Nat.lt_trans h (by decide)
  · exact h
theorem sok_ofString (s : String) : SOk (Str.ofString s) := fun c hc => by
  rw [Str.ofString_eq_toList] at hc
  have hc : c ∈ s.toList.map Char.toNat := by simpa [signs] using hc
  obtain ⟨d, _, rfl⟩ := List.mem_map.mp hc
  exact char_lt d
theorem reprChar_ok (q c : Nat) (hc : c < 1114112) : ∀ d ∈ Builtin.Str.reprChar q c, d < 1114112 := by
  have hex : ∀ w, ∀ d ∈ List.replicate (w - ((Nat.toDigits 16 c).map Char.toNat).length) 48 ++ (Nat.toDigits 16 c).map Char.toNat, d < 1114112 := fun w d hd => by
    rcases List.mem_append.mp hd with hd | hd
    · rw [(List.mem_replicate.mp hd).2]; decide
    · obtain ⟨e, _, rfl⟩ := List.mem_map.mp hd
      exact char_lt e
  intro d hd
  unfold Builtin.Str.reprChar at hd
  dsimp only at hd
  repeat' split at hd
  all_goals first
    | (simp only [List.mem_cons, List.not_mem_nil, or_false] at hd; omega)
    | (rcases List.mem_append.mp hd with hd | hd
       · simp only [List.mem_cons, List.not_mem_nil, or_false] at hd; omega
       · exact hex _ d hd)
theorem reprText_ok {x : Str} (h : SOk x) : SOk (reprText x) := by
  have hq : reprQuote x < 1114112 := by unfold reprQuote; split <;> decide
  have fold : ∀ (l : List Nat) (acc : Array Nat), (∀ c ∈ l, c < 1114112) → (∀ c ∈ acc.toList, c < 1114112) → ∀ c ∈ (l.foldl (fun out c => out ++ (Builtin.Str.reprChar (reprQuote x) c).toArray) acc).toList, c < 1114112 := by
    intro l
    induction l with
    | nil => intro acc _ ha; exact ha
    | cons d l ih =>
      intro acc hl ha
      rw [List.foldl_cons]
      refine ih _ (fun c hc => hl c (List.mem_cons_of_mem _ hc)) fun c hc => ?_
      rw [Array.toList_append, List.mem_append] at hc
      rcases hc with hc | hc
      · exact ha c hc
      · exact reprChar_ok _ d (hl d (List.mem_cons_self ..)) c hc
  intro c hc
  unfold reprText signs at hc
  rw [Array.toList_push, List.mem_append, ← Array.foldl_toList] at hc
  rcases hc with hc | hc
  · exact fold x.cps.toList #[reprQuote x] h (fun d hd => by simp at hd; omega) c hc
  · simp at hc; omega
theorem textFrom_ok : ∀ (ts : List Str) (k : Nat) (acc : Str), (∀ t ∈ ts, SOk t) → SOk acc → SOk (textFrom k acc ts)
  | [], k, acc, _, h => h
  | t :: ts, k, acc, h, ha => textFrom_ok ts (k + 1) _ (fun u hu => h u (List.mem_cons_of_mem _ hu)) ((ha.app (sok_ofString _)).app (h t (List.mem_cons_self ..)))
theorem sok_empty : SOk Str.empty := fun c hc => by cases hc
theorem join_ok {sep : Str} (hs : SOk sep) : ∀ ts : List Str, (∀ t ∈ ts, SOk t) → SOk (Str.join sep ts)
  | [], _ => sok_empty
  | [x], h => h x (List.mem_cons_self ..)
  | x :: y :: r, h => ((h x (List.mem_cons_self ..)).app hs).app (join_ok hs (y :: r) fun t ht => h t (List.mem_cons_of_mem _ ht))
mutual
theorem shown_ok : ∀ d : PyData, d.canLay0 = true → SOk d.shown
  | .none, _ => by unfold PyData.shown; exact sok_ofString _
  | .bool b, _ => by unfold PyData.shown; split <;> exact sok_ofString _
  | .int i, _ => by unfold PyData.shown; exact sok_ofString _
  | .str x, h => by
    unfold PyData.shown
    exact reprText_ok (sok_of (by simpa [PyData.canLay0] using h))
  | .list xs, h => by
    unfold PyData.shown listText
    exact (textFrom_ok _ _ _ (shownAll_ok xs (by simpa [PyData.canLay0] using h)) (sok_ofString _)).app (sok_ofString _)
  | .tuple xs, h => by
    unfold PyData.shown tupleText
    exact ((sok_ofString _).app (join_ok (sok_ofString _) _ (shownAll_ok xs (by simpa [PyData.canLay0] using h)))).app (sok_ofString _)
  | .dict kvs, h => by simp [PyData.canLay0] at h
theorem shownAll_ok : ∀ xs : List PyData, PyData.canLayAll0 xs = true → ∀ t ∈ PyData.shownAll xs, SOk t
  | [], _ => fun t ht => by unfold PyData.shownAll at ht; cases ht
  | x :: xs, h => fun t ht => by
    simp only [PyData.canLayAll0, Bool.and_eq_true] at h
    unfold PyData.shownAll at ht
    rcases List.mem_cons.mp ht with rfl | ht
    · exact shown_ok x h.1
    · exact shownAll_ok xs h.2 t ht
end
theorem shaped_strO {x : Str} (h : SOk x) : SeqAt.shaped (.str x) = true := by
  simp [SeqAt.shaped, PyData.canLay0, h.ok, PyData.depth]
/-- repr(a) == repr(b) -/
theorem cmp_rep {p q : PyData} (h1 : p.canLay0 = true) (h2 : q.canLay0 = true) (cs : Cells) : wCmp .NotEq (.d (.str p.shown)) (.d (.str q.shown)) cs = .ok (.d (.bl (!(p.shown == q.shown)))) cs :=
  wCmp_ne (p := .str p.shown) (q := .str q.shown) rfl rfl (shaped_strO (shown_ok p h1)) (shaped_strO (shown_ok q h2))
end BV

namespace K38
open PySem L2 BV
@[simp] theorem pat_1_0 : tab.st.pat 1 0 = some (1, ([] : List Str), ([.p 0] : List Src)) := by kernel_rfl
@[simp] theorem pat_2_0 : tab.st.pat 2 0 = some (5, ([] : List Str), ([.p 0, .p 1, .p 2, .p 3, .p 4] : List Src)) := by kernel_rfl
@[simp] theorem pat_2_1 : tab.st.pat 2 1 = some (1, (["x", "y", "width", "height"] : List Str), ([.p 0, .k 0, .k 1, .k 2, .k 3] : List Src)) := by kernel_rfl
@[simp] theorem pat_3_0 : tab.st.pat 3 0 = some (2, ([] : List Str), ([.p 0, .p 1] : List Src)) := by kernel_rfl
@[simp] theorem pat_4_0 : tab.st.pat 4 0 = some (1, ([] : List Str), ([.p 0] : List Src)) := by kernel_rfl
@[simp] theorem pat_5_0 : tab.st.pat 5 0 = some (2, ([] : List Str), ([.p 0, .p 1] : List Src)) := by kernel_rfl
@[simp] theorem pat_6_0 : tab.st.pat 6 0 = some (2, ([] : List Str), ([.p 0, .p 1] : List Src)) := by kernel_rfl
@[simp] theorem pat_7_0 : tab.st.pat 7 0 = some (2, ([] : List Str), ([.p 0, .p 1] : List Src)) := by kernel_rfl
@[simp] theorem pat_9_0 : tab.st.pat 9 0 = some (1, (["other"] : List Str), ([.p 0, .k 0] : List Src)) := by kernel_rfl
@[simp] theorem pat_10_0 : tab.st.pat 10 0 = some (1, ([] : List Str), ([.p 0] : List Src)) := by kernel_rfl
@[simp] theorem pat_12_0 : tab.st.pat 12 0 = some (2, ([] : List Str), ([.p 0, .p 1] : List Src)) := by kernel_rfl
@[simp] theorem pat_13_0 : tab.st.pat 13 0 = some (1, (["other"] : List Str), ([.p 0, .k 0] : List Src)) := by kernel_rfl
@[simp] theorem pat_14_0 : tab.st.pat 14 0 = some (1, ([] : List Str), ([.p 0] : List Src)) := by kernel_rfl
@[simp] theorem pat_20_0 : tab.st.pat 20 0 = some (1, ([] : List Str), ([.p 0] : List Src)) := by kernel_rfl
@[simp] theorem npar_0 : tab.st.npar 0 = 1 := by kernel_rfl
@[simp] theorem npar_1 : tab.st.npar 1 = 1 := by kernel_rfl
@[simp] theorem npar_2 : tab.st.npar 2 = 5 := by kernel_rfl
@[simp] theorem npar_3 : tab.st.npar 3 = 2 := by kernel_rfl
@[simp] theorem npar_4 : tab.st.npar 4 = 1 := by kernel_rfl
@[simp] theorem npar_5 : tab.st.npar 5 = 2 := by kernel_rfl
@[simp] theorem npar_6 : tab.st.npar 6 = 2 := by kernel_rfl
@[simp] theorem npar_7 : tab.st.npar 7 = 2 := by kernel_rfl
@[simp] theorem npar_8 : tab.st.npar 8 = 2 := by kernel_rfl
@[simp] theorem npar_9 : tab.st.npar 9 = 2 := by kernel_rfl
@[simp] theorem npar_10 : tab.st.npar 10 = 1 := by kernel_rfl
@[simp] theorem npar_11 : tab.st.npar 11 = 1 := by kernel_rfl
@[simp] theorem npar_12 : tab.st.npar 12 = 2 := by kernel_rfl
@[simp] theorem npar_13 : tab.st.npar 13 = 2 := by kernel_rfl
@[simp] theorem npar_14 : tab.st.npar 14 = 1 := by kernel_rfl
@[simp] theorem npar_15 : tab.st.npar 15 = 2 := by kernel_rfl
@[simp] theorem npar_16 : tab.st.npar 16 = 1 := by kernel_rfl
@[simp] theorem npar_17 : tab.st.npar 17 = 1 := by kernel_rfl
@[simp] theorem npar_18 : tab.st.npar 18 = 1 := by kernel_rfl
@[simp] theorem npar_19 : tab.st.npar 19 = 1 := by kernel_rfl
@[simp] theorem npar_20 : tab.st.npar 20 = 1 := by kernel_rfl
@[simp] theorem init_0 : tab.st.init 0 = some 2 := by kernel_rfl
@[simp] theorem init_1 : tab.st.init 1 = none := by kernel_rfl
@[simp] theorem init_2 : tab.st.init 2 = none := by kernel_rfl
@[simp] theorem init_3 : tab.st.init 3 = none := by kernel_rfl
@[simp] theorem init_4 : tab.st.init 4 = none := by kernel_rfl
@[simp] theorem init_5 : tab.st.init 5 = none := by kernel_rfl
@[simp] theorem init_6 : tab.st.init 6 = none := by kernel_rfl
@[simp] theorem init_7 : tab.st.init 7 = none := by kernel_rfl
@[simp] theorem init_8 : tab.st.init 8 = none := by kernel_rfl
@[simp] theorem init_9 : tab.st.init 9 = none := by kernel_rfl
@[simp] theorem init_10 : tab.st.init 10 = none := by kernel_rfl
@[simp] theorem init_11 : tab.st.init 11 = none := by kernel_rfl
@[simp] theorem init_12 : tab.st.init 12 = none := by kernel_rfl
@[simp] theorem meth_0_is_inside : tab.st.meth 0 "is_inside" = some 9 := by kernel_rfl
@[simp] theorem meth_0_overlaps : tab.st.meth 0 "overlaps" = some 13 := by kernel_rfl
@[simp] theorem prop_0_height : tab.st.prop 0 "height" = some 16 := by kernel_rfl
@[simp] theorem prop_0_missing : tab.st.prop 0 "missing" = none := by kernel_rfl
@[simp] theorem fldk_0_missing : tab.st.fldk 0 "missing" = true := by kernel_rfl
@[simp] theorem prop_0_own_key : tab.st.prop 0 "own_key" = none := by kernel_rfl
@[simp] theorem fldk_0_own_key : tab.st.fldk 0 "own_key" = true := by kernel_rfl
@[simp] theorem prop_0_width : tab.st.prop 0 "width" = some 17 := by kernel_rfl
@[simp] theorem prop_0_x : tab.st.prop 0 "x" = some 18 := by kernel_rfl
@[simp] theorem prop_0_y : tab.st.prop 0 "y" = some 19 := by kernel_rfl
@[simp] theorem prop_1_height : tab.st.prop 1 "height" = none := by kernel_rfl
@[simp] theorem prop_1_missing : tab.st.prop 1 "missing" = none := by kernel_rfl
@[simp] theorem prop_1_own_key : tab.st.prop 1 "own_key" = none := by kernel_rfl
@[simp] theorem prop_1_width : tab.st.prop 1 "width" = none := by kernel_rfl
@[simp] theorem prop_1_x : tab.st.prop 1 "x" = none := by kernel_rfl
@[simp] theorem prop_1_y : tab.st.prop 1 "y" = none := by kernel_rfl
@[simp] theorem prop_2_height : tab.st.prop 2 "height" = none := by kernel_rfl
@[simp] theorem prop_2_missing : tab.st.prop 2 "missing" = none := by kernel_rfl
@[simp] theorem prop_2_own_key : tab.st.prop 2 "own_key" = none := by kernel_rfl
@[simp] theorem prop_2_width : tab.st.prop 2 "width" = none := by kernel_rfl
@[simp] theorem prop_2_x : tab.st.prop 2 "x" = none := by kernel_rfl
@[simp] theorem prop_2_y : tab.st.prop 2 "y" = none := by kernel_rfl
@[simp] theorem prop_3_height : tab.st.prop 3 "height" = none := by kernel_rfl
@[simp] theorem prop_3_missing : tab.st.prop 3 "missing" = none := by kernel_rfl
@[simp] theorem prop_3_own_key : tab.st.prop 3 "own_key" = none := by kernel_rfl
@[simp] theorem prop_3_width : tab.st.prop 3 "width" = none := by kernel_rfl
@[simp] theorem prop_3_x : tab.st.prop 3 "x" = none := by kernel_rfl
@[simp] theorem prop_3_y : tab.st.prop 3 "y" = none := by kernel_rfl
@[simp] theorem prop_4_height : tab.st.prop 4 "height" = none := by kernel_rfl
@[simp] theorem prop_4_missing : tab.st.prop 4 "missing" = none := by kernel_rfl
@[simp] theorem prop_4_own_key : tab.st.prop 4 "own_key" = none := by kernel_rfl
@[simp] theorem prop_4_width : tab.st.prop 4 "width" = none := by kernel_rfl
@[simp] theorem prop_4_x : tab.st.prop 4 "x" = none := by kernel_rfl
@[simp] theorem prop_4_y : tab.st.prop 4 "y" = none := by kernel_rfl
@[simp] theorem prop_5_height : tab.st.prop 5 "height" = none := by kernel_rfl
@[simp] theorem prop_5_missing : tab.st.prop 5 "missing" = none := by kernel_rfl
@[simp] theorem prop_5_own_key : tab.st.prop 5 "own_key" = none := by kernel_rfl
@[simp] theorem prop_5_width : tab.st.prop 5 "width" = none := by kernel_rfl
@[simp] theorem prop_5_x : tab.st.prop 5 "x" = none := by kernel_rfl
@[simp] theorem prop_5_y : tab.st.prop 5 "y" = none := by kernel_rfl
@[simp] theorem prop_6_height : tab.st.prop 6 "height" = none := by kernel_rfl
@[simp] theorem prop_6_missing : tab.st.prop 6 "missing" = none := by kernel_rfl
@[simp] theorem prop_6_own_key : tab.st.prop 6 "own_key" = none := by kernel_rfl
@[simp] theorem prop_6_width : tab.st.prop 6 "width" = none := by kernel_rfl
@[simp] theorem prop_6_x : tab.st.prop 6 "x" = none := by kernel_rfl
@[simp] theorem prop_6_y : tab.st.prop 6 "y" = none := by kernel_rfl
@[simp] theorem prop_7_height : tab.st.prop 7 "height" = none := by kernel_rfl
@[simp] theorem prop_7_missing : tab.st.prop 7 "missing" = none := by kernel_rfl
@[simp] theorem prop_7_own_key : tab.st.prop 7 "own_key" = none := by kernel_rfl
@[simp] theorem prop_7_width : tab.st.prop 7 "width" = none := by kernel_rfl
@[simp] theorem prop_7_x : tab.st.prop 7 "x" = none := by kernel_rfl
@[simp] theorem prop_7_y : tab.st.prop 7 "y" = none := by kernel_rfl
@[simp] theorem prop_8_height : tab.st.prop 8 "height" = none := by kernel_rfl
@[simp] theorem prop_8_missing : tab.st.prop 8 "missing" = none := by kernel_rfl
@[simp] theorem prop_8_own_key : tab.st.prop 8 "own_key" = none := by kernel_rfl
@[simp] theorem prop_8_width : tab.st.prop 8 "width" = none := by kernel_rfl
@[simp] theorem prop_8_x : tab.st.prop 8 "x" = none := by kernel_rfl
@[simp] theorem prop_8_y : tab.st.prop 8 "y" = none := by kernel_rfl
@[simp] theorem prop_9_height : tab.st.prop 9 "height" = none := by kernel_rfl
@[simp] theorem prop_9_missing : tab.st.prop 9 "missing" = none := by kernel_rfl
@[simp] theorem prop_9_own_key : tab.st.prop 9 "own_key" = none := by kernel_rfl
@[simp] theorem prop_9_width : tab.st.prop 9 "width" = none := by kernel_rfl
@[simp] theorem prop_9_x : tab.st.prop 9 "x" = none := by kernel_rfl
@[simp] theorem prop_9_y : tab.st.prop 9 "y" = none := by kernel_rfl
@[simp] theorem prop_10_height : tab.st.prop 10 "height" = none := by kernel_rfl
@[simp] theorem prop_10_missing : tab.st.prop 10 "missing" = none := by kernel_rfl
@[simp] theorem prop_10_own_key : tab.st.prop 10 "own_key" = none := by kernel_rfl
@[simp] theorem prop_10_width : tab.st.prop 10 "width" = none := by kernel_rfl
@[simp] theorem prop_10_x : tab.st.prop 10 "x" = none := by kernel_rfl
@[simp] theorem prop_10_y : tab.st.prop 10 "y" = none := by kernel_rfl
@[simp] theorem prop_11_height : tab.st.prop 11 "height" = none := by kernel_rfl
@[simp] theorem prop_11_missing : tab.st.prop 11 "missing" = none := by kernel_rfl
@[simp] theorem prop_11_own_key : tab.st.prop 11 "own_key" = none := by kernel_rfl
@[simp] theorem prop_11_width : tab.st.prop 11 "width" = none := by kernel_rfl
@[simp] theorem prop_11_x : tab.st.prop 11 "x" = none := by kernel_rfl
@[simp] theorem prop_11_y : tab.st.prop 11 "y" = none := by kernel_rfl
@[simp] theorem prop_12_height : tab.st.prop 12 "height" = none := by kernel_rfl
@[simp] theorem prop_12_missing : tab.st.prop 12 "missing" = none := by kernel_rfl
@[simp] theorem prop_12_own_key : tab.st.prop 12 "own_key" = none := by kernel_rfl
@[simp] theorem prop_12_width : tab.st.prop 12 "width" = none := by kernel_rfl
@[simp] theorem prop_12_x : tab.st.prop 12 "x" = none := by kernel_rfl
@[simp] theorem prop_12_y : tab.st.prop 12 "y" = none := by kernel_rfl
@[simp] theorem kit_0 : tab.st.kit (.b "NoneType") (.b "bool") = some false := by kernel_rfl
@[simp] theorem kit_1 : tab.st.kit (.b "NoneType") (.b "int") = some false := by kernel_rfl
@[simp] theorem kit_2 : tab.st.kit (.b "NoneType") (.b "tuple") = some false := by kernel_rfl
@[simp] theorem kit_3 : tab.st.kit (.b "bool") (.b "bool") = some true := by kernel_rfl
@[simp] theorem kit_4 : tab.st.kit (.b "bool") (.b "int") = some true := by kernel_rfl
@[simp] theorem kit_5 : tab.st.kit (.b "bool") (.b "tuple") = some false := by kernel_rfl
@[simp] theorem kit_6 : tab.st.kit (.b "int") (.b "bool") = some false := by kernel_rfl
@[simp] theorem kit_7 : tab.st.kit (.b "int") (.b "int") = some true := by kernel_rfl
@[simp] theorem kit_8 : tab.st.kit (.b "int") (.b "tuple") = some false := by kernel_rfl
@[simp] theorem kit_9 : tab.st.kit (.b "str") (.b "bool") = some false := by kernel_rfl
@[simp] theorem kit_10 : tab.st.kit (.b "str") (.b "int") = some false := by kernel_rfl
@[simp] theorem kit_11 : tab.st.kit (.b "str") (.b "tuple") = some false := by kernel_rfl
@[simp] theorem kit_12 : tab.st.kit (.b "tuple") (.b "bool") = some false := by kernel_rfl
@[simp] theorem kit_13 : tab.st.kit (.b "tuple") (.b "int") = some false := by kernel_rfl
@[simp] theorem kit_14 : tab.st.kit (.b "tuple") (.b "tuple") = some true := by kernel_rfl
@[simp] theorem kit_15 : tab.st.kit (.b "list") (.b "bool") = some false := by kernel_rfl
@[simp] theorem kit_16 : tab.st.kit (.b "list") (.b "int") = some false := by kernel_rfl
@[simp] theorem kit_17 : tab.st.kit (.b "list") (.b "tuple") = some false := by kernel_rfl
@[simp] theorem kit_18 : tab.st.kit (.b "dict") (.b "bool") = some false := by kernel_rfl
@[simp] theorem kit_19 : tab.st.kit (.b "dict") (.b "int") = some false := by kernel_rfl
@[simp] theorem kit_20 : tab.st.kit (.b "dict") (.b "tuple") = some false := by kernel_rfl
@[simp] theorem kit_21 : tab.st.kit (.b "NoneType") (.c 0) = some false := by kernel_rfl
@[simp] theorem kit_22 : tab.st.kit (.b "bool") (.c 0) = some false := by kernel_rfl
@[simp] theorem kit_23 : tab.st.kit (.b "int") (.c 0) = some false := by kernel_rfl
@[simp] theorem kit_24 : tab.st.kit (.b "str") (.c 0) = some false := by kernel_rfl
@[simp] theorem kit_25 : tab.st.kit (.b "tuple") (.c 0) = some false := by kernel_rfl
@[simp] theorem kit_26 : tab.st.kit (.b "list") (.c 0) = some false := by kernel_rfl
@[simp] theorem kit_27 : tab.st.kit (.b "dict") (.c 0) = some false := by kernel_rfl
@[simp] theorem kit_28 : tab.st.kit (.c 0) (.c 0) = some true := by kernel_rfl
@[simp] theorem kit_29 : tab.st.kit (.c 0) (.b "bool") = some false := by kernel_rfl
@[simp] theorem kit_30 : tab.st.kit (.c 0) (.b "int") = some false := by kernel_rfl
@[simp] theorem kit_31 : tab.st.kit (.c 0) (.b "tuple") = some false := by kernel_rfl
@[simp] theorem kit_32 : tab.st.kit (.x 1) (.c 1) = some true := by kernel_rfl
@[simp] theorem kit_33 : tab.st.kit (.x 1) (.c 5) = some false := by kernel_rfl
@[simp] theorem kit_34 : tab.st.kit (.x 1) (.c 6) = some false := by kernel_rfl
@[simp] theorem kit_35 : tab.st.kit (.x 1) (.c 7) = some false := by kernel_rfl
@[simp] theorem kit_36 : tab.st.kit (.x 1) (.c 8) = some false := by kernel_rfl
@[simp] theorem kit_37 : tab.st.kit (.x 1) (.c 9) = some false := by kernel_rfl
@[simp] theorem kit_38 : tab.st.kit (.x 1) (.c 10) = some false := by kernel_rfl
@[simp] theorem kit_39 : tab.st.kit (.x 1) (.c 11) = some false := by kernel_rfl
@[simp] theorem kit_40 : tab.st.kit (.x 1) (.c 12) = some false := by kernel_rfl
@[simp] theorem kit_41 : tab.st.kit (.x 10) (.c 1) = some false := by kernel_rfl
@[simp] theorem kit_42 : tab.st.kit (.x 10) (.c 5) = some false := by kernel_rfl
@[simp] theorem kit_43 : tab.st.kit (.x 10) (.c 6) = some false := by kernel_rfl
@[simp] theorem kit_44 : tab.st.kit (.x 10) (.c 7) = some false := by kernel_rfl
@[simp] theorem kit_45 : tab.st.kit (.x 10) (.c 8) = some false := by kernel_rfl
@[simp] theorem kit_46 : tab.st.kit (.x 10) (.c 9) = some false := by kernel_rfl
@[simp] theorem kit_47 : tab.st.kit (.x 10) (.c 10) = some true := by kernel_rfl
@[simp] theorem kit_48 : tab.st.kit (.x 10) (.c 11) = some false := by kernel_rfl
@[simp] theorem kit_49 : tab.st.kit (.x 10) (.c 12) = some false := by kernel_rfl
@[simp] theorem exk_0 : tab.st.exk 0 = none := by kernel_rfl
@[simp] theorem exk_1 : tab.st.exk 1 = some (("BadNumber" : Str), ("reason" : Str)) := by kernel_rfl
@[simp] theorem exk_2 : tab.st.exk 2 = none := by kernel_rfl
@[simp] theorem exk_3 : tab.st.exk 3 = none := by kernel_rfl
@[simp] theorem exk_4 : tab.st.exk 4 = none := by kernel_rfl
@[simp] theorem exk_5 : tab.st.exk 5 = none := by kernel_rfl
@[simp] theorem exk_6 : tab.st.exk 6 = none := by kernel_rfl
@[simp] theorem exk_7 : tab.st.exk 7 = none := by kernel_rfl
@[simp] theorem exk_8 : tab.st.exk 8 = none := by kernel_rfl
@[simp] theorem exk_9 : tab.st.exk 9 = none := by kernel_rfl
@[simp] theorem exk_10 : tab.st.exk 10 = some (("BadMember" : Str), ("reason" : Str)) := by kernel_rfl
@[simp] theorem exk_11 : tab.st.exk 11 = none := by kernel_rfl
@[simp] theorem exk_12 : tab.st.exk 12 = none := by kernel_rfl
@[simp] theorem exm_0 : tab.st.exm [2, 3, 4] 1 = some true := by kernel_rfl
@[simp] theorem exm_1 : tab.st.exm [2, 3, 4] 10 = some true := by kernel_rfl
@[simp] theorem oeq_0 : tab.st.oeq 0 (.b "NoneType") = some 15 := by kernel_rfl
@[simp] theorem oeq_1 : tab.st.oeq 0 (.b "bool") = some 15 := by kernel_rfl
@[simp] theorem oeq_2 : tab.st.oeq 0 (.b "int") = some 15 := by kernel_rfl
@[simp] theorem oeq_3 : tab.st.oeq 0 (.b "str") = some 15 := by kernel_rfl
@[simp] theorem oeq_4 : tab.st.oeq 0 (.b "tuple") = some 15 := by kernel_rfl
@[simp] theorem oeq_5 : tab.st.oeq 0 (.b "list") = some 15 := by kernel_rfl
@[simp] theorem oeq_6 : tab.st.oeq 0 (.b "dict") = some 15 := by kernel_rfl
@[simp] theorem oeq_7 : tab.st.oeq 0 (.c 0) = some 15 := by kernel_rfl
@[simp] theorem one_0 : tab.st.one 0 (.b "NoneType") = some 15 := by kernel_rfl
@[simp] theorem one_1 : tab.st.one 0 (.b "bool") = some 15 := by kernel_rfl
@[simp] theorem one_2 : tab.st.one 0 (.b "int") = some 15 := by kernel_rfl
@[simp] theorem one_3 : tab.st.one 0 (.b "str") = some 15 := by kernel_rfl
@[simp] theorem one_4 : tab.st.one 0 (.b "tuple") = some 15 := by kernel_rfl
@[simp] theorem one_5 : tab.st.one 0 (.b "list") = some 15 := by kernel_rfl
@[simp] theorem one_6 : tab.st.one 0 (.b "dict") = some 15 := by kernel_rfl
@[simp] theorem one_7 : tab.st.one 0 (.c 0) = some 15 := by kernel_rfl
@[simp] theorem oin_0 : tab.st.oin 0 = some 8 := by kernel_rfl
@[simp] theorem at_st (n j : Nat) : (tab.at n j).toWs = tab.st := Tab.at_st _ _ _
@[simp] theorem ph (n j : Nat) : (tab.at n j).phi = (tab.phs n j).1 := rfl
@[simp] theorem phl_ (n j : Nat) : (tab.at n j).phl = (tab.phs n j).2 := rfl
theorem phi_succ {n j f nl : Nat} {s : BV.S} (h : wfn f = some (s, nl)) (ws : List W) (cs : Cells) : (tab.phs n (j+1)).1 f ws cs = fnRun (tab.at n j) n s nl ws cs := by
  have h : tab.fn f = some (s, nl) := h
  show (match tab.fn f with | some (s, nl) => fnRun (tab.at n j) n s nl ws cs | none => .bad) = _
  rw [h]
theorem phl_succ {n j f nl : Nat} {s : BV.S} (h : wfn f = some (s, nl)) (ws : List W) (cs : Cells) : (tab.phs n (j+1)).2 f ws cs = fnRunL (tab.at n j) n s nl ws cs := by
  have h : tab.fn f = some (s, nl) := h
  show (match tab.fn f with | some (s, nl) => fnRunL (tab.at n j) n s nl ws cs | none => .bad) = _
  rw [h]
theorem phd_succ {n j f : Nat} {d : DeedD} (h : wdn f = some d) (th : Cells → R D) (cs : Cells) : (tab.at n (j+1)).phd f th cs = fnRunD (tab.at n j) n d th cs := by
  have h : tab.dn f = some d := h
  show (match tab.dn f with | some d => fnRunD (tab.at n j) n d th cs | none => .bad) = _
  rw [h]
theorem phc_succ {n j : Nat} (t : BV.E) (fr : Fra) (cs : Cells) : (tab.at n (j+1)).phc t fr cs = toD (ev (tab.at n j) t fr cs) := rfl
end K38

namespace K38
open PySem L2 BV
def okD : D → Bool
  | .ins c _ => c == 0
  | .exc _ _ => false
  | .flst _ => false
  | .ty _ => false
  | .cls _ => false
  | _ => true
def isIntD : D → Bool
  | .int _ => true
  | _ => false
def isBoxD : D → Bool
  | .ins _ _ => true
  | _ => false
def box (x y w h : Int) : D := .ins 0 [("own_key", .tup [.int x, .int y, .int w, .int h])]
@[simp] theorem cls_box (cs : Cells) (x y w h : Int) : clsOf cs (.d (box x y w h)) = some (0, [(("own_key" : Str), D.tup [.int x, .int y, .int w, .int h])]) := rfl
@[simp] theorem ty_box (cs : Cells) (x y w h : Int) : tyOf cs (.d (box x y w h)) = some (.c 0) := rfl
theorem blsOf_l {α : Type} (f : α → Bool) (l : List α) : blsOf (l.map fun c => D.bl (f c)) = some (l.map f) := by
  induction l with
  | nil => rfl
  | cons c l ih => rw [List.map_cons, blsOf, ih]; rfl
section
variable {n j : Nat} {cs : Cells} {x y w h x2 y2 w2 h2 : Int}
theorem r_integer {d : D} (h : okD d = true) (cs : Cells) : (tab.phs n (j+1)).1 10 [.d d] cs = .ok (.bl (isIntD d)) cs := by
  rw [phi_succ (s := s10) (nl := 1) rfl]
  unfold fnRun s10
  cases d with
  | ins c fs => simp only [okD, beq_iff_eq] at h; subst h; simp [wIsi, kitAnyD, isIntD]
  | exc c x => cases h
  | flst c => cases h
  | ty c => cases h
  | cls c => cases h
  | _ => simp [wIsi, kitAnyD, isIntD]
/-- all(is_integer(value) for value in ..) -/
theorem all_int {it : E} {fr : Fra} {v : Nat} {own : List (Str × Nat)} {ds : List D} (hv : v < fr.length) (hw : own.map (·.2) = [v]) (hi : evI (tab.at n (j+1)) it fr cs = .ok ds cs) (hd : ∀ d ∈ ds, okD d = true) (hl : ds.length ≤ 1000) :
    ev (tab.at n (j+1)) (.lc (.call 10 0 (.cons (.var v) .nil) .nil) it .nil [v] true own) fr cs = .ok (.d (.lst (ds.map fun d => D.bl (isIntD d)))) cs := by
  refine ev_lcF ds id _ (by rw [hi, List.map_id]) (fun d hm => ⟨_, rfl, fun acc => ?_⟩) (by omega)
  have hr := r_integer (n := n) (j := j) (hd d hm)
  have hg : ((wipeF fr (own.map (·.2))).set v (some (.d d)))[v]? = some (some (.d d)) := by
    rw [List.getElem?_set_self]
    rw [hw]
    simpa [wipeF] using hv
  simp [hg, srcs, callW, hr]
theorem box_made (hw : 1 ≤ w) (hh : 1 ≤ h) : (tab.phs n (j+2)).1 2 [.loc cs.length, .d (.int x), .d (.int y), .d (.int w), .d (.int h)] (cs ++ [some (.ins 0 [])]) = .ok .non (cs ++ [some (.ins 0 [("own_key", .tup [.int x, .int y, .int w, .int h])])]) := by
  rw [phi_succ (s := s2) (nl := 6) rfl]
  unfold fnRun s2
  have hc := all_int (n := n) (j := j) (cs := cs ++ [some (.ins 0 [])]) (it := (.itt (.tup (.cons (.var 1) (.cons (.var 2) (.cons (.var 3) (.cons (.var 4) .nil))))))) (fr := [some (.loc cs.length), some (.d (.int x)), some (.d (.int y)), some (.d (.int w)), some (.d (.int h)), none]) (v := 5) (own := [("value", 5)]) (ds := [.int x, .int y, .int w, .int h]) (by simp) rfl (by simp [tupW, pureDs, lit]) (by simp [okD]) (by simp)
  have h1 : ¬ w < 1 := by omega
  have h2 : ¬ h < 1 := by omega
  simp at hc ⊢
  rw [hc]
  simp [wBi, dl, blsOf, isIntD, h1, h2, tupW, pureDs, lit, fldR, putD]
theorem box_refused {a b c d : D} (ha : okD a = true) (hb : okD b = true) (hc : okD c = true) (hd : okD d = true)
    (h : (isIntD a && isIntD b && isIntD c && isIntD d) = false ∨ ∃ w h, c = .int w ∧ d = .int h ∧ (w < 1 ∨ h < 1)) : (tab.phs n (j+2)).1 2 [.loc cs.length, .d a, .d b, .d c, .d d] (cs ++ [some (.ins 0 [])]) = .exc 1 (.str "expected integers, the width and the height at least 1") (cs ++ [some (.ins 0 [])]) := by
  rw [phi_succ (s := s2) (nl := 6) rfl]
  unfold fnRun s2
  have hc := all_int (n := n) (j := j) (cs := cs ++ [some (.ins 0 [])]) (it := (.itt (.tup (.cons (.var 1) (.cons (.var 2) (.cons (.var 3) (.cons (.var 4) .nil))))))) (fr := [some (.loc cs.length), some (.d a), some (.d b), some (.d c), some (.d d), none]) (v := 5) (own := [("value", 5)]) (ds := [a, b, c, d]) (by simp) rfl (by simp [tupW, pureDs, lit]) (by simp [ha, hb, hc, hd]) (by simp)
  have hall : wBi .all [.d (.lst [D.bl (isIntD a), .bl (isIntD b), .bl (isIntD c), .bl (isIntD d)])] (cs ++ [some (.ins 0 [])]) = .ok (.d (.bl (isIntD a && isIntD b && isIntD c && isIntD d))) (cs ++ [some (.ins 0 [])]) := by
    simp [wBi, dl, blsOf, Bool.and_assoc]
  simp at hc ⊢
  rw [hc]
  simp only [bind_ok]
  rw [hall]
  cases hq : (isIntD a && isIntD b && isIntD c && isIntD d) with
  | false => simp [raiseR]
  | true =>
    rcases h with h | ⟨w, h, rfl, rfl, h1⟩
    · rw [h] at hq; cases hq
    · by_cases hw : w < 1
      · simp [hw, raiseR]
      · have hh : h < 1 := by omega
        simp [hw, hh, raiseR]
@[simp] theorem make_box (hw : 1 ≤ w) (hh : 1 ≤ h) (cs : Cells) : makeW (tab.at n (j+2)) 0 0 [.d (.int x), .d (.int y), .d (.int w), .d (.int h)] [] cs = .ok (.d (box x y w h)) cs := by
  have := box_made (n := n) (j := j) (cs := cs) (x := x) (y := y) hw hh
  simp [makeW, srcs, this, madeW, box]
@[simp] theorem make_boxk (hw : 1 ≤ w) (hh : 1 ≤ h) (cs : Cells) : makeW (tab.at n (j+2)) 0 1 [] [.d (.int x), .d (.int y), .d (.int w), .d (.int h)] cs = .ok (.d (box x y w h)) cs := by
  have := box_made (n := n) (j := j) (cs := cs) (x := x) (y := y) hw hh
  simp [makeW, srcs, this, madeW, box]
theorem make_bad {a b c d : D} (ha : okD a = true) (hb : okD b = true) (hc : okD c = true) (hd : okD d = true)
    (h : (isIntD a && isIntD b && isIntD c && isIntD d) = false ∨ ∃ w h, c = .int w ∧ d = .int h ∧ (w < 1 ∨ h < 1)) (cs : Cells) : makeW (tab.at n (j+2)) 0 0 [.d a, .d b, .d c, .d d] [] cs = .exc 1 (.str "expected integers, the width and the height at least 1") cs := by
  have := box_refused (n := n) (j := j) (cs := cs) ha hb hc hd h
  simp [makeW, srcs, this]
/-! the properties -/
theorem p_key (cs : Cells) : fldW (tab.at n j) (.d (box x y w h)) "own_key" cs = .ok (.d (.tup [.int x, .int y, .int w, .int h])) cs := by
  simp [fldW, List.lookup_cons]
theorem p_x (cs : Cells) : (tab.phs n (j+1)).1 18 [.d (box x y w h)] cs = .ok (.int x) cs := by
  rw [phi_succ (s := s18) (nl := 1) rfl]
  unfold fnRun s18
  simp [p_key, wIx, atI, ixN]
theorem p_y (cs : Cells) : (tab.phs n (j+1)).1 19 [.d (box x y w h)] cs = .ok (.int y) cs := by
  rw [phi_succ (s := s19) (nl := 1) rfl]
  unfold fnRun s19
  simp [p_key, wIx, atI, ixN]
theorem p_w (cs : Cells) : (tab.phs n (j+1)).1 17 [.d (box x y w h)] cs = .ok (.int w) cs := by
  rw [phi_succ (s := s17) (nl := 1) rfl]
  unfold fnRun s17
  simp [p_key, wIx, atI, ixN]
theorem p_h (cs : Cells) : (tab.phs n (j+1)).1 16 [.d (box x y w h)] cs = .ok (.int h) cs := by
  rw [phi_succ (s := s16) (nl := 1) rfl]
  unfold fnRun s16
  simp [p_key, wIx, atI, ixN]
theorem f_x (cs : Cells) : fldW (tab.at n (j+1)) (.d (box x y w h)) "x" cs = .ok (.d (.int x)) cs := by
  simp [fldW, callW, p_x]
theorem f_y (cs : Cells) : fldW (tab.at n (j+1)) (.d (box x y w h)) "y" cs = .ok (.d (.int y)) cs := by
  simp [fldW, callW, p_y]
theorem f_w (cs : Cells) : fldW (tab.at n (j+1)) (.d (box x y w h)) "width" cs = .ok (.d (.int w)) cs := by
  simp [fldW, callW, p_w]
theorem f_h (cs : Cells) : fldW (tab.at n (j+1)) (.d (box x y w h)) "height" cs = .ok (.d (.int h)) cs := by
  simp [fldW, callW, p_h]
theorem need_box {d : D} (h : okD d = true) (cs : Cells) : (tab.phs n (j+1)).1 20 [.d d] cs = if isBoxD d then .ok .non cs else .exc 10 (.str "expected a box") cs := by
  rw [phi_succ (s := s20) (nl := 1) rfl]
  unfold fnRun s20
  cases d with
  | ins c fs => simp only [okD, beq_iff_eq] at h; subst h; simp [wIsi, kitAnyD, isBoxD]
  | exc c x => cases h
  | flst c => cases h
  | ty c => cases h
  | cls c => cases h
  | _ => simp [wIsi, kitAnyD, isBoxD, raiseR]
theorem need_ok (cs : Cells) : (tab.phs n (j+1)).1 20 [.d (box x y w h)] cs = .ok .non cs := need_box (d := box x y w h) rfl cs
def ovl (x y w h x2 y2 w2 h2 : Int) : Bool := decide (x < x2 + w2) && decide (x2 < x + w) && decide (y < y2 + h2) && decide (y2 < y + h)
def ins (x y w h x2 y2 w2 h2 : Int) : Bool := decide (x2 < x) && decide (x + w < x2 + w2) && decide (y2 < y) && decide (y + h < y2 + h2)
theorem overlaps (cs : Cells) : (tab.phs n (j+2)).1 13 [.d (box x y w h), .d (box x2 y2 w2 h2)] cs = .ok (.bl (ovl x y w h x2 y2 w2 h2)) cs := by
  rw [phi_succ (s := s13) (nl := 2) rfl]
  unfold fnRun s13 ovl
  by_cases h1 : x < x2 + w2 <;> by_cases h2' : x2 < x + w <;> by_cases h3 : y < y2 + h2 <;> by_cases h4 : y2 < y + h <;>
    simp [srcs, callW, need_ok, f_x, f_y, f_w, f_h, h1, h2', h3, h4, show ∀ a b : Int, (a ≤ b) = ¬ (b < a) from fun a b => by simp]
theorem inside (cs : Cells) : (tab.phs n (j+2)).1 9 [.d (box x y w h), .d (box x2 y2 w2 h2)] cs = .ok (.bl (ins x y w h x2 y2 w2 h2)) cs := by
  rw [phi_succ (s := s9) (nl := 2) rfl]
  unfold fnRun s9 ins
  by_cases h1 : x2 < x <;> by_cases h2' : x + w < x2 + w2 <;> by_cases h3 : y2 < y <;> by_cases h4 : y + h < y2 + h2 <;>
    simp [srcs, callW, need_ok, f_x, f_y, f_w, f_h, h1, h2', h3, h4, show ∀ a b : Int, (a ≤ b) = ¬ (b < a) from fun a b => by simp]
theorem overlaps_bad {d : D} (hd : okD d = true) (hb : isBoxD d = false) (cs : Cells) : (tab.phs n (j+2)).1 13 [.d (box x y w h), .d d] cs = .exc 10 (.str "expected a box") cs := by
  rw [phi_succ (s := s13) (nl := 2) rfl]
  unfold fnRun s13
  simp [srcs, callW, need_box hd, hb]
theorem inside_bad {d : D} (hd : okD d = true) (hb : isBoxD d = false) (cs : Cells) : (tab.phs n (j+2)).1 9 [.d (box x y w h), .d d] cs = .exc 10 (.str "expected a box") cs := by
  rw [phi_succ (s := s9) (nl := 2) rfl]
  unfold fnRun s9
  simp [srcs, callW, need_box hd, hb]
theorem shaped_four (a b c d : Int) : SeqAt.shaped (.tuple [.int a, .int b, .int c, .int d]) = true := by
  simp [SeqAt.shaped, PyData.canLay0, PyData.canLayAll0, PyData.depth, PyData.depthAll]
theorem eqv_four (a b c d a2 b2 c2 d2 : Int) : PyData.eqv (.tuple [.int a, .int b, .int c, .int d]) (.tuple [.int a2, .int b2, .int c2, .int d2]) = (a == a2 && (b == b2 && (c == c2 && d == d2))) := by
  simp [PyData.eqv, PyData.eqvAll]
theorem eq_box (cs : Cells) : (tab.phs n (j+1)).1 15 [.d (box x y w h), .d (box x2 y2 w2 h2)] cs = .ok (.bl (x == x2 && (y == y2 && (w == w2 && h == h2)))) cs := by
  rw [phi_succ (s := s15) (nl := 2) rfl]
  unfold fnRun s15
  have e : ∀ cs, wCmp .Eq (.d (.tup [.int x, .int y, .int w, .int h])) (.d (.tup [.int x2, .int y2, .int w2, .int h2])) cs = .ok (.d (.bl (x == x2 && (y == y2 && (w == w2 && h == h2))))) cs := fun cs => by
    rw [wCmp_eq (p := .tuple [.int x, .int y, .int w, .int h]) (q := .tuple [.int x2, .int y2, .int w2, .int h2]) rfl rfl (shaped_four ..) (shaped_four ..), eqv_four]
  generalize (x == x2 && (y == y2 && (w == w2 && h == h2))) = q at e ⊢
  simp [wIsi, kitAnyD, p_key, e]
theorem eq_other (ds : List D) (cs : Cells) : (tab.phs n (j+1)).1 15 [.d (box x y w h), .d (.tup ds)] cs = .ok (.bl false) cs := by
  rw [phi_succ (s := s15) (nl := 2) rfl]
  unfold fnRun s15
  simp [wIsi, kitAnyD]
/-! in -/
def inB (x y w h a b : Int) : Bool := decide (x ≤ a) && decide (a < x + w) && decide (y ≤ b) && decide (b < y + h)
theorem in_cell (a b : Int) (cs : Cells) : (tab.phs n (j+2)).1 8 [.d (box x y w h), .d (.tup [.int a, .int b])] cs = .ok (.bl (inB x y w h a b)) cs := by
  rw [phi_succ (s := s8) (nl := 5) rfl]
  unfold fnRun s8 inB
  have hc := all_int (n := n) (j := j) (cs := cs) (it := (.itt (.var 1))) (fr := [some (.d (box x y w h)), some (.d (.tup [.int a, .int b])), none, none, none]) (v := 4) (own := [("value", 4)]) (ds := [.int a, .int b]) (by simp) rfl (by simp) (by simp [okD]) (by simp)
  have hlen : wBi .len [.d (.tup [.int a, .int b])] cs = .ok (.d (.int 2)) cs := by simp [wBi, lit]
  have hall : wBi .all [.d (.lst [D.bl (isIntD (.int a)), .bl (isIntD (.int b))])] cs = .ok (.d (.bl true)) cs := by simp [wBi, dl, blsOf, isIntD]
  simp only [List.map_cons, List.map_nil] at hc
  by_cases h1 : x ≤ a <;> by_cases h2' : a < x + w <;> by_cases h3 : y ≤ b <;> by_cases h4 : b < y + h <;>
    simp [wIsi, kitAnyD, hlen, hc, hall, setTg, f_x, f_y, f_w, f_h, h1, h2', h3, h4]
/-- what is no cell -/
def oddD : D → Bool
  | .tup [p, q] => okD p && okD q && !(isIntD p && isIntD q)
  | .tup xs => decide (xs.length ≤ 100)
  | d => okD d
theorem in_odd {d : D} (hd : oddD d = true) (cs : Cells) : (tab.phs n (j+2)).1 8 [.d (box x y w h), .d d] cs = .ok (.bl false) cs := by
  rw [phi_succ (s := s8) (nl := 5) rfl]
  unfold fnRun s8
  have other : okD d = true → (∀ xs, d ≠ .tup xs) → wIsi (tab.at n (j+1)) (.d d) [.b "tuple"] cs = .ok (.d (.bl false)) cs := fun ho ht => by
    cases d with
    | ins c fs => simp only [okD, beq_iff_eq] at ho; subst ho; simp [wIsi, kitAnyD]
    | exc c x => cases ho
    | flst c => cases ho
    | ty c => cases ho
    | cls c => cases ho
    | tup xs => exact absurd rfl (ht xs)
    | _ => simp [wIsi, kitAnyD]
  by_cases ht : ∃ xs, d = .tup xs
  · obtain ⟨xs, rfl⟩ := ht
    by_cases hl : xs.length = 2
    · match xs, hl with
      | [p, q], _ =>
        simp only [oddD, Bool.and_eq_true, Bool.not_eq_true'] at hd
        obtain ⟨⟨h1, h2⟩, h3⟩ := hd
        have hc := all_int (n := n) (j := j) (cs := cs) (it := (.itt (.var 1))) (fr := [some (.d (box x y w h)), some (.d (.tup [p, q])), none, none, none]) (v := 4) (own := [("value", 4)]) (ds := [p, q]) (by simp) rfl (by simp) (by simp [h1, h2]) (by simp)
        have hlen : wBi .len [.d (.tup [p, q])] cs = .ok (.d (.int 2)) cs := by simp [wBi, lit]
        have hall : wBi .all [.d (.lst [D.bl (isIntD p), .bl (isIntD q)])] cs = .ok (.d (.bl false)) cs := by simp [wBi, dl, blsOf, h3]
        simp only [List.map_cons, List.map_nil] at hc
        simp [wIsi, kitAnyD, hlen, hc, hall]
    · have hl2 : xs.length ≤ 100 := by
        match xs, hd, hl with
        | [], h, _ => simp
        | [_], h, _ => simp
        | [_, _], _, h => exact absurd rfl h
        | _ :: _ :: _ :: _, h, _ => simpa [oddD] using h
      simp [wIsi, kitAnyD]
      rw [show wBi .len [.d (.tup xs)] cs = .ok (.d (.int xs.length)) cs by simp [wBi, lit, show xs.length ≤ 16777216 by omega]]
      simp [show ¬ ((xs.length : Int) = 2) by omega]
  · have ho : okD d = true := by
      cases d with
      | tup xs => exact absurd ⟨xs, rfl⟩ ht
      | _ => first | rfl | exact hd
    have := other ho fun xs e => ht ⟨xs, e⟩
    simp [this]
end
end K38

namespace K38
open PySem L2 BV
abbrev Pt := Int × Int
def cell2 (c : Pt) : D := .tup [.int c.1, .int c.2]
def cellP (c : Pt) : PyData := .tuple [.int c.1, .int c.2]
def row2 (x b w : Int) : List Pt := (List.range w.toNat).map fun (i : Nat) => (x + (i : Int), b)
def cells (x y w h : Int) : List Pt := (List.range h.toNat).flatMap fun (i : Nat) => row2 x (y + (i : Int)) w
theorem mem_row2 {x b w : Int} {c : Pt} : c ∈ row2 x b w ↔ x ≤ c.1 ∧ c.1 < x + w ∧ c.2 = b := by
  obtain ⟨p, q⟩ := c
  simp only [row2, List.mem_map, List.mem_range, Prod.mk.injEq]
  constructor
  · rintro ⟨i, h, rfl, rfl⟩
    omega
  · rintro ⟨h1, h2, rfl⟩
    exact ⟨(p - x).toNat, by omega, by omega, rfl⟩
theorem mem_cells {x y w h : Int} {c : Pt} : c ∈ cells x y w h ↔ x ≤ c.1 ∧ c.1 < x + w ∧ y ≤ c.2 ∧ c.2 < y + h := by
  simp only [cells, List.mem_flatMap, List.mem_range, mem_row2]
  constructor
  · rintro ⟨i, h, h1, h2, h3⟩
    omega
  · rintro ⟨h1, h2, h3, h4⟩
    exact ⟨(c.2 - y).toNat, by omega, h1, h2, by omega⟩
theorem toPyL_cells : ∀ l : List Pt, toPyL (l.map cell2) = some (l.map cellP)
  | [] => rfl
  | c :: l => by
    rw [List.map_cons, toPyL, toPyL_cells l]
    rfl
theorem shaped_cells (l : List Pt) : SeqAt.shaped (.list (l.map cellP)) = true := by
  have h1 : ∀ l : List Pt, PyData.canLayAll0 (l.map cellP) = true := fun l => by
    induction l with
    | nil => rfl
    | cons n l ih => rw [List.map_cons, PyData.canLayAll0, ih]; rfl
  have h2 : ∀ l : List Pt, PyData.depthAll (l.map cellP) ≤ 2 := fun l => by
    induction l with
    | nil => decide
    | cons n l ih => rw [List.map_cons, PyData.depthAll]; exact Nat.max_le.mpr ⟨by simp [cellP, PyData.depth, PyData.depthAll], ih⟩
  simp only [SeqAt.shaped, PyData.canLay0, PyData.depth, h1, Bool.true_and, decide_eq_true_eq]
  have h3 := h2 l
  refine decide_eq_true ?_
  omega
theorem shaped_cell (c : Pt) : SeqAt.shaped (cellP c) = true := by
  simp [cellP, SeqAt.shaped, PyData.canLay0, PyData.canLayAll0, PyData.depth, PyData.depthAll]
theorem eqv_cell (c d : Pt) : PyData.eqv (cellP c) (cellP d) = decide (c = d) := by
  obtain ⟨a, b⟩ := c
  obtain ⟨p, q⟩ := d
  by_cases h1 : a = p <;> by_cases h2 : b = q <;> simp [cellP, PyData.eqv, PyData.eqvAll, h1, h2]
theorem any_cells (c : Pt) : ∀ l : List Pt, ((l.map cellP).any fun z => PyData.eqv z (cellP c)) = decide (c ∈ l)
  | [] => rfl
  | d :: l => by
    rw [List.map_cons, List.any_cons, any_cells c l, eqv_cell]
    by_cases h : d = c
    · simp [h]
    · have : ¬ c = d := fun e => h e.symm
      simp [h, this]
theorem in_cells (c : Pt) (l : List Pt) (cs : Cells) : wCmp .In (.d (cell2 c)) (.d (.lst (l.map cell2))) cs = .ok (.d (.bl (decide (c ∈ l)))) cs := by
  have e : wCmp .In (.d (cell2 c)) (.d (.lst (l.map cell2))) cs = wIn false (.d (cell2 c)) (.d (.lst (l.map cell2))) cs := rfl
  have h1 : toPy (.tup [.int c.1, .int c.2]) = some (cellP c) := rfl
  rw [e]
  show wIn false (.d (.tup [.int c.1, .int c.2])) (.d (.lst (l.map cell2))) cs = _
  simp only [wIn, wPy, h1, dl, toPyL_cells, shaped_cell, shaped_cells, and_self, if_true, any_cells]
  rfl
theorem notin_cells (c : Pt) (l : List Pt) (cs : Cells) : wCmp .NotIn (.d (cell2 c)) (.d (.lst (l.map cell2))) cs = .ok (.d (.bl (!decide (c ∈ l)))) cs := by
  have e : wCmp .NotIn (.d (cell2 c)) (.d (.lst (l.map cell2))) cs = wIn true (.d (cell2 c)) (.d (.lst (l.map cell2))) cs := rfl
  have h1 : toPy (.tup [.int c.1, .int c.2]) = some (cellP c) := rfl
  rw [e]
  show wIn true (.d (.tup [.int c.1, .int c.2])) (.d (.lst (l.map cell2))) cs = _
  simp only [wIn, wPy, h1, dl, toPyL_cells, shaped_cell, shaped_cells, and_self, if_true, any_cells]
theorem eqvAll_cells : ∀ l m : List Pt, PyData.eqvAll (l.map cellP) (m.map cellP) = decide (l = m)
  | [], [] => rfl
  | [], _ :: _ => rfl
  | _ :: _, [] => rfl
  | c :: l, d :: m => by
    rw [List.map_cons, List.map_cons, PyData.eqvAll, eqvAll_cells l m, eqv_cell]
    by_cases h : c = d <;> simp [h]
theorem eq_cells (l m : List Pt) (cs : Cells) : wCmp .Eq (.d (.lst (l.map cell2))) (.d (.lst (m.map cell2))) cs = .ok (.d (.bl (decide (l = m)))) cs := by
  rw [wCmp_eq (p := .list (l.map cellP)) (q := .list (m.map cellP)) (by simp [wPy, toPy, toPyL_cells]) (by simp [wPy, toPy, toPyL_cells]) (shaped_cells l) (shaped_cells m)]
  congr 3
  exact eqvAll_cells l m
theorem ne_cells (l m : List Pt) (cs : Cells) : wCmp .NotEq (.d (.lst (l.map cell2))) (.d (.lst (m.map cell2))) cs = .ok (.d (.bl (!decide (l = m)))) cs := by
  rw [wCmp_ne (p := .list (l.map cellP)) (q := .list (m.map cellP)) (by simp [wPy, toPy, toPyL_cells]) (by simp [wPy, toPy, toPyL_cells]) (shaped_cells l) (shaped_cells m)]
  congr 3
  exact congrArg _ (eqvAll_cells l m)
theorem foldl_flat {α β : Type} (f : α → List β) : ∀ (l : List α) (acc : List β), l.foldl (fun s i => s ++ f i) acc = acc ++ l.flatMap f
  | [], acc => by simp
  | i :: l, acc => by rw [List.foldl_cons, foldl_flat f l, List.flatMap_cons, List.append_assoc]
section
variable {n j : Nat} {cs : Cells} {x y w h x2 y2 w2 h2 : Int}
theorem extend_at {m : Nat} {xs ys : List D} (hm : cs[m]? = some (some (.lst xs))) (hl : xs.length + ys.length ≤ 16777216) : wBm .extend (.loc m) [.d (.lst ys)] cs = .ok (.d .non) (cs.set m (some (.lst (xs ++ ys)))) := by
  simp [wBm, celL, hm, dlt, lit, hl]
theorem rng_ev {wd : Wd} {e : E} {fr : Fra} {v : Int} (he : ev wd e fr cs = .ok (.d (.int v)) cs) (hv : v ≤ 18) (hv0 : -100 ≤ v) : evI wd (.rng1 e) fr cs = .ok ((List.range v.toNat).map fun i : Nat => D.int (i : Int)) cs := by
  rw [vI_rng1, he, asI_ok, bind_ok, rngD0, if_pos]
  simp [small62]
  omega
theorem row_run {o3 : Int} {fr : Fra} (e5 : ∃ o1 o5, fr = [some (.d (.tup [.int x, .int y, .int w, .int h])), o1, some (.d (.int h)), some (.d (.int o3)), some (.d (.int w)), o5, some (.d (.int y)), some (.d (.int x))]) (hw : w ≤ 18) (hw0 : -100 ≤ w) (cs : Cells) :
    ev (tab.at n j) (.lc (.tup (.cons (.op .Add (.var 7) (.var 5)) (.cons (.op .Add (.var 6) (.var 3)) .nil))) (.rng1 (.var 4)) .nil [5] true [("_law_dx", 5)]) fr cs = .ok (.d (.lst ((row2 x (y + o3) w).map cell2))) cs := by
  obtain ⟨o1, o5, rfl⟩ := e5
  have := ev_lcF (wd := tab.at n j) (elt := .tup (.cons (.op .Add (.var 7) (.var 5)) (.cons (.op .Add (.var 6) (.var 3)) .nil))) (it := .rng1 (.var 4)) (tg := [5]) (one := true) (own := [("_law_dx", 5)]) (fr := [some (.d (.tup [.int x, .int y, .int w, .int h])), o1, some (.d (.int h)), some (.d (.int o3)), some (.d (.int w)), o5, some (.d (.int y)), some (.d (.int x))]) (cs := cs) (c1 := cs) (List.range w.toNat) (fun i : Nat => D.int (i : Int)) (fun i : Nat => cell2 (x + (i : Int), y + o3)) (rng_ev (by simp) hw hw0) (fun i hi => ⟨_, rfl, fun acc => by simp [wipeF, tupW, pureDs, lit, cell2]⟩) (by simp; omega)
  rw [this]
  simp [row2]
def bodyC : BV.S := (.cons (.expr (.bm .extend (.var 1) (.cons (.lc (.tup (.cons (.op .Add (.var 7) (.var 5)) (.cons (.op .Add (.var 6) (.var 3)) .nil))) (.rng1 (.var 4)) .nil [5] true [("_law_dx", 5)]) .nil))) .nil)
theorem row2_len (x b w : Int) : (row2 x b w).length = w.toNat := by simp [row2]
theorem box_cells (hw : w ≤ 18) (hw0 : -100 ≤ w) (hh : h ≤ 18) (hh0 : -100 ≤ h) (cs : Cells) : (tab.phs n (j+1)).1 14 [.d (.tup [.int x, .int y, .int w, .int h])] cs = .ok (.lst ((cells x y w h).map cell2)) cs := by
  rw [phi_succ (s := s14) (nl := 8) rfl]
  obtain ⟨fr', cs', q1, o3, o5, rfl, rfl, _⟩ := for_foldC (f := exS (tab.at n j) n cs.length bodyC) (tg := [3]) (one := true) 18 (fun i : Nat => D.int (i : Int)) (fun (s : List Pt) (i : Nat) => s ++ row2 x (y + (i : Int)) w)
    (fun i s fr c => ∃ o3 o5, fr = [some (.d (.tup [.int x, .int y, .int w, .int h])), some (.loc cs.length), some (.d (.int h)), o3, some (.d (.int w)), o5, some (.d (.int y)), some (.d (.int x))] ∧ c = cs ++ [some (.lst (s.map cell2))] ∧ s.length ≤ 18 * i) (List.range h.toNat) 0 []
    [some (.d (.tup [.int x, .int y, .int w, .int h])), some (.loc cs.length), some (.d (.int h)), none, some (.d (.int w)), none, some (.d (.int y)), some (.d (.int x))] (cs ++ [some (.lst [])]) (fun d hd i s fr c hi ⟨o3, o5, hfr, hc, hl⟩ => by
      subst hfr hc
      refine ⟨_, _, _, rfl, .inl ?_, some (.d (.int (d : Int))), o5, rfl, rfl, by rw [List.length_append, row2_len]; omega⟩
      have hrow := row_run (n := n) (j := j) (x := x) (y := y) (w := w) (h := h) (o3 := (d : Int)) ⟨some (.loc cs.length), o5, rfl⟩ hw hw0 (cs ++ [some (.lst (s.map cell2))])
      have hext := extend_at (cs := cs ++ [some (.lst (s.map cell2))]) (m := cs.length) (xs := s.map cell2) (ys := (row2 x (y + (d : Int)) w).map cell2) (by simp) (by simp [row2_len]; omega)
      unfold bodyC
      simp [wTy, dl, celL, hrow, hext]) (by simp; omega) ⟨none, none, rfl, rfl, by simp⟩
  have hr : evI (tab.at n j) (.rng1 (.var 2)) [some (.d (.tup [.int x, .int y, .int w, .int h])), some (.loc cs.length), some (.d (.int h)), none, some (.d (.int w)), none, some (.d (.int y)), some (.d (.int x))] (cs ++ [some (.lst [])]) = .ok ((List.range h.toNat).map fun i : Nat => D.int (i : Int)) (cs ++ [some (.lst [])]) := rng_ev (by simp) hh hh0
  have e0 : s14 = .cons (.setT [7, 6, 4, 2] (.var 0)) (.cons (.setL 1 (.lst .nil)) (.cons (.loop (.rng1 (.var 2)) [3] true bodyC) (.cons (.ret (.var 1)) .nil))) := rfl
  have e1 : exS (tab.at n j) n cs.length (.setT [7, 6, 4, 2] (.var 0)) [some (.d (.tup [.int x, .int y, .int w, .int h])), none, none, none, none, none, none, none] cs = .nx [some (.d (.tup [.int x, .int y, .int w, .int h])), none, some (.d (.int h)), none, some (.d (.int w)), none, some (.d (.int y)), some (.d (.int x))] cs := by
    simp [setTg]
  have e2 : exS (tab.at n j) n cs.length (.setL 1 (.lst .nil)) [some (.d (.tup [.int x, .int y, .int w, .int h])), none, some (.d (.int h)), none, some (.d (.int w)), none, some (.d (.int y)), some (.d (.int x))] cs = .nx [some (.d (.tup [.int x, .int y, .int w, .int h])), some (.loc cs.length), some (.d (.int h)), none, some (.d (.int w)), none, some (.d (.int y)), some (.d (.int x))] (cs ++ [some (.lst [])]) := by
    simp [evL, lstL, pureDs, lit]
  show endD cs.length (exS (tab.at n j) n cs.length s14 [some (.d (.tup [.int x, .int y, .int w, .int h])), none, none, none, none, none, none, none] cs) = _
  rw [foldl_flat, List.nil_append] at q1
  rw [e0, x_cons, e1, sbind_nx, x_cons, e2, sbind_nx, x_cons, x_loop, hr, onE_ok, q1, sbind_nx]
  simp [retD, cells]
theorem law_box (hw : 1 ≤ w) (hh : 1 ≤ h) (cs : Cells) : (tab.phs n (j+3)).1 1 [.d (.tup [.int x, .int y, .int w, .int h])] cs = .ok (box x y w h) cs := by
  rw [phi_succ (s := s1) (nl := 1) rfl]
  unfold fnRun s1
  simp [wIx, atI, ixN, hw, hh]
theorem law_box_bad {a b c d : D} (ha : okD a = true) (hb : okD b = true) (hc : okD c = true) (hd : okD d = true)
    (h : (isIntD a && isIntD b && isIntD c && isIntD d) = false ∨ ∃ w h, c = .int w ∧ d = .int h ∧ (w < 1 ∨ h < 1)) (cs : Cells) : (tab.phs n (j+3)).1 1 [.d (.lst [a, b, c, d])] cs = .exc 1 (.str "expected integers, the width and the height at least 1") cs := by
  rw [phi_succ (s := s1) (nl := 1) rfl]
  unfold fnRun s1
  have := make_bad (n := n) (j := j) ha hb hc hd h cs
  simp [wIx, dl, atI, ixN, this]
end
theorem shares_eq {x y w h x2 y2 w2 h2 : Int} (b1 : 1 ≤ w) (b2 : 1 ≤ h) (b3 : 1 ≤ w2) (b4 : 1 ≤ h2) : (!decide ((cells x y w h).filter (fun c => decide (c ∈ cells x2 y2 w2 h2)) = [])) = ovl x y w h x2 y2 w2 h2 := by
  rw [Bool.eq_iff_iff]
  simp only [Bool.not_eq_true', decide_eq_false_iff_not, ovl, Bool.and_eq_true, decide_eq_true_eq, List.filter_eq_nil_iff, mem_cells]
  constructor
  · intro hn
    by_cases h1 : x < x2 + w2 <;> by_cases h2' : x2 < x + w <;> by_cases h3 : y < y2 + h2 <;> by_cases h4 : y2 < y + h <;> first | exact ⟨⟨⟨h1, h2'⟩, h3⟩, h4⟩ | (exact absurd (fun c hc => by omega) hn)
  · rintro ⟨⟨⟨h1, h2'⟩, h3⟩, h4⟩ hn
    refine hn (max x x2, max y y2) ?_ ?_ <;> simp only [] <;> omega
theorem within_eq {x y w h x2 y2 w2 h2 : Int} (b1 : 1 ≤ w) (b2 : 1 ≤ h) : decide ((cells x y w h).filter (fun c => !decide (c ∈ cells (x2 + 1) (y2 + 1) (w2 - 2) (h2 - 2))) = []) = ins x y w h x2 y2 w2 h2 := by
  rw [Bool.eq_iff_iff]
  simp only [Bool.not_eq_true', decide_eq_false_iff_not, ins, Bool.and_eq_true, decide_eq_true_eq, List.filter_eq_nil_iff, mem_cells, Decidable.not_not]
  constructor
  · intro hn
    have h1 := hn (x, y) ⟨by omega, by omega, by omega, by omega⟩
    have h2 := hn (x + w - 1, y + h - 1) ⟨by simp only []; omega, by simp only []; omega, by simp only []; omega, by simp only []; omega⟩
    simp only [] at h1 h2
    refine ⟨⟨⟨?_, ?_⟩, ?_⟩, ?_⟩ <;> omega
  · rintro ⟨⟨⟨h1, h2'⟩, h3⟩, h4⟩ c hc
    omega
end K38

namespace K38
open PySem L2 BV
theorem rep_told (s i q : Bool) : ∃ t, SOk t ∧ ∀ cs, repW (.d (.lst [.bl s, .bl s, .bl i, .bl i, .bl q, .bl (!q), .bl false, .bl true, .bl true])) cs = .ok (.d (.str t)) cs := by
  refine ⟨(PyData.list [.bool s, .bool s, .bool i, .bool i, .bool q, .bool (!q), .bool false, .bool true, .bool true]).shown, ?_, fun cs => ?_⟩
  · exact shown_ok _ (by cases s <;> cases i <;> cases q <;> rfl)
  · refine repW_ok (by simp [wPr, pyD, pyDs]) ?_ ?_ ?_ ?_ <;> cases s <;> cases i <;> cases q <;> decide +kernel
theorem eq_self {z : Str} (h : SOk z) (cs : Cells) : wCmp .Eq (.d (.str z)) (.d (.str z)) cs = .ok (.d (.bl true)) cs := by
  rw [wCmp_eq (p := .str z) (q := .str z) rfl rfl (shaped_strO h) (shaped_strO h), eqv_str]
  simp
theorem filt_range {α : Type} (f : Nat → α) (p : α → Bool) {a k r : Nat} (hp : ∀ i, i < a + (k + r) → p (f i) = (decide (a ≤ i) && decide (i < a + k))) :
    ((List.range (a + (k + r))).map f).filter p = (List.range k).map fun i => f (a + i) := by
  rw [List.range_add, List.range_add, List.map_append, List.map_append, List.map_append, List.filter_append, List.filter_append]
  have h1 : ((List.range a).map f).filter p = [] := by
    rw [List.filter_eq_nil_iff]
    intro x hx
    obtain ⟨i, hi, rfl⟩ := List.mem_map.mp hx
    have hi := List.mem_range.mp hi
    rw [hp i (by omega)]
    simp; omega
  have h2 : (((List.range k).map fun i => a + i).map f).filter p = (List.range k).map fun i => f (a + i) := by
    rw [List.map_map]
    refine List.filter_eq_self.mpr fun x hx => ?_
    obtain ⟨i, hi, rfl⟩ := List.mem_map.mp hx
    have hi := List.mem_range.mp hi
    show p (f (a + i)) = true
    rw [hp _ (by omega)]
    simp; omega
  have h3 : ((((List.range r).map fun i => k + i).map fun i => a + i).map f).filter p = [] := by
    rw [List.filter_eq_nil_iff]
    intro x hx
    obtain ⟨y, hy, rfl⟩ := List.mem_map.mp hx
    obtain ⟨z, hz, rfl⟩ := List.mem_map.mp hy
    obtain ⟨i, hi, rfl⟩ := List.mem_map.mp hz
    have hi := List.mem_range.mp hi
    rw [hp _ (by omega)]
    first | (simp; done) | (simp; omega)
  rw [h1, h2, h3, List.nil_append, List.append_nil]
theorem flat_congr {α β : Type} {f g : α → List β} : ∀ {l : List α}, (∀ i ∈ l, f i = g i) → l.flatMap f = l.flatMap g
  | [], _ => rfl
  | i :: l, h => by rw [List.flatMap_cons, List.flatMap_cons, h i (List.mem_cons_self ..), flat_congr fun k hk => h k (List.mem_cons_of_mem _ hk)]
theorem flat_range {β : Type} (f : Nat → List β) {a k r : Nat} (h1 : ∀ i, i < a → f i = []) (h2 : ∀ i, i < r → f (a + (k + i)) = []) :
    (List.range (a + (k + r))).flatMap f = (List.range k).flatMap fun i => f (a + i) := by
  rw [List.range_add, List.range_add, List.map_append, List.flatMap_append, List.flatMap_append]
  have e1 : (List.range a).flatMap f = [] := by
    rw [List.flatMap_eq_nil_iff]
    exact fun i hi => h1 i (List.mem_range.mp hi)
  have e3 : (((List.range r).map fun i => k + i).map fun i => a + i).flatMap f = [] := by
    rw [List.flatMap_eq_nil_iff]
    intro x hx
    obtain ⟨y, hy, rfl⟩ := List.mem_map.mp hx
    obtain ⟨i, hi, rfl⟩ := List.mem_map.mp hy
    exact h2 i (List.mem_range.mp hi)
  rw [e1, e3, List.nil_append, List.append_nil, List.flatMap_map]
theorem row_in {x y w h b : Int} (hx : -6 ≤ x) (hw : 0 ≤ w) (hxw : x + w ≤ 12) : (row2 (-6) b 18).filter (fun c => inB x y w h c.1 c.2) = if y ≤ b ∧ b < y + h then row2 x b w else [] := by
  by_cases hb : y ≤ b ∧ b < y + h
  · rw [if_pos hb]
    have := filt_range (fun i : Nat => ((-6 + (i : Int), b) : Pt)) (fun c => inB x y w h c.1 c.2) (a := (x + 6).toNat) (k := w.toNat) (r := (12 - x - w).toNat) (fun i hi => by
      simp only [inB, hb.1, hb.2, decide_true, Bool.and_true]
      congr 1 <;> rw [decide_eq_decide] <;> omega)
    rw [show (x + 6).toNat + (w.toNat + (12 - x - w).toNat) = ((18 : Int)).toNat by omega] at this
    unfold row2
    rw [this]
    refine List.map_congr_left fun i _ => ?_
    simp only [Prod.mk.injEq, and_true]
    omega
  · rw [if_neg hb, List.filter_eq_nil_iff]
    intro c hc
    have := mem_row2.mp hc
    simp only [inB, Bool.and_eq_true, decide_eq_true_eq]
    omega
theorem cells_in {x y w h : Int} (hx : -6 ≤ x) (hw : 0 ≤ w) (hxw : x + w ≤ 12) (hy : -6 ≤ y) (hh : 0 ≤ h) (hyh : y + h ≤ 12) : (cells (-6) (-6) 18 18).filter (fun c => inB x y w h c.1 c.2) = cells x y w h := by
  unfold cells
  rw [List.filter_flatMap]
  simp only [row_in hx hw hxw]
  have := flat_range (fun i : Nat => if y ≤ -6 + (i : Int) ∧ -6 + (i : Int) < y + h then row2 x (-6 + (i : Int)) w else []) (a := (y + 6).toNat) (k := h.toNat) (r := (12 - y - h).toNat)
    (fun i hi => if_neg (by omega)) (fun i hi => if_neg (by omega))
  rw [show (y + 6).toNat + (h.toNat + (12 - y - h).toNat) = ((18 : Int)).toNat by omega] at this
  rw [this]
  refine flat_congr fun i hi => ?_
  have hi := List.mem_range.mp hi
  rw [if_pos (by omega), show (-6 + (((y + 6).toNat + i : Nat) : Int)) = y + (i : Int) by omega]
section
variable {n j : Nat} {cs : Cells} {x y w h x2 y2 w2 h2 : Int}
theorem ne_nil (l : List Pt) (cs : Cells) : wCmp .NotEq (.d (.lst (l.map cell2))) (.d (.lst [])) cs = .ok (.d (.bl (!decide (l = [])))) cs := ne_cells l [] cs
theorem eq_nil (l : List Pt) (cs : Cells) : wCmp .Eq (.d (.lst (l.map cell2))) (.d (.lst [])) cs = .ok (.d (.bl (decide (l = [])))) cs := eq_cells l [] cs
theorem eq_four (a b c d a2 b2 c2 d2 : Int) (cs : Cells) : wCmp .Eq (.d (.tup [.int a, .int b, .int c, .int d])) (.d (.tup [.int a2, .int b2, .int c2, .int d2])) cs = .ok (.d (.bl (a == a2 && (b == b2 && (c == c2 && d == d2))))) cs := by
  rw [wCmp_eq (p := .tuple [.int a, .int b, .int c, .int d]) (q := .tuple [.int a2, .int b2, .int c2, .int d2]) rfl rfl (shaped_four ..) (shaped_four ..), eqv_four]
theorem ne_four (a b c d a2 b2 c2 d2 : Int) (cs : Cells) : wCmp .NotEq (.d (.tup [.int a, .int b, .int c, .int d])) (.d (.tup [.int a2, .int b2, .int c2, .int d2])) cs = .ok (.d (.bl (!(a == a2 && (b == b2 && (c == c2 && d == d2)))))) cs := by
  rw [wCmp_ne (p := .tuple [.int a, .int b, .int c, .int d]) (q := .tuple [.int a2, .int b2, .int c2, .int d2]) rfl rfl (shaped_four ..) (shaped_four ..), eqv_four]
theorem ovl_comm (x y w h x2 y2 w2 h2 : Int) : ovl x2 y2 w2 h2 x y w h = ovl x y w h x2 y2 w2 h2 := by
  unfold ovl
  rw [Bool.and_comm (decide (x2 < x + w)), Bool.and_assoc, Bool.and_assoc, Bool.and_comm (decide (y2 < y + h)), Bool.and_assoc, Bool.and_assoc]
theorem pair_right (b1 : 1 ≤ w) (c1 : w ≤ 5) (b2 : 1 ≤ h) (c2 : h ≤ 5) (b3 : 1 ≤ w2) (c3 : w2 ≤ 5) (b4 : 1 ≤ h2) (c4 : h2 ≤ 5) (cs : Cells) :
    (tab.phs n (j+5)).1 5 [.d (.tup [.int x, .int y, .int w, .int h]), .d (.tup [.int x2, .int y2, .int w2, .int h2])] cs = .ok (.bl true) cs := by
  rw [phi_succ (s := s5) (nl := 11) rfl]
  have B1 := law_box (n := n) (j := j+1) (x := x) (y := y) b1 b2
  have B2 := law_box (n := n) (j := j+1) (x := x2) (y := y2) b3 b4
  have C1 := box_cells (n := n) (j := j+3) (x := x) (y := y) (w := w) (h := h) (by omega) (by omega) (by omega) (by omega)
  have C2 := box_cells (n := n) (j := j+3) (x := x2) (y := y2) (w := w2) (h := h2) (by omega) (by omega) (by omega) (by omega)
  have C3 := box_cells (n := n) (j := j+3) (x := x2 + 1) (y := y2 + 1) (w := w2 - 2) (h := h2 - 2) (by omega) (by omega) (by omega) (by omega)
  have l25 : (cells x y w h).length < 16777216 := by
    have : (cells x y w h).length ≤ 5 * 5 := by
      rw [cells, List.length_flatMap]
      have : ∀ k : Nat, ((List.range k).map fun (i : Nat) => (row2 x (y + (i : Int)) w).length).sum ≤ k * 5 := fun k => by
        induction k with
        | zero => simp
        | succ k ih => rw [List.range_succ, List.map_append, List.sum_append, Nat.succ_mul]; simp [row2_len] at ih ⊢; omega
      have := this h.toNat
      omega
    omega
  have hs := fun (o2 o3 o4 : Option W) => ev_lcP (wd := tab.at n (j+4)) (elt := .var 8) (it := .itl (.var 7)) (conds := .cons (.cmp .In (.var 8) (.var 10)) .nil) (tg := [8]) (one := true) (own := [("_law_cell", 8)])
    (fr := [some (.d (.tup [.int x, .int y, .int w, .int h])), some (.d (.tup [.int x2, .int y2, .int w2, .int h2])), o2, o3, o4, some (.d (box x y w h)), some (.d (box x2 y2 w2 h2)), some (.d (.lst ((cells x y w h).map cell2))), none, some (.d (.lst ((cells (x2 + 1) (y2 + 1) (w2 - 2) (h2 - 2)).map cell2))), some (.d (.lst ((cells x2 y2 w2 h2).map cell2)))]) (cs := cs) (c1 := cs)
    (cells x y w h) cell2 cell2 (fun c => decide (c ∈ cells x2 y2 w2 h2)) (by simp) (fun c hc => ⟨_, rfl, fun acc => by simp [wipeF, in_cells]⟩) l25
  have hw := fun (o2 o3 o4 : Option W) => ev_lcP (wd := tab.at n (j+4)) (elt := .var 8) (it := .itl (.var 7)) (conds := .cons (.cmp .NotIn (.var 8) (.var 9)) .nil) (tg := [8]) (one := true) (own := [("_law_cell", 8)])
    (fr := [some (.d (.tup [.int x, .int y, .int w, .int h])), some (.d (.tup [.int x2, .int y2, .int w2, .int h2])), o2, o3, o4, some (.d (box x y w h)), some (.d (box x2 y2 w2 h2)), some (.d (.lst ((cells x y w h).map cell2))), none, some (.d (.lst ((cells (x2 + 1) (y2 + 1) (w2 - 2) (h2 - 2)).map cell2))), some (.d (.lst ((cells x2 y2 w2 h2).map cell2)))]) (cs := cs) (c1 := cs)
    (cells x y w h) cell2 cell2 (fun c => !decide (c ∈ cells (x2 + 1) (y2 + 1) (w2 - 2) (h2 - 2))) (by simp) (fun c hc => ⟨_, rfl, fun acc => by simp [wipeF, notin_cells]⟩) l25
  have e4 : ∀ cs, wCmp .NotEq (.d (.lst (((cells x y w h).filter fun c => decide (c ∈ cells x2 y2 w2 h2)).map cell2))) (.d (.lst [])) cs = .ok (.d (.bl (ovl x y w h x2 y2 w2 h2))) cs := fun cs => by
    rw [ne_nil, shares_eq b1 b2 b3 b4]
  have e3 : ∀ cs, wCmp .Eq (.d (.lst (((cells x y w h).filter fun c => !decide (c ∈ cells (x2 + 1) (y2 + 1) (w2 - 2) (h2 - 2))).map cell2))) (.d (.lst [])) cs = .ok (.d (.bl (ins x y w h x2 y2 w2 h2))) cs := fun cs => by
    rw [eq_nil, within_eq b1 b2]
  obtain ⟨t, ht, hrep⟩ := rep_told (ovl x y w h x2 y2 w2 h2) (ins x y w h x2 y2 w2 h2) (x == x2 && (y == y2 && (w == w2 && h == h2)))
  have O1 := overlaps (n := n) (j := j+2) (x := x) (y := y) (w := w) (h := h) (x2 := x2) (y2 := y2) (w2 := w2) (h2 := h2)
  have O2 := overlaps (n := n) (j := j+2) (x := x2) (y := y2) (w := w2) (h := h2) (x2 := x) (y2 := y) (w2 := w) (h2 := h)
  rw [ovl_comm] at O2
  have I1 := inside (n := n) (j := j+2) (x := x) (y := y) (w := w) (h := h) (x2 := x2) (y2 := y2) (w2 := w2) (h2 := h2)
  have Q1 := eq_box (n := n) (j := j+3) (x := x) (y := y) (w := w) (h := h) (x2 := x2) (y2 := y2) (w2 := w2) (h2 := h2)
  have Q2 := eq_box (n := n) (j := j+3) (x := x) (y := y) (w := w) (h := h) (x2 := x) (y2 := y) (w2 := w) (h2 := h)
  have Q3 := eq_other (n := n) (j := j+3) (x := x) (y := y) (w := w) (h := h) [.int x, .int y, .int w, .int h]
  have T1 := eq_four x y w h x y w h
  simp only [BEq.rfl, Bool.and_self] at Q2 T1
  have T2 := eq_four x y w h x2 y2 w2 h2
  have T3 := ne_four x y w h x2 y2 w2 h2
  generalize (x == x2 && (y == y2 && (w == w2 && h == h2))) = q at *
  generalize ovl x y w h x2 y2 w2 h2 = s at *
  generalize ins x y w h x2 y2 w2 h2 = i at *
  have m1 : ∀ cs, mthW (tab.at n (j+4)) (.d (box x y w h)) "overlaps" cs = some 13 := fun cs => by simp [mthW, List.lookup_cons, ofString_beq]
  have m2 : ∀ cs, mthW (tab.at n (j+4)) (.d (box x2 y2 w2 h2)) "overlaps" cs = some 13 := fun cs => by simp [mthW, List.lookup_cons, ofString_beq]
  have m3 : ∀ cs, mthW (tab.at n (j+4)) (.d (box x y w h)) "is_inside" cs = some 9 := fun cs => by simp [mthW, List.lookup_cons, ofString_beq]
  have hs := hs none none none
  have hw := hw none none (some (.d (.bl s)))
  unfold fnRun s5
  simp [srcs, callW, B1, B2, C1, C2, C3, tupW, pureDs, lit, wIx, atI, ixN, setWs, setTg] at hs hw ⊢
  simp [hs, hw, e3, e4, m1, m2, m3, methkW, eqoW, asBn, srcs, callW, B1, B2, O1, O2, I1, Q1, Q2, Q3, T1, T2, T3, tupW, lstW, pureDs, lit, f_x, f_y, f_w, f_h, wOp, wAdd, dlt, hrep, eq_self ht]
end
end K38

namespace K38
open PySem L2 BV
theorem cells_len {x y w h : Int} (hw : w ≤ 18) (hh : h ≤ 18) : (cells x y w h).length < 16777216 := by
  have : (cells x y w h).length ≤ 18 * 18 := by
    rw [cells, List.length_flatMap]
    have : ∀ k : Nat, ((List.range k).map fun (i : Nat) => (row2 x (y + (i : Int)) w).length).sum ≤ k * 18 := fun k => by
      induction k with
      | zero => simp
      | succ k ih => rw [List.range_succ, List.map_append, List.sum_append, Nat.succ_mul]; simp [row2_len] at ih ⊢; omega
    have := this h.toNat
    omega
  omega
def odd12 (x y w h : Int) : List D := [.non, .int x, .tup [.int x], .tup [.int x, .int y, .int x], .lst [.int x, .int y], .tup [.bl true, .int y], .tup [.int x, .bl false], .tup [.str (numS x), .int y], .tup [.int x, .non], .dct [], box x y w h, .str "ab"]
def odd13 (x y w h : Int) : List D := odd12 x y w h ++ [.tup [.tup [.int x, .int y]]]
theorem odd_all (x y w h : Int) : ∀ d ∈ odd13 x y w h, oddD d = true := by
  intro d hd
  simp only [odd13, odd12, List.cons_append, List.nil_append, List.mem_cons, List.not_mem_nil, or_false] at hd
  rcases hd with rfl | rfl | rfl | rfl | rfl | rfl | rfl | rfl | rfl | rfl | rfl | rfl | rfl <;> rfl
section
variable {n j : Nat} {cs : Cells} {x y w h : Int} {fr : Fra}
theorem ino_ok {b : Bool} {d : D} {cs : Cells} (hb : (tab.phs n j).1 8 [.d (box x y w h), .d d] cs = .ok (.bl b) cs) : inoW (tab.at n j) false (.d d) (.d (box x y w h)) cs = .ok (.d (.bl b)) cs := by
  simp [inoW, hb, asBn]
theorem no_ino {b : Bool} {d : D} {cs : Cells} (hb : (tab.phs n j).1 8 [.d (box x y w h), .d d] cs = .ok (.bl b) cs) : inoW (tab.at n j) true (.d d) (.d (box x y w h)) cs = .ok (.d (.bl (!b))) cs := by
  simp [inoW, hb, asBn]
theorem cells_right (hx : -6 ≤ x) (hx2 : x ≤ 7) (hy : -6 ≤ y) (hy2 : y ≤ 7) (b1 : 1 ≤ w) (c1 : w ≤ 5) (b2 : 1 ≤ h) (c2 : h ≤ 5) (cs : Cells) :
    (tab.phs n (j+5)).1 4 [.d (.tup [.int x, .int y, .int w, .int h])] cs = .ok (.bl true) cs := by
  rw [phi_succ (s := s4) (nl := 8) rfl]
  have C1 := box_cells (n := n) (j := j+3) (x := x) (y := y) (w := w) (h := h) (by omega) (by omega) (by omega) (by omega)
  have C2 := box_cells (n := n) (j := j+3) (x := -6) (y := -6) (w := 18) (h := 18) (by omega) (by omega) (by omega) (by omega)
  have hc := ev_lcP (wd := tab.at n (j+4)) (elt := .var 7) (it := .itl (.var 6)) (conds := .cons (.ino false (.var 7) (.var 3)) .nil) (tg := [7]) (one := true) (own := [("_law_cell", 7)])
    (fr := [some (.d (.tup [.int x, .int y, .int w, .int h])), none, none, some (.d (box x y w h)), none, none, some (.d (.lst ((cells (-6) (-6) 18 18).map cell2))), none]) (cs := cs) (c1 := cs)
    (cells (-6) (-6) 18 18) cell2 cell2 (fun c => inB x y w h c.1 c.2) (by simp) (fun c hc => ⟨_, rfl, fun acc => by
      have := ino_ok (x := x) (y := y) (w := w) (h := h) (d := cell2 c) (in_cell (n := n) (j := j+2) (x := x) (y := y) (w := w) (h := h) c.1 c.2 (cs ++ [some (.lst acc)]))
      simp [wipeF, this]⟩) (cells_len (by omega) (by omega))
  rw [cells_in (by omega) (by omega) (by omega) (by omega) (by omega) (by omega)] at hc
  have ho := ev_lcP (wd := tab.at n (j+4)) (elt := .var 2) (it := .itl (.var 1)) (conds := .cons (.ino false (.var 2) (.var 3)) .nil) (tg := [2]) (one := true) (own := [("_law_value", 2)])
    (fr := [some (.d (.tup [.int x, .int y, .int w, .int h])), some (.d (.lst (odd13 x y w h))), none, some (.d (box x y w h)), some (.d (.int y)), some (.d (.int x)), some (.d (.lst ((cells (-6) (-6) 18 18).map cell2))), none]) (cs := cs ++ [none]) (c1 := cs ++ [none])
    (odd13 x y w h) id id (fun c => false) (by simp) (fun c hc => ⟨_, rfl, fun acc => by
      have := ino_ok (in_odd (n := n) (j := j+2) (x := x) (y := y) (w := w) (h := h) (odd_all x y w h c hc) ((cs ++ [none]) ++ [some (.lst acc)]))
      rw [List.append_assoc, List.cons_append, List.nil_append] at this
      simp [wipeF, this]⟩) (by simp [odd13, odd12])
  rw [List.filter_eq_nil_iff.mpr (fun _ _ => by simp), List.map_nil] at ho
  have e0 : s4 = .cons (.set 3 (.make 0 1 .nil (.cons (.ix (.var 0) (.cst (.int 0))) (.cons (.ix (.var 0) (.cst (.int 1))) (.cons (.ix (.var 0) (.cst (.int 2))) (.cons (.ix (.var 0) (.cst (.int 3))) .nil)))))) (.cons (.set 6 (.call 14 0 (.cons (.tup (.cons (.neg (.cst (.int 6))) (.cons (.neg (.cst (.int 6))) (.cons (.cst (.int 18)) (.cons (.cst (.int 18)) .nil))))) .nil) .nil)) (.cons (.ife (.cmp .NotEq (.lc (.var 7) (.itl (.var 6)) (.cons (.ino false (.var 7) (.var 3)) .nil) [7] true [("_law_cell", 7)]) (.call 14 0 (.cons (.var 0) .nil) .nil)) (.cons (.ret (.cst (.bl false))) .nil) .nil) (.cons (.setT [5, 4] (.sl (.var 0) .nil (.cons (.cst (.int 2)) .nil))) (.cons (.setL 1 (.lst (.cons (.cst .non) (.cons (.var 5) (.cons (.tup (.cons (.var 5) .nil)) (.cons (.tup (.cons (.var 5) (.cons (.var 4) (.cons (.var 5) .nil)))) (.cons (.lst (.cons (.var 5) (.cons (.var 4) .nil))) (.cons (.tup (.cons (.cst (.bl true)) (.cons (.var 4) .nil))) (.cons (.tup (.cons (.var 5) (.cons (.cst (.bl false)) .nil))) (.cons (.tup (.cons (.bi .str (.cons (.var 5) .nil)) (.cons (.var 4) .nil))) (.cons (.tup (.cons (.var 5) (.cons (.cst .non) .nil))) (.cons .dct0 (.cons (.var 3) (.cons (.cst (.str "ab")) .nil)))))))))))))) (.cons (.expr (.bm .append (.var 1) (.cons (.tup (.cons (.tup (.cons (.var 5) (.cons (.var 4) .nil))) .nil)) .nil))) (.cons (.frz 1) (.cons (.ret (.cmp .Eq (.lc (.var 2) (.itl (.var 1)) (.cons (.ino false (.var 2) (.var 3)) .nil) [2] true [("_law_value", 2)]) (.lst .nil))) .nil))))))) := rfl
  have e1 : exS (tab.at n (j+4)) n cs.length (.set 3 (.make 0 1 .nil (.cons (.ix (.var 0) (.cst (.int 0))) (.cons (.ix (.var 0) (.cst (.int 1))) (.cons (.ix (.var 0) (.cst (.int 2))) (.cons (.ix (.var 0) (.cst (.int 3))) .nil)))))) [some (.d (.tup [.int x, .int y, .int w, .int h])), none, none, none, none, none, none, none] cs = .nx [some (.d (.tup [.int x, .int y, .int w, .int h])), none, none, some (.d (box x y w h)), none, none, none, none] cs := by
    simp [wIx, atI, ixN, b1, b2]
  have e2 : exS (tab.at n (j+4)) n cs.length (.set 6 (.call 14 0 (.cons (.tup (.cons (.neg (.cst (.int 6))) (.cons (.neg (.cst (.int 6))) (.cons (.cst (.int 18)) (.cons (.cst (.int 18)) .nil))))) .nil) .nil)) [some (.d (.tup [.int x, .int y, .int w, .int h])), none, none, some (.d (box x y w h)), none, none, none, none] cs = .nx [some (.d (.tup [.int x, .int y, .int w, .int h])), none, none, some (.d (box x y w h)), none, none, some (.d (.lst ((cells (-6) (-6) 18 18).map cell2))), none] cs := by
    simp [tupW, pureDs, lit, srcs, callW, C2]
  have e3 : exS (tab.at n (j+4)) n cs.length (.ife (.cmp .NotEq (.lc (.var 7) (.itl (.var 6)) (.cons (.ino false (.var 7) (.var 3)) .nil) [7] true [("_law_cell", 7)]) (.call 14 0 (.cons (.var 0) .nil) .nil)) (.cons (.ret (.cst (.bl false))) .nil) .nil) [some (.d (.tup [.int x, .int y, .int w, .int h])), none, none, some (.d (box x y w h)), none, none, some (.d (.lst ((cells (-6) (-6) 18 18).map cell2))), none] cs = .nx [some (.d (.tup [.int x, .int y, .int w, .int h])), none, none, some (.d (box x y w h)), none, none, some (.d (.lst ((cells (-6) (-6) 18 18).map cell2))), none] cs := by
    rw [x_ife, v_cmp, hc]
    simp [srcs, callW, C1, ne_cells]
  have e4 : exS (tab.at n (j+4)) n cs.length (.setT [5, 4] (.sl (.var 0) .nil (.cons (.cst (.int 2)) .nil))) [some (.d (.tup [.int x, .int y, .int w, .int h])), none, none, some (.d (box x y w h)), none, none, some (.d (.lst ((cells (-6) (-6) 18 18).map cell2))), none] cs = .nx [some (.d (.tup [.int x, .int y, .int w, .int h])), none, none, some (.d (box x y w h)), some (.d (.int y)), some (.d (.int x)), some (.d (.lst ((cells (-6) (-6) 18 18).map cell2))), none] cs := by
    simp [wSl, show cutD [D.int x, .int y, .int w, .int h] none (some 2) = [.int x, .int y] from rfl, setTg]
  have e5 : exS (tab.at n (j+4)) n cs.length (.setL 1 (.lst (.cons (.cst .non) (.cons (.var 5) (.cons (.tup (.cons (.var 5) .nil)) (.cons (.tup (.cons (.var 5) (.cons (.var 4) (.cons (.var 5) .nil)))) (.cons (.lst (.cons (.var 5) (.cons (.var 4) .nil))) (.cons (.tup (.cons (.cst (.bl true)) (.cons (.var 4) .nil))) (.cons (.tup (.cons (.var 5) (.cons (.cst (.bl false)) .nil))) (.cons (.tup (.cons (.bi .str (.cons (.var 5) .nil)) (.cons (.var 4) .nil))) (.cons (.tup (.cons (.var 5) (.cons (.cst .non) .nil))) (.cons .dct0 (.cons (.var 3) (.cons (.cst (.str "ab")) .nil)))))))))))))) [some (.d (.tup [.int x, .int y, .int w, .int h])), none, none, some (.d (box x y w h)), some (.d (.int y)), some (.d (.int x)), some (.d (.lst ((cells (-6) (-6) 18 18).map cell2))), none] cs = .nx [some (.d (.tup [.int x, .int y, .int w, .int h])), some (.loc cs.length), none, some (.d (box x y w h)), some (.d (.int y)), some (.d (.int x)), some (.d (.lst ((cells (-6) (-6) 18 18).map cell2))), none] (cs ++ [some (.lst (odd12 x y w h))]) := by
    simp [evL, lstL, lstW, tupW, pureDs, lit, wStr_num (i := x) (by omega), odd12]
  have e6 : exS (tab.at n (j+4)) n cs.length (.expr (.bm .append (.var 1) (.cons (.tup (.cons (.tup (.cons (.var 5) (.cons (.var 4) .nil))) .nil)) .nil))) [some (.d (.tup [.int x, .int y, .int w, .int h])), some (.loc cs.length), none, some (.d (box x y w h)), some (.d (.int y)), some (.d (.int x)), some (.d (.lst ((cells (-6) (-6) 18 18).map cell2))), none] (cs ++ [some (.lst (odd12 x y w h))]) = .nx [some (.d (.tup [.int x, .int y, .int w, .int h])), some (.loc cs.length), none, some (.d (box x y w h)), some (.d (.int y)), some (.d (.int x)), some (.d (.lst ((cells (-6) (-6) 18 18).map cell2))), none] (cs ++ [some (.lst (odd13 x y w h))]) := by
    have ha := wBm_append (m := cs.length) (xs := odd12 x y w h) (d := .tup [.tup [.int x, .int y]]) (cs := cs ++ [some (.lst (odd12 x y w h))]) (by simp) (by simp [odd12])
    simp [wTy, dl, celL, tupW, pureDs, lit, ha, odd13]
  have e7 : exS (tab.at n (j+4)) n cs.length (.frz 1) [some (.d (.tup [.int x, .int y, .int w, .int h])), some (.loc cs.length), none, some (.d (box x y w h)), some (.d (.int y)), some (.d (.int x)), some (.d (.lst ((cells (-6) (-6) 18 18).map cell2))), none] (cs ++ [some (.lst (odd13 x y w h))]) = .nx [some (.d (.tup [.int x, .int y, .int w, .int h])), some (.d (.lst (odd13 x y w h))), none, some (.d (box x y w h)), some (.d (.int y)), some (.d (.int x)), some (.d (.lst ((cells (-6) (-6) 18 18).map cell2))), none] (cs ++ [none]) := by
    simp [frzR, celL, frzW]
  show endD cs.length (exS (tab.at n (j+4)) n cs.length s4 [some (.d (.tup [.int x, .int y, .int w, .int h])), none, none, none, none, none, none, none] cs) = _
  rw [e0, x_cons, e1, sbind_nx, x_cons, e2, sbind_nx, x_cons, e3, sbind_nx, x_cons, e4, sbind_nx, x_cons, e5, sbind_nx, x_cons, e6, sbind_nx, x_cons, e7, sbind_nx, x_cons, x_ret, v_cmp, ho]
  have := eq_nil [] (cs ++ [none])
  simp at this
  simp [lstW, pureDs, this]
end
end K38

namespace K38
open PySem L2 BV
section
variable {n j : Nat} {cs : Cells} {x y w h : Int} {fr : Fra}
theorem nx6 : Nx (tab.at n (j+1)) 6 := ⟨by simp, fun h ht h0 h1 => by
  rw [ph, phi_succ (f := 6) (s := s6) (nl := 5) rfl]
  exact next_run h ht h0 h1⟩
theorem pk12 : Pk (tab.at n (j+2)) 12 := ⟨by simp, fun h ht h0 h1 => by
    rw [ph, phi_succ (f := 12) (s := s12) (nl := 2) rfl]
    exact pick_str (nx6 (n := n) (j := j)) h ht h0 h1, fun h ht h0 h1 => by
    rw [ph, phi_succ (f := 12) (s := s12) (nl := 2) rfl]
    exact pick_lst (nx6 (n := n) (j := j)) h ht h0 h1⟩
theorem evL_lcP {wd : Wd} {elt it conds : E} {tg : List Nat} {one : Bool} {own : List (Str × Nat)} {fr : Fra} {cs c1 : Cells} {ds : List D} (p : D → Bool) (f : D → D) (hi : evI wd it fr cs = .ok ds c1)
    (h : ∀ d ∈ ds, ∃ fr1, setTg tg one d (wipeF fr (own.map (·.2))) = some fr1 ∧ ∀ acc, asB (evAnd wd conds fr1 (c1 ++ [some (.lst acc)])) = .ok (p d) (c1 ++ [some (.lst acc)]) ∧ (p d = true → ev wd elt fr1 (c1 ++ [some (.lst acc)]) = .ok (.d (f d)) (c1 ++ [some (.lst acc)]))) (hl : ds.length < 16777216) :
    evL wd (.lc elt it conds tg one own) fr cs = .ok () (c1 ++ [some (.lst ((ds.filter p).map f))]) := by
  show (evI wd it fr cs).bind _ = _
  rw [hi, bind_ok, lcGo_map p f ds [] h (by simpa using hl)]
  simp
def wordC (c : Nat) : Str := if c = 1 then "number" else "member"
def pS : D → Bool
  | .tup [_, .bl b] => b
  | _ => false
def fS : D → D
  | .tup [a, _] => a
  | d => d
def words (a b : Bool) : List (Str × Bool) := [("name", false), ("port", false), ("number", a), ("member", b), ("diagram", false), ("change", false), ("part", false), ("edge", false), ("no port", false)]
def wordD (p : Str × Bool) : D := .tup [.str p.1, .bl p.2]
theorem word_exc {c : Nat} {m : D} {th : Cells → R D} (hc : c = 1 ∨ c = 10) (h : th cs = .exc c m cs) : (tab.at n (j+1)).phd 11 th cs = .ok (.tup [.str (wordC c), .non]) cs := by
  rw [phd_succ (d := d11) rfl]
  unfold fnRunD d11 r11
  have hl := fun (a b : Bool) => evL_lcP (wd := tab.at n j) (elt := .var 5) (it := .itl (.var 4)) (conds := .cons (.var 6) .nil) (tg := [5, 6]) (one := false) (own := [("_law_word", 5), ("_law_is_so", 6)])
    (fr := [none, none, some (.d (.exc c m)), some (.d .non), some (.d (.lst ((words a b).map wordD))), none, none]) (cs := cs) (c1 := cs) (ds := (words a b).map wordD) pS fS (by simp) (fun d hd => by
      obtain ⟨p, _, rfl⟩ := List.mem_map.mp hd
      exact ⟨_, rfl, fun acc => ⟨by cases hp : p.2 <;> simp [wipeF, hp, pS, wordD], fun _ => by simp [wipeF, fS, wordD]⟩⟩) (by simp [words])
  rcases hc with rfl | rfl
  · have hl := hl true false
    rw [show (((words true false).map wordD).filter pS).map fS = [.str "number"] from rfl] at hl
    simp [words, wordD] at hl
    simp [h, deedR, preF, holdR, wCmp_eq_int, wIsi, kitAnyD, lstW, tupW, pureDs, lit, wTy, dl, wOp, wAdd, dlt, hl, show ∀ (c : Nat) (x : D) cs, wCmp .Is (.d (.exc c x)) (.d .non) cs = .ok (.d (.bl false)) cs from fun _ _ _ => rfl]
    simp [frzR, celL, frzW, wBi, dl, wIx, atI, ixN, wIsi, kitAnyD, tupW, pureDs, lit, wordC]
  · have hl := hl false true
    rw [show (((words false true).map wordD).filter pS).map fS = [.str "member"] from rfl] at hl
    simp [words, wordD] at hl
    simp [h, deedR, preF, holdR, wCmp_eq_int, wIsi, kitAnyD, lstW, tupW, pureDs, lit, wTy, dl, wOp, wAdd, dlt, hl, show ∀ (c : Nat) (x : D) cs, wCmp .Is (.d (.exc c x)) (.d .non) cs = .ok (.d (.bl false)) cs from fun _ _ _ => rfl]
    simp [frzR, celL, frzW, wBi, dl, wIx, atI, ixN, wIsi, kitAnyD, tupW, pureDs, lit, wordC]
/-! the four deeds -/
theorem lam_box {a b c d : D} {i : Nat} (hi : fr[i]? = some (some (.d (.lst [a, b, c, d])))) (ha : okD a = true) (hb : okD b = true) (hc : okD c = true) (hd : okD d = true)
    (h : (isIntD a && isIntD b && isIntD c && isIntD d) = false ∨ ∃ w h, c = .int w ∧ d = .int h ∧ (w < 1 ∨ h < 1)) (cs : Cells) : ev (tab.at n (j+5)) (.lam 11 (.call 1 0 (.cons (.var i) .nil) .nil)) fr cs = .ok (.d (.tup [.str "number", .non])) cs := by
  have hb := law_box_bad (n := n) (j := j+1) ha hb hc hd h cs
  have key := word_exc (n := n) (j := j+4) (cs := cs) (c := 1) (m := .str "expected integers, the width and the height at least 1") (th := (tab.at n (j+5)).phc (.call 1 0 (.cons (.var i) .nil) .nil) fr) (.inl rfl) (by rw [phc_succ]; simp [hi, srcs, callW, hb])
  rw [v_lam, key]
  rfl
theorem lam_over {d : D} (h3 : fr[3]? = some (some (.d (box x y w h)))) (h4 : fr[4]? = some (some (.d d))) (hd : okD d = true) (hb : isBoxD d = false) (cs : Cells) : ev (tab.at n (j+5)) (.lam 11 (.meth (.var 3) "overlaps" (.cons (.var 4) .nil))) fr cs = .ok (.d (.tup [.str "member", .non])) cs := by
  have hb := overlaps_bad (n := n) (j := j+2) (x := x) (y := y) (w := w) (h := h) hd hb cs
  have m1 : ∀ cs, mthW (tab.at n (j+4)) (.d (box x y w h)) "overlaps" cs = some 13 := fun cs => by simp [mthW, List.lookup_cons, ofString_beq]
  have key := word_exc (n := n) (j := j+4) (cs := cs) (c := 10) (m := .str "expected a box") (th := (tab.at n (j+5)).phc (.meth (.var 3) "overlaps" (.cons (.var 4) .nil)) fr) (.inr rfl) (by rw [phc_succ]; simp [h3, h4, m1, callW, hb])
  rw [v_lam, key]
  rfl
theorem lam_in {d : D} (h3 : fr[3]? = some (some (.d (box x y w h)))) (h4 : fr[4]? = some (some (.d d))) (hd : okD d = true) (hb : isBoxD d = false) (cs : Cells) : ev (tab.at n (j+5)) (.lam 11 (.meth (.var 3) "is_inside" (.cons (.var 4) .nil))) fr cs = .ok (.d (.tup [.str "member", .non])) cs := by
  have hb := inside_bad (n := n) (j := j+2) (x := x) (y := y) (w := w) (h := h) hd hb cs
  have m1 : ∀ cs, mthW (tab.at n (j+4)) (.d (box x y w h)) "is_inside" cs = some 9 := fun cs => by simp [mthW, List.lookup_cons, ofString_beq]
  have key := word_exc (n := n) (j := j+4) (cs := cs) (c := 10) (m := .str "expected a box") (th := (tab.at n (j+5)).phc (.meth (.var 3) "is_inside" (.cons (.var 4) .nil)) fr) (.inr rfl) (by rw [phc_succ]; simp [h3, h4, m1, callW, hb])
  rw [v_lam, key]
  rfl
end
end K38

namespace K38
open PySem L2 BV
def odds : List D := [.non, .bl true, .bl false, .str "1", .tup [.int 1], .lst [.int 2], .dct [], .str "", .tup []]
def smalls : List D := [.int 0, .int (-1), .int (-7), .int (0 - 100000000000000000000)]
theorem odds_ok : ∀ d ∈ odds, okD d = true ∧ isIntD d = false := by
  intro d hd
  simp only [odds, List.mem_cons, List.not_mem_nil, or_false] at hd
  rcases hd with rfl | rfl | rfl | rfl | rfl | rfl | rfl | rfl | rfl <;> exact ⟨rfl, rfl⟩
theorem smalls_ok : ∀ d ∈ smalls, ∃ v : Int, d = .int v ∧ v < 1 := by
  intro d hd
  simp only [smalls, List.mem_cons, List.not_mem_nil, or_false] at hd
  rcases hd with rfl | rfl | rfl | rfl <;> exact ⟨_, rfl, by decide⟩
def fars (x y w h : Int) : List D := [.non, .tup [.int x, .int y, .int w, .int h], .int 5, .str "box", .lst [], .bl true]
theorem fars_ok {x y w h : Int} : ∀ d ∈ fars x y w h, okD d = true ∧ isBoxD d = false := by
  intro d hd
  simp only [fars, List.mem_cons, List.not_mem_nil, or_false] at hd
  rcases hd with rfl | rfl | rfl | rfl | rfl | rfl <;> exact ⟨rfl, rfl⟩
/-- four values that make no box -/
def badB (a b c d : D) : Prop := (isIntD a && isIntD b && isIntD c && isIntD d) = false ∨ ∃ w h, c = .int w ∧ d = .int h ∧ (w < 1 ∨ h < 1)
theorem put_odd {x y w h r : Int} {d : D} (h0 : 0 ≤ r) (h1 : r < 4) (ho : okD d = true) (hi : isIntD d = false) :
    ∃ a b c e, ([.int x, .int y, .int w, .int h] : List D).set r.toNat d = [a, b, c, e] ∧ okD a = true ∧ okD b = true ∧ okD c = true ∧ okD e = true ∧ badB a b c e := by
  have : r = 0 ∨ r = 1 ∨ r = 2 ∨ r = 3 := by omega
  rcases this with rfl | rfl | rfl | rfl
  · exact ⟨d, .int y, .int w, .int h, rfl, ho, rfl, rfl, rfl, .inl (by simp [hi])⟩
  · exact ⟨.int x, d, .int w, .int h, rfl, rfl, ho, rfl, rfl, .inl (by simp [hi])⟩
  · exact ⟨.int x, .int y, d, .int h, rfl, rfl, rfl, ho, rfl, .inl (by simp [hi])⟩
  · exact ⟨.int x, .int y, .int w, d, rfl, rfl, rfl, rfl, ho, .inl (by simp [hi])⟩
theorem put_small {x y w h r v : Int} (h0 : 0 ≤ r) (h1 : r < 2) (hv : v < 1) :
    ∃ a b c e, ([.int x, .int y, .int w, .int h] : List D).set (2 + r).toNat (.int v) = [a, b, c, e] ∧ okD a = true ∧ okD b = true ∧ okD c = true ∧ okD e = true ∧ badB a b c e := by
  have : r = 0 ∨ r = 1 := by omega
  rcases this with rfl | rfl
  · exact ⟨.int x, .int y, .int v, .int h, rfl, rfl, rfl, rfl, rfl, .inr ⟨v, h, rfl, rfl, .inl hv⟩⟩
  · exact ⟨.int x, .int y, .int w, .int v, rfl, rfl, rfl, rfl, rfl, .inr ⟨w, v, rfl, rfl, .inr hv⟩⟩
theorem set_two (l : Cells) (a b c : Option Cell) : (l ++ [a, b]).set (l.length + 1) c = l ++ [a, c] := by
  rw [List.set_append, if_neg (by omega), show l.length + 1 - l.length = 1 by omega]
  rfl
def eOdds : BV.E := (.lst (.cons (.cst .non) (.cons (.cst (.bl true)) (.cons (.cst (.bl false)) (.cons (.cst (.str "1")) (.cons (.tup (.cons (.cst (.int 1)) .nil)) (.cons (.lst (.cons (.cst (.int 2)) .nil)) (.cons .dct0 (.cons (.cst (.str "")) (.cons (.tup .nil) .nil))))))))))
def eSmalls : BV.E := (.lst (.cons (.cst (.int 0)) (.cons (.neg (.cst (.int 1))) (.cons (.neg (.cst (.int 7))) (.cons (.op .Sub (.cst (.int 0)) (.op .Pow (.cst (.int 10)) (.cst (.int 20)))) .nil)))))
def eFars : BV.E := (.lst (.cons (.cst .non) (.cons (.var 1) (.cons (.cst (.int 5)) (.cons (.cst (.str "box")) (.cons (.lst .nil) (.cons (.cst (.bl true)) .nil)))))))
def mem1 : D := .tup [.str "number", .non]
def mem2 : D := .tup [.str "member", .non]
def tailR : BV.S := (.cons (.setL 2 (.lst (.cons (.lam 11 (.call 1 0 (.cons (.var 6) .nil) .nil)) .nil))) (.cons (.expr (.bm .append (.var 2) (.cons (.lam 11 (.call 1 0 (.cons (.var 5) .nil) .nil)) .nil))) (.cons (.expr (.bm .append (.var 2) (.cons (.lam 11 (.meth (.var 3) "overlaps" (.cons (.var 4) .nil))) .nil))) (.cons (.expr (.bm .append (.var 2) (.cons (.lam 11 (.meth (.var 3) "is_inside" (.cons (.var 4) .nil))) .nil))) (.cons (.ret (.cmp .Eq (.var 2) (.op .Add (.op .Mult (.lst (.cons (.tup (.cons (.cst (.str "number")) (.cons (.cst .non) .nil))) .nil)) (.cst (.int 2))) (.op .Mult (.lst (.cons (.tup (.cons (.cst (.str "member")) (.cons (.cst .non) .nil))) .nil)) (.cst (.int 2)))))) .nil)))))
section
variable {n j m b : Nat} {cs : Cells} {x y w h t : Int} {fr : Fra}
theorem tail_run {o0 o1 o7 o8 : Option W} {a b c e a2 b2 c2 f2 d : D} (ha : okD a = true) (hb : okD b = true) (hc : okD c = true) (he : okD e = true) (hbad : badB a b c e)
    (ha2 : okD a2 = true) (hb2 : okD b2 = true) (hc2 : okD c2 = true) (he2 : okD f2 = true) (hbad2 : badB a2 b2 c2 f2) (hd : okD d = true) (hdb : isBoxD d = false) (q : Nat) (cs : Cells) :
    exS (tab.at n (j+5)) n q tailR [o0, o1, none, some (.d (box x y w h)), some (.d d), some (.d (.lst [a2, b2, c2, f2])), some (.d (.lst [a, b, c, e])), o7, o8] cs = .rt (.d (.bl true)) (cs ++ [some (.lst [mem1, mem1, mem2, mem2])]) := by
  have l1 := fun (o2 : Option W) => lam_box (n := n) (j := j) (i := 6) (fr := [o0, o1, o2, some (.d (box x y w h)), some (.d d), some (.d (.lst [a2, b2, c2, f2])), some (.d (.lst [a, b, c, e])), o7, o8]) rfl ha hb hc he hbad
  have l2 := fun (o2 : Option W) => lam_box (n := n) (j := j) (i := 5) (fr := [o0, o1, o2, some (.d (box x y w h)), some (.d d), some (.d (.lst [a2, b2, c2, f2])), some (.d (.lst [a, b, c, e])), o7, o8]) rfl ha2 hb2 hc2 he2 hbad2
  have l3 := fun (o2 : Option W) => lam_over (n := n) (j := j) (fr := [o0, o1, o2, some (.d (box x y w h)), some (.d d), some (.d (.lst [a2, b2, c2, f2])), some (.d (.lst [a, b, c, e])), o7, o8]) rfl rfl hd hdb
  have l4 := fun (o2 : Option W) => lam_in (n := n) (j := j) (fr := [o0, o1, o2, some (.d (box x y w h)), some (.d d), some (.d (.lst [a2, b2, c2, f2])), some (.d (.lst [a, b, c, e])), o7, o8]) rfl rfl hd hdb
  have e1 : exS (tab.at n (j+5)) n q (.setL 2 (.lst (.cons (.lam 11 (.call 1 0 (.cons (.var 6) .nil) .nil)) .nil))) [o0, o1, none, some (.d (box x y w h)), some (.d d), some (.d (.lst [a2, b2, c2, f2])), some (.d (.lst [a, b, c, e])), o7, o8] cs = .nx [o0, o1, some (.loc cs.length), some (.d (box x y w h)), some (.d d), some (.d (.lst [a2, b2, c2, f2])), some (.d (.lst [a, b, c, e])), o7, o8] (cs ++ [some (.lst [mem1])]) := by
    rw [x_setL]
    simp only [evL, vA_cons, l1, vA_nil, bind_ok]
    simp [lstL, pureDs, lit, mem1]
  have e2 : exS (tab.at n (j+5)) n q (.expr (.bm .append (.var 2) (.cons (.lam 11 (.call 1 0 (.cons (.var 5) .nil) .nil)) .nil))) [o0, o1, some (.loc cs.length), some (.d (box x y w h)), some (.d d), some (.d (.lst [a2, b2, c2, f2])), some (.d (.lst [a, b, c, e])), o7, o8] (cs ++ [some (.lst [mem1])]) = .nx [o0, o1, some (.loc cs.length), some (.d (box x y w h)), some (.d d), some (.d (.lst [a2, b2, c2, f2])), some (.d (.lst [a, b, c, e])), o7, o8] (cs ++ [some (.lst [mem1, mem1])]) := by
    have hv := wBm_append (m := cs.length) (xs := [mem1]) (d := mem1) (cs := cs ++ [some (.lst [mem1])]) (by simp) (by simp)
    simp only [x_expr, v_bm, vA_cons, l2, vA_nil]
    simp [wTy, dl, celL]
    rw [show (D.tup [.str "number", .non]) = mem1 from rfl, hv]
    simp
  have e3 : exS (tab.at n (j+5)) n q (.expr (.bm .append (.var 2) (.cons (.lam 11 (.meth (.var 3) "overlaps" (.cons (.var 4) .nil))) .nil))) [o0, o1, some (.loc cs.length), some (.d (box x y w h)), some (.d d), some (.d (.lst [a2, b2, c2, f2])), some (.d (.lst [a, b, c, e])), o7, o8] (cs ++ [some (.lst [mem1, mem1])]) = .nx [o0, o1, some (.loc cs.length), some (.d (box x y w h)), some (.d d), some (.d (.lst [a2, b2, c2, f2])), some (.d (.lst [a, b, c, e])), o7, o8] (cs ++ [some (.lst [mem1, mem1, mem2])]) := by
    have hv := wBm_append (m := cs.length) (xs := [mem1, mem1]) (d := mem2) (cs := cs ++ [some (.lst [mem1, mem1])]) (by simp) (by simp)
    simp only [x_expr, v_bm, vA_cons, l3, vA_nil]
    simp [wTy, dl, celL]
    rw [show (D.tup [.str "member", .non]) = mem2 from rfl, hv]
    simp
  have e4 : exS (tab.at n (j+5)) n q (.expr (.bm .append (.var 2) (.cons (.lam 11 (.meth (.var 3) "is_inside" (.cons (.var 4) .nil))) .nil))) [o0, o1, some (.loc cs.length), some (.d (box x y w h)), some (.d d), some (.d (.lst [a2, b2, c2, f2])), some (.d (.lst [a, b, c, e])), o7, o8] (cs ++ [some (.lst [mem1, mem1, mem2])]) = .nx [o0, o1, some (.loc cs.length), some (.d (box x y w h)), some (.d d), some (.d (.lst [a2, b2, c2, f2])), some (.d (.lst [a, b, c, e])), o7, o8] (cs ++ [some (.lst [mem1, mem1, mem2, mem2])]) := by
    have hv := wBm_append (m := cs.length) (xs := [mem1, mem1, mem2]) (d := mem2) (cs := cs ++ [some (.lst [mem1, mem1, mem2])]) (by simp) (by simp)
    simp only [x_expr, v_bm, vA_cons, l4, vA_nil]
    simp [wTy, dl, celL]
    rw [show (D.tup [.str "member", .non]) = mem2 from rfl, hv]
    simp
  have e5 : wCmp .Eq (.loc cs.length) (.d (.lst [mem1, mem1, mem2, mem2])) (cs ++ [some (.lst [mem1, mem1, mem2, mem2])]) = .ok (.d (.bl true)) (cs ++ [some (.lst [mem1, mem1, mem2, mem2])]) := by
    rw [wCmp_eq (p := .list [.tuple [.str "number", .none], .tuple [.str "number", .none], .tuple [.str "member", .none], .tuple [.str "member", .none]]) (q := .list [.tuple [.str "number", .none], .tuple [.str "number", .none], .tuple [.str "member", .none], .tuple [.str "member", .none]]) (by simp [wPy, celL, toPy, toPyL, mem1, mem2]) (by simp [wPy, toPy, toPyL, mem1, mem2]) (by decide +kernel) (by decide +kernel)]
    congr 3
  unfold tailR
  rw [x_cons, e1, sbind_nx, x_cons, e2, sbind_nx, x_cons, e3, sbind_nx, x_cons, e4, sbind_nx]
  simp [lstW, tupW, pureDs, lit, wOp, wMul, wAdd, dlt, List.replicate]
  rw [show (D.lst [.tup [.str "number", .non], .tup [.str "number", .non], .tup [.str "member", .non], .tup [.str "member", .non]]) = .lst [mem1, mem1, mem2, mem2] from rfl, e5]
  simp
theorem pow20 : ((10 : Int) ^ (20 : Int).toNat) = 100000000000000000000 := by decide
theorem refused (hs : SrcAt cs m t) (ht : t ≤ 900000) (bw : 1 ≤ w) (bh : 1 ≤ h) :
    ∃ cs', (tab.phs n (j+6)).1 3 [.loc m, .d (.tup [.int x, .int y, .int w, .int h])] cs = .ok (.bl true) cs' ∧ Drawn m (t + 5) cs cs' := by
  -- the first draws
  obtain ⟨r, cs1, e1, d1, r0, r1⟩ := ev_next (wd := tab.at n (j+5)) (f := 6) (i := 0) (m := m) (t := t) (many := 4) (e := .cst (.int 4)) (fr := [some (.loc m), some (.d (.tup [.int x, .int y, .int w, .int h])), none, none, none, none, none, none, none]) (cs := cs) (nx6 (j := j + 4)) rfl (by simp) hs (by omega) (by decide) (by decide)
  obtain ⟨d, cs2, e2, d2, hd⟩ := ev_pickL (wd := tab.at n (j+5)) (f := 12) (i := 0) (m := m) (t := t + 1) (xs := odds) (e := eOdds) (fr := [some (.loc m), some (.d (.tup [.int x, .int y, .int w, .int h])), none, none, none, none, none, none, none]) (cs := cs1) (pk12 (j := j + 3)) rfl (by simp [eOdds, lstW, tupW, pureDs, lit, odds]) d1.src (by omega) (by decide) (by decide)
  have D2 := d1.trans d2
  have lm := hs.lt
  have l2 : cs2.length = cs.length := D2.len
  obtain ⟨hdo, hdi⟩ := odds_ok d hd
  obtain ⟨a, b, c, e, q1, ha, hb, hc, he, hbad⟩ := put_odd (x := x) (y := y) (w := w) (h := h) r0 r1 hdo hdi
  have s1 : exS (tab.at n (j+5)) n cs.length (.par [7, 8] (.cons (.call 6 0 (.cons (.var 0) (.cons (.cst (.int 4)) .nil)) .nil) (.cons (.call 12 0 (.cons (.var 0) (.cons eOdds .nil)) .nil) .nil))) [some (.loc m), some (.d (.tup [.int x, .int y, .int w, .int h])), none, none, none, none, none, none, none] cs = .nx [some (.loc m), some (.d (.tup [.int x, .int y, .int w, .int h])), none, none, none, none, none, some (.d (.int r)), some (.d d)] cs2 := by
    rw [x_par]
    simp only [vA_cons, vA_nil, e1, e2, bind_ok, onE_ok]
    rfl
  have s2 : exS (tab.at n (j+5)) n cs.length (.setL 6 (.ofl (.var 1))) [some (.loc m), some (.d (.tup [.int x, .int y, .int w, .int h])), none, none, none, none, none, some (.d (.int r)), some (.d d)] cs2 = .nx [some (.loc m), some (.d (.tup [.int x, .int y, .int w, .int h])), none, none, none, none, some (.loc cs2.length), some (.d (.int r)), some (.d d)] (cs2 ++ [some (.lst [.int x, .int y, .int w, .int h])]) := by
    simp [oflW, seqOf]
  have s3 : exS (tab.at n (j+5)) n cs.length (.put (.var 6) (.var 7) (.var 8)) [some (.loc m), some (.d (.tup [.int x, .int y, .int w, .int h])), none, none, none, none, some (.loc cs2.length), some (.d (.int r)), some (.d d)] (cs2 ++ [some (.lst [.int x, .int y, .int w, .int h])]) = .nx [some (.loc m), some (.d (.tup [.int x, .int y, .int w, .int h])), none, none, none, none, some (.loc cs2.length), some (.d (.int r)), some (.d d)] (cs2 ++ [some (.lst [a, b, c, e])]) := by
    have hix : ixN ([D.int x, .int y, .int w, .int h] : List D).length r = some r.toNat := by
      unfold L2.ixN
      rw [if_pos r0, if_pos (by simp; omega)]
    have := putR_loc (m := cs2.length) (xs := [.int x, .int y, .int w, .int h]) (i := r) (d := d) (k := r.toNat) (cs := cs2 ++ [some (.lst [.int x, .int y, .int w, .int h])]) (fr := [some (.loc m), some (.d (.tup [.int x, .int y, .int w, .int h])), none, none, none, none, some (.loc cs2.length), some (.d (.int r)), some (.d d)]) (by simp) hix
    rw [q1] at this
    simp [this]
  have hm2 : ¬ m = cs2.length := by omega
  have s4 : exS (tab.at n (j+5)) n cs.length (.frz 6) [some (.loc m), some (.d (.tup [.int x, .int y, .int w, .int h])), none, none, none, none, some (.loc cs2.length), some (.d (.int r)), some (.d d)] (cs2 ++ [some (.lst [a, b, c, e])]) = .nx [some (.loc m), some (.d (.tup [.int x, .int y, .int w, .int h])), none, none, none, none, some (.d (.lst [a, b, c, e])), some (.d (.int r)), some (.d d)] (cs2 ++ [none]) := by
    simp [frzR, celL, frzW, hm2, l2]
    omega
  have s5 : exS (tab.at n (j+5)) n cs.length (.setL 5 (.ofl (.var 1))) [some (.loc m), some (.d (.tup [.int x, .int y, .int w, .int h])), none, none, none, none, some (.d (.lst [a, b, c, e])), some (.d (.int r)), some (.d d)] (cs2 ++ [none]) = .nx [some (.loc m), some (.d (.tup [.int x, .int y, .int w, .int h])), none, none, none, some (.loc (cs2.length + 1)), some (.d (.lst [a, b, c, e])), some (.d (.int r)), some (.d d)] (cs2 ++ [none, some (.lst [.int x, .int y, .int w, .int h])]) := by
    simp [oflW, seqOf]
  -- the second list
  obtain ⟨v, cs3', e3, d3, hv⟩ := ev_pickL (wd := tab.at n (j+5)) (f := 12) (i := 0) (m := m) (t := t + 2) (xs := smalls) (e := eSmalls) (fr := [some (.loc m), some (.d (.tup [.int x, .int y, .int w, .int h])), none, none, none, some (.loc (cs2.length + 1)), some (.d (.lst [a, b, c, e])), some (.d (.int r)), some (.d d)]) (cs := cs2 ++ [none, some (.lst [.int x, .int y, .int w, .int h])]) (pk12 (j := j + 3)) rfl (by simp [eSmalls, lstW, pureDs, lit, smalls, wOp_pow (i := 10) (j := 20) (by decide) (by decide) (by decide), pow20]) (D2.src.mono (t' := t + 2) (by omega)).app (by omega) (by decide) (by decide)
  obtain ⟨cs3, rfl, k3⟩ := d3.app (by omega)
  obtain ⟨r2, cs4', e4, d4, r20, r21⟩ := ev_next (wd := tab.at n (j+5)) (f := 6) (i := 0) (m := m) (t := t + 3) (many := 2) (e := .cst (.int 2)) (fr := [some (.loc m), some (.d (.tup [.int x, .int y, .int w, .int h])), none, none, none, some (.loc (cs2.length + 1)), some (.d (.lst [a, b, c, e])), some (.d (.int r)), some (.d d)]) (cs := cs3 ++ [none, some (.lst [.int x, .int y, .int w, .int h])]) (nx6 (j := j + 4)) rfl (by simp) (k3.src.mono (t' := t + 3) (by omega)).app (by omega) (by decide) (by decide)
  obtain ⟨cs4, rfl, k4⟩ := d4.app k3.src.lt
  have l3 : cs3.length = cs2.length := k3.len
  have l4 : cs4.length = cs3.length := k4.len
  have D4 := (D2.trans k3).trans k4
  obtain ⟨v, rfl, hv1⟩ := smalls_ok v hv
  obtain ⟨a2, b2, c2, f2, q2, ha2, hb2, hc2, he2, hbad2⟩ := put_small (x := x) (y := y) (w := w) (h := h) r20 r21 hv1
  have s6 : exS (tab.at n (j+5)) n cs.length (.put (.var 5) (.op .Add (.cst (.int 2)) (.call 6 0 (.cons (.var 0) (.cons (.cst (.int 2)) .nil)) .nil)) (.call 12 0 (.cons (.var 0) (.cons eSmalls .nil)) .nil)) [some (.loc m), some (.d (.tup [.int x, .int y, .int w, .int h])), none, none, none, some (.loc (cs2.length + 1)), some (.d (.lst [a, b, c, e])), some (.d (.int r)), some (.d d)] (cs2 ++ [none, some (.lst [.int x, .int y, .int w, .int h])]) = .nx [some (.loc m), some (.d (.tup [.int x, .int y, .int w, .int h])), none, none, none, some (.loc (cs2.length + 1)), some (.d (.lst [a, b, c, e])), some (.d (.int r)), some (.d d)] (cs4 ++ [none, some (.lst [a2, b2, c2, f2])]) := by
    have hix : ixN ([D.int x, .int y, .int w, .int h] : List D).length (2 + r2) = some (2 + r2).toNat := by
      unfold L2.ixN
      rw [if_pos (by omega), if_pos (by simp; omega)]
    have := putR_loc (m := cs2.length + 1) (xs := [.int x, .int y, .int w, .int h]) (i := 2 + r2) (d := .int v) (k := (2 + r2).toNat) (cs := cs4 ++ [none, some (.lst [.int x, .int y, .int w, .int h])]) (fr := [some (.loc m), some (.d (.tup [.int x, .int y, .int w, .int h])), none, none, none, some (.loc (cs2.length + 1)), some (.d (.lst [a, b, c, e])), some (.d (.int r)), some (.d d)]) (by rw [← l3, ← l4]; simp) hix
    have hset : (cs4 ++ [none, some (Cell.lst [.int x, .int y, .int w, .int h])]).set (cs2.length + 1) (some (.lst [a2, b2, c2, f2])) = cs4 ++ [none, some (.lst [a2, b2, c2, f2])] := by
      rw [← l3, ← l4]
      exact set_two _ _ _ _
    rw [q2, hset] at this
    have hv5 : ev (tab.at n (j+5)) (.var 5) [some (.loc m), some (.d (.tup [.int x, .int y, .int w, .int h])), none, none, none, some (.loc (cs2.length + 1)), some (.d (.lst [a, b, c, e])), some (.d (.int r)), some (.d d)] (cs3 ++ [none, some (.lst [.int x, .int y, .int w, .int h])]) = .ok (.loc (cs2.length + 1)) (cs3 ++ [none, some (.lst [.int x, .int y, .int w, .int h])]) := by simp
    rw [x_put, e3, onE_ok, hv5, onE_ok]
    simp only [v_op, e4, v_cst, bind_ok]
    simp [this]
  have hm3 : ¬ m = cs4.length + 1 := by omega
  have s7 : exS (tab.at n (j+5)) n cs.length (.frz 5) [some (.loc m), some (.d (.tup [.int x, .int y, .int w, .int h])), none, none, none, some (.loc (cs2.length + 1)), some (.d (.lst [a, b, c, e])), some (.d (.int r)), some (.d d)] (cs4 ++ [none, some (.lst [a2, b2, c2, f2])]) = .nx [some (.loc m), some (.d (.tup [.int x, .int y, .int w, .int h])), none, none, none, some (.d (.lst [a2, b2, c2, f2])), some (.d (.lst [a, b, c, e])), some (.d (.int r)), some (.d d)] (cs4 ++ [none, none]) := by
    rw [← l3, ← l4]
    have : cs.length ≤ cs4.length + 1 := by omega
    simp [frzR, celL, frzW, hm3, this]
  -- box and what is none
  have B1 := law_box (n := n) (j := j+2) (x := x) (y := y) bw bh (cs4 ++ [none, none])
  obtain ⟨f, cs5', e5, d5, hf⟩ := ev_pickL (wd := tab.at n (j+5)) (f := 12) (i := 0) (m := m) (t := t + 4) (xs := fars x y w h) (e := eFars) (fr := [some (.loc m), some (.d (.tup [.int x, .int y, .int w, .int h])), none, none, none, some (.d (.lst [a2, b2, c2, f2])), some (.d (.lst [a, b, c, e])), some (.d (.int r)), some (.d d)]) (cs := cs4 ++ [none, none]) (pk12 (j := j + 3)) rfl (by simp [eFars, lstW, pureDs, lit, fars]) (D4.src.mono (t' := t + 4) (by omega)).app (by omega) (by simp [fars]) (by simp [fars])
  obtain ⟨cs5, rfl, k5⟩ := d5.app D4.src.lt
  have l5 : cs5.length = cs4.length := k5.len
  obtain ⟨hfo, hfb⟩ := fars_ok f hf
  have e6 : ev (tab.at n (j+5)) (.call 1 0 (.cons (.var 1) .nil) .nil) [some (.loc m), some (.d (.tup [.int x, .int y, .int w, .int h])), none, none, none, some (.d (.lst [a2, b2, c2, f2])), some (.d (.lst [a, b, c, e])), some (.d (.int r)), some (.d d)] (cs4 ++ [none, none]) = .ok (.d (box x y w h)) (cs4 ++ [none, none]) := by
    simp [srcs, callW, B1]
  have s8 : exS (tab.at n (j+5)) n cs.length (.setT [3, 4] (.tup (.cons (.call 1 0 (.cons (.var 1) .nil) .nil) (.cons (.call 12 0 (.cons (.var 0) (.cons eFars .nil)) .nil) .nil)))) [some (.loc m), some (.d (.tup [.int x, .int y, .int w, .int h])), none, none, none, some (.d (.lst [a2, b2, c2, f2])), some (.d (.lst [a, b, c, e])), some (.d (.int r)), some (.d d)] (cs4 ++ [none, none]) = .nx [some (.loc m), some (.d (.tup [.int x, .int y, .int w, .int h])), none, some (.d (box x y w h)), some (.d f), some (.d (.lst [a2, b2, c2, f2])), some (.d (.lst [a, b, c, e])), some (.d (.int r)), some (.d d)] (cs5 ++ [none, none]) := by
    rw [x_setT, v_tup]
    simp only [vA_cons, vA_nil, e5, e6, bind_ok]
    simp [tupW, pureDs, lit, setTg]
  have s9 := tail_run (n := n) (j := j) (o0 := some (.loc m)) (o1 := some (.d (.tup [.int x, .int y, .int w, .int h]))) (o7 := some (.d (.int r))) (o8 := some (.d d)) (x := x) (y := y) (w := w) (h := h) ha hb hc he hbad ha2 hb2 hc2 he2 hbad2 hfo hfb cs.length (cs5 ++ [none, none])
  refine ⟨cs5, ?_, (D4.trans k5).mono (by omega)⟩
  rw [phi_succ (s := K38.s3) (nl := 9) rfl]
  have e0 : K38.s3 = .cons (.par [7, 8] (.cons (.call 6 0 (.cons (.var 0) (.cons (.cst (.int 4)) .nil)) .nil) (.cons (.call 12 0 (.cons (.var 0) (.cons eOdds .nil)) .nil) .nil))) (.cons (.setL 6 (.ofl (.var 1))) (.cons (.put (.var 6) (.var 7) (.var 8)) (.cons (.frz 6) (.cons (.setL 5 (.ofl (.var 1))) (.cons (.put (.var 5) (.op .Add (.cst (.int 2)) (.call 6 0 (.cons (.var 0) (.cons (.cst (.int 2)) .nil)) .nil)) (.call 12 0 (.cons (.var 0) (.cons eSmalls .nil)) .nil)) (.cons (.frz 5) (.cons (.setT [3, 4] (.tup (.cons (.call 1 0 (.cons (.var 1) .nil) .nil) (.cons (.call 12 0 (.cons (.var 0) (.cons eFars .nil)) .nil) .nil)))) tailR))))))) := rfl
  show endD cs.length (exS (tab.at n (j+5)) n cs.length K38.s3 [some (.loc m), some (.d (.tup [.int x, .int y, .int w, .int h])), none, none, none, none, none, none, none] cs) = _
  rw [e0, x_cons, s1, sbind_nx, x_cons, s2, sbind_nx, x_cons, s3, sbind_nx, x_cons, s4, sbind_nx, x_cons, s5, sbind_nx, x_cons, s6, sbind_nx, x_cons, s7, sbind_nx, x_cons, s8, sbind_nx, s9, endD_rt, retD_d]
  have hl : cs.length = cs5.length := by omega
  rw [hl, List.append_assoc, List.take_left']
  rfl
end
end K38

namespace K38
open PySem L2 BV
def eA : BV.E := .lc (.op .Sub (.call 6 0 (.cons (.var 4) (.cons (.cst (.int 8)) .nil)) .nil) (.cst (.int 3))) (.rng1 (.cst (.int 2))) .nil [6] true [("_law_at", 6)]
def eB : BV.E := .lc (.op .Add (.cst (.int 1)) (.call 6 0 (.cons (.var 4) (.cons (.cst (.int 5)) .nil)) .nil)) (.rng1 (.cst (.int 2))) .nil [6] true [("_law_at", 6)]
def eT : BV.E := .bi .tuple (.cons (.op .Add eA eB) .nil)
section
variable {n j m : Nat} {cs : Cells} {t : Int} {o0 o1 o2 o3 o4 o5 o6 : Option W}
theorem rng_two {wd : Wd} {fr : Fra} : evI wd (.rng1 (.cst (.int 2))) fr cs = .ok (rngD 0 2) cs := by simp [small62]
theorem two_ints {xs : List D} {a b : Int} (h2 : xs.length = 2) (h : ∀ x ∈ xs, ∃ i : Int, x = .int i ∧ a ≤ i ∧ i ≤ b) : ∃ x y : Int, xs = [.int x, .int y] ∧ a ≤ x ∧ x ≤ b ∧ a ≤ y ∧ y ≤ b := by
  match xs, h2 with
  | [p, q], _ =>
    obtain ⟨i, rfl, hi⟩ := h p (by simp)
    obtain ⟨k, rfl, hk⟩ := h q (by simp)
    exact ⟨i, k, rfl, hi.1, hi.2, hk.1, hk.2⟩
theorem draw_A (hs : SrcAt cs m t) (ht : t ≤ 900000) : ∃ (x y : Int) (cs' : Cells), ev (tab.at n (j+6)) eA [o0, o1, o2, o3, some (.loc m), o5, o6] cs = .ok (.d (.lst [.int x, .int y])) cs' ∧ Drawn m (t + 2) cs cs' ∧ -3 ≤ x ∧ x ≤ 4 ∧ -3 ≤ y ∧ y ≤ 4 := by
  obtain ⟨xs, c1, g1, g2, g3, g4, g5⟩ := ev_lcD (wd := tab.at n (j+6)) (elt := (.op .Sub (.call 6 0 (.cons (.var 4) (.cons (.cst (.int 8)) .nil)) .nil) (.cst (.int 3)))) (it := .rng1 (.cst (.int 2))) (conds := .nil) (tg := [6]) (one := true) (own := [("_law_at", 6)]) (fr := [o0, o1, o2, o3, some (.loc m), o5, o6]) (cs := cs) (c1 := cs) (ds := rngD 0 2) 2
    (fun k c => Drawn m (t + k) cs c) (fun x => ∃ i : Int, x = .int i ∧ -3 ≤ i ∧ i ≤ 4) 0 rng_two ((Drawn.refl hs).mono (by omega)) (fun d hd k c acc hk' hk => by
      obtain ⟨i, c2, q1, q2, q3, q4⟩ := ev_next (wd := tab.at n (j+6)) (f := 6) (i := 4) (m := m) (t := t + k) (many := 8) (e := .cst (.int 8)) (fr := [o0, o1, o2, o3, some (.loc m), o5, some (.d d)]) (cs := c ++ [some (.lst acc)]) (nx6 (j := j + 5)) rfl (by simp) hk.src.app (by omega) (by decide) (by decide)
      obtain ⟨c5, rfl, q5⟩ := q2.app (by rw [hk.len]; exact hs.lt)
      exact ⟨_, .int (i - 3), c5, rfl, by simp, by simp only [v_op, wipeF, List.map_cons, List.map_nil, List.set, q1, bind_ok, v_cst, wOp_sub], q5.len, (hk.trans q5).mono (by omega), i - 3, rfl, by omega, by omega⟩) (by rw [rngD0]; simp) (by rw [rngD0]; simp)
  obtain ⟨x, y, rfl, h1, h2, h3, h4⟩ := two_ints (by rw [g2, rngD0]; simp) g3
  exact ⟨x, y, c1, g1, g4.mono (by rw [rngD0]; simp), h1, h2, h3, h4⟩
theorem draw_B (hs : SrcAt cs m t) (ht : t ≤ 900000) : ∃ (x y : Int) (cs' : Cells), ev (tab.at n (j+6)) eB [o0, o1, o2, o3, some (.loc m), o5, o6] cs = .ok (.d (.lst [.int x, .int y])) cs' ∧ Drawn m (t + 2) cs cs' ∧ 1 ≤ x ∧ x ≤ 5 ∧ 1 ≤ y ∧ y ≤ 5 := by
  obtain ⟨xs, c1, g1, g2, g3, g4, g5⟩ := ev_lcD (wd := tab.at n (j+6)) (elt := (.op .Add (.cst (.int 1)) (.call 6 0 (.cons (.var 4) (.cons (.cst (.int 5)) .nil)) .nil))) (it := .rng1 (.cst (.int 2))) (conds := .nil) (tg := [6]) (one := true) (own := [("_law_at", 6)]) (fr := [o0, o1, o2, o3, some (.loc m), o5, o6]) (cs := cs) (c1 := cs) (ds := rngD 0 2) 2
    (fun k c => Drawn m (t + k) cs c) (fun x => ∃ i : Int, x = .int i ∧ 1 ≤ i ∧ i ≤ 5) 0 rng_two ((Drawn.refl hs).mono (by omega)) (fun d hd k c acc hk' hk => by
      obtain ⟨i, c2, q1, q2, q3, q4⟩ := ev_next (wd := tab.at n (j+6)) (f := 6) (i := 4) (m := m) (t := t + k) (many := 5) (e := .cst (.int 5)) (fr := [o0, o1, o2, o3, some (.loc m), o5, some (.d d)]) (cs := c ++ [some (.lst acc)]) (nx6 (j := j + 5)) rfl (by simp) hk.src.app (by omega) (by decide) (by decide)
      obtain ⟨c5, rfl, q5⟩ := q2.app (by rw [hk.len]; exact hs.lt)
      exact ⟨_, .int (1 + i), c5, rfl, by simp, by simp only [v_op, wipeF, List.map_cons, List.map_nil, List.set, q1, bind_ok, v_cst, wOp_add], q5.len, (hk.trans q5).mono (by omega), 1 + i, rfl, by omega, by omega⟩) (by rw [rngD0]; simp) (by rw [rngD0]; simp)
  obtain ⟨x, y, rfl, h1, h2, h3, h4⟩ := two_ints (by rw [g2, rngD0]; simp) g3
  exact ⟨x, y, c1, g1, g4.mono (by rw [rngD0]; simp), h1, h2, h3, h4⟩
structure Bx (x y w h : Int) : Prop where
  x0 : -3 ≤ x
  x1 : x ≤ 4
  y0 : -3 ≤ y
  y1 : y ≤ 4
  w0 : 1 ≤ w
  w1 : w ≤ 5
  h0 : 1 ≤ h
  h1 : h ≤ 5
theorem draw_T (hs : SrcAt cs m t) (ht : t ≤ 800000) : ∃ (x y w h : Int) (cs' : Cells), ev (tab.at n (j+6)) eT [o0, o1, o2, o3, some (.loc m), o5, o6] cs = .ok (.d (.tup [.int x, .int y, .int w, .int h])) cs' ∧ Drawn m (t + 4) cs cs' ∧ Bx x y w h := by
  obtain ⟨x, y, c1, e1, d1, h1, h2, h3, h4⟩ := draw_A (n := n) (j := j) (o0 := o0) (o1 := o1) (o2 := o2) (o3 := o3) (o5 := o5) (o6 := o6) hs (by omega)
  obtain ⟨w, h, c2, e2, d2, h5, h6, h7, h8⟩ := draw_B (n := n) (j := j) (o0 := o0) (o1 := o1) (o2 := o2) (o3 := o3) (o5 := o5) (o6 := o6) d1.src (by omega)
  refine ⟨x, y, w, h, c2, ?_, (d1.trans d2).mono (by omega), ⟨h1, h2, h3, h4, h5, h6, h7, h8⟩⟩
  rw [eT, v_bi, vA_cons, v_op, e1, bind_ok, e2, bind_ok]
  simp [wOp, wAdd, dlt, lit, wBi, seqOf, dl]
def body1 : BV.S := (.cons (.setL 4 (.call 7 0 (.cons (.var 0) (.cons (.var 2) .nil)) .nil)) (.cons (.set 3 eT) (.cons (.set 5 eT) (.cons (.ife (.or (.cons (.not (.call 5 0 (.cons (.var 3) (.cons (.var 5) .nil)) .nil)) (.cons (.not (.call 5 0 (.cons (.var 5) (.cons (.var 3) .nil)) .nil)) (.cons (.not (.call 5 0 (.cons (.var 3) (.cons (.var 3) .nil)) .nil)) .nil)))) (.cons (.ret (.cst (.bl false))) .nil) .nil) (.cons (.ife (.or (.cons (.not (.call 4 0 (.cons (.var 3) .nil) .nil)) (.cons (.not (.call 4 0 (.cons (.var 5) .nil) .nil)) (.cons (.not (.call 3 0 (.cons (.var 4) (.cons (.var 3) .nil)) .nil)) .nil)))) (.cons (.ret (.cst (.bl false))) .nil) .nil) .nil)))))
theorem turn1 {ns : List Int} {k : Int} (h0 : 0 ≤ k) (h1 : k ≤ 8) :
    ∃ p1 p3 p4 p5 p6 cs', exS (tab.at n (j+6)) n 0 body1 [some (.d (.flst (ns.map .int))), o1, some (.d (.int k)), o3, o4, o5, o6] cs = .nx [some (.d (.flst (ns.map .int))), p1, some (.d (.int k)), p3, p4, p5, p6] cs' := by
  obtain ⟨a, c, e1, hc⟩ := source_run (wd := tab.at n (j+5)) (n := n) (ns := ns) (k := k) (cs := cs) h0 (by omega)
  have e2 : (tab.phs n (j+6)).2 7 [.d (.flst (ns.map .int)), .d (.int k)] cs = .ok () (cs ++ [some (.lst [.int a, .int (3 * k), .int c])]) := by
    rw [phl_succ (f := 7) (s := s7) (nl := 3) rfl]
    exact e1
  have s1 : exS (tab.at n (j+6)) n 0 (.setL 4 (.call 7 0 (.cons (.var 0) (.cons (.var 2) .nil)) .nil)) [some (.d (.flst (ns.map .int))), o1, some (.d (.int k)), o3, o4, o5, o6] cs = .nx [some (.d (.flst (ns.map .int))), o1, some (.d (.int k)), o3, some (.loc cs.length), o5, o6] (cs ++ [some (.lst [.int a, .int (3 * k), .int c])]) := by
    simp [evL, evCallL, srcs, e2]
  have hs : SrcAt (cs ++ [some (.lst [.int a, .int (3 * k), .int c])]) cs.length (3 * k) := ⟨a, 3 * k, c, by simp, by omega, by omega, hc⟩
  obtain ⟨x, y, w, h, c1, q1, d1, b1⟩ := draw_T (n := n) (j := j) (o0 := some (.d (.flst (ns.map .int)))) (o1 := o1) (o2 := some (.d (.int k))) (o3 := o3) (o5 := o5) (o6 := o6) hs (by omega)
  obtain ⟨x2, y2, w2, h2, c2, q2, d2, b2⟩ := draw_T (n := n) (j := j) (o0 := some (.d (.flst (ns.map .int)))) (o1 := o1) (o2 := some (.d (.int k))) (o3 := some (.d (.tup [.int x, .int y, .int w, .int h]))) (o5 := o5) (o6 := o6) d1.src (by omega)
  obtain ⟨c3, q3, d3⟩ := refused (n := n) (j := j) (x := x) (y := y) (w := w) (h := h) d2.src (by omega) b1.w0 b1.h0
  have P1 := pair_right (n := n) (j := j+1) (x := x) (y := y) (x2 := x2) (y2 := y2) b1.w0 b1.w1 b1.h0 b1.h1 b2.w0 b2.w1 b2.h0 b2.h1
  have P2 := pair_right (n := n) (j := j+1) (x := x2) (y := y2) (x2 := x) (y2 := y) b2.w0 b2.w1 b2.h0 b2.h1 b1.w0 b1.w1 b1.h0 b1.h1
  have P3 := pair_right (n := n) (j := j+1) (x := x) (y := y) (x2 := x) (y2 := y) b1.w0 b1.w1 b1.h0 b1.h1 b1.w0 b1.w1 b1.h0 b1.h1
  have Q1 := cells_right (n := n) (j := j+1) (x := x) (y := y) (w := w) (h := h) (by have := b1.x0; omega) (by have := b1.x1; omega) (by have := b1.y0; omega) (by have := b1.y1; omega) b1.w0 b1.w1 b1.h0 b1.h1
  have Q2 := cells_right (n := n) (j := j+1) (x := x2) (y := y2) (w := w2) (h := h2) (by have := b2.x0; omega) (by have := b2.x1; omega) (by have := b2.y0; omega) (by have := b2.y1; omega) b2.w0 b2.w1 b2.h0 b2.h1
  refine ⟨o1, some (.d (.tup [.int x, .int y, .int w, .int h])), some (.loc cs.length), some (.d (.tup [.int x2, .int y2, .int w2, .int h2])), o6, c3, ?_⟩
  unfold body1
  rw [x_cons, s1, sbind_nx, x_cons, x_set, q1, onE_ok, sbind_nx]
  simp only [List.set]
  rw [x_cons, x_set, q2, onE_ok, sbind_nx]
  simp only [List.set]
  simp [srcs, callW, P1, P2, P3, Q1, Q2, q3]
def rest : BV.S := (.cons (.set 1 (.make 0 0 (.cons (.op .Sub (.cst (.int 0)) (.op .Pow (.cst (.int 10)) (.cst (.int 30)))) (.cons (.cst (.int 5)) (.cons (.op .Mult (.cst (.int 2)) (.op .Pow (.cst (.int 10)) (.cst (.int 30)))) (.cons (.cst (.int 3)) .nil)))) .nil)) (.cons (.ret (.and (.cons (.ino false (.tup (.cons (.op .Sub (.op .Pow (.cst (.int 10)) (.cst (.int 30))) (.cst (.int 1))) (.cons (.cst (.int 7)) .nil))) (.var 1)) (.cons (.ino true (.tup (.cons (.op .Pow (.cst (.int 10)) (.cst (.int 30))) (.cons (.cst (.int 7)) .nil))) (.var 1)) (.cons (.meth (.call 1 0 (.cons (.tup (.cons (.cst (.int 0)) (.cons (.cst (.int 6)) (.cons (.cst (.int 1)) (.cons (.cst (.int 1)) .nil))))) .nil) .nil) "is_inside" (.cons (.var 1) .nil)) .nil))))) .nil))
theorem run_rest (cs : Cells) : exS (tab.at n (j+6)) n 0 rest [o0, o1, o2, o3, o4, o5, o6] cs = .rt (.d (.bl true)) cs := by
  have hp : ∀ cs, wOp .Pow (.d (.int 10)) (.d (.int 30)) cs = .ok (.d (.int 1000000000000000000000000000000)) cs := fun cs => by
    rw [wOp_pow (i := 10) (j := 30) (by decide) (by decide) (by decide)]
    rfl
  have hm : ∀ cs, wOp .Mult (.d (.int 2)) (.d (.int 1000000000000000000000000000000)) cs = .ok (.d (.int 2000000000000000000000000000000)) cs := fun cs => by
    have : Nat.log2 (2 : Int).natAbs + Nat.log2 (1000000000000000000000000000000 : Int).natAbs < 1000000 := by decide +kernel
    simp only [wOp, wMul, wI, fMul, this, if_true]
    rfl
  have m1 : ∀ cs, makeW (tab.at n (j+6)) 0 0 [.d (.int (-1000000000000000000000000000000)), .d (.int 5), .d (.int 2000000000000000000000000000000), .d (.int 3)] [] cs = .ok (.d (box (-1000000000000000000000000000000) 5 2000000000000000000000000000000 3)) cs := make_box (n := n) (j := j+4) (by decide) (by decide)
  have i1 := fun cs => ino_ok (in_cell (n := n) (j := j+4) (x := -1000000000000000000000000000000) (y := 5) (w := 2000000000000000000000000000000) (h := 3) 999999999999999999999999999999 7 cs)
  have i2 := fun cs => no_ino (in_cell (n := n) (j := j+4) (x := -1000000000000000000000000000000) (y := 5) (w := 2000000000000000000000000000000) (h := 3) 1000000000000000000000000000000 7 cs)
  rw [show inB (-1000000000000000000000000000000) 5 2000000000000000000000000000000 3 999999999999999999999999999999 7 = true by decide +kernel] at i1
  rw [show inB (-1000000000000000000000000000000) 5 2000000000000000000000000000000 3 1000000000000000000000000000000 7 = false by decide +kernel] at i2
  have b1 := law_box (n := n) (j := j+3) (x := 0) (y := 6) (w := 1) (h := 1) (by decide) (by decide)
  have n1 := inside (n := n) (j := j+4) (x := 0) (y := 6) (w := 1) (h := 1) (x2 := -1000000000000000000000000000000) (y2 := 5) (w2 := 2000000000000000000000000000000) (h2 := 3)
  rw [show ins 0 6 1 1 (-1000000000000000000000000000000) 5 2000000000000000000000000000000 3 = true by decide +kernel] at n1
  have mt : ∀ cs, mthW (tab.at n (j+6)) (.d (box 0 6 1 1)) "is_inside" cs = some 9 := fun cs => by simp [mthW, List.lookup_cons, ofString_beq]
  unfold rest
  simp [hp, hm, m1, i1, i2, b1, n1, mt, tupW, pureDs, lit, srcs, callW]
end
theorem law_eq : s0 = .cons (.loop (.rng1 (.bi .max (.cons (.cst (.int 1)) (.cons (.bi .min (.cons (.cst (.int 4)) (.cons (.bi .len (.cons (.var 0) .nil)) .nil))) .nil)))) [2] true body1) rest := rfl
theorem plain : ∀ ns : List Int, ns.length ≤ 63 → ∃ cs, (tab.phs 20 10).1 0 [.d (.flst (ns.map D.int))] [] = .ok (.bl true) cs := fun ns hns => by
  rw [phi_succ (n := 20) (j := 9) (f := 0) (s := s0) (nl := 7) rfl]
  unfold fnRun
  rw [law_eq]
  obtain ⟨v, hv0, hv1, hv⟩ : ∃ v : Int, 1 ≤ v ∧ v ≤ 4 ∧ evI (tab.at 20 9) (.rng1 (.bi .max (.cons (.cst (.int 1)) (.cons (.bi .min (.cons (.cst (.int 4)) (.cons (.bi .len (.cons (.var 0) .nil)) .nil))) .nil)))) [some (.d (.flst (ns.map .int))), none, none, none, none, none, none] [] = .ok (rngD 0 v) [] := by
    refine ⟨if (if (ns.length : Int) < 4 then (ns.length : Int) else 4) > 1 then (if (ns.length : Int) < 4 then (ns.length : Int) else 4) else 1, by split <;> omega, by repeat' split <;> omega, ?_⟩
    simp [wBi, dl, small62]
    repeat' split
    all_goals omega
  obtain ⟨fr', cs', q1, p1, p2, p3, p4, p5, p6, rfl⟩ := for_foldC (f := exS (tab.at 20 9) 20 0 body1) (tg := [2]) (one := true) 8 (fun i : Nat => D.int (i : Int)) (fun (u : Unit) _ => u)
    (fun i _ fr cs' => ∃ p1 p2 p3 p4 p5 p6, fr = [some (.d (.flst (ns.map .int))), p1, p2, p3, p4, p5, p6]) (List.range v.toNat) 0 ()
    [some (.d (.flst (ns.map .int))), none, none, none, none, none, none] [] (fun d hd i _ fr cs1 hi ⟨p1, p2, p3, p4, p5, p6, hfr⟩ => by
      subst hfr
      have hd := List.mem_range.mp hd
      obtain ⟨r1, r3, r4, r5, r6, cs2, e⟩ := turn1 (n := 20) (j := 3) (ns := ns) (k := (d : Int)) (cs := cs1) (o1 := p1) (o3 := p3) (o4 := p4) (o5 := p5) (o6 := p6) (by omega) (by omega)
      exact ⟨_, _, cs2, rfl, .inl e, r1, _, r3, r4, r5, r6, rfl⟩) (by simp; omega) ⟨_, _, _, _, _, _, rfl⟩
  refine ⟨cs'.take 0, ?_⟩
  have hr := run_rest (n := 20) (j := 3) (o0 := some (.d (.flst (ns.map .int)))) (o1 := p1) (o2 := p2) (o3 := p3) (o4 := p4) (o5 := p5) (o6 := p6) cs'
  show endD 0 (exS (tab.at 20 9) 20 0 (.cons _ rest) [some (.d (.flst (ns.map .int))), none, none, none, none, none, none] []) = _
  rw [x_cons, x_loop, hv, onE_ok, rngD0, q1, sbind_nx, hr, endD_rt, retD_d]
end K38

namespace K38
end K38

open PySem PySem.W PyProof.Rows in
set_option maxRecDepth 100000 in
set_option maxHeartbeats 0 in
theorem PySem.Challenge.cw_diagramtext_k38_boxes_holds : PySem.Challenge.rw_diagramtext_k38_boxes.Holds := by
  w_on; o_law; k_head; (case hw => w_witness2)
  k_fill
  refine BV.walkG (l := PySem.Challenge.rw_diagramtext_k38_boxes) (k := 30) (x := "_law_script") rfl rfl ⟨rfl, by decide, by decide⟩ (fun w h Y => PySem.W.km_in_of Y) ?F
  case F =>
    intro w mg fa h KX G hmg Y
    refine' K38.all_mk rfl KX G hmg ?hyp_aC0 ?hyp_aC1 ?hyp_aC2 ?hyp_aC3 ?hyp_aC4 ?hyp_aC5 ?hyp_aC6 ?hyp_aC7 ?hyp_aC8 ?hyp_aC9 ?hyp_aC10 ?hyp_aC11 ?hyp_aC12 ?hyp_a0 ?hyp_l0 ?hyp_c0 ?hyp_k0 ?hyp_a1 ?hyp_l1 ?hyp_c1 ?hyp_k1 ?hyp_a2 ?hyp_l2 ?hyp_c2 ?hyp_k2 ?hyp_i2 ?hyp_a3 ?hyp_l3 ?hyp_c3 ?hyp_k3 ?hyp_y3 ?hyp_z3 ?hyp_po3 ?hyp_ch3 ?hyp_te3 ?hyp_a4 ?hyp_l4 ?hyp_c4 ?hyp_k4 ?hyp_a5 ?hyp_l5 ?hyp_c5 ?hyp_k5 ?hyp_a6 ?hyp_l6 ?hyp_c6 ?hyp_k6 ?hyp_a7 ?hyp_l7 ?hyp_c7 ?hyp_k7 ?hyp_a8 ?hyp_l8 ?hyp_c8 ?hyp_k8 ?hyp_i8 ?hyp_a9 ?hyp_l9 ?hyp_c9 ?hyp_k9 ?hyp_i9 ?hyp_a10 ?hyp_l10 ?hyp_c10 ?hyp_k10 ?hyp_a11 ?hyp_l11 ?hyp_c11 ?hyp_k11 ?hyp_a12 ?hyp_l12 ?hyp_c12 ?hyp_k12 ?hyp_a13 ?hyp_l13 ?hyp_c13 ?hyp_k13 ?hyp_i13 ?hyp_a14 ?hyp_l14 ?hyp_c14 ?hyp_k14 ?hyp_a15 ?hyp_l15 ?hyp_c15 ?hyp_k15 ?hyp_i15 ?hyp_a16 ?hyp_pg16 ?hyp_pt16 ?hyp_pf16 ?hyp_l16 ?hyp_c16 ?hyp_k16 ?hyp_i16 ?hyp_a17 ?hyp_pg17 ?hyp_pt17 ?hyp_pf17 ?hyp_l17 ?hyp_c17 ?hyp_k17 ?hyp_i17 ?hyp_a18 ?hyp_pg18 ?hyp_pt18 ?hyp_pf18 ?hyp_l18 ?hyp_c18 ?hyp_k18 ?hyp_i18 ?hyp_a19 ?hyp_pg19 ?hyp_pt19 ?hyp_pf19 ?hyp_l19 ?hyp_c19 ?hyp_k19 ?hyp_i19 ?hyp_a20 ?hyp_l20 ?hyp_c20 ?hyp_k20 ?hyp_pgC0 ?hyp_hdC0 ?hyp_poC0 ?hyp_saC0 ?hyp_kiC0 ?hyp_moC0 ?hyp_gsK ?hyp_tkK ?hyp_xL1 ?hyp_xsa1 ?hyp_xnp1 ?hyp_xin1 ?hyp_xti1 ?hyp_xkc1 ?hyp_xec1 ?hyp_xty1 ?hyp_xsu1 ?hyp_xsb1 ?hyp_xga1 ?hyp_xgg1 ?hyp_xhd1 ?hyp_xki1 ?hyp_xmo1 ?hyp_xl1 ?hyp_xcd_1 ?hyp_xx1 ?hyp_xy1 ?hyp_xz1 ?hyp_xw1 ?hyp_xL10 ?hyp_xsa10 ?hyp_xnp10 ?hyp_xin10 ?hyp_xti10 ?hyp_xkc10 ?hyp_xec10 ?hyp_xty10 ?hyp_xsu10 ?hyp_xsb10 ?hyp_xga10 ?hyp_xgg10 ?hyp_xhd10 ?hyp_xki10 ?hyp_xmo10 ?hyp_xl10 ?hyp_xcd_10 ?hyp_xx10 ?hyp_xy10 ?hyp_xz10 ?hyp_xw10 ?hyp_xm0 ?hyp_xm1 ?hyp_mkC0 ?hyp_kpC0 ?hyp_inC0 ?hyp_n0 ?hyp_n1 ?hyp_m0 ?hyp_m1 ?hyp_q0 ?hyp_q1 ?hyp_q2 ?hyp_q3 ?hyp_kt0 ?hyp_kt1 ?hyp_kt2 ?hyp_kt3 ?hyp_kt4 ?hyp_kt5 ?hyp_kt6 ?hyp_kt7 ?hyp_kt8 ?hyp_kt9 ?hyp_kt10 ?hyp_kt11 ?hyp_kt12 ?hyp_kt13 ?hyp_kt14 ?hyp_kt15 ?hyp_kt16 ?hyp_kt17 ?hyp_kt18 ?hyp_kt19 ?hyp_kt20 ?hyp_kt21 ?hyp_kt22 ?hyp_kt23 ?hyp_kt24 ?hyp_kt25 ?hyp_kt26 ?hyp_kt27 ?hyp_kt28 ?hyp_kt29 ?hyp_kt30 ?hyp_kt31 ?hyp_kt32 ?hyp_kt33 ?hyp_kt34 ?hyp_kt35 ?hyp_kt36 ?hyp_kt37 ?hyp_kt38 ?hyp_kt39 ?hyp_kt40 ?hyp_kt41 ?hyp_kt42 ?hyp_kt43 ?hyp_kt44 ?hyp_kt45 ?hyp_kt46 ?hyp_kt47 ?hyp_kt48 ?hyp_kt49 ?hyp_oe0 ?hyp_on0 ?hyp_os0 ?hyp_of0_0 ?hyp_of0_1 ?hyp_of0_2 ?hyp_of0_3 ?hyp_of0_4 ?hyp_of0_5 ?hyp_of0_6 ?hyp_of0_7 ?hyp_od0_ ?hyp_z_len ?hyp_z_max ?hyp_z_min ?hyp_z_str ?hyp_z_int ?hyp_z_tuple ?hyp_z_list ?hyp_z_sum ?hyp_z_all ?hyp_z_any ?hyp_z_abs ?hyp_z_range ?hyp_z_enumerate ?hyp_z_zip ?hyp_z_isinstance ?hyp_z_repr ?hyp_z_bool ?hyp_z_super ?hyp_opq ?hyp_stop K38.plain
    (case hyp_aC0 => k_is)
    (case hyp_aC1 => k_is)
    (case hyp_aC2 => k_is)
    (case hyp_aC3 => k_is)
    (case hyp_aC4 => k_is)
    (case hyp_aC5 => k_is)
    (case hyp_aC6 => k_is)
    (case hyp_aC7 => k_is)
    (case hyp_aC8 => k_is)
    (case hyp_aC9 => k_is)
    (case hyp_aC10 => k_is)
    (case hyp_aC11 => k_is)
    (case hyp_aC12 => k_is)
    (case hyp_a0 => k_is)
    (case hyp_l0 => k_is)
    (case hyp_c0 => k_is)
    (case hyp_k0 => k_is)
    (case hyp_a1 => k_is)
    (case hyp_l1 => k_is)
    (case hyp_c1 => k_is)
    (case hyp_k1 => k_is)
    (case hyp_a2 => k_is)
    (case hyp_l2 => k_is)
    (case hyp_c2 => k_is)
    (case hyp_k2 => k_is)
    (case hyp_i2 => k_is)
    (case hyp_a3 => k_is)
    (case hyp_l3 => k_is)
    (case hyp_c3 => k_is)
    (case hyp_k3 => k_is)
    (case hyp_y3 => k_is)
    (case hyp_z3 => rfl)
    (case hyp_po3 => first | k_is | kernel_rfl | rfl)
    (case hyp_ch3 => kernel_rfl)
    (case hyp_te3 => exact PySem.W.km_tabs_of Y _ (by first | decide | k_mem))
    (case hyp_a4 => k_is)
    (case hyp_l4 => k_is)
    (case hyp_c4 => k_is)
    (case hyp_k4 => k_is)
    (case hyp_a5 => k_is)
    (case hyp_l5 => k_is)
    (case hyp_c5 => k_is)
    (case hyp_k5 => k_is)
    (case hyp_a6 => k_is)
    (case hyp_l6 => k_is)
    (case hyp_c6 => k_is)
    (case hyp_k6 => k_is)
    (case hyp_a7 => k_is)
    (case hyp_l7 => k_is)
    (case hyp_c7 => k_is)
    (case hyp_k7 => k_is)
    (case hyp_a8 => k_is)
    (case hyp_l8 => k_is)
    (case hyp_c8 => k_is)
    (case hyp_k8 => k_is)
    (case hyp_i8 => k_is)
    (case hyp_a9 => k_is)
    (case hyp_l9 => k_is)
    (case hyp_c9 => k_is)
    (case hyp_k9 => k_is)
    (case hyp_i9 => k_is)
    (case hyp_a10 => k_is)
    (case hyp_l10 => k_is)
    (case hyp_c10 => k_is)
    (case hyp_k10 => k_is)
    (case hyp_a11 => k_is)
    (case hyp_l11 => k_is)
    (case hyp_c11 => k_is)
    (case hyp_k11 => k_is)
    (case hyp_a12 => k_is)
    (case hyp_l12 => k_is)
    (case hyp_c12 => k_is)
    (case hyp_k12 => k_is)
    (case hyp_a13 => k_is)
    (case hyp_l13 => k_is)
    (case hyp_c13 => k_is)
    (case hyp_k13 => k_is)
    (case hyp_i13 => k_is)
    (case hyp_a14 => k_is)
    (case hyp_l14 => k_is)
    (case hyp_c14 => k_is)
    (case hyp_k14 => k_is)
    (case hyp_a15 => k_is)
    (case hyp_l15 => k_is)
    (case hyp_c15 => k_is)
    (case hyp_k15 => k_is)
    (case hyp_i15 => k_is)
    (case hyp_a16 => k_is)
    (case hyp_pg16 => k_is)
    (case hyp_pt16 => k_is)
    (case hyp_pf16 => k_is)
    (case hyp_l16 => k_is)
    (case hyp_c16 => k_is)
    (case hyp_k16 => k_is)
    (case hyp_i16 => k_is)
    (case hyp_a17 => k_is)
    (case hyp_pg17 => k_is)
    (case hyp_pt17 => k_is)
    (case hyp_pf17 => k_is)
    (case hyp_l17 => k_is)
    (case hyp_c17 => k_is)
    (case hyp_k17 => k_is)
    (case hyp_i17 => k_is)
    (case hyp_a18 => k_is)
    (case hyp_pg18 => k_is)
    (case hyp_pt18 => k_is)
    (case hyp_pf18 => k_is)
    (case hyp_l18 => k_is)
    (case hyp_c18 => k_is)
    (case hyp_k18 => k_is)
    (case hyp_i18 => k_is)
    (case hyp_a19 => k_is)
    (case hyp_pg19 => k_is)
    (case hyp_pt19 => k_is)
    (case hyp_pf19 => k_is)
    (case hyp_l19 => k_is)
    (case hyp_c19 => k_is)
    (case hyp_k19 => k_is)
    (case hyp_i19 => k_is)
    (case hyp_a20 => k_is)
    (case hyp_l20 => k_is)
    (case hyp_c20 => k_is)
    (case hyp_k20 => k_is)
    (case hyp_pgC0 => k_is)
    (case hyp_hdC0 => k_is)
    (case hyp_poC0 => k_is)
    (case hyp_saC0 => k_is)
    (case hyp_kiC0 => k_is)
    (case hyp_moC0 => k_is)
    (case hyp_gsK => k_is)
    (case hyp_tkK => k_is)
    (case hyp_xL1 => k_is)
    (case hyp_xsa1 => k_is)
    (case hyp_xnp1 => k_is)
    (case hyp_xin1 => k_is)
    (case hyp_xti1 => k_is)
    (case hyp_xkc1 => k_is)
    (case hyp_xec1 => k_is)
    (case hyp_xty1 => k_is)
    (case hyp_xsu1 => kernel_rfl)
    (case hyp_xsb1 => k_is)
    (case hyp_xga1 => k_is)
    (case hyp_xgg1 => k_is)
    (case hyp_xhd1 => k_is)
    (case hyp_xki1 => k_is)
    (case hyp_xmo1 => k_is)
    (case hyp_xl1 => k_is)
    (case hyp_xcd_1 => k_is)
    (case hyp_xx1 => k_is)
    (case hyp_xy1 => k_is)
    (case hyp_xz1 => rfl)
    (case hyp_xw1 => kernel_rfl)
    (case hyp_xL10 => k_is)
    (case hyp_xsa10 => k_is)
    (case hyp_xnp10 => k_is)
    (case hyp_xin10 => k_is)
    (case hyp_xti10 => k_is)
    (case hyp_xkc10 => k_is)
    (case hyp_xec10 => k_is)
    (case hyp_xty10 => k_is)
    (case hyp_xsu10 => kernel_rfl)
    (case hyp_xsb10 => k_is)
    (case hyp_xga10 => k_is)
    (case hyp_xgg10 => k_is)
    (case hyp_xhd10 => k_is)
    (case hyp_xki10 => k_is)
    (case hyp_xmo10 => k_is)
    (case hyp_xl10 => k_is)
    (case hyp_xcd_10 => k_is)
    (case hyp_xx10 => k_is)
    (case hyp_xy10 => k_is)
    (case hyp_xz10 => rfl)
    (case hyp_xw10 => kernel_rfl)
    (case hyp_xm0 => kernel_rfl)
    (case hyp_xm1 => kernel_rfl)
    (case hyp_mkC0 => k_is)
    (case hyp_kpC0 => k_is)
    (case hyp_inC0 => k_is)
    (case hyp_n0 => k_is)
    (case hyp_n1 => k_is)
    (case hyp_m0 => k_is)
    (case hyp_m1 => k_is)
    (case hyp_q0 => k_is)
    (case hyp_q1 => k_is)
    (case hyp_q2 => k_is)
    (case hyp_q3 => k_is)
    (case hyp_kt0 => kernel_rfl)
    (case hyp_kt1 => kernel_rfl)
    (case hyp_kt2 => kernel_rfl)
    (case hyp_kt3 => kernel_rfl)
    (case hyp_kt4 => kernel_rfl)
    (case hyp_kt5 => kernel_rfl)
    (case hyp_kt6 => kernel_rfl)
    (case hyp_kt7 => kernel_rfl)
    (case hyp_kt8 => kernel_rfl)
    (case hyp_kt9 => kernel_rfl)
    (case hyp_kt10 => kernel_rfl)
    (case hyp_kt11 => kernel_rfl)
    (case hyp_kt12 => kernel_rfl)
    (case hyp_kt13 => kernel_rfl)
    (case hyp_kt14 => kernel_rfl)
    (case hyp_kt15 => kernel_rfl)
    (case hyp_kt16 => kernel_rfl)
    (case hyp_kt17 => kernel_rfl)
    (case hyp_kt18 => kernel_rfl)
    (case hyp_kt19 => kernel_rfl)
    (case hyp_kt20 => kernel_rfl)
    (case hyp_kt21 => kernel_rfl)
    (case hyp_kt22 => kernel_rfl)
    (case hyp_kt23 => kernel_rfl)
    (case hyp_kt24 => kernel_rfl)
    (case hyp_kt25 => kernel_rfl)
    (case hyp_kt26 => kernel_rfl)
    (case hyp_kt27 => kernel_rfl)
    (case hyp_kt28 => kernel_rfl)
    (case hyp_kt29 => kernel_rfl)
    (case hyp_kt30 => kernel_rfl)
    (case hyp_kt31 => kernel_rfl)
    (case hyp_kt32 => kernel_rfl)
    (case hyp_kt33 => kernel_rfl)
    (case hyp_kt34 => kernel_rfl)
    (case hyp_kt35 => kernel_rfl)
    (case hyp_kt36 => kernel_rfl)
    (case hyp_kt37 => kernel_rfl)
    (case hyp_kt38 => kernel_rfl)
    (case hyp_kt39 => kernel_rfl)
    (case hyp_kt40 => kernel_rfl)
    (case hyp_kt41 => kernel_rfl)
    (case hyp_kt42 => kernel_rfl)
    (case hyp_kt43 => kernel_rfl)
    (case hyp_kt44 => kernel_rfl)
    (case hyp_kt45 => kernel_rfl)
    (case hyp_kt46 => kernel_rfl)
    (case hyp_kt47 => kernel_rfl)
    (case hyp_kt48 => kernel_rfl)
    (case hyp_kt49 => kernel_rfl)
    (case hyp_oe0 => k_is)
    (case hyp_on0 => k_is)
    (case hyp_os0 => k_is)
    (case hyp_of0_0 => kernel_rfl)
    (case hyp_of0_1 => kernel_rfl)
    (case hyp_of0_2 => kernel_rfl)
    (case hyp_of0_3 => kernel_rfl)
    (case hyp_of0_4 => kernel_rfl)
    (case hyp_of0_5 => kernel_rfl)
    (case hyp_of0_6 => kernel_rfl)
    (case hyp_of0_7 => kernel_rfl)
    (case hyp_od0_ => k_is)
    (case hyp_z_len => k_is)
    (case hyp_z_max => k_is)
    (case hyp_z_min => k_is)
    (case hyp_z_str => k_is)
    (case hyp_z_int => k_is)
    (case hyp_z_tuple => k_is)
    (case hyp_z_list => k_is)
    (case hyp_z_sum => k_is)
    (case hyp_z_all => k_is)
    (case hyp_z_any => k_is)
    (case hyp_z_abs => k_is)
    (case hyp_z_range => k_is)
    (case hyp_z_enumerate => k_is)
    (case hyp_z_zip => k_is)
    (case hyp_z_isinstance => k_is)
    (case hyp_z_repr => k_is)
    (case hyp_z_bool => k_is)
    (case hyp_z_super => k_is)
    (case hyp_opq => k_is)
    (case hyp_stop => kernel_rfl)
