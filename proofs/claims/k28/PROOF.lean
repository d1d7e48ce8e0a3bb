import PyProof.Rows.All
import Wide.All
import OpenK.AllK
import Wide.FinOn
import HandS.ForMost
import HandS.ForExc
import HandS.Lambda
import HandS.ExcIs
import HandS.IsInst
import HandS.Zip
import HandS.Defaults
import PyProof.ReprReads
import HandS.RaiseMore
import PyProof.EqKinds
import HandS.OwnEq
import HandS.TupMul
import HandS.Wide
import HandS.TupAny
import HandS.TupLe
import HandS.Deep
import HandS.FStr
import HandS.StrMore
import HandS.Property
import HandS.MakeKwOnly
import KE.KSuper
import HandS.Star
import HandS.ClsMeth
import KE.GoesZip
import KE.GoesMore
import HandS.CallSlots
import HandS.TryOnly
import HandS.Conv
import HandS.Dict
import KE.KTryMore
import HandS.Style
import HandS.Ends
import HandS.EndTab
import KE.KNest
import KE.KNestM
import KE.KExcSuper
import KE.KExcInit
import KE.KSuperObj
import PyProof.ExcBaseAll.ValueError
import PyProof.ExcBaseAll.LookupError
import PyProof.ExcBaseAll.ArithmeticError
import PySem.Challenge.RW_diagramtext_k28_rows_and_costs
set_option Elab.async false
set_option linter.all false
set_option maxRecDepth 100000
set_option maxHeartbeats 4000000
namespace BV
open PySem L2
/-! ### data by value -/
inductive D where
  | non | bl (b : Bool) | int (i : Int) | str (x : Str) | ty (n : String) | cls (c : Nat) | fn (f : Nat)
  | tup (xs : List D) | lst (xs : List D) | flst (xs : List D) | ins (c : Nat) (fs : List (Str × D)) | exc (c : Nat) (x : D) | dct (fs : List (Str × D))
  deriving Inhabited
inductive W where
  | d (d : D) | loc (n : Nat)
  deriving Inhabited
inductive Cell where
  | lst (xs : List D) | ins (c : Nat) (fs : List (Str × D)) | dct (fs : List (Str × D))
  deriving Inhabited
abbrev Cells := List (Option Cell)
abbrev Ra := List (Option Addr)
abbrev Fra := List (Option W)
structure G where
  P : Program
  w : World
  K : PySem.W.Frag
  mg : Str → Option Value
  base : Heap
  ca : Nat → Addr
  efld : Nat → Str
  fa : Nat → Addr
  fd : Nat → FuncData
  ps : Nat → List Str
  T : List (Addr × Str)
  lams : List Scope
/-- a held exception object: its class and dict -/
def ExcV (cls : Value) (d : Option Addr) (a : Addr) : HO := .ext fun h => ∃ (oe : Obj) (vs : Array Value), h.get? a = some oe ∧ Zc cls d oe ∧ oe.data = .fields vs
mutual
inductive Rep (g : G) (F : Hp) : D → V → Prop
  | non : Rep g F .non .non
  | bl (b : Bool) : Rep g F (.bl b) (.bl b)
  | int (i : Int) : Rep g F (.int i) (.int i)
  | str (x : Str) : Rep g F (.str x) (.str x)
  | ty (n : String) : Rep g F (.ty n) (.ty n)
  | cls (c : Nat) : Rep g F (.cls c) (.ref (g.ca c))
  | fn (f : Nat) : Rep g F (.fn f) (.ref (g.fa f))
  | tup {ds : List D} {vs : List V} {a : Addr} (h : SqT g.K F a vs) (r : RepL g F ds vs) : Rep g F (.tup ds) (.ref a)
  | lst {ds : List D} {vs : List V} {a : Addr} (h : F a = some (.lst vs)) (r : RepL g F ds vs) : Rep g F (.lst ds) (.ref a)
  | flst {ds : List D} {vs : List V} {a : Addr} (h : SqL g.K F a vs) (r : RepL g F ds vs) : Rep g F (.flst ds) (.ref a)
  | ins {c : Nat} {fs : List (Str × D)} {vs : List (Str × V)} {a dx : Addr} (h : F a = some (.ins (g.ca c) dx vs)) (r : RepF g F fs vs) : Rep g F (.ins c fs) (.ref a)
  | exc {c : Nat} {x : D} {v : V} {a dd : Addr} (h : F a = some (ExcV (.ref (g.ca c)) (some dd) a)) (hd : F dd = some (.xd [(g.efld c, v)])) (r : Rep g F x v) : Rep g F (.exc c x) (.ref a)
  | dct {fs : List (Str × D)} {vs : List (Str × V)} {a : Addr} (h : F a = some (.dK (vs.map fun p => (.inr p.1, p.2)))) (r : RepF g F fs vs) : Rep g F (.dct fs) (.ref a)
inductive RepL (g : G) (F : Hp) : List D → List V → Prop
  | nil : RepL g F [] []
  | cons {d : D} {v : V} {ds : List D} {vs : List V} (h : Rep g F d v) (t : RepL g F ds vs) : RepL g F (d :: ds) (v :: vs)
inductive RepF (g : G) (F : Hp) : List (Str × D) → List (Str × V) → Prop
  | nil : RepF g F [] []
  | cons {f : Str} {d : D} {v : V} {ds : List (Str × D)} {vs : List (Str × V)} (h : Rep g F d v) (t : RepF g F ds vs) : RepF g F ((f, d) :: ds) ((f, v) :: vs)
end
theorem sqT_mono {K : PySem.W.Frag} {H H' : Hp} {a : Addr} {xs : List V} (e : Same H H') (h : SqT K H a xs) : SqT K H' a xs := by
  rcases h with (h | ⟨o, h⟩) | h
  · exact .inl (.inl (e _ _ h))
  · exact .inl (.inr ⟨o, e _ _ h⟩)
  · exact .inr h
mutual
theorem Rep.mono {g : G} {F F' : Hp} (e : Same F F') : ∀ {d : D} {v : V}, Rep g F d v → Rep g F' d v
  | _, _, .non => .non
  | _, _, .bl b => .bl b
  | _, _, .int i => .int i
  | _, _, .str x => .str x
  | _, _, .ty n => .ty n
  | _, _, .cls c => .cls c
  | _, _, .fn f => .fn f
  | _, _, .tup h r => .tup (sqT_mono e h) (RepL.mono e r)
  | _, _, .lst h r => .lst (e _ _ h) (RepL.mono e r)
  | _, _, .flst h r => .flst (e.seq h) (RepL.mono e r)
  | _, _, .ins h r => .ins (e _ _ h) (RepF.mono e r)
  | _, _, .exc h hd r => .exc (e _ _ h) (e _ _ hd) (Rep.mono e r)
  | _, _, .dct h r => .dct (e _ _ h) (RepF.mono e r)
theorem RepL.mono {g : G} {F F' : Hp} (e : Same F F') : ∀ {ds : List D} {vs : List V}, RepL g F ds vs → RepL g F' ds vs
  | _, _, .nil => .nil
  | _, _, .cons h t => .cons (Rep.mono e h) (RepL.mono e t)
theorem RepF.mono {g : G} {F F' : Hp} (e : Same F F') : ∀ {ds : List (Str × D)} {vs : List (Str × V)}, RepF g F ds vs → RepF g F' ds vs
  | _, _, .nil => .nil
  | _, _, .cons h t => .cons (Rep.mono e h) (RepF.mono e t)
end
theorem RepL.length {g : G} {F : Hp} : ∀ {ds : List D} {vs : List V}, RepL g F ds vs → ds.length = vs.length
  | _, _, .nil => rfl
  | _, _, .cons _ t => congrArg Nat.succ (RepL.length t)
theorem RepL.get {g : G} {F : Hp} : ∀ {ds : List D} {vs : List V} {i : Nat} {d : D}, RepL g F ds vs → ds[i]? = some d → ∃ v, vs[i]? = some v ∧ Rep g F d v
  | _, _, _, _, .nil, e => by simp at e
  | _, _, 0, _, .cons r _, e => by simp at e; subst e; exact ⟨_, rfl, r⟩
  | _, _, i + 1, d, .cons _ t, e => by
    obtain ⟨v, h1, h2⟩ := RepL.get (i := i) (d := d) t (by simpa using e)
    exact ⟨v, by simpa using h1, h2⟩
theorem RepL.append {g : G} {F : Hp} : ∀ {ds es : List D} {vs ws : List V}, RepL g F ds vs → RepL g F es ws → RepL g F (ds ++ es) (vs ++ ws)
  | _, _, _, _, .nil, s => s
  | _, _, _, _, .cons r t, s => .cons r (RepL.append t s)
theorem RepL.set {g : G} {F : Hp} {x : D} {u : V} (r : Rep g F x u) : ∀ {ds : List D} {vs : List V} (i : Nat), RepL g F ds vs → RepL g F (ds.set i x) (vs.set i u)
  | _, _, _, .nil => .nil
  | _, _, 0, .cons _ t => .cons r t
  | _, _, i + 1, .cons q t => .cons q (RepL.set r i t)
theorem RepL.take {g : G} {F : Hp} : ∀ {ds : List D} {vs : List V} (n : Nat), RepL g F ds vs → RepL g F (ds.take n) (vs.take n)
  | _, _, 0, _ => .nil
  | _, _, _ + 1, .nil => .nil
  | _, _, n + 1, .cons r t => .cons r (RepL.take n t)
theorem RepL.drop {g : G} {F : Hp} : ∀ {ds : List D} {vs : List V} (n : Nat), RepL g F ds vs → RepL g F (ds.drop n) (vs.drop n)
  | _, _, 0, r => r
  | _, _, _ + 1, .nil => .nil
  | _, _, n + 1, .cons _ t => RepL.drop n t
theorem RepL.dropLast {g : G} {F : Hp} {ds : List D} {vs : List V} (r : RepL g F ds vs) : RepL g F ds.dropLast vs.dropLast := by
  rw [List.dropLast_eq_take, List.dropLast_eq_take, r.length]
  exact r.take _
theorem RepL.eraseIdx {g : G} {F : Hp} : ∀ {ds : List D} {vs : List V} (i : Nat), RepL g F ds vs → RepL g F (ds.eraseIdx i) (vs.eraseIdx i)
  | _, _, _, .nil => .nil
  | _, _, 0, .cons _ t => t
  | _, _, i + 1, .cons q t => .cons q (RepL.eraseIdx i t)
theorem RepL.reverse {g : G} {F : Hp} : ∀ {ds : List D} {vs : List V}, RepL g F ds vs → RepL g F ds.reverse vs.reverse
  | _, _, .nil => .nil
  | _, _, .cons r t => by
    rw [List.reverse_cons, List.reverse_cons]
    exact (RepL.reverse t).append (.cons r .nil)
theorem RepL.rep {g : G} {F : Hp} {ds : List D} {vs : List V} (h : RepL g F ds vs) : ∀ k : Nat, RepL g F (List.replicate k ds).flatten (List.replicate k vs).flatten
  | 0 => .nil
  | k + 1 => by
    rw [List.replicate_succ, List.replicate_succ, List.flatten_cons, List.flatten_cons]
    exact h.append (RepL.rep h k)
theorem RepF.lookup {g : G} {F : Hp} {f : Str} : ∀ {ds : List (Str × D)} {vs : List (Str × V)} {d : D}, RepF g F ds vs → ds.lookup f = some d → ∃ v, vs.lookup f = some v ∧ Rep g F d v
  | _, _, _, .nil, e => by simp [List.lookup] at e
  | _, _, d, .cons (f := f') r t, e => by
    rw [List.lookup_cons] at e ⊢
    split at e
    · cases e; exact ⟨_, rfl, r⟩
    · exact RepF.lookup t e
theorem RepF.lookup_none {g : G} {F : Hp} {f : Str} : ∀ {ds : List (Str × D)} {vs : List (Str × V)}, RepF g F ds vs → ds.lookup f = none → vs.lookup f = none
  | _, _, .nil, _ => rfl
  | _, _, .cons (f := f') r t, e => by
    rw [List.lookup_cons] at e ⊢
    split at e
    · cases e
    · exact RepF.lookup_none t e
theorem RepF.length {g : G} {F : Hp} : ∀ {ds : List (Str × D)} {vs : List (Str × V)}, RepF g F ds vs → ds.length = vs.length
  | _, _, .nil => rfl
  | _, _, .cons _ t => congrArg Nat.succ (RepF.length t)
def putD (f : Str) (d : D) : List (Str × D) → List (Str × D)
  | [] => [(f, d)]
  | (k, v) :: r => if k = f then (k, d) :: r else (k, v) :: putD f d r
theorem RepF.put {g : G} {F : Hp} {f : Str} {x : D} {u : V} (q : Rep g F x u) : ∀ {ds : List (Str × D)} {vs : List (Str × V)}, RepF g F ds vs → RepF g F (putD f x ds) (putF f u vs)
  | _, _, .nil => .cons q .nil
  | _, _, .cons (f := f') r t => by
    unfold putD putF
    split
    · exact .cons q t
    · exact .cons r (RepF.put q t)
/-- a made exception: its object at e, its dict at d with the one field p -/
structure XMade (h h' : Heap) (e C d : Addr) (p : Str) (v : Value) : Prop where
  keep : ∀ b o, h.get? b = some o → h'.get? b = some o
  new : h.objs.size ≤ e
  obj : ∃ t1, h'.get? e = some { cls := .ref C, dict := some d, data := .fields #[.ref t1, .none, .none, .none, .bool false, .none] }
  dbig : h.objs.size ≤ d
  dne : d ≠ e
  ns : h'.Ns1 d (fun y => if y = p then some v else none)
/-- the class at C, called with one value, makes an exception with the field p -/
def MkX (P : Program) (w : World) (K : PySem.W.Frag) (mg : Str → Option Value) (C : Addr) (p : Str) : Prop :=
  ∀ {A : Around} {R : Result → Shared → Prop} {s : Shared} {mb : Str → Option Value} {v : Value}, K.In s.heap → s.heap.Ns mainGlobals mg → s.heap.Ns builtinsNs mb → mb "super" = some (.type "super") → s.heap.NoLimit → A.depth + 1 < recursionLimit →
    (∀ h' tk e d, XMade s.heap h' e C d p v → R (.ok (.ret (.ref e))) { s with heap := h', toks := tk }) → codeAny (model P w) A (.call (.ref C) ⟨[v], []⟩) R s
end BV
namespace BV
open PySem PySem.Spec PySem.Calls PyProof.Rows PySem.W L2
/-! ### isinstance of a held exception -/
section
variable {prog : Program} {w : World} {A : Around} {E : Value → Shared → Prop} {s : Shared} {K : Frag} {x D : Addr} {ox : Obj} {od : Option Obj}
theorem findObj_data {C : Addr} {name : Str} {a g : Value} {od : Option Obj} (hc : (clsIn K C).isSome = true) (ha : findIn K (.ref C) name = some (some a)) (hg : specialIn K a "__get__" = some (some g)) (ht : takesIn K a = some true) : findObj K C od name = some (.bind g a) := by
  obtain ⟨cd, hc⟩ := Option.isSome_iff_exists.mp hc
  unfold findObj
  rw [hc, Option.bind_some, ha, Option.bind_some]
  simp [hg, ht]
theorem kin_classX {Q : Option Value → Shared → Prop} (C : ExcC K D) (X : K.In s.heap) (I : InstAt s.heap x ox D od) (h : Q (some (.ref D)) { s with toks := s.toks + 1 }) : wpAny (model prog w) A (getAttr? (.ref x) "__class__") Q E s := by
  obtain ⟨hga, hgt, hsub, hdct, ha, hn, htk, hm⟩ := C
  have hf : findObj K D od "__class__" = some (.bind (.builtin "getset_descriptor.__get__") (.builtin "object.__class__")) := findObj_data (by obtain ⟨cd, hc, _⟩ := any_some hdct; rw [hc]; rfl) ha hn htk
  obtain ⟨hp, g, d, t, os⟩ := s
  have L0 := I.type (M := model prog w)
  have L1 := looks_findIn (M := model prog w) X hga
  have L2 := looks_findIn (M := model prog w) X hgt
  have L3 := looks_find (M := model prog w) X I hf
  have sub : Looks (model prog w) hp (isInstance (.ref x) (.type "BaseException")) true := L0.andThen (looks_subIn X hsub)
  have hx0 : (false && onTheHeap (Value.builtin "BaseException.__getattribute__")) = false := rfl
  have hx2 : (Value.builtin "BaseException.__getattribute__" == Value.builtin "object.__getattribute__") = false := by decide +kernel
  have hx1 : (onTheHeap (Value.ref D) && Value.builtin "BaseException.__getattribute__" == Value.builtin "object.__getattribute__") = false := by rw [hx2]; rfl
  unfold getAttr? getAttrBy? getAttrBy
  refine wpAny_bind (wpAny_mkText (wpAny_bind (wpAny_attempt (wpAny_holding (wpAny_bind (L0.at (wpAny_bind (L1.at ?_))))))))
  show wpAny _ _ (if (onTheHeap (Value.ref D) && Value.builtin "BaseException.__getattribute__" == Value.builtin "object.__getattribute__") = true then _ else _) _ _ _
  rw [hx1, if_neg Bool.false_ne_true]
  unfold getAttrByItsOwn hookBefore
  refine wpAny_bind ?_
  rw [if_pos (show onTheHeap (Value.ref D) = true from rfl)]
  refine L2.at ?_
  refine wpAny_bind (wpAny_attempt (wpAny_holding ?_))
  unfold callGetattribute
  rw [hx0, if_neg Bool.false_ne_true]
  unfold boundAndCalled
  rw [PySem.F.excAttr_ValueError.ga.bind (.ref x)]
  refine wpAny_bind (wpAny_pure ?_)
  show wpAny _ _ (call (.builtin "BaseException.__getattribute__") [.ref x, .str "__class__" t]) _ _ _
  refine wpAny_call (codeAny_call_builtin PySem.F.excAttr_ValueError.ga.plain PySem.F.entry_bexc_ga ?_)
  refine @check_slot (model prog w) _ _ ⟨hp, g, d, t + 1, os⟩ "BaseException.__getattribute__" "BaseException" "__getattribute__" (.ref x) [.str "__class__" t] [] _ (by decide +kernel) (by decide +kernel) sub (PySem.F.args_bexc_ga (.ref x) (.str "__class__" t)) ?_
  unfold Builtin.«object.__getattribute__»
  refine wpAny_bind (wpAny_of_eq (a := ((Value.ref x : Value), [Value.str "__class__" t])) (by first | rfl | (simp only [slotArgs]; rfl)) ?_)
  refine wpAny_bind (wpAny_pure (wpAny_bind (L0.at (wpAny_bind (L3.at ?_)))))
  show wpAny _ _ (holding [Value.builtin "object.__class__"] (call (.builtin "getset_descriptor.__get__") [.builtin "object.__class__", .ref x, .ref D]) >>= ret) _ _ _
  refine wpAny_bind (wpAny_holding (wpAny_call (class_get (s := ⟨hp, g, d, t + 1, os⟩) (ox := ox) (od := od) X I hm ?_)))
  refine wpAny_pure ?_
  show wpAny _ _ (handedOut (.ref D)) _ _ _
  rw [handedOut_of (v := .ref D) rfl]
  first
    | exact wpAny_pure (wpAny_pure h)
    | exact wpAny_pure h
    | exact wpAny_pure (wpAny_bind (wpAny_pure (wpAny_pure h)))
theorem kitx_held (C : ExcC K D) : KitX K (.ref x) (.ref D) (fun h => ∃ ox od, InstAt h x ox D od) where
  ty := fun _ _ _ ⟨_, _, I⟩ => I.type
  it := fun _ _ X _ => by
    obtain ⟨cdD, hcD, _⟩ := any_some C.hd
    unfold clsIn at hcD
    split at hcD
    · rename_i c' d' cd' sl' ho
      intro A' Q' E' s' k q
      unfold isType loadHead
      exact wpAny_bind (wpAny_loadPart (k _ _ (X _ _ ho)) (wpAny_pure q))
    · cases hcD
  ne := fun h tp dd its n sl X htp => by
    obtain ⟨cdD, hcD, _⟩ := any_some C.hd
    refine Bool.eq_false_iff.mpr fun q => ?_
    have e : D = tp := Value.ref.inj (beq_iff_eq.mp q)
    subst e
    unfold clsIn at hcD
    split at hcD
    · rename_i c' d' cd' sl' ho
      have z := (X _ _ ho).symm.trans htp
      cases z
    · cases hcD
  ca := fun X ⟨_, _, I⟩ k => kin_classX C X I k
end
/-- the type of a value, held exceptions among them -/
def TyB (K : Frag) (H : Hp) (x : V) (t : Value) : Prop := TyX K H x t ∨ ∃ (a C dd : Addr) (p : Str) (v : V), x = .ref a ∧ t = .ref C ∧ H a = some (ExcV (.ref C) (some dd) a) ∧ H dd = some (.xd [(p, v)]) ∧ ExcC K C
section
variable {X : Cx} {pins : List (Addr × Obj)} {σ : L2.St} {H : Hp} {s : Shared}
theorem held_inst (I : Inv X pins σ H s) {a C dd : Addr} {p : Str} {v : V} (h1 : H a = some (ExcV (.ref C) (some dd) a)) (h2 : H dd = some (.xd [(p, v)])) :
    ∃ (oe : Obj) (od : Obj) (mA : Str → Option Value), PySem.W.InstAt s.heap a oe C (some od) ∧ s.heap.Ns1 dd mA ∧ (∀ f, lookIn f od = some (mA f)) ∧ (∀ f, RelO (List.lookup f [(p, v)]) (mA f)) := by
  obtain ⟨⟨oe, vs, e, z, hd⟩, _⟩ := (show ObjOk X.prog X.w H s.heap a (ExcV (.ref C) (some dd) a) from I.hok a _ h1)
  obtain ⟨mA, hns, hr⟩ := (show ObjOk X.prog X.w H s.heap dd (.xd [(p, v)]) from I.hok dd _ h2)
  obtain ⟨od, ho, hl⟩ := lookIn_ns hns
  exact ⟨oe, od, mA, ⟨e, z.1, by unfold PySem.W.notCls; rw [hd] <;> rfl, by rw [z.2]; exact ho⟩, hns, hl, hr⟩
theorem kit_ofB {x : V} {u t : Value} (I : Inv X pins σ H s) (rx : RelV x u) (ty : TyB X.K H x t) : ∃ P : Heap → Prop, PySem.W.KitX X.K u t P ∧ P s.heap ∧ u ≠ .builtin "__main__.__loader__#opaque" := by
  rcases ty with ty | ⟨a, C, dd, p, v, rfl, rfl, h1, h2, c⟩
  · exact kit_of I rx ty
  · cases (show u = Value.ref a from rx)
    obtain ⟨oe, od, mA, J, _⟩ := held_inst I h1 h2
    exact ⟨_, kitx_held c, ⟨oe, some od, J⟩, fun z => nomatch z⟩
end
def rIsiB (K : PySem.W.Frag) : List V → Hp → VK → Prop := fun xs H Q => ∃ (x c : V) (t u : Value) (b : Bool), xs = [x, c] ∧ ClsV c u ∧ TyB K H x t ∧ PySem.W.kitOne K t u = some b ∧ Q (.bl b) H
def rIsiTB (K : PySem.W.Frag) : List V → Hp → VK → Prop := fun xs H Q => ∃ (x : V) (tp : Addr) (cs : List V) (t : Value) (us : List Value) (b : Bool), xs = [x, .ref tp] ∧ H tp = some (.tup cs) ∧ Paired ClsV cs us ∧ TyB K H x t ∧ PySem.W.kitAny K t us = some b ∧ Q (.bl b) H
section
variable {X : Cx}
theorem call_isiB : CallR X (.builtin "isinstance") (rIsiB X.K) := by
  intro pins s σ H xs us Q I r h
  obtain ⟨x, c, t, u, b, rfl, k, ty, e, q⟩ := h
  obtain ⟨u1, u2, rfl, r1, r2⟩ := vals2 r
  have e2 := k.eq r2
  subst e2
  obtain ⟨P, Z, p, hx⟩ := kit_ofB I r1 ty
  exact PySem.W.kia_one Z I.kIn p e hx fun tk => ⟨.bl b, H, I.tok tk, rfl, q⟩
theorem call_isiTB : CallR X (.builtin "isinstance") (rIsiTB X.K) := by
  intro pins s σ H xs us Q I r h
  obtain ⟨x, tp, cs, t, ws, b, rfl, hT, k, ty, e, q⟩ := h
  obtain ⟨u1, u2, rfl, r1, r2⟩ := vals2 r
  cases (show u2 = Value.ref tp from r2)
  obtain ⟨P, Z, p, hx⟩ := kit_ofB I r1 ty
  obtain ⟨_, its, rv, o, h1, h2, n, h3⟩ := (show ObjOk X.prog X.w H s.heap tp (.tup cs) from I.hok tp _ hT)
  have e3 := ClsV.all k rv
  subst e3
  obtain ⟨oc, od, dt, sl⟩ := o
  simp only at h2 h3
  subst h2 h3
  exact PySem.W.kia_tup Z I.kIn p h1 e hx fun tk => ⟨.bl b, H, I.tok tk, rfl, q⟩
end
/-! ### e.p, e a held exception -/
theorem held_get {X : Cx} {pins : List (Addr × Obj)} {σ : L2.St} {H : Hp} {s : Shared} (I : Inv X pins σ H s) {a C dd : Addr} {p : Str} {v : V} {Q : VK} (h1 : H a = some (ExcV (.ref C) (some dd) a)) (h2 : H dd = some (.xd [(p, v)])) (c : ExcC X.K C) (noP : PySem.W.findIn X.K (.ref C) p = some none) (q : Q v H) :
    wpAny (model X.prog X.w) X.A (getAttr (.ref a) p true) (fun u s' => ∃ v H', Inv X pins σ H' s' ∧ RelV v u ∧ Q v H') X.xe s := by
  obtain ⟨oe, od, mA, J, hns, hl, hr⟩ := held_inst I h1 h2
  have l : List.lookup p [(p, v)] = some v := by simp [List.lookup]
  obtain ⟨u, hu, ru⟩ := RelO.some_of (v := v) (o := mA p) (by rw [← l]; exact hr p)
  exact HandSPX.exc_get I.kIn J c.hg c.hk c.hs (PySem.W.findObj_own c.hd noP rfl (by rw [hl, hu])) (handed_of ru) ⟨v, H, I.tok _, ru, q⟩
end BV
namespace BV
open PySem
/-! ### zip(a, b, strict=True) of two tuples of one length -/
end BV
namespace BV
open PySem
end BV
namespace BV
open PySem L2
end BV
namespace BV
open PySem L2
end BV
namespace BV
open PySem L2
end BV
namespace BV
open PySem
section
variable {prog : Program} {w : World} {A : Around} {E : Value → Shared → Prop} {s : Shared}
/-- a value that is data, and how it is told -/
def Sh (prog : Program) (w : World) (h : Heap) (v : Value) (d : PyData) : Prop := ∃ as, Reads h v d as ∧ ∃ bs, ReadAtMost h d.depth bs ∧ ReprK prog w bs h d.depth v d.shown
def ShAll (prog : Program) (w : World) (h : Heap) (vs : List Value) (ds : List PyData) : Prop :=
  ∃ as, ReadsAll h vs ds as ∧ ∃ bs, ReadAtMost h (PyData.depthAll ds) bs ∧ ReprAllK prog w bs h (PyData.depthAll ds) vs (PyData.shownAll ds)
section
variable {h : Heap}
theorem Sh.non : Sh prog w h .none .none := ⟨_, .none, [], (fun _ z => by cases z), by simp only [PyData.shown]; exact .of_is ReprIs.none _ _ _⟩
theorem Sh.bl (b : Bool) : Sh prog w h (.bool b) (.bool b) := ⟨_, .bool b, [], (fun _ z => by cases z), by simp only [PyData.shown]; exact .of_is (ReprIs.bool b) _ _ _⟩
theorem Sh.int {i : Int} {t : Tok} (hs : i.natAbs.log2 < 1920) : Sh prog w h (.int i t) (.int i) := ⟨_, .int i t, [], (fun _ z => by cases z), by simp only [PyData.shown]; exact .of_is (ReprIs.int t hs) _ _ _⟩
theorem Sh.str {x : Str} {t : Tok} (hz : (reprText x).length ≤ sizeLine) : Sh prog w h (.str x t) (.str x) := ⟨_, .str x t, [], (fun _ z => by cases z), by simp only [PyData.shown]; exact .of_is (ReprIs.str x t hz) _ _ _⟩
theorem ShAll.nil : ShAll prog w h [] [] := ⟨_, .nil, [], (fun _ z => by cases z), by simp only [PyData.shownAll]; exact .nil⟩
theorem ShAll.cons {v : Value} {vs : List Value} {d : PyData} {ds : List PyData} (a : Sh prog w h v d) (b : ShAll prog w h vs ds) : ShAll prog w h (v :: vs) (d :: ds) := by
  obtain ⟨as1, r1, bs1, m1, k1⟩ := a
  obtain ⟨as2, r2, bs2, m2, k2⟩ := b
  refine ⟨_, .cons r1 r2, bs1 ++ bs2, ?_, ?_⟩
  · have e1 : d.depth ≤ PyData.depthAll (d :: ds) := by simp only [PyData.depthAll]; exact Nat.le_max_left _ _
    have e2 : PyData.depthAll ds ≤ PyData.depthAll (d :: ds) := by simp only [PyData.depthAll]; exact Nat.le_max_right _ _
    exact (m1.mono e1).append (m2.mono e2)
  · have z1 := k1.more (as' := bs1 ++ bs2) fun b hb => List.mem_append_left _ hb
    have z2 := k2.more_le (as' := bs1 ++ bs2) (d' := PyData.depthAll (d :: ds)) (fun b hb => List.mem_append_right _ hb) (by simp only [PyData.depthAll]; exact Nat.le_max_right _ _)
    rw [PyData.shownAll]
    exact .cons (z1.level_le (by simp only [PyData.depthAll]; exact Nat.le_max_left _ _)) z2
theorem Sh.list {a : Addr} {o : Obj} {vs : Array Value} {n : Nat} {ds : List PyData} (h1 : h.get? a = some o) (h2 : o.cls = .type "list") (h3 : o.data = .seq vs n) (k : ShAll prog w h vs.toList ds) : Sh prog w h (.ref a) (.list ds) := by
  obtain ⟨as, r, bs, m, k⟩ := k
  have R : Reads h (.ref a) (.list ds) _ := .list h1 h2 h3 r
  have na : a ∉ bs := not_mem_of_deeper R (by rw [PyData.depth]; exact Nat.lt_succ_self _) m
  refine ⟨_, R, a :: bs, m.cons R (by rw [PyData.depth]; exact Nat.le_succ _), ?_⟩
  rw [PyData.depth, PyData.shown]
  rcases vs with ⟨_ | ⟨x, l⟩⟩
  · cases (show ReadsAll h [] ds as from r)
    rw [PyData.shownAll, listText_nil]
    exact ReprK.listEmpty h1 h2 h3
  · refine ReprK.list h1 h2 h3 na ?_ fun i y e => k.item i y ?_
    · have := k.length_eq
      simpa using this
    · simpa using e
theorem Sh.tuple {a : Addr} {o : Obj} {vs : Array Value} {n : Nat} {ds : List PyData} (h1 : h.get? a = some o) (h2 : o.cls = .type "tuple") (h3 : o.data = .seq vs n) (k : ShAll prog w h vs.toList ds) : Sh prog w h (.ref a) (.tuple ds) := by
  obtain ⟨as, r, bs, m, k⟩ := k
  have R : Reads h (.ref a) (.tuple ds) _ := .tuple h1 h2 h3 r
  have na : a ∉ bs := not_mem_of_deeper R (by rw [PyData.depth]; exact Nat.lt_succ_self _) m
  refine ⟨_, R, a :: bs, m.cons R (by rw [PyData.depth]; exact Nat.le_succ _), ?_⟩
  rw [PyData.depth, PyData.shown]
  exact ReprK.tuple h1 h2 h3 na k
theorem Sh.dict0 {a : Addr} {o : Obj} {n : Nat} (h1 : h.get? a = some o) (h2 : o.cls = .type "dict") (h3 : o.data = .dict #[] n) (lo : (a == sysModules) = false) : Sh prog w h (.ref a) (.dict []) := by
  have R : Reads h (.ref a) (.dict []) _ := .dict h1 h2 h3 .nil .nil
  refine ⟨_, R, [a], ReadAtMost.cons R (Nat.le_refl _) (fun _ z => by cases z), ?_⟩
  simp only [PyData.depth, PyData.shown, PyData.shownKv, PyData.depthKv]
  exact ReprK.dict h1 h2 h3 lo (by simp) (ReprEntriesK.of_two [] [] [] .nil .nil)
end
/-- what repr() is asked of: flat things, lists and tuples -/
inductive TopR (prog : Program) (w : World) (h : Heap) : Value → PyData → Prop
  | non : TopR prog w h .none .none
  | bl (b : Bool) : TopR prog w h (.bool b) (.bool b)
  | int (i : Int) (t : Tok) : TopR prog w h (.int i t) (.int i)
  | str (x : Str) (t : Tok) : TopR prog w h (.str x t) (.str x)
  | list {a : Addr} {o : Obj} {vs : Array Value} {n : Nat} {ds : List PyData} (h1 : h.get? a = some o) (h2 : o.cls = .type "list") (h3 : o.data = .seq vs n) (k : ShAll prog w h vs.toList ds) : TopR prog w h (.ref a) (.list ds)
  | tuple {a : Addr} {o : Obj} {vs : Array Value} {n : Nat} {ds : List PyData} (h1 : h.get? a = some o) (h2 : o.cls = .type "tuple") (h3 : o.data = .seq vs n) (k : ShAll prog w h vs.toList ds) : TopR prog w h (.ref a) (.tuple ds)
  | dict0 {a : Addr} {o : Obj} {n : Nat} (h1 : h.get? a = some o) (h2 : o.cls = .type "dict") (h3 : o.data = .dict #[] n) (lo : (a == sysModules) = false) : TopR prog w h (.ref a) (.dict [])
/-- repr(v), v data of none, bools, ints, texts, lists and tuples -/
theorem call_reprV {v : Value} {d : PyData} {Q : Value → Shared → Prop} (r : TopR prog w s.heap v d) (hs : d.showable = true) (hg : A.guards = some []) (hu : A.units + 1 + d.depth < cLine) (hz : d.shown.length ≤ sizeLine)
    (hQ : ∀ h' u tk, (∀ b o, s.heap.get? b = some o → h'.get? b = some o) → Q (.str d.shown u) { s with heap := h', toks := tk }) : wpAny (model prog w) A (call (.builtin "repr") [v]) Q E s := by
  have hu1 : A.in1.units = A.units + 1 := rfl
  have hg1 : A.in1.guards = some [] := hg
  cases r with
  | non => exact PySem.P.repr_of_none (hQ s.heap _ _ fun _ _ e => e)
  | bl b => exact PySem.P.repr_of_bool (hQ s.heap _ _ fun _ _ e => e)
  | int i t => exact PySem.P.repr_of_int (by simpa [PyData.showable] using hs) (by have := hQ s.heap s.toks (s.toks + 1) fun _ _ e => e; simpa only [PyData.shown] using this)
  | str x t => exact PySem.P.repr_of_str (by have := hQ s.heap s.toks (s.toks + 1) fun _ _ e => e; simpa only [PyData.shown] using this) (by simpa only [PyData.shown] using hz)
  | @list a oa vs na xs h1 h2 h3 h4 =>
    obtain ⟨as, h4, bs, hb, hk⟩ := h4
    have hz' : (listText (PyData.shownAll xs)).length ≤ sizeLine := by simpa only [PyData.shown] using hz
    have r : Reads s.heap (.ref a) (.list xs) _ := .list h1 h2 h3 h4
    have hna : a ∉ bs := not_mem_of_deeper r (by simp only [PyData.depth]; omega) hb
    simp only [PyData.depth] at hu
    simp only [PyData.shown] at hQ
    have hTy : s.TypeIs (.ref a) "list" := ⟨_, h1, h2⟩
    refine Calls.call_function_entry F.kind_repr F.plain_repr F.entry_repr (F.args_repr1 _) ?_
    unfold Builtin.«repr»
    refine wpAny_bind (m := oneArg "repr" _) (wpAny_pure ?_)
    refine wpAny_bind (wpAny_cRoomFor (by omega) ?_)
    refine wpAny_bind (wpAny_specialOf (name := Str.ofString "__repr__") hTy F.slot_list_repr.lookup ?_)
    obtain ⟨l⟩ := vs
    cases l with
    | nil =>
      have h4' : ReadsAll s.heap [] xs _ := h4
      cases h4'
      simp only [PyData.shownAll, listText_nil] at hQ
      refine wpAny_bind (m := callSpecialIfBound? (.ref a) (Str.ofString "__repr__")) (wpAny_callSpecialIfBound?_slot (name := Str.ofString "__repr__") hTy F.slot_list_repr (call_list_repr_empty hTy h1 h3 ?_))
      exact wpAny_bind (wpAny_isInstance (T := "str") (b := true) rfl isSubtype_str_str (wpAny_pure ⟨_, rfl, hQ s.heap _ _ fun _ _ e => e⟩))
    | cons x l =>
      refine wpAny_bind (m := callSpecialIfBound? (.ref a) (Str.ofString "__repr__")) (wpAny_callSpecialIfBound?_slot (name := Str.ofString "__repr__") hTy F.slot_list_repr
        (call_list_reprK h1 h2 h3 hna (by simpa using hk.length_eq) (fun i y e => hk.item i y (by simpa using e)) hg1 (fun b _ => Clear.nil b) (by omega) (fun _ _ e => e) (fun h' u tk hk' => ?_) hz'))
      exact wpAny_bind (wpAny_isInstance (T := "str") (b := true) rfl isSubtype_str_str (wpAny_pure ⟨_, rfl, hQ h' u tk hk'⟩))
  | @tuple a o vs n xs h1 h2 h3 h4 =>
    obtain ⟨as, h4, bs, hb, hk⟩ := h4
    have hz' : (tupleText (PyData.shownAll xs)).length ≤ sizeLine := by simpa only [PyData.shown] using hz
    have r : Reads s.heap (.ref a) (.tuple xs) _ := .tuple h1 h2 h3 h4
    have hna : a ∉ bs := not_mem_of_deeper r (by simp only [PyData.depth]; omega) hb
    simp only [PyData.depth] at hu
    simp only [PyData.shown] at hQ
    have hTy : s.TypeIs (.ref a) "tuple" := ⟨_, h1, h2⟩
    refine Calls.call_function_entry F.kind_repr F.plain_repr F.entry_repr (F.args_repr1 _) ?_
    unfold Builtin.«repr»
    refine wpAny_bind (m := oneArg "repr" _) (wpAny_pure ?_)
    refine wpAny_bind (wpAny_cRoomFor (by omega) ?_)
    refine wpAny_bind (wpAny_specialOf (name := Str.ofString "__repr__") hTy F.slot_tuple_repr.lookup ?_)
    refine wpAny_bind (m := callSpecialIfBound? (.ref a) (Str.ofString "__repr__")) (wpAny_callSpecialIfBound?_slotG (name := Str.ofString "__repr__") hTy F.slot_tuple_repr
      (call_tuple_reprK h1 h2 h3 hna hk hg1 (fun b _ => Clear.nil b) (by omega) (fun _ _ e => e) (fun h' u tk hk' => ?_) hz'))
    exact wpAny_bind (wpAny_isInstance (T := "str") (b := true) rfl isSubtype_str_str (wpAny_pure ⟨_, rfl, hQ h' u tk hk'⟩))
  | @dict0 a o n h1 h2 h3 lo =>
    simp only [PyData.depth, PyData.depthKv] at hu
    simp only [PyData.shown, PyData.shownKv] at hQ hz
    have hTy : s.TypeIs (.ref a) "dict" := ⟨_, h1, h2⟩
    refine Calls.call_function_entry F.kind_repr F.plain_repr F.entry_repr (F.args_repr1 _) ?_
    unfold Builtin.«repr»
    refine wpAny_bind (m := oneArg "repr" _) (wpAny_pure ?_)
    refine wpAny_bind (wpAny_cRoomFor (by omega) ?_)
    refine wpAny_bind (wpAny_specialOf (name := Str.ofString "__repr__") hTy F.slot_dict_repr.lookup ?_)
    refine wpAny_bind (m := callSpecialIfBound? (.ref a) (Str.ofString "__repr__")) (wpAny_callSpecialIfBound?_slotG (name := Str.ofString "__repr__") hTy F.slot_dict_repr
      (call_dict_reprK (as := []) (h₀ := s.heap) (d := 0) h1 h2 h3 lo (by simp) (ReprEntriesK.of_two [] [] [] .nil .nil) hg1 (fun b _ => Clear.nil b) (by omega) (fun _ _ e => e) (fun h' u tk hk' => ?_) hz))
    exact wpAny_bind (wpAny_isInstance (T := "str") (b := true) rfl isSubtype_str_str (wpAny_pure ⟨_, rfl, hQ h' u tk hk'⟩))
end
end BV
namespace BV
open PySem L2
/-! ### the state -/
def noTbl (o : HO) : Prop := ∀ ps : Array Value, o ≠ .tbl ps
def frz (H : Hp) (ra : Ra) : Hp := fun b => if some b ∈ ra then none else match H b with
  | some (.tbl _) => none
  | x => x
theorem frz_some {H : Hp} {ra : Ra} {b : Addr} {o : HO} (h : frz H ra b = some o) : some b ∉ ra ∧ H b = some o ∧ noTbl o := by
  unfold frz at h
  split at h
  · cases h
  · rename_i n
    split at h
    · cases h
    · rename_i x hx
      refine ⟨n, h, fun ps z => ?_⟩
      rw [z] at h
      exact hx ps h
theorem frz_same (H : Hp) (ra : Ra) : Same (frz H ra) H := fun b o h => (frz_some h).2.1
theorem frz_at {H : Hp} {ra : Ra} {b : Addr} {o : HO} (h : H b = some o) (n : some b ∉ ra) (t : noTbl o := by intro _ z; cases z) : frz H ra b = some o := by
  unfold frz
  rw [if_neg n, h]
  cases o <;> first | rfl | exact absurd rfl (t _)
theorem frz_sub {H : Hp} {ra ra' : Ra} (hs : ∀ x, some x ∈ ra' → some x ∈ ra) : Same (frz H ra) (frz H ra') := fun b o e => by
  obtain ⟨n, h1, t⟩ := frz_some e
  exact frz_at h1 (fun z => n (hs b z)) t
def RepW (g : G) (F : Hp) (ra : Ra) : W → V → Prop
  | .d d, v => Rep g F d v
  | .loc n, v => ∃ a, v = .ref a ∧ ra[n]? = some (some a)
def CellAt (g : G) (F H : Hp) (a : Addr) : Cell → Prop
  | .lst ds => ∃ vs, H a = some (.lst vs) ∧ RepL g F ds vs
  | .ins c fs => ∃ dx vs, H a = some (.ins (g.ca c) dx vs) ∧ RepF g F fs vs
  | .dct fs => ∃ vs : List (Str × V), H a = some (.dK (vs.map fun p => (.inr p.1, p.2))) ∧ RepF g F fs vs
structure Rel (g : G) (ra : Ra) (cs : Cells) (H : Hp) : Prop where
  len : ra.length = cs.length
  cell : ∀ (n : Nat) c, cs[n]? = some (some c) → ∃ a, ra[n]? = some (some a) ∧ CellAt g (frz H ra) H a c
  dead : ∀ (n : Nat), cs[n]? = some none → ra[n]? = some none
  inj : ∀ (n m : Nat) a, ra[n]? = some (some a) → ra[m]? = some (some a) → n = m
  tabs : LamX.Tabs g.T H
def FrR (g : G) (H : Hp) (ra : Ra) (fr : Fra) (σ : St) : Prop :=
  fr.length = σ.length ∧ ∀ (i : Nat) w, fr[i]? = some (some w) → ∃ v, σ[i]? = some (some v) ∧ RepW g (frz H ra) ra w v
/-- what is tracked and neither a cell of ours nor a table stays; a table stays tracked -/
def Keep (ra : Ra) (H H' : Hp) : Prop := ∀ b o, H b = some o → some b ∉ ra → ∃ o', H' b = some o' ∧ (noTbl o → o' = o)
theorem Keep.at {ra : Ra} {H H' : Hp} (k : Keep ra H H') {b : Addr} {o : HO} (h : H b = some o) (n : some b ∉ ra) (t : noTbl o := by intro _ z; cases z) : H' b = some o := by
  obtain ⟨o', h1, e⟩ := k b o h n
  rw [h1, e t]
theorem Keep.refl (ra : Ra) (H : Hp) : Keep ra H H := fun _ o h _ => ⟨o, h, fun _ => rfl⟩
theorem Keep.trans {ra : Ra} {H H1 H2 : Hp} (a : Keep ra H H1) (b : Keep ra H1 H2) : Keep ra H H2 := fun x o h n => by
  obtain ⟨o1, h1, e1⟩ := a x o h n
  obtain ⟨o2, h2, e2⟩ := b x o1 h1 n
  exact ⟨o2, h2, fun t => by rw [e2 (by rw [e1 t]; exact t), e1 t]⟩
theorem Keep.same {ra : Ra} {H H' : Hp} (k : Keep ra H H') : Same (frz H ra) (frz H' ra) := fun b o h => by
  obtain ⟨n, h1, t⟩ := frz_some h
  exact frz_at (k.at h1 n t) n t
theorem Same.keep {ra : Ra} {H H' : Hp} (e : Same H H') : Keep ra H H' := fun b o h _ => ⟨o, e b o h, fun _ => rfl⟩
theorem RepW.mono {g : G} {F F' : Hp} {ra : Ra} {w : W} {v : V} (e : Same F F') (h : RepW g F ra w v) : RepW g F' ra w v := by
  cases w with
  | d d => exact Rep.mono e h
  | loc n => exact h
theorem FrR.mono {g : G} {H H' : Hp} {ra : Ra} {fr : Fra} {σ : St} (k : Keep ra H H') (h : FrR g H ra fr σ) : FrR g H' ra fr σ :=
  ⟨h.1, fun i w e => by
    obtain ⟨v, h1, h2⟩ := h.2 i w e
    exact ⟨v, h1, h2.mono k.same⟩⟩
theorem CellAt.mono {g : G} {F F' H H' : Hp} {a : Addr} {c : Cell} (e : Same F F') (h : H' a = H a) (x : CellAt g F H a c) : CellAt g F' H' a c := by
  cases c with
  | lst ds => obtain ⟨vs, h1, r⟩ := x; exact ⟨vs, h.trans h1, r.mono e⟩
  | ins c fs => obtain ⟨dx, vs, h1, r⟩ := x; exact ⟨dx, vs, h.trans h1, r.mono e⟩
  | dct fs => obtain ⟨vs, h1, r⟩ := x; exact ⟨vs, h.trans h1, r.mono e⟩
theorem CellAt.there {g : G} {F H : Hp} {a : Addr} {c : Cell} (x : CellAt g F H a c) : H a ≠ none := by
  cases c with
  | lst ds => obtain ⟨vs, h1, r⟩ := x; rw [h1]; simp
  | ins c fs => obtain ⟨dx, vs, h1, r⟩ := x; rw [h1]; simp
  | dct fs => obtain ⟨vs, h1, r⟩ := x; rw [h1]; simp
theorem mem_ra {ra : Ra} {a : Addr} (h : some a ∈ ra) : ∃ n : Nat, ra[n]? = some (some a) := by
  obtain ⟨n, hn, e⟩ := List.getElem_of_mem h
  exact ⟨n, by rw [List.getElem?_eq_getElem hn, e]⟩
theorem ra_mem {ra : Ra} {a : Addr} {n : Nat} (h : ra[n]? = some (some a)) : some a ∈ ra := List.mem_of_getElem? h
section
variable {g : G} {ra : Ra} {cs : Cells} {H H' : Hp}
theorem Rel.back (R : Rel g ra cs H) {n : Nat} {a : Addr} (h : ra[n]? = some (some a)) : ∃ c, cs[n]? = some (some c) ∧ CellAt g (frz H ra) H a c := by
  have hn : n < cs.length := by
    rw [← R.len]
    exact (List.getElem?_eq_some_iff.mp h).1
  cases e : cs[n]'hn with
  | none =>
    have := R.dead n (by rw [List.getElem?_eq_getElem hn, e])
    rw [h] at this; cases this
  | some c =>
    have e1 : cs[n]? = some (some c) := by rw [List.getElem?_eq_getElem hn, e]
    obtain ⟨a', h1, h2⟩ := R.cell n c e1
    rw [h] at h1; cases h1
    exact ⟨c, e1, h2⟩
theorem Rel.there (R : Rel g ra cs H) {a : Addr} (h : some a ∈ ra) : H a ≠ none := by
  obtain ⟨n, hn⟩ := mem_ra h
  obtain ⟨c, _, h2⟩ := R.back hn
  exact h2.there
theorem Rel.fresh (R : Rel g ra cs H) {p : Addr} (h : H p = none) : some p ∉ ra := fun q => R.there q h
/-- a state whose cells are as they were -/
theorem Rel.keep (R : Rel g ra cs H) (k : Keep ra H H') (st : ∀ a, some a ∈ ra → H' a = H a) (tb : LamX.Tabs g.T H') : Rel g ra cs H' :=
  ⟨R.len, fun n c e => by
    obtain ⟨a, h1, h2⟩ := R.cell n c e
    exact ⟨a, h1, h2.mono k.same (st a (ra_mem h1))⟩, R.dead, R.inj, tb⟩
/-- a new object -/
theorem Rel.new (R : Rel g ra cs H) {p : Addr} {o : HO} (h : H p = none) (t : noTbl o := by intro _ z; cases z) : Keep ra H (upd H p o) ∧ Rel g ra cs (upd H p o) ∧ frz (upd H p o) ra p = some o := by
  have nf := R.fresh h
  have sm : ∀ b u, H b = some u → upd H p o b = some u := fun b u e => by
    rw [upd_ne (ne_of_none e h)]
    exact e
  have k : Keep ra H (upd H p o) := Same.keep sm
  refine ⟨k, R.keep k (fun a q => ?_) (R.tabs.ext sm), frz_at upd_same nf t⟩
  rw [upd_ne]
  intro z
  exact nf (z ▸ q)
theorem CellAt.kind {g : G} {F H : Hp} {a : Addr} {c : Cell} (x : CellAt g F H a c) : (∃ vs, H a = some (.lst vs)) ∨ (∃ c dx vs, H a = some (.ins c dx vs)) ∨ ∃ vs, H a = some (.dK vs) := by
  cases c with
  | lst ds => obtain ⟨vs, h1, r⟩ := x; exact .inl ⟨_, h1⟩
  | ins c fs => obtain ⟨dx, vs, h1, r⟩ := x; exact .inr (.inl ⟨_, _, _, h1⟩)
  | dct fs => obtain ⟨vs, h1, r⟩ := x; exact .inr (.inr ⟨_, h1⟩)
theorem tabs_put {T : List (Addr × Str)} {a : Addr} {o : HO} (tb : LamX.Tabs T H) (hk : (∃ vs, H a = some (.lst vs)) ∨ (∃ c dx vs, H a = some (.ins c dx vs)) ∨ ∃ vs, H a = some (.dK vs)) : LamX.Tabs T (upd H a o) := fun p hp => by
  obtain ⟨ps, h1, h2, h3⟩ := tb p hp
  have ne : ∀ {b : Addr} {u : HO}, H b = some u → (∀ vs, u ≠ .lst vs) → (∀ c dx vs, u ≠ .ins c dx vs) → (∀ vs, u ≠ .dK vs) → b ≠ a := fun {b u} e n1 n2 n3 z => by
    rw [z] at e
    rcases hk with ⟨vs, q⟩ | ⟨c, dx, vs, q⟩ | ⟨vs, q⟩
    · rw [q] at e; cases e; exact n1 _ rfl
    · rw [q] at e; cases e; exact n2 _ _ _ rfl
    · rw [q] at e; cases e; exact n3 _ rfl
  refine ⟨ps, by rw [upd_ne (ne h1 (fun _ z => by cases z) (fun _ _ _ z => by cases z) (fun _ z => by cases z))]; exact h1, h2, fun pos cv e => ?_⟩
  obtain ⟨c, e1, e2⟩ := h3 pos cv e
  exact ⟨c, e1, by rw [upd_ne (ne e2 (fun _ z => by unfold LamX.CodeO at z; cases z) (fun _ _ _ z => by unfold LamX.CodeO at z; cases z) (fun _ z => by unfold LamX.CodeO at z; cases z))]; exact e2⟩
/-- a cell changes -/
theorem Rel.put (R : Rel g ra cs H) {n : Nat} {a : Addr} {c' : Cell} {o : HO} (h : ra[n]? = some (some a)) (hc : CellAt g (frz H ra) (upd H a o) a c') : Keep ra H (upd H a o) ∧ Rel g ra (cs.set n (some c')) (upd H a o) := by
  have k : Keep ra H (upd H a o) := fun b u e nb => ⟨u, by
    rw [upd_ne]
    · exact e
    · intro z
      exact nb (z ▸ ra_mem h), fun _ => rfl⟩
  have hn : n < cs.length := by
    rw [← R.len]
    exact (List.getElem?_eq_some_iff.mp h).1
  refine ⟨k, ⟨by rw [List.length_set]; exact R.len, fun m c e => ?_, fun m e => ?_, R.inj, tabs_put R.tabs (by obtain ⟨c0, _, q⟩ := R.back h; exact q.kind)⟩⟩
  · by_cases hm : m = n
    · subst hm
      rw [List.getElem?_set_self hn] at e
      cases e
      exact ⟨a, h, hc.mono k.same rfl⟩
    · rw [List.getElem?_set_ne (Ne.symm hm)] at e
      obtain ⟨a', h1, h2⟩ := R.cell m c e
      refine ⟨a', h1, h2.mono k.same (upd_ne ?_)⟩
      intro z
      subst z
      exact hm (R.inj m n _ h1 h)
  · by_cases hm : m = n
    · subst hm
      rw [List.getElem?_set_self hn] at e
      cases e
    · rw [List.getElem?_set_ne (Ne.symm hm)] at e
      exact R.dead m e
end
/-! ### results -/
inductive R (α : Type) where
  | ok (a : α) (cs : Cells) | exc (c : Nat) (x : D) (cs : Cells) | bad
def R.bind {α β : Type} (r : R α) (k : α → Cells → R β) : R β := match r with
  | .ok a cs => k a cs
  | .exc c x cs => .exc c x cs
  | .bad => .bad
def PostR {α β : Type} (g : G) (rp : Hp → α → β → Prop) (r : R α) (ra : Ra) (H : Hp) (Q : β → Hp → Prop) (E : XK) : Prop := match r with
  | .ok a cs => ∀ H' v, Keep ra H H' → Rel g ra cs H' → rp H' a v → Q v H'
  | .exc c x cs => ∀ H' dd v, Keep ra H H' → Rel g ra cs H' → H' dd = some (.xd [(g.efld c, v)]) → Rep g (frz H' ra) x v → E (.ref (g.ca c)) (some dd) H'
  | .bad => False
section
variable {α β γ δ : Type} {g : G} {rp : Hp → α → β → Prop} {rq : Hp → γ → δ → Prop} {ra : Ra} {H H1 : Hp} {Q Q' : β → Hp → Prop} {Q2 : δ → Hp → Prop} {E : XK}
theorem PostR.from {r : R α} (k : Keep ra H H1) (h : PostR g rp r ra H Q E) : PostR g rp r ra H1 Q E := by
  cases r with
  | ok a cs => exact fun H' v k' R p => h H' v (k.trans k') R p
  | exc c x cs => exact fun H' dd v k' R p q => h H' dd v (k.trans k') R p q
  | bad => exact h
theorem PostR.bind {r : R α} {k : α → Cells → R γ} (h : PostR g rq (r.bind k) ra H Q2 E) :
    PostR g rp r ra H (fun v H1 => ∃ a cs1, Keep ra H H1 ∧ Rel g ra cs1 H1 ∧ rp H1 a v ∧ PostR g rq (k a cs1) ra H1 Q2 E) E := by
  cases r with
  | ok a cs => exact fun H1 v k1 R1 p => ⟨a, cs, k1, R1, p, PostR.from k1 h⟩
  | exc c x cs => exact h
  | bad => exact h
theorem PostR.imp {r : R α} (h : PostR g rp r ra H Q E) (hq : ∀ v H', Q v H' → Q' v H') : PostR g rp r ra H Q' E := by
  cases r with
  | ok a cs => exact fun H' v k' R p => hq _ _ (h H' v k' R p)
  | exc c x cs => exact h
  | bad => exact h
end
abbrev rpW (g : G) (ra : Ra) : Hp → W → V → Prop := fun H w v => RepW g (frz H ra) ra w v
inductive RepWs (g : G) (F : Hp) (ra : Ra) : List W → List V → Prop
  | nil : RepWs g F ra [] []
  | cons {w : W} {v : V} {ws : List W} {vs : List V} (h : RepW g F ra w v) (t : RepWs g F ra ws vs) : RepWs g F ra (w :: ws) (v :: vs)
abbrev rpA (g : G) (ra : Ra) : Hp → List W → List V → Prop := fun H w v => RepWs g (frz H ra) ra w v
theorem RepWs.mono {g : G} {F F' : Hp} {ra : Ra} {w : List W} {v : List V} (e : Same F F') (h : RepWs g F ra w v) : RepWs g F' ra w v := by
  induction h with
  | nil => exact .nil
  | cons h _ ih => exact .cons (h.mono e) ih
theorem RepWs.length {g : G} {F : Hp} {ra : Ra} {w : List W} {v : List V} (h : RepWs g F ra w v) : w.length = v.length := by
  induction h with
  | nil => rfl
  | cons h _ ih => exact congrArg Nat.succ ih
def pureDs : List W → Option (List D)
  | [] => some []
  | .d d :: r => (pureDs r).map (d :: ·)
  | .loc _ :: _ => none
theorem RepWs.pure {g : G} {F : Hp} {ra : Ra} {w : List W} {v : List V} (h : RepWs g F ra w v) : ∀ {ds : List D}, pureDs w = some ds → RepL g F ds v := by
  induction h with
  | nil => intro ds e; cases e; exact .nil
  | @cons w v ws vs h _ ih =>
    intro ds e
    cases w with
    | loc n => cases e
    | d d =>
      simp only [pureDs, Option.map_eq_some_iff] at e
      obtain ⟨ds', e1, rfl⟩ := e
      exact .cons h (ih e1)
/-! ### readings by value -/
section
variable (g : G) (Wx : WX) (f : Fra → Cells → R W) (fa : Fra → Cells → R (List W)) (fb : Fra → Cells → R Bool)
def tE : TE := fun σ H Q => ∃ fr cs ra, Rel g ra cs H ∧ FrR g H ra fr σ ∧ PostR g (rpW g ra) (f fr cs) ra H Q (fun c d H' => Wx c d σ H')
def tA : TA := fun σ H Q => ∃ fr cs ra, Rel g ra cs H ∧ FrR g H ra fr σ ∧ PostR g (rpA g ra) (fa fr cs) ra H Q (fun c d H' => Wx c d σ H')
def tT : TT := fun σ H Q => ∃ fr cs ra, Rel g ra cs H ∧ FrR g H ra fr σ ∧ PostR g (fun _ (a b : Bool) => a = b) (fb fr cs) ra H Q (fun c d H' => Wx c d σ H')
end
theorem PE.imp {X : Cx} {e : Expr} {t t' : TE} (h : PE X e t) (i : ∀ σ H Q, t' σ H Q → t σ H Q) : PE X e t' := ⟨fun pins s σ H Q I q => h.run pins s σ H Q I (i σ H Q q)⟩
theorem PT.imp {X : Cx} {e : Expr} {t t' : TT} (h : PT X e t) (i : ∀ σ H Q, t' σ H Q → t σ H Q) : PT X e t' := ⟨fun pins s σ H Q I q => h.run pins s σ H Q I (i σ H Q q)⟩
theorem PW.imp {X : Cx} {e : Expr} {t t' : TT} (h : PW X e t) (i : ∀ σ H Q, t' σ H Q → t σ H Q) : PW X e t' := ⟨fun wh pins s σ H Q I q => h.run wh pins s σ H Q I (i σ H Q q)⟩
theorem PA.imp {X : Cx} {e : List Expr} {t t' : TA} (h : PA X e t) (i : ∀ σ H Q, t' σ H Q → t σ H Q) : PA X e t' := ⟨fun pos pins s σ H Q I q => h.run pos pins s σ H Q I (i σ H Q q)⟩
theorem PS.imp {X : Cx} {e : Stmt} {t t' : TS} (h : PS X e t) (i : ∀ D σ H, t' D σ H → t D σ H) : PS X e t' := ⟨fun pins s σ H D I q => h.run pins s σ H D I (i D σ H q)⟩
theorem PSs.imp {X : Cx} {e : List Stmt} {t t' : TS} (h : PSs X e t) (i : ∀ D σ H, t' D σ H → t D σ H) : PSs X e t' := ⟨fun pins s σ H D I q => h.run pins s σ H D I (i D σ H q)⟩
/-- two operands, then the operation on values -/
theorem tE_bin {g : G} {Wx : WX} {fa fb : Fra → Cells → R W} {op : W → W → Cells → R W} {r : R2}
    (hop : ∀ {w1 w2 : W} {cs : Cells} {ra : Ra} {H : Hp} {Q : VK} {E : XK} {v1 v2 : V}, Rel g ra cs H → RepW g (frz H ra) ra w1 v1 → RepW g (frz H ra) ra w2 v2 → PostR g (rpW g ra) (op w1 w2 cs) ra H Q E → r v1 v2 H Q)
    {σ : St} {H : Hp} {Q : VK} (h : tE g Wx (fun fr cs => (fa fr cs).bind fun w1 c1 => (fb fr c1).bind fun w2 c2 => op w1 w2 c2) σ H Q) : tOp r (tE g Wx fa) (tE g Wx fb) σ H Q := by
  obtain ⟨fr, cs, ra, R, F, p⟩ := h
  refine ⟨fr, cs, ra, R, F, PostR.imp (PostR.bind (rp := rpW g ra) p) ?_⟩
  rintro x H1 ⟨w1, c1, k1, R1, r1, p1⟩
  refine ⟨fr, c1, ra, R1, F.mono k1, PostR.imp (PostR.bind (rp := rpW g ra) p1) ?_⟩
  rintro y H2 ⟨w2, c2, k2, R2, r2, p2⟩
  exact hop R2 (r1.mono k2.same) r2 p2
/-- arguments, then the call on values -/
theorem tE_call {g : G} {Wx : WX} {fa : Fra → Cells → R (List W)} {op : List W → Cells → R W} {r : List V → Hp → VK → Prop}
    (hop : ∀ {ws : List W} {cs : Cells} {ra : Ra} {H : Hp} {Q : VK} {E : XK} {vs : List V}, Rel g ra cs H → RepWs g (frz H ra) ra ws vs → PostR g (rpW g ra) (op ws cs) ra H Q E → r vs H Q)
    {σ : St} {H : Hp} {Q : VK} (h : tE g Wx (fun fr cs => (fa fr cs).bind fun w1 c1 => op w1 c1) σ H Q) : tCB r (tA g Wx fa) σ H Q := by
  obtain ⟨fr, cs, ra, R, F, p⟩ := h
  refine ⟨fr, cs, ra, R, F, PostR.imp (PostR.bind (rp := rpA g ra) p) ?_⟩
  rintro x H1 ⟨w1, c1, k1, R1, r1, p1⟩
  exact hop R1 r1 p1
theorem pa_nilB {X : Cx} {g : G} {Wx : WX} : PA X [] (tA g Wx fun _ cs => .ok [] cs) := PA.imp pa_nil fun σ H Q h => by
  obtain ⟨fr, cs, ra, R, F, p⟩ := h
  exact p H [] (Keep.refl _ _) R .nil
theorem pa_consB {X : Cx} {g : G} {Wx : WX} {e : Expr} {es : List Expr} {f : Fra → Cells → R W} {fa : Fra → Cells → R (List W)} (h1 : PE X e (tE g Wx f)) (h2 : PA X es (tA g Wx fa)) (hs : starEach (e :: es) X.env = (false, eval e X.env) :: starEach es X.env) :
    PA X (e :: es) (tA g Wx fun fr cs => (f fr cs).bind fun w c1 => (fa fr c1).bind fun ws c2 => .ok (w :: ws) c2) := PA.imp (pa_cons h1 h2 hs) fun σ H Q h => by
  obtain ⟨fr, cs, ra, R, F, p⟩ := h
  refine ⟨fr, cs, ra, R, F, PostR.imp (PostR.bind (rp := rpW g ra) p) ?_⟩
  rintro x H1 ⟨w1, c1, k1, R1, r1, p1⟩
  refine ⟨fr, c1, ra, R1, F.mono k1, PostR.imp (PostR.bind (rp := rpA g ra) p1) ?_⟩
  rintro xs H2 ⟨ws, c2, k2, R2, r2, p2⟩
  exact p2 H2 _ (Keep.refl _ _) R2 (.cons (r1.mono k2.same) r2)
end BV
namespace BV
open PySem PySem.Spec PySem.Calls PyProof.Rows PySem.W L2
/-! ### a dict and a text: not equal -/
section
open MeetsSeq MeetsSeq2 MeetsSeq3 SeqRoads2 SeqAt
open AutoSeq1 (wpAny_loadPart')
theorem dict_eq_declines_str (l : Addr) (da : Data) (dd : Option Addr) (sl : Array (Option Value)) (b : Str) (u : Tok) :
    Meets (Builtin.«dict.__eq__» ⟨[.ref l, .str b u], []⟩) (fun _ R s => s.heap.get? l = some { cls := .type "dict", dict := dd, data := da, slots := sl } ∧ R (.ok (.ret .notImplemented)) s) :=
  .of_wp fun prog w A R s h => by obtain ⟨hp, g, d, tk, os⟩ := s; obtain ⟨hl, h⟩ := h; have f1 := PySem.F.sub_str_dict; wp_walk using wpAny_loadPart' hl; exact ⟨_, rfl, h⟩
theorem str_eq_declines_dict (b : Str) (u : Tok) (l : Addr) (da : Data) (hda : ∀ v, da ≠ .prim v) (dd : Option Addr) (sl : Array (Option Value)) :
    Meets (Builtin.«str.__eq__» ⟨[.str b u, .ref l], []⟩) (fun _ R s => s.heap.get? l = some { cls := .type "dict", dict := dd, data := da, slots := sl } ∧ R (.ok (.ret .notImplemented)) s) :=
  .of_wp fun prog w A R s h => by obtain ⟨hp, g, d, tk, os⟩ := s; obtain ⟨hl, h⟩ := h; cases da <;> first | exact absurd rfl (hda _) | (wp_walk using wpAny_loadPart' hl, wpAny_load hl; exact ⟨_, rfl, h⟩)
variable {A : Around} {s : Shared}
theorem rc_dict_str {l : Addr} {da : Data} (hda : ∀ v, da ≠ .prim v) {dd : Option Addr} {sl : Array (Option Value)} (b : Str) (u : Tok) (ho : s.heap.get? l = some { cls := .type "dict", dict := dd, data := da, slots := sl }) (hu : A.units < cLine) : RcAt A s (.ref l) (.str b u) false := fun prog w E Q h => by
  exact rc_eq_decline_or (k := false) ⟨_, ho, rfl⟩ (typeIs_str s b u) (by decide) PySem.F.sub_str_dict PySem.F.slot_dict_eq PySem.F.slot_str_eq_refl
    (fun _ hq => call_meets PySem.F.slot_dict_eq ⟨_, ho, rfl⟩ PySem.F.entry_dict_eq (PySem.F.args_dict_eq_2 _ _) (dict_eq_declines_str l da dd sl b u) ⟨ho, hq⟩)
    (fun _ hq => call_meets PySem.F.slot_str_eq_refl (typeIs_str s b u) PySem.F.entry_str_eq (PySem.F.args_str_eq_2 _ _) (str_eq_declines_dict b u l da hda dd sl) ⟨ho, hq⟩)
    (fun _ hq => wpAny_of_eq (rfl : isSame (.ref l) (.str b u) = pure false) hq) (.inr hu) h
end
/-- a dict and a text -/
def rDS : R2 := fun x y H Q => ∃ (a : Addr) (b : Str) (kvs : List (Key × V)), x = .ref a ∧ y = .str b ∧ H a = some (.dK kvs) ∧ Q (.bl false) H
theorem op_eqDS {X : Cx} (hu : X.A.units < cLine) : OpR X (compareOp .Eq) rDS := by
  intro pins s σ H x y v u Q I rx ry h
  obtain ⟨a, b, kvs, rfl, rfl, ha, q⟩ := h
  cases rx
  obtain ⟨t, rfl⟩ := ry
  obtain ⟨_, _, vs, _, o, es, ep, ho, hE, hd, _⟩ := I.hok a _ ha
  obtain ⟨c, dd, da, sl⟩ := o
  obtain ⟨e1, e2, e3⟩ := hE
  simp only at e1 e2 e3 hd
  subst e1 hd
  exact rc_dict_str (da := .dict es ep) (fun v hv => by cases hv) b t ho hu _ _ _ _ ⟨.bl false, H, I, rfl, q⟩
end BV
namespace BV
open PySem L2
/-- u, called without arguments in any state that comes later, does th -/
def DeedRun (g : G) (P : Program) (w : World) (K : PySem.W.Frag) (mg : Str → Option Value) (base : Heap) (k : Nat) (fs : List Addr) (u : Value) (th : Cells → R D) (ra : Ra) (s0 : Shared) (H0 : Hp) : Prop :=
  ∀ (A : Around) (outer : List Env) (s : Shared) (H : Hp) (cs : Cells) (Q : VK) (E : XK), Room k A → A.guards = some [] → Env0 P w K mg base A outer s H → Un fs [] H0 H s0.heap s.heap → Keep ra H0 H → Rel g ra cs H →
    PostR g (fun H' d v => Rep g (frz H' ra) d v) (th cs) ra H Q E → codeAny (model P w) A (.call u ⟨[], []⟩) (CR (L2.CX P w) outer P w H s Q E) s
/-- a def that is handed such a thing and calls it -/
structure FnD (g : G) (P : Program) (w : World) (K : PySem.W.Frag) (mg : Str → Option Value) (base : Heap) (k : Nat) (f : Nat) (m : (Cells → R D) → Cells → R D) : Prop where
  run : ∀ (A : Around) (outer : List Env) (s : Shared) (H : Hp) (u : Addr) (th : Cells → R D) (ra : Ra) (cs : Cells) (Q : VK) (E : XK), Room (k + 1) A → A.guards = some [] → Env0 P w K mg base A outer s H → PySem.W.FnAt u s.heap → H u = none → u ∉ frs outer → DeedRun g P w K mg base k (frs outer) (.ref u) th ra s H → Rel g ra cs H →
    PostR g (fun H' d v => Rep g (frz H' ra) d v) (m th cs) ra H Q E → codeAny (model P w) A (.call (.ref (g.fa f)) ⟨[.ref u], []⟩) (CR (L2.CX P w) outer P w H s Q E) s
end BV
namespace BV
open PySem PySem.Spec PyProof.Rows L2
/-! ### a tuple times 1: the tuple itself -/
theorem tuple_mul1 (l : Addr) (items : Array Value) (n : Nat) (dd : Option Addr) (sl : Array (Option Value)) (u : Tok) :
    Meets (Builtin.«tuple.__mul__» ⟨[.ref l, .int 1 u], []⟩) (fun _ R s => s.heap.get? l = some { cls := .type "tuple", dict := dd, data := .seq items n, slots := sl } ∧ R (.ok (.ret (Value.ref l))) s) :=
  .of_wp fun prog w A R s h => by
    obtain ⟨hp, g, d, tk, os⟩ := s
    obtain ⟨hl, h⟩ := h
    have f1 := AutoSeq1.idx_int
    have c1 : (items.isEmpty || ((1 : Int) == 1)) = true := by simp
    wp_walk using wpAny_loadPart' hl
    repeat (first
      | (refine wpAny_ite_false (decide_eq_false (by decide)) ?_; wp_walk using wpAny_loadPart' hl)
      | (refine wpAny_ite_true (decide_eq_true c1) ?_; wp_walk using wpAny_loadPart' hl))
    exact ⟨_, rfl, h⟩
def rRepT1 (K : PySem.W.Frag) : R2 := fun x y H Q => ∃ l xs, x = .ref l ∧ y = .int 1 ∧ SqT K H l xs ∧ Q (.ref l) H
theorem op_repT1 {X : Cx} : OpR X (binaryOp .Mult) (rRepT1 X.K) := by
  intro pins s σ H x y v u Q I rx ry h
  obtain ⟨l, xs, rfl, rfl, hT, q⟩ := h
  cases rx
  obtain ⟨t, rfl⟩ := ry
  obtain ⟨its, r, ⟨⟨cls, dd, data, sl⟩, ho, hc, n, hd⟩, hs⟩ := I.tuple hT
  simp only at hc hd
  subst hc hd
  refine wpAny_binaryOp_repeat_ref (T := "tuple") (U := "int") (by decide) ⟨_, ho, rfl⟩ (fun s' => typeIs_int s' 1 t) noFill_tuple_mul F.fills_int_mul F.slot_int_rmul repeat_tuple F.slot_int_index.lookup
    (call_meets F.slot_int_rmul (typeIs_int s 1 t) F.entry_int_rmul (F.args_int_rmul_2 _ _) (int_rmul_tuple 1 t l its.toArray n dd sl)
      ⟨ho, rfl, ⟨_, ho, rfl⟩, call_meets F.slot_tuple_mul ⟨_, ho, rfl⟩ F.entry_tuple_mul (F.args_tuple_mul_2 _ _) (tuple_mul1 l its.toArray n dd sl t) ⟨ho, ?_⟩⟩)
  exact ⟨.ref l, H, I, rfl, q⟩
end BV
namespace BV
open PySem L2
/-! ### looking at values -/
def celL (cs : Cells) (n : Nat) : Option (List D) := match cs[n]? with
  | some (some (.lst xs)) => some xs
  | _ => none
/-- a list that is tracked -/
def dlt (cs : Cells) : W → Option (List D)
  | .d (.lst xs) => some xs
  | .loc n => celL cs n
  | _ => none
def dl (cs : Cells) : W → Option (List D)
  | .d (.lst xs) => some xs
  | .d (.flst xs) => some xs
  | .loc n => celL cs n
  | _ => none
section
variable {g : G} {ra : Ra} {cs : Cells} {H : Hp}
theorem celL_ok (R : Rel g ra cs H) {n : Nat} {xs : List D} {v : V} (r : RepW g (frz H ra) ra (.loc n) v) (e : celL cs n = some xs) : ∃ a vs, v = .ref a ∧ ra[n]? = some (some a) ∧ H a = some (.lst vs) ∧ RepL g (frz H ra) xs vs := by
  obtain ⟨a, rfl, ha⟩ := r
  unfold celL at e
  split at e
  · rename_i ys hc
    cases e
    obtain ⟨a', h1, h2⟩ := R.cell n _ hc
    rw [ha] at h1
    cases h1
    obtain ⟨vs, h3, h4⟩ := h2
    exact ⟨a, vs, rfl, ha, h3, h4⟩
  · cases e
theorem dlt_ok (R : Rel g ra cs H) {w : W} {xs : List D} {v : V} (r : RepW g (frz H ra) ra w v) (e : dlt cs w = some xs) : ∃ a vs, v = .ref a ∧ H a = some (.lst vs) ∧ RepL g (frz H ra) xs vs := by
  unfold dlt at e
  split at e
  · cases e
    cases r with
    | lst h r => exact ⟨_, _, rfl, frz_same _ _ _ _ h, r⟩
  · obtain ⟨a, vs, h1, _, h2, h3⟩ := celL_ok R r e
    exact ⟨a, vs, h1, h2, h3⟩
  · cases e
theorem dl_ok (R : Rel g ra cs H) {w : W} {xs : List D} {v : V} (r : RepW g (frz H ra) ra w v) (e : dl cs w = some xs) : ∃ a vs, v = .ref a ∧ SqL g.K H a vs ∧ RepL g (frz H ra) xs vs := by
  unfold dl at e
  split at e
  · cases e
    cases r with
    | lst h r => exact ⟨_, _, rfl, SqL.of (frz_same _ _ _ _ h), r⟩
  · cases e
    cases r with
    | flst h r => exact ⟨_, _, rfl, (frz_same H ra).seq h, r⟩
  · obtain ⟨a, vs, h1, _, h2, h3⟩ := celL_ok R r e
    exact ⟨a, vs, h1, SqL.of h2, h3⟩
  · cases e
theorem tup_ok {xs : List D} {v : V} (r : RepW g (frz H ra) ra (.d (.tup xs)) v) : ∃ a vs, v = .ref a ∧ SqT g.K H a vs ∧ RepL g (frz H ra) xs vs := by
  cases r with
  | tup h r => exact ⟨_, _, rfl, sqT_mono (frz_same H ra) h, r⟩
/-- a new list is handed on -/
theorem new_lst {Q : VK} {E : XK} {xs : List D} {vs : List V} (R : Rel g ra cs H) (r : RepL g (frz H ra) xs vs) (h : PostR g (rpW g ra) (.ok (.d (.lst xs)) cs) ra H Q E) (p : Addr) (hp : H p = none) : Q (.ref p) (upd H p (.lst vs)) := by
  obtain ⟨k, R', e⟩ := R.new (o := .lst vs) hp
  exact h _ _ k R' (.lst e (r.mono k.same))
theorem new_tup {Q : VK} {E : XK} {xs : List D} {vs : List V} (R : Rel g ra cs H) (r : RepL g (frz H ra) xs vs) (h : PostR g (rpW g ra) (.ok (.d (.tup xs)) cs) ra H Q E) (p : Addr) (hp : H p = none) : Q (.ref p) (upd H p (.tup vs)) := by
  obtain ⟨k, R', e⟩ := R.new (o := .tup vs) hp
  exact h _ _ k R' (.tup (SqT.of e) (r.mono k.same))
theorem back {Q : VK} {E : XK} {d : D} {v : V} (R : Rel g ra cs H) (r : Rep g (frz H ra) d v) (h : PostR g (rpW g ra) (.ok (.d d) cs) ra H Q E) : Q v H := h _ _ (Keep.refl _ _) R r
end
def lit : Nat := 16777216
theorem line_lit : (sizeLine : Nat) = lit := sizeLine_eq
/-! ### + -/
def wAdd (w1 w2 : W) (cs : Cells) : R W := match w1, w2 with
  | .d (.int i), .d (.int j) => .ok (.d (.int (i + j))) cs
  | .d (.str x), .d (.str y) => if x.length + y.length ≤ lit then .ok (.d (.str (x ++ y))) cs else .bad
  | .d (.tup xs), .d (.tup ys) => if xs.length + ys.length ≤ lit then .ok (.d (.tup (xs ++ ys))) cs else .bad
  | a, b => match dlt cs a, dlt cs b with
    | some xs, some ys => if xs.length + ys.length ≤ lit then .ok (.d (.lst (xs ++ ys))) cs else .bad
    | _, _ => .bad
def rAddW (K : PySem.W.Frag) : R2 := fun x y H Q => rI0 (fun i j => .int (i + j)) x y H Q ∨ (∃ i j, x = .str i ∧ y = .str j ∧ i.length + j.length ≤ sizeLine ∧ Q (.str (i ++ j)) H) ∨ rCatA K x y H Q ∨ rCat x y H Q
theorem op_addW {X : Cx} : OpR X (binaryOp .Add) (rAddW X.K) := op_add.or (op_add_str.or (op_catA.or op_cat))
theorem wAdd_ok {g : G} {w1 w2 : W} {cs : Cells} {ra : Ra} {H : Hp} {Q : VK} {E : XK} {v1 v2 : V} (R : Rel g ra cs H) (r1 : RepW g (frz H ra) ra w1 v1) (r2 : RepW g (frz H ra) ra w2 v2) (h : PostR g (rpW g ra) (wAdd w1 w2 cs) ra H Q E) : rAddW g.K v1 v2 H Q := by
  unfold wAdd at h
  split at h
  · cases r1
    cases r2
    exact .inl ⟨_, _, rfl, rfl, back R (.int _) h⟩
  · cases r1
    cases r2
    split at h
    · rename_i hl
      exact .inr (.inl ⟨_, _, rfl, rfl, by rw [line_lit]; exact hl, back R (.str _) h⟩)
    · exact h.elim
  · split at h
    · rename_i hl
      obtain ⟨a, vs, rfl, h1, q1⟩ := tup_ok r1
      obtain ⟨b, us, rfl, h2, q2⟩ := tup_ok r2
      refine .inr (.inr (.inl ⟨a, b, vs, us, rfl, rfl, h1, h2, by rw [line_lit, ← q1.length, ← q2.length]; exact hl, fun e => ?_, fun e1 e2 => ?_, fun e1 e2 => new_tup R (q1.append q2) h⟩))
      · subst e
        cases q1
        exact back R r2 h
      · subst e2
        cases q2
        rw [List.append_nil] at h
        exact back R r1 h
    · exact h.elim
  · split at h
    · rename_i xs ys e1 e2
      split at h
      · rename_i hl
        obtain ⟨a, vs, rfl, h1, q1⟩ := dlt_ok R r1 e1
        obtain ⟨b, us, rfl, h2, q2⟩ := dlt_ok R r2 e2
        exact .inr (.inr (.inr ⟨a, b, vs, us, rfl, rfl, h1, h2, by rw [line_lit, ← q1.length, ← q2.length]; exact hl, new_lst R (q1.append q2) h⟩))
      · exact h.elim
    · exact h.elim
/-! ### the other operators -/
def wI (f : Int → Int → Option D) (w1 w2 : W) (cs : Cells) : R W := match w1, w2 with
  | .d (.int i), .d (.int j) => match f i j with
    | some d => .ok (.d d) cs
    | none => .bad
  | _, _ => .bad
theorem wI_ok {C : Int → Int → Prop} {gg : Int → Int → V} {f : Int → Int → Option D} (hf : ∀ i j d, f i j = some d → C i j ∧ ∀ g F, Rep g F d (gg i j)) {g : G} {w1 w2 : W} {cs : Cells} {ra : Ra} {H : Hp} {Q : VK} {E : XK} {v1 v2 : V} (R : Rel g ra cs H) (r1 : RepW g (frz H ra) ra w1 v1) (r2 : RepW g (frz H ra) ra w2 v2)
    (h : PostR g (rpW g ra) (wI f w1 w2 cs) ra H Q E) : rI C gg v1 v2 H Q := by
  unfold wI at h
  split at h
  · cases r1
    cases r2
    split at h
    · rename_i d e
      obtain ⟨c, q⟩ := hf _ _ _ e
      exact ⟨_, _, rfl, rfl, c, back R (q _ _) h⟩
    · exact h.elim
  · exact h.elim
def fSub (i j : Int) : Option D := some (.int (i - j))
def fMul (i j : Int) : Option D := if i.natAbs.log2 + j.natAbs.log2 < 1000000 then some (.int (i * j)) else none
def fDiv (i j : Int) : Option D := if 0 < j ∧ j.natAbs.log2 < 9000 then some (.int (i / j)) else none
def fMod (i j : Int) : Option D := if 0 < j then some (.int (i % j)) else none
def fPow (i j : Int) : Option D := if 0 ≤ j ∧ j ≤ 1000000 ∧ i.natAbs < 18446744073709551616 then some (.int (i ^ j.toNat)) else none
theorem op_subC {X : Cx} : OpR X (binaryOp .Sub) (rI (fun _ _ => True) fun i j => .int (i - j)) := fun pins s σ H x y v u Q I rx ry ⟨i, j, e1, e2, _, q⟩ => op_sub pins s σ H x y v u Q I rx ry ⟨i, j, e1, e2, q⟩
/-- * : ints, a text times an int, a list times an int, a tuple times an int -/
def wMul (w1 w2 : W) (cs : Cells) : R W := match w1, w2 with
  | .d (.int i), .d (.int j) => wI fMul (.d (.int i)) (.d (.int j)) cs
  | .d (.str x), .d (.int k) => if 1 ≤ k ∧ k ≤ 1000 ∧ x.length ≤ 1000 then .ok (.d (.str ⟨(List.replicate k.toNat x.cps).foldl (· ++ ·) #[]⟩)) cs else if k ≤ 0 ∧ -1000 ≤ k then .ok (.d (.str Str.empty)) cs else .bad
  | .d (.tup xs), .d (.int k) => if k = 1 then .ok (.d (.tup xs)) cs else if xs ≠ [] ∧ 2 ≤ k ∧ k ≤ 1000 ∧ xs.length ≤ 1000 then .ok (.d (.tup (List.replicate k.toNat xs).flatten)) cs else .bad
  | a, .d (.int k) => match dlt cs a with
    | some xs => if -1000 ≤ k ∧ k ≤ 1000 ∧ xs.length ≤ 1000 then .ok (.d (.lst (List.replicate k.toNat xs).flatten)) cs else .bad
    | _ => .bad
  | _, _ => .bad
def rMulS : R2 := fun x y H Q => ∃ z k, x = .str z ∧ y = .int k ∧ ((1 ≤ k ∧ k ≤ 1000 ∧ z.length ≤ 1000 ∧ Q (.str ⟨(List.replicate k.toNat z.cps).foldl (· ++ ·) #[]⟩) H) ∨ (k ≤ 0 ∧ -1000 ≤ k ∧ Q (.str Str.empty) H))
theorem len_rep_fold (c : Array Nat) : ∀ (n : Nat) (acc : Array Nat), ((List.replicate n c).foldl (· ++ ·) acc).size = acc.size + n * c.size
  | 0, acc => by simp
  | n + 1, acc => by
    rw [List.replicate_succ, List.foldl_cons, len_rep_fold c n, Array.size_append, Nat.succ_mul]
    omega
theorem one_rep (c : Array Nat) : (List.replicate 1 c).foldl (· ++ ·) #[] = c := by simp
theorem empty_rep : ∀ (n : Nat), (List.replicate n (#[] : Array Nat)).foldl (· ++ ·) #[] = #[]
  | 0 => rfl
  | n + 1 => by rw [List.replicate_succ, List.foldl_cons]; exact empty_rep n
theorem op_mulS {X : Cx} : OpR X (binaryOp .Mult) rMulS := by
  intro pins s σ H x y v u Q I rx ry h
  obtain ⟨z, k, rfl, rfl, h⟩ := h
  obtain ⟨t, rfl⟩ := rx
  obtain ⟨t', rfl⟩ := ry
  rcases h with ⟨h1, h2, h3, q⟩ | ⟨h1, h2, q⟩
  · have hlen : ((List.replicate k.toNat z.cps).foldl (· ++ ·) #[]).size ≤ sizeLine := by
      rw [len_rep_fold, sizeLine_eq]
      have e1 : k.toNat ≤ 1000 := by omega
      have e2 : z.cps.size ≤ 1000 := h3
      have := Nat.mul_le_mul e1 e2
      simp only [Array.size_empty, Nat.zero_add]
      omega
    refine PySem.P.mul_str ?_ ?_ ?_ ?_
    · simp only [Bool.or_eq_false_iff, decide_eq_false_iff_not]
      omega
    · intro _ _ hz
      have e2 : (z.length : Int) ≤ 1000 := by omega
      have hm : (z.length : Int) * k ≤ 1000 * 1000 := Int.mul_le_mul e2 h2 (by omega) (by decide)
      have : (z.length : Int) ≤ (2 ^ 63 - 1) / k := Int.le_ediv_of_mul_le (by omega) (by omega)
      omega
    · intro _ _
      have e1 : k.toNat ≤ 1000 := by omega
      have := Nat.mul_le_mul h3 e1
      have hz := sizeLine_eq
      unfold Builtin.Str.tooLong
      exact decide_eq_false (by omega)
    · rw [if_neg (by omega)]
      split
      · rename_i c
        rcases Bool.or_eq_true_iff.mp c with c | c
        · have e : k = 1 := by simpa using c
          subst e
          have e3 : (⟨(List.replicate (1 : Int).toNat z.cps).foldl (· ++ ·) #[]⟩ : Str) = z := by
            show (⟨(List.replicate 1 z.cps).foldl (· ++ ·) #[]⟩ : Str) = z
            rw [one_rep]
          rw [e3] at q
          exact ⟨.str z, H, I, ⟨_, rfl⟩, q⟩
        · have e : z.cps = #[] := by
            have : z.cps.size = 0 := beq_iff_eq.mp c
            exact Array.eq_empty_of_size_eq_zero this
          rw [e, empty_rep] at q
          have e4 : z = ⟨#[]⟩ := by cases z; simp at e; rw [e]
          rw [← e4] at q
          exact ⟨.str z, H, I, ⟨_, rfl⟩, q⟩
      · exact ⟨hlen, .str _, H, I.tok _, ⟨_, rfl⟩, q⟩
  · exact PySem.P.mul_str_none (by omega) (by omega) ⟨.str _, H, I.tok _, ⟨_, rfl⟩, q⟩
theorem line_small {n : Nat} (h : n ≤ 16777216) : n ≤ sizeLine := by rw [sizeLine_eq]; exact h
def rMulW (K : PySem.W.Frag) : R2 := fun x y H Q => rI CMulW (fun i j => .int (i * j)) x y H Q ∨ rMulS x y H Q ∨ rRepT K x y H Q ∨ rRepT1 K x y H Q ∨ rRep x y H Q
theorem op_mulW' {X : Cx} : OpR X (binaryOp .Mult) (rMulW X.K) := op_mulW.or (op_mulS.or (op_repT.or (op_repT1.or op_rep)))
theorem wMul_ok {g : G} {w1 w2 : W} {cs : Cells} {ra : Ra} {H : Hp} {Q : VK} {E : XK} {v1 v2 : V} (R : Rel g ra cs H) (r1 : RepW g (frz H ra) ra w1 v1) (r2 : RepW g (frz H ra) ra w2 v2) (h : PostR g (rpW g ra) (wMul w1 w2 cs) ra H Q E) : rMulW g.K v1 v2 H Q := by
  unfold wMul at h
  split at h
  · refine .inl (wI_ok (f := fMul) (fun i j d e => ?_) R r1 r2 h)
    unfold fMul at e
    split at e
    · cases e
      exact ⟨by assumption, fun _ _ => .int _⟩
    · cases e
  · cases r1
    cases r2
    split at h
    · rename_i hl
      exact .inr (.inl ⟨_, _, rfl, rfl, .inl ⟨hl.1, hl.2.1, hl.2.2, back R (.str _) h⟩⟩)
    · split at h
      · rename_i hl
        exact .inr (.inl ⟨_, _, rfl, rfl, .inr ⟨hl.1, hl.2, back R (.str _) h⟩⟩)
      · exact h.elim
  · cases r2
    split at h
    · rename_i hl
      subst hl
      obtain ⟨a, vs, rfl, h1, q1⟩ := tup_ok r1
      exact .inr (.inr (.inr (.inl ⟨a, vs, rfl, rfl, h1, back R r1 h⟩)))
    split at h
    · rename_i hl
      obtain ⟨a, vs, rfl, h1, q1⟩ := tup_ok r1
      refine .inr (.inr (.inl ⟨a, _, vs, rfl, rfl, h1, fun e => ?_, hl.2.1, hl.2.2.1, by rw [← q1.length]; exact hl.2.2.2, new_tup R (q1.rep _) h⟩))
      subst e
      cases q1
      exact hl.1 rfl
    · exact h.elim
  · cases r2
    split at h
    · rename_i xs e1
      split at h
      · rename_i hl
        obtain ⟨a, vs, rfl, h1, q1⟩ := dlt_ok R r1 e1
        refine .inr (.inr (.inr (.inr ⟨a, _, vs, rfl, rfl, h1, by omega, by omega, line_small ?_, new_lst R (q1.rep _) h⟩)))
        rw [← q1.length]
        exact Nat.le_trans (Nat.mul_le_mul hl.2.2 (Int.toNat_le.mpr hl.2.1)) (by decide)
      · exact h.elim
    · exact h.elim
  · exact h.elim
/-! ### one road for all binary operators -/
def wOp (o : Operator) (w1 w2 : W) (cs : Cells) : R W := match o with
  | .Add => wAdd w1 w2 cs
  | .Sub => wI fSub w1 w2 cs
  | .Mult => wMul w1 w2 cs
  | .FloorDiv => wI fDiv w1 w2 cs
  | .Mod => wI fMod w1 w2 cs
  | .Pow => wI fPow w1 w2 cs
  | _ => .bad
def rOp (K : PySem.W.Frag) (o : Operator) : R2 := match o with
  | .Add => rAddW K
  | .Sub => rI (fun _ _ => True) fun i j => .int (i - j)
  | .Mult => rMulW K
  | .FloorDiv => rI CDivW fun i j => .int (i / j)
  | .Mod => rI (fun _ j => 0 < j) fun i j => .int (i % j)
  | .Pow => rI CPow fun i j => .int (i ^ j.toNat)
  | _ => fun _ _ _ _ => False
theorem op_all {X : Cx} (o : Operator) : OpR X (binaryOp o) (rOp X.K o) := by
  cases o <;> first
    | exact op_addW
    | exact op_subC
    | exact op_mulW'
    | exact op_fdivW
    | exact op_mod
    | exact op_pow
    | exact fun _ _ _ _ _ _ _ _ _ _ _ _ z => z.elim
theorem wOp_ok {o : Operator} {g : G} {w1 w2 : W} {cs : Cells} {ra : Ra} {H : Hp} {Q : VK} {E : XK} {v1 v2 : V} (R : Rel g ra cs H) (r1 : RepW g (frz H ra) ra w1 v1) (r2 : RepW g (frz H ra) ra w2 v2) (h : PostR g (rpW g ra) (wOp o w1 w2 cs) ra H Q E) : rOp g.K o v1 v2 H Q := by
  cases o <;> first
    | exact wAdd_ok R r1 r2 h
    | exact wMul_ok R r1 r2 h
    | exact (show False from h).elim
    | (refine wI_ok (f := fSub) (fun i j d e => ?_) R r1 r2 h; cases e; exact ⟨trivial, fun _ _ => .int _⟩)
    | (refine wI_ok (f := fDiv) (fun i j d e => ?_) R r1 r2 h; unfold fDiv at e; split at e <;> cases e; exact ⟨by assumption, fun _ _ => .int _⟩)
    | (refine wI_ok (f := fMod) (fun i j d e => ?_) R r1 r2 h; unfold fMod at e; split at e <;> cases e; exact ⟨by assumption, fun _ _ => .int _⟩)
    | (refine wI_ok (f := fPow) (fun i j d e => ?_) R r1 r2 h; unfold fPow at e; split at e <;> cases e; exact ⟨by assumption, fun _ _ => .int _⟩)
/-! ### comparisons -/
mutual
def toPy : D → Option PyData
  | .non => some .none
  | .bl b => some (.bool b)
  | .int i => some (.int i)
  | .str x => some (.str x)
  | .tup xs => (toPyL xs).map .tuple
  | .lst xs => (toPyL xs).map .list
  | .flst xs => (toPyL xs).map .list
  | _ => none
def toPyL : List D → Option (List PyData)
  | [] => some []
  | d :: r => match toPy d, toPyL r with
    | some p, some q => some (p :: q)
    | _, _ => none
end
section
variable {g : G} {F H : Hp}
mutual
theorem toPy_ok (e : Same F H) : ∀ {d : D} {v : V} {p : PyData}, Rep g F d v → toPy d = some p → Dp g.K H v p
  | .non, _, _, .non, h => by simp only [toPy, Option.some.injEq] at h; subst h; exact .non
  | .bl b, _, _, .bl _, h => by simp only [toPy, Option.some.injEq] at h; subst h; exact .bl b
  | .int i, _, _, .int _, h => by simp only [toPy, Option.some.injEq] at h; subst h; exact .int i
  | .str x, _, _, .str _, h => by simp only [toPy, Option.some.injEq] at h; subst h; exact .str x
  | .tup xs, _, _, .tup q r, h => by
    simp only [toPy, Option.map_eq_some_iff] at h
    obtain ⟨ps, h1, rfl⟩ := h
    exact .tup (sqT_mono e q) (toPyL_ok e r h1)
  | .lst xs, _, _, .lst q r, h => by
    simp only [toPy, Option.map_eq_some_iff] at h
    obtain ⟨ps, h1, rfl⟩ := h
    exact .lst (SqL.of (e _ _ q)) (toPyL_ok e r h1)
  | .flst xs, _, _, .flst q r, h => by
    simp only [toPy, Option.map_eq_some_iff] at h
    obtain ⟨ps, h1, rfl⟩ := h
    exact .lst (e.seq q) (toPyL_ok e r h1)
  | .ty _, _, _, .ty _, h => by simp [toPy] at h
  | .cls _, _, _, .cls _, h => by simp [toPy] at h
  | .fn _, _, _, .fn _, h => by simp [toPy] at h
  | .ins _ _, _, _, .ins _ _, h => by simp [toPy] at h
theorem toPyL_ok (e : Same F H) : ∀ {ds : List D} {vs : List V} {ps : List PyData}, RepL g F ds vs → toPyL ds = some ps → DpAll g.K H vs ps
  | [], _, _, .nil, h => by simp only [toPyL, Option.some.injEq] at h; subst h; exact .nil
  | d :: ds, _, _, .cons r t, h => by
    simp only [toPyL] at h
    split at h
    · rename_i p q h1 h2
      cases h
      exact .cons (toPy_ok e r h1) (toPyL_ok e t h2)
    · cases h
end
end
def wPy (cs : Cells) : W → Option PyData
  | .d d => toPy d
  | .loc n => (celL cs n).bind fun xs => (toPyL xs).map .list
theorem wPy_ok {g : G} {cs : Cells} {ra : Ra} {H : Hp} {w : W} {v : V} {p : PyData} (R : Rel g ra cs H) (r : RepW g (frz H ra) ra w v) (h : wPy cs w = some p) : Dp g.K H v p := by
  cases w with
  | d d => exact toPy_ok (frz_same H ra) r h
  | loc n =>
    simp only [wPy] at h
    cases e : celL cs n with
    | none => rw [e] at h; cases h
    | some xs =>
      rw [e] at h
      simp only [Option.bind_some, Option.map_eq_some_iff] at h
      obtain ⟨ps, h1, rfl⟩ := h
      obtain ⟨a, vs, rfl, _, h2, h3⟩ := celL_ok R r e
      exact .lst (SqL.of h2) (toPyL_ok (frz_same H ra) h3 h1)
/-! == and != of data, None, texts and numbers in order, in -/
def wEq (neg : Bool) (w1 w2 : W) (cs : Cells) : R W := match wPy cs w1, wPy cs w2 with
  | some p, some q => if SeqAt.shaped p = true ∧ SeqAt.shaped q = true then .ok (.d (.bl (if neg then !PyData.eqv p q else PyData.eqv p q))) cs else .bad
  | _, _ => match dl cs w1, dl cs w2 with
    | some xs, some ys => if xs.length = ys.length then .bad else .ok (.d (.bl neg)) cs
    | _, _ => match w1, w2 with
      | .d (.dct _), .d (.str _) => if neg then .bad else .ok (.d (.bl false)) cs
      | _, _ => .bad
def isNon : W → Bool
  | .d .non => true
  | _ => false
def wIs (neg : Bool) (w1 w2 : W) (cs : Cells) : R W := match w1, w2 with
  | .d (.bl a), .d (.bl b) => .ok (.d (.bl (if neg then !decide (a = b) else decide (a = b)))) cs
  | w, .d .non => .ok (.d (.bl (if neg then !isNon w else isNon w))) cs
  | _, _ => .bad
def wOrd (f : Int → Int → Bool) (fs : List Nat → List Nat → Bool) (w1 w2 : W) (cs : Cells) : R W := match w1, w2 with
  | .d (.int i), .d (.int j) => .ok (.d (.bl (f i j))) cs
  | .d (.str x), .d (.str y) => .ok (.d (.bl (fs x.cps.toList y.cps.toList))) cs
  | _, _ => .bad
def flatV? : D → Option V
  | .non => some .non | .bl b => some (.bl b) | .int i => some (.int i) | .str x => some (.str x) | _ => none
def flatL? : List D → Option (List V)
  | [] => some []
  | d :: r => match flatV? d, flatL? r with
    | some v, some vs => some (v :: vs)
    | _, _ => none
def inSign (x y : Str) : Bool := match x.cps.toList with
  | [c] => decide (c ∈ y.cps.toList)
  | _ => !(Builtin.Str.occurrences y x 0 y.length 1).isEmpty
def wIn (neg : Bool) (w1 w2 : W) (cs : Cells) : R W := match w1, w2 with
  | .d (.str x), .d (.str y) => .ok (.d (.bl (if neg then !inSign x y else inSign x y))) cs
  | .d d, .d (.tup xs) => match flatV? d, flatL? xs with
    | some v, some vs => .ok (.d (.bl (if neg then !inV v vs else inV v vs))) cs
    | _, _ => .bad
  | a, b => match wPy cs a, dl cs b with
    | some p, some ys => match toPyL ys with
      | some qs => if SeqAt.shaped p = true ∧ SeqAt.shaped (.list qs) = true then .ok (.d (.bl (if neg then !(qs.any fun z => PyData.eqv z p) else qs.any fun z => PyData.eqv z p))) cs else .bad
      | none => .bad
    | _, _ => .bad
def wCmp (o : CmpOp) (w1 w2 : W) (cs : Cells) : R W := match o with
  | .Eq => wEq false w1 w2 cs
  | .NotEq => wEq true w1 w2 cs
  | .Is => wIs false w1 w2 cs
  | .IsNot => wIs true w1 w2 cs
  | .Lt => wOrd (fun i j => decide (i < j)) (fun x y => decide (x < y)) w1 w2 cs
  | .LtE => wOrd (fun i j => decide (i ≤ j)) (fun x y => !decide (y < x)) w1 w2 cs
  | .Gt => wOrd (fun i j => decide (j < i)) (fun x y => decide (y < x)) w1 w2 cs
  | .GtE => wOrd (fun i j => decide (j ≤ i)) (fun x y => !decide (x < y)) w1 w2 cs
  | .In => wIn false w1 w2 cs
  | .NotIn => wIn true w1 w2 cs
def rIsNon (neg : Bool) : R2 := fun x y H Q => (y = .non ∧ Q (.bl (if neg then !decide (x = .non) else decide (x = .non))) H) ∨ ∃ a b, x = .bl a ∧ y = .bl b ∧ Q (.bl (if neg then !decide (a = b) else decide (a = b))) H
def rOrd (f : Int → Int → Bool) (fs : List Nat → List Nat → Bool) : R2 := fun x y H Q => rI0 (fun i j => .bl (f i j)) x y H Q ∨ ∃ i j, x = .str i ∧ y = .str j ∧ Q (.bl (fs i.cps.toList j.cps.toList)) H
def rInA (K : PySem.W.Frag) (neg : Bool) : R2 := fun x y H Q => (∃ i j, x = .str i ∧ y = .str j ∧ Q (.bl (if neg then !inSign i j else inSign i j)) H) ∨ rIn K neg x y H Q ∨
  ∃ d ds, Dp K H x d ∧ Dp K H y (.list ds) ∧ SeqAt.shaped d = true ∧ SeqAt.shaped (.list ds) = true ∧ Q (.bl (if neg then !(ds.any fun z => PyData.eqv z d) else ds.any fun z => PyData.eqv z d)) H
/-- two lists of different lengths -/
def rLens (K : PySem.W.Frag) (neg : Bool) : R2 := fun x y H Q => ∃ (a b : Addr) (xs ys : List V), x = .ref a ∧ y = .ref b ∧ SqL K H a xs ∧ SqL K H b ys ∧ xs.length ≠ ys.length ∧ Q (.bl neg) H
def rCmp (K : PySem.W.Frag) (o : CmpOp) : R2 := match o with
  | .Eq => fun x y H Q => rEqD K x y H Q ∨ rLens K false x y H Q ∨ rDS x y H Q
  | .NotEq => fun x y H Q => rNeD K x y H Q ∨ rLens K true x y H Q
  | .Is => rIsNon false
  | .IsNot => rIsNon true
  | .Lt => rOrd (fun i j => decide (i < j)) (fun x y => decide (x < y))
  | .LtE => rOrd (fun i j => decide (i ≤ j)) (fun x y => !decide (y < x))
  | .Gt => rOrd (fun i j => decide (j < i)) (fun x y => decide (y < x))
  | .GtE => rOrd (fun i j => decide (j ≤ i)) (fun x y => !decide (x < y))
  | .In => rInA K false
  | .NotIn => rInA K true
theorem op_in_sign1 {X : Cx} : OpR X (compareOp .In) (fun x y H Q => ∃ i j, x = .str i ∧ y = .str j ∧ Q (.bl (inSign i j)) H) := by
  intro pins s σ H x y v u Q I rx ry h
  obtain ⟨i, j, rfl, rfl, q⟩ := h
  unfold inSign at q
  split at q
  · rename_i c e
    have e1 : i = ⟨#[c]⟩ := by
      cases i with
      | mk a => exact congrArg Str.mk (by rw [← e] <;> simp)
    subst e1
    exact op_in_sign pins s σ H _ _ v u Q I rx ry ⟨c, j, rfl, rfl, q⟩
  · exact op_in_str pins s σ H _ _ v u Q I rx ry ⟨i, j, rfl, rfl, q⟩
theorem op_notIn_sign1 {X : Cx} : OpR X (compareOp .NotIn) (fun x y H Q => ∃ i j, x = .str i ∧ y = .str j ∧ Q (.bl (!inSign i j)) H) := by
  intro pins s σ H x y v u Q I rx ry h
  obtain ⟨i, j, rfl, rfl, q⟩ := h
  unfold inSign at q
  split at q
  · rename_i c e
    have e1 : i = ⟨#[c]⟩ := by
      cases i with
      | mk a => exact congrArg Str.mk (by rw [← e] <;> simp)
    subst e1
    exact op_notIn_sign pins s σ H _ _ v u Q I rx ry ⟨c, j, rfl, rfl, q⟩
  · exact op_notIn_str pins s σ H _ _ v u Q I rx ry ⟨i, j, rfl, rfl, q⟩
theorem op_eqLen {X : Cx} (hu : X.A.units < cLine) : OpR X (compareOp .Eq) (rLens X.K false) := by
  intro pins s σ H x y v u Q I rx ry h
  obtain ⟨a, b, xs, ys, rfl, rfl, h1, h2, hne, q⟩ := h
  cases rx
  cases ry
  obtain ⟨its, r1, ⟨o1, n1, g1, c1, _, d1⟩, _⟩ := I.list h1
  obtain ⟨jts, r2, ⟨o2, n2, g2, c2, _, d2⟩, _⟩ := I.list h2
  have l1 := r1.length
  have l2 := r2.length
  refine SeqAt.eq_list_lengthsAt (items := its.toArray) (items2 := jts.toArray) ⟨o1, g1, c1, n1, d1⟩ ⟨o2, g2, c2, n2, d2⟩ ?_ hu ⟨.bl false, H, I, rfl, q⟩
  simp only [List.size_toArray, bne_iff_ne, ne_eq]
  omega
theorem op_neLen {X : Cx} (hu : X.A.units < cLine) : OpR X (compareOp .NotEq) (rLens X.K true) := by
  intro pins s σ H x y v u Q I rx ry h
  obtain ⟨a, b, xs, ys, rfl, rfl, h1, h2, hne, q⟩ := h
  cases rx
  cases ry
  obtain ⟨its, r1, ⟨o1, n1, g1, c1, _, d1⟩, _⟩ := I.list h1
  obtain ⟨jts, r2, ⟨o2, n2, g2, c2, _, d2⟩, _⟩ := I.list h2
  have l1 := r1.length
  have l2 := r2.length
  refine SeqAt.RcNeAt.lists_lengths (l := a) (b := b) (items := its.toArray) (items2 := jts.toArray) ⟨o1, g1, c1, n1, d1⟩ ⟨o2, g2, c2, n2, d2⟩ ?_ hu _ _ _ _ ⟨.bl true, H, I, rfl, q⟩
  simp only [List.size_toArray, bne_iff_ne, ne_eq]
  omega
theorem op_cmp {X : Cx} (hu : X.A.units + 65 < cLine) (o : CmpOp) : OpR X (compareOp o) (rCmp X.K o) := by
  have hu' : X.A.units + 64 < cLine := by omega
  cases o with
  | Eq => exact (op_eqD hu').or ((op_eqLen (by omega)).or (op_eqDS (by omega)))
  | NotEq => exact (op_neD hu').or (op_neLen (by omega))
  | Is => exact op_isN.or op_is_bl
  | IsNot => exact op_notN.or op_isnot_bl
  | Lt => exact op_lt.or op_lt_str
  | LtE => exact op_le.or op_le_str
  | Gt => exact op_gt.or op_gt_str
  | GtE => exact op_ge.or op_ge_str
  | In => exact op_in_sign1.or (op_in_seq.or (op_inD hu))
  | NotIn => exact op_notIn_sign1.or (op_notIn_seq.or (op_notInD hu))
section
variable {g : G} {w1 w2 : W} {cs : Cells} {ra : Ra} {H : Hp} {Q : VK} {E : XK} {v1 v2 : V}
theorem wEq_ok (R : Rel g ra cs H) (r1 : RepW g (frz H ra) ra w1 v1) (r2 : RepW g (frz H ra) ra w2 v2) (h : PostR g (rpW g ra) (wEq false w1 w2 cs) ra H Q E) : rEqD g.K v1 v2 H Q ∨ rLens g.K false v1 v2 H Q ∨ rDS v1 v2 H Q := by
  unfold wEq at h
  split at h
  · rename_i p q e1 e2
    split at h
    · rename_i c
      exact .inl ⟨p, q, wPy_ok R r1 e1, wPy_ok R r2 e2, c.1, c.2, back R (.bl _) h⟩
    · exact h.elim
  · split at h
    · rename_i xs ys e1 e2
      split at h
      · exact h.elim
      · rename_i hn
        obtain ⟨a, us, rfl, h1, q1⟩ := dl_ok R r1 e1
        obtain ⟨b, ts, rfl, h2, q2⟩ := dl_ok R r2 e2
        exact .inr (.inl ⟨a, b, us, ts, rfl, rfl, h1, h2, by rw [← q1.length, ← q2.length]; exact hn, back R (.bl _) h⟩)
    · split at h
      · cases r1 with
        | dct e r => cases r2; exact .inr (.inr ⟨_, _, _, rfl, rfl, frz_same H ra _ _ e, back R (.bl _) h⟩)
      · exact h.elim
theorem wNe_ok (R : Rel g ra cs H) (r1 : RepW g (frz H ra) ra w1 v1) (r2 : RepW g (frz H ra) ra w2 v2) (h : PostR g (rpW g ra) (wEq true w1 w2 cs) ra H Q E) : rNeD g.K v1 v2 H Q ∨ rLens g.K true v1 v2 H Q := by
  unfold wEq at h
  split at h
  · rename_i p q e1 e2
    split at h
    · rename_i c
      exact .inl ⟨p, q, wPy_ok R r1 e1, wPy_ok R r2 e2, c.1, c.2, back R (.bl _) h⟩
    · exact h.elim
  · split at h
    · rename_i xs ys e1 e2
      split at h
      · exact h.elim
      · rename_i hn
        obtain ⟨a, us, rfl, h1, q1⟩ := dl_ok R r1 e1
        obtain ⟨b, ts, rfl, h2, q2⟩ := dl_ok R r2 e2
        exact .inr ⟨a, b, us, ts, rfl, rfl, h1, h2, by rw [← q1.length, ← q2.length]; exact hn, back R (.bl _) h⟩
    · split at h
      · exact h.elim
      · exact h.elim
theorem isNon_ok {F : Hp} {w : W} {v : V} (r : RepW g F ra w v) : isNon w = decide (v = .non) := by
  cases w with
  | d d => cases r <;> simp [isNon]
  | loc n => obtain ⟨a, rfl, _⟩ := r; simp [isNon]
theorem wIs_ok {neg : Bool} (R : Rel g ra cs H) (r1 : RepW g (frz H ra) ra w1 v1) (r2 : RepW g (frz H ra) ra w2 v2) (h : PostR g (rpW g ra) (wIs neg w1 w2 cs) ra H Q E) : rIsNon neg v1 v2 H Q := by
  unfold wIs at h
  split at h
  · cases r1
    cases r2
    exact .inr ⟨_, _, rfl, rfl, back R (.bl _) h⟩
  · cases r2
    refine .inl ⟨rfl, ?_⟩
    rw [isNon_ok r1] at h
    exact back R (.bl _) h
  · exact h.elim
theorem wOrd_ok {f : Int → Int → Bool} {fs : List Nat → List Nat → Bool} (R : Rel g ra cs H) (r1 : RepW g (frz H ra) ra w1 v1) (r2 : RepW g (frz H ra) ra w2 v2) (h : PostR g (rpW g ra) (wOrd f fs w1 w2 cs) ra H Q E) : rOrd f fs v1 v2 H Q := by
  unfold wOrd at h
  split at h
  · cases r1
    cases r2
    exact .inl ⟨_, _, rfl, rfl, back R (.bl _) h⟩
  · cases r1
    cases r2
    exact .inr ⟨_, _, rfl, rfl, back R (.bl _) h⟩
  · exact h.elim
theorem flatV_ok {F : Hp} {d : D} {v v' : V} (r : Rep g F d v) (e : flatV? d = some v') : v = v' ∧ flatV v = true := by
  cases r <;> simp only [flatV?, Option.some.injEq, reduceCtorEq] at e <;> subst e <;> exact ⟨rfl, rfl⟩
theorem flatL_ok {F : Hp} : ∀ {ds : List D} {vs vs' : List V}, RepL g F ds vs → flatL? ds = some vs' → vs = vs' ∧ vs.all flatV = true
  | [], _, _, .nil, e => by simp only [flatL?, Option.some.injEq] at e; subst e; exact ⟨rfl, rfl⟩
  | d :: ds, _, _, .cons r t, e => by
    simp only [flatL?] at e
    split at e
    · rename_i a b h1 h2
      cases e
      obtain ⟨rfl, q1⟩ := flatV_ok r h1
      obtain ⟨rfl, q2⟩ := flatL_ok t h2
      exact ⟨rfl, by rw [List.all_cons, q1, q2]; rfl⟩
    · cases e
theorem wIn_ok {neg : Bool} (R : Rel g ra cs H) (r1 : RepW g (frz H ra) ra w1 v1) (r2 : RepW g (frz H ra) ra w2 v2) (h : PostR g (rpW g ra) (wIn neg w1 w2 cs) ra H Q E) : rInA g.K neg v1 v2 H Q := by
  unfold wIn at h
  split at h
  · cases r1
    cases r2
    exact .inl ⟨_, _, rfl, rfl, back R (.bl _) h⟩
  · split at h
    · rename_i v vs e1 e2
      obtain ⟨a, us, rfl, h1, q1⟩ := tup_ok r2
      obtain ⟨rfl, f1⟩ := flatV_ok (show Rep g (frz H ra) _ v1 from r1) e1
      obtain ⟨rfl, f2⟩ := flatL_ok q1 e2
      exact .inr (.inl ⟨a, _, rfl, .inr h1, f1, f2, back R (.bl _) h⟩)
    · exact h.elim
  · split at h
    · rename_i p ys e1 e2
      split at h
      · rename_i qs e3
        split at h
        · rename_i c
          obtain ⟨a, us, rfl, h1, q1⟩ := dl_ok R r2 e2
          exact .inr (.inr ⟨p, qs, wPy_ok R r1 e1, .lst h1 (toPyL_ok (frz_same H ra) q1 e3), c.1, c.2, back R (.bl _) h⟩)
        · exact h.elim
      · exact h.elim
    · exact h.elim
theorem wCmp_ok {o : CmpOp} (R : Rel g ra cs H) (r1 : RepW g (frz H ra) ra w1 v1) (r2 : RepW g (frz H ra) ra w2 v2) (h : PostR g (rpW g ra) (wCmp o w1 w2 cs) ra H Q E) : rCmp g.K o v1 v2 H Q := by
  cases o with
  | Eq => exact wEq_ok R r1 r2 h
  | NotEq => exact wNe_ok R r1 r2 h
  | Is => exact wIs_ok R r1 r2 h
  | IsNot => exact wIs_ok R r1 r2 h
  | Lt => simp only [wCmp] at h; exact wOrd_ok R r1 r2 h
  | LtE => simp only [wCmp] at h; exact wOrd_ok R r1 r2 h
  | Gt => simp only [wCmp] at h; exact wOrd_ok R r1 r2 h
  | GtE => simp only [wCmp] at h; exact wOrd_ok R r1 r2 h
  | In => exact wIn_ok R r1 r2 h
  | NotIn => exact wIn_ok R r1 r2 h
end
end BV
namespace BV
open PySem L2
/-! ### subscripts -/
def wIx (w1 w2 : W) (cs : Cells) : R W := match w1, w2 with
  | .d (.str z), .d (.int i) => if z.length ≤ lit then match atI z.cps.toList i with
      | some c => .ok (.d (.str ⟨#[c]⟩)) cs
      | none => .bad
    else .bad
  | .d (.tup xs), .d (.int i) => match atI xs i with
    | some d => .ok (.d d) cs
    | none => .bad
  | a, .d (.int i) => match dl cs a with
    | some xs => match atI xs i with
      | some d => .ok (.d d) cs
      | none => .bad
    | none => .bad
  | _, _ => .bad
theorem RepL.atI {g : G} {F : Hp} {ds : List D} {vs : List V} {i : Int} {d : D} (r : RepL g F ds vs) (h : atI ds i = some d) : ∃ v, L2.atI vs i = some v ∧ Rep g F d v := by
  unfold L2.atI at h ⊢
  rw [← r.length]
  cases e : ixN ds.length i with
  | none => rw [e] at h; cases h
  | some j =>
    rw [e] at h
    obtain ⟨v, h1, h2⟩ := r.get (show ds[j]? = some d from h)
    exact ⟨v, h1, h2⟩
section
variable {g : G} {w1 w2 : W} {cs : Cells} {ra : Ra} {H : Hp} {Q : VK} {E : XK} {v1 v2 : V}
theorem wIx_ok (R : Rel g ra cs H) (r1 : RepW g (frz H ra) ra w1 v1) (r2 : RepW g (frz H ra) ra w2 v2) (h : PostR g (rpW g ra) (wIx w1 w2 cs) ra H Q E) : rIx g.K v1 v2 H Q := by
  unfold wIx at h
  split at h
  · cases r1
    cases r2
    split at h
    · rename_i hl
      split at h
      · rename_i c e
        exact .inr (.inr ⟨_, _, c, rfl, rfl, by rw [line_lit]; exact hl, e, back R (.str _) h⟩)
      · exact h.elim
    · exact h.elim
  · cases r2
    split at h
    · rename_i d e
      obtain ⟨a, vs, rfl, h1, q1⟩ := tup_ok r1
      obtain ⟨v, e1, q2⟩ := q1.atI e
      exact .inr (.inl ⟨a, vs, _, v, rfl, rfl, h1, e1, back R q2 h⟩)
    · exact h.elim
  · cases r2
    split at h
    · rename_i xs e0
      split at h
      · rename_i d e
        obtain ⟨a, vs, rfl, h1, q1⟩ := dl_ok R r1 e0
        obtain ⟨v, e1, q2⟩ := q1.atI e
        exact .inl ⟨a, vs, _, v, rfl, rfl, h1, e1, back R q2 h⟩
      · exact h.elim
    · exact h.elim
  · exact h.elim
end
/-! ### slices -/
def cutD (xs : List D) (lo hi : Option Int) : List D := (xs.drop (HT.sIx xs.length 0 lo)).take (HT.sIx xs.length xs.length hi - HT.sIx xs.length 0 lo)
theorem RepL.cut {g : G} {F : Hp} {ds : List D} {vs : List V} (r : RepL g F ds vs) (lo hi : Option Int) : RepL g F (cutD ds lo hi) (cutV vs lo hi) := by
  unfold cutD cutV
  rw [← r.length]
  exact (r.drop _).take _
def wSl (w1 : W) (lo hi : Option Int) (cs : Cells) : R W := match w1 with
  | .d (.str z) => if z.length ≤ lit then .ok (.d (.str (cutS z lo hi))) cs else .bad
  | .d (.tup xs) => .ok (.d (.tup (cutD xs lo hi))) cs
  | a => match dl cs a with
    | some xs => .ok (.d (.lst (cutD xs lo hi))) cs
    | none => .bad
def rSl (K : PySem.W.Frag) : V → Option Int → Option Int → Hp → VK → Prop := fun x lo hi H Q => rSlS x lo hi H Q ∨ rSlA K x lo hi H Q ∨ rSlL K x lo hi H Q
theorem sl_all {X : Cx} : SlR X (rSl X.K) := sl_str.or (sl_tupA.or sl_list)
theorem cut_whole {ds : List D} {lo hi : Option Int} (h : HT.sIx ds.length 0 lo = 0 ∧ HT.sIx ds.length ds.length hi = ds.length) : cutD ds lo hi = ds := by
  unfold cutD
  rw [h.1, h.2]
  simp
section
variable {g : G} {w1 : W} {lo hi : Option Int} {cs : Cells} {ra : Ra} {H : Hp} {Q : VK} {E : XK} {v1 : V}
theorem wSl_ok (R : Rel g ra cs H) (r1 : RepW g (frz H ra) ra w1 v1) (h : PostR g (rpW g ra) (wSl w1 lo hi cs) ra H Q E) : rSl g.K v1 lo hi H Q := by
  unfold wSl at h
  split at h
  · cases r1
    split at h
    · rename_i hl
      exact .inl ⟨_, rfl, by rw [line_lit]; exact hl, back R (.str _) h⟩
    · exact h.elim
  · obtain ⟨a, vs, rfl, h1, q1⟩ := tup_ok r1
    refine .inr (.inl ⟨a, vs, rfl, h1, fun c => ?_, fun c => new_tup R (q1.cut lo hi) h⟩)
    rw [← q1.length] at c
    rw [cut_whole c] at h
    exact back R r1 h
  · split at h
    · rename_i xs e0
      obtain ⟨a, vs, rfl, h1, q1⟩ := dl_ok R r1 e0
      exact .inr (.inr ⟨a, vs, rfl, h1, new_lst R (q1.cut lo hi) h⟩)
    · exact h.elim
end
/-! ### built-in functions -/
inductive Bi where
  | len | max | min | str | int | tuple | list | sum | all | any | abs
  deriving DecidableEq
def Bi.name : Bi → Str
  | .len => "len" | .max => "max" | .min => "min" | .str => "str" | .int => "int" | .tuple => "tuple" | .list => "list" | .sum => "sum" | .all => "all" | .any => "any" | .abs => "abs"
def Bi.val : Bi → Value
  | .len => .builtin "len" | .max => .builtin "max" | .min => .builtin "min" | .str => .type "str" | .int => .type "int" | .tuple => .type "tuple" | .list => .type "list" | .sum => .builtin "sum" | .all => .builtin "all" | .any => .builtin "any" | .abs => .builtin "abs"
theorem Bi.boot (b : Bi) : bootBuiltins b.name = some b.val := by cases b <;> decide +kernel
def intsOf : List D → Option (List Int)
  | [] => some []
  | .int i :: r => (intsOf r).map (i :: ·)
  | _ :: _ => none
def blsOf : List D → Option (List Bool)
  | [] => some []
  | .bl i :: r => (blsOf r).map (i :: ·)
  | _ :: _ => none
def strsOf : List D → Option (List Str)
  | [] => some []
  | .str i :: r => (strsOf r).map (i :: ·)
  | _ :: _ => none
theorem intsOf_ok {g : G} {F : Hp} : ∀ {ds : List D} {vs : List V} {ns : List Int}, RepL g F ds vs → intsOf ds = some ns → vs = ns.map V.int
  | [], _, _, .nil, h => by simp only [intsOf, Option.some.injEq] at h; subst h; rfl
  | d :: ds, _, _, .cons r t, h => by
    cases r <;> simp only [intsOf, Option.map_eq_some_iff, reduceCtorEq] at h
    obtain ⟨ms, h1, rfl⟩ := h
    rw [intsOf_ok t h1]
    rfl
theorem blsOf_ok {g : G} {F : Hp} : ∀ {ds : List D} {vs : List V} {ns : List Bool}, RepL g F ds vs → blsOf ds = some ns → vs = ns.map V.bl
  | [], _, _, .nil, h => by simp only [blsOf, Option.some.injEq] at h; subst h; rfl
  | d :: ds, _, _, .cons r t, h => by
    cases r <;> simp only [blsOf, Option.map_eq_some_iff, reduceCtorEq] at h
    obtain ⟨ms, h1, rfl⟩ := h
    rw [blsOf_ok t h1]
    rfl
theorem strsOf_ok {g : G} {F : Hp} : ∀ {ds : List D} {vs : List V} {ns : List Str}, RepL g F ds vs → strsOf ds = some ns → vs = ns.map V.str
  | [], _, _, .nil, h => by simp only [strsOf, Option.some.injEq] at h; subst h; rfl
  | d :: ds, _, _, .cons r t, h => by
    cases r <;> simp only [strsOf, Option.map_eq_some_iff, reduceCtorEq] at h
    obtain ⟨ms, h1, rfl⟩ := h
    rw [strsOf_ok t h1]
    rfl
/-- the greatest of several ints, by the first -/
def maxI : Int → List Int → Int
  | m, [] => m
  | m, x :: r => maxI (if x > m then x else m) r
def minI : Int → List Int → Int
  | m, [] => m
  | m, x :: r => minI (if x < m then x else m) r
theorem maxI_ok : ∀ (ns : List Int) (m : Int), maxI m ns ∈ m :: ns ∧ ∀ y ∈ m :: ns, y ≤ maxI m ns
  | [], m => ⟨by simp [maxI], by simp [maxI]⟩
  | x :: r, m => by
    obtain ⟨h1, h2⟩ := maxI_ok r (if x > m then x else m)
    unfold maxI
    refine ⟨?_, fun y hy => ?_⟩
    · rcases List.mem_cons.mp h1 with h | h
      · rw [h]; split <;> simp
      · simp [h]
    · have h3 := h2 _ (List.mem_cons_self ..)
      rcases List.mem_cons.mp hy with rfl | hy
      · by_cases hx : x > y
        · rw [if_pos hx] at h3 ⊢; omega
        · rw [if_neg hx] at h3 ⊢; exact h3
      · rcases List.mem_cons.mp hy with rfl | hy
        · by_cases hx : y > m
          · rw [if_pos hx] at h3 ⊢; exact h3
          · rw [if_neg hx] at h3 ⊢; omega
        · exact h2 y (List.mem_cons_of_mem _ hy)
theorem minI_ok : ∀ (ns : List Int) (m : Int), minI m ns ∈ m :: ns ∧ ∀ y ∈ m :: ns, minI m ns ≤ y
  | [], m => ⟨by simp [minI], by simp [minI]⟩
  | x :: r, m => by
    obtain ⟨h1, h2⟩ := minI_ok r (if x < m then x else m)
    unfold minI
    refine ⟨?_, fun y hy => ?_⟩
    · rcases List.mem_cons.mp h1 with h | h
      · rw [h]; split <;> simp
      · simp [h]
    · have h3 := h2 _ (List.mem_cons_self ..)
      rcases List.mem_cons.mp hy with rfl | hy
      · by_cases hx : x < y
        · rw [if_pos hx] at h3 ⊢; omega
        · rw [if_neg hx] at h3 ⊢; exact h3
      · rcases List.mem_cons.mp hy with rfl | hy
        · by_cases hx : y < m
          · rw [if_pos hx] at h3 ⊢; exact h3
          · rw [if_neg hx] at h3 ⊢; omega
        · exact h2 y (List.mem_cons_of_mem _ hy)
def wBi (b : Bi) (ws : List W) (cs : Cells) : R W := match b with
  | .len => match ws with
    | [.d (.str x)] => if x.length ≤ lit then .ok (.d (.int x.length)) cs else .bad
    | [.d (.tup xs)] => .ok (.d (.int xs.length)) cs
    | [w] => match dl cs w with
      | some xs => .ok (.d (.int xs.length)) cs
      | none => .bad
    | _ => .bad
  | .max => match ws with
    | [.d (.int i), .d (.int j)] => .ok (.d (.int (if j > i then j else i))) cs
    | [.d (.int i), .d (.int j), .d (.int k)] => .ok (.d (.int (if j > i then (if k > j then k else j) else if k > i then k else i))) cs
    | [.d (.int i), .d (.int j), .d (.int k), .d (.int l)] => .ok (.d (.int (maxI i [j, k, l]))) cs
    | [w] => match (dl cs w).bind intsOf with
      | some (m :: ns) => .ok (.d (.int (maxI m ns))) cs
      | _ => .bad
    | _ => .bad
  | .min => match ws with
    | [.d (.int i), .d (.int j)] => .ok (.d (.int (if j < i then j else i))) cs
    | [w] => match (dl cs w).bind intsOf with
      | some (m :: ns) => .ok (.d (.int (minI m ns))) cs
      | _ => .bad
    | _ => .bad
  | .str => match ws with
    | [.d (.int i)] => if i.natAbs.log2 < 1920 then .ok (.d (.str (toString i))) cs else .bad
    | _ => .bad
  | .int => match ws with
    | [.d (.int i)] => .ok (.d (.int i)) cs
    | [.d (.str x)] => if x.length ≤ 640 then match PySem.intText? x with
        | some n => .ok (.d (.int n)) cs
        | none => .bad
      else .bad
    | _ => .bad
  | .tuple => match ws with
    | [.d (.tup xs)] => .ok (.d (.tup xs)) cs
    | [w] => match dl cs w with
      | some xs => .ok (.d (.tup xs)) cs
      | none => .bad
    | _ => .bad
  | .list => match ws with
    | [.d (.tup xs)] => .ok (.d (.lst xs)) cs
    | [w] => match dl cs w with
      | some xs => .ok (.d (.lst xs)) cs
      | none => .bad
    | _ => .bad
  | .sum => match ws with
    | [w] => match (dl cs w).bind intsOf with
      | some ns => .ok (.d (.int ns.sum)) cs
      | none => .bad
    | _ => .bad
  | .all => match ws with
    | [w] => match (dl cs w).bind blsOf with
      | some ns => .ok (.d (.bl (ns.all id))) cs
      | none => .bad
    | _ => .bad
  | .any => match ws with
    | [w] => match (dl cs w).bind blsOf with
      | some ns => .ok (.d (.bl (ns.any id))) cs
      | none => .bad
    | _ => .bad
  | .abs => match ws with
    | [.d (.int i)] => .ok (.d (.int (if i < 0 then -i else i))) cs
    | _ => .bad
theorem vals3 {x y z : V} {us : List Value} (r : Vals [x, y, z] us) : ∃ u v w', us = [u, v, w'] ∧ RelV x u ∧ RelV y v ∧ RelV z w' := by
  cases r with
  | cons r1 r2 =>
    obtain ⟨v, w', rfl, h1, h2⟩ := vals2 r2
    exact ⟨_, v, w', rfl, r1, h1, h2⟩
theorem args_max4 (a b c d : Value) : argsOk "max" ⟨[a, b, c, d], []⟩ := by unfold argsOk; kernel_rfl
theorem call_max_four {prog : Program} {w : World} {A : Around} {E : Value → Shared → Prop} {s : Shared} {i j k l : Int} {t1 t2 t3 t4 : Tok} {Q : Value → Shared → Prop} (hh : A.handled = none)
    (h : ∀ h' tk t, (∀ d o, s.heap.get? d = some o → h'.get? d = some o) → Q (.int (maxI i [j, k, l]) t) { s with heap := h', toks := tk }) :
    wpAny (model prog w) A (call (.builtin "max") [.int i t1, .int j t2, .int k t3, .int l t4]) Q E s := by
  obtain ⟨ns, hns⟩ : ∃ ns : Array (Int × Tok), ns = #[(i, t1), (j, t2), (k, t3), (l, t4)] := ⟨_, rfl⟩
  have hit : intItems ns = #[.int i t1, .int j t2, .int k t3, .int l t4] := by rw [hns]; simp [intItems]
  have hT : (s.heap.push { cls := .type "tuple", data := .seq #[.int i t1, .int j t2, .int k t3, .int l t4] }).IsTuple s.heap.objs.size (intItems ns) := ⟨_, Heap.get?_push_size _ rfl, rfl, 0, by rw [hit]⟩
  refine call_function_tree F.kind_max F.plain_max F.entry_max (args_max4 _ _ _ _) ?_
  show wpAny _ A.in1 (Builtin.Builtins.bindParams "max" ["key", "default"] 0 ⟨[], []⟩ >>= _) _ _ s
  refine wpAny_bind (wpAny_of_eq (show Builtin.Builtins.bindParams "max" ["key", "default"] 0 ⟨[], []⟩ = pure [none, none] from rfl) ?_)
  show wpAny _ A.in1 (newTuple [.int i t1, .int j t2, .int k t3, .int l t4] >>= _) _ _ s
  refine wpAny_bind (wpAny_newObj_type ?_)
  have hsz : (s.heap.push { cls := .type "tuple", data := .seq #[.int i t1, .int j t2, .int k t3, .int l t4] }).objs.size = s.heap.objs.size + 1 := Heap.size_push ..
  refine wpAny_bind (wpAny_pyIter_tuple hT ?_)
  have W := Walks.tuple (prog := prog) (w := w) (A := A.in1) hh (s.heap.push { cls := .type "tuple", data := .seq #[.int i t1, .int j t2, .int k t3, .int l t4] }).objs.size s.heap.objs.size (by rw [hsz]; exact Nat.ne_of_lt (Nat.lt_succ_self _)) (intItems ns)
  refine wpAny_bind (wpAny_newObj_type ?_)
  have hname : (toString "max" ++ toString ".loop" : String) = "max.loop" := by decide
  rw [hname]
  refine wpAny_pure ⟨plainId_quiet F.plain_max_loop _, codeAny_max_loop_first W (fun i j => decide (numAt ns i > numAt ns j)) (CmpOf.ints_gt (numAt ns) (fun _ _ => intItems_at)) _ ?_ (by rw [hit]; simp) (W.frame _ _ _ ⟨⟨_, Heap.get?_push_size _ rfl, rfl, rfl⟩, hT.push _⟩ fun b _ o e => Heap.get?_push_of_some _ e) (Heap.get?_push_size _ rfl) fun v h' tk hP hk => ?_⟩
  · intro hm
    rcases List.mem_cons.mp hm with e | hm
    · rw [Heap.size_push] at e
      exact absurd e (Nat.succ_ne_self _)
    · have e := List.mem_singleton.mp hm
      rw [Heap.size_push, hsz] at e
      exact absurd e (Nat.ne_of_gt (Nat.lt_succ_of_lt (Nat.lt_succ_self _)))
  · have hold : ∀ d o, s.heap.get? d = some o → h'.get? d = some o := fun d o e => by
      have hlt := Heap.lt_size e
      refine hk d o (fun hm => ?_) ?_ (Heap.get?_push_of_some _ (Heap.get?_push_of_some _ (Heap.get?_push_of_some _ e)))
      · have := List.mem_singleton.mp hm
        rw [hsz] at this
        rw [this] at hlt
        exact absurd hlt (Nat.not_lt.mpr (Nat.le_succ _))
      · intro e2
        rw [Heap.size_push, hsz] at e2
        rw [e2] at hlt
        exact absurd hlt (Nat.not_lt.mpr (Nat.le_succ_of_le (Nat.le_succ _)))
    have hP' : (intItems ns)[argBest (fun i j => decide (numAt ns i > numAt ns j)) 3]? = some v := by
      have hsz2 : (intItems ns).size - 1 = 3 := by rw [hit]; simp
      rw [← hsz2]; exact hP
    obtain ⟨t, rfl⟩ := intItems_at hP'
    have e : numAt ns (argBest (fun i j => decide (numAt ns i > numAt ns j)) 3) = maxI i [j, k, l] := by
      have n0 : numAt ns 0 = i := by rw [hns]; rfl
      have n1 : numAt ns 1 = j := by rw [hns]; rfl
      have n2 : numAt ns 2 = k := by rw [hns]; rfl
      have n3 : numAt ns 3 = l := by rw [hns]; rfl
      have step : ∀ m, numAt ns (argBest (fun i j => decide (numAt ns i > numAt ns j)) (m + 1)) = if numAt ns (m + 1) > numAt ns (argBest (fun i j => decide (numAt ns i > numAt ns j)) m) then numAt ns (m + 1) else numAt ns (argBest (fun i j => decide (numAt ns i > numAt ns j)) m) := fun m => by
        rw [argBest]
        by_cases hc : numAt ns (m + 1) > numAt ns (argBest (fun i j => decide (numAt ns i > numAt ns j)) m)
        · rw [if_pos (decide_eq_true hc), if_pos hc]
        · rw [if_neg (by simpa using hc), if_neg hc]
      have s0 : numAt ns (argBest (fun i j => decide (numAt ns i > numAt ns j)) 0) = i := by rw [argBest, n0]
      have s1 := step 0
      rw [s0, n1] at s1
      have s2 := step 1
      rw [s1, n2] at s2
      have s3 := step 2
      rw [s2, n3] at s3
      rw [s3]
      rfl
    rw [e]
    exact h h' tk t hold
theorem vals4 {x y z z' : V} {us : List Value} (r : Vals [x, y, z, z'] us) : ∃ u v w' w2, us = [u, v, w', w2] ∧ RelV x u ∧ RelV y v ∧ RelV z w' ∧ RelV z' w2 := by
  cases r with
  | cons r1 r2 =>
    cases r2 with
    | cons r2 r3 =>
      obtain ⟨v, w', rfl, h1, h2⟩ := vals2 r3
      exact ⟨_, _, v, w', rfl, r1, r2, h1, h2⟩
def rMaxN : List V → Hp → VK → Prop := fun vs H Q => (∃ i j k l, vs = [.int i, .int j, .int k, .int l] ∧ Q (.int (maxI i [j, k, l])) H) ∨ (∃ i j, vs = [.int i, .int j] ∧ Q (.int (if j > i then j else i)) H) ∨ ∃ i j k, vs = [.int i, .int j, .int k] ∧ Q (.int (if j > i then (if k > j then k else j) else if k > i then k else i)) H
theorem call_maxN {X : Cx} (hc : X.calm = true) : CallR X (.builtin "max") rMaxN := by
  refine CallR.or (r := fun vs H Q => ∃ i j k l, vs = [.int i, .int j, .int k, .int l] ∧ Q (.int (maxI i [j, k, l])) H) ?_ (CallR.or (call_max2 hc) ?_)
  · intro pins s σ H xs us Q I r h
    obtain ⟨i, j, k, l, rfl, q⟩ := h
    obtain ⟨u, v, w', w2, rfl, ⟨t, rfl⟩, ⟨t', rfl⟩, ⟨t2, rfl⟩, ⟨t3, rfl⟩⟩ := vals4 r
    exact call_max_four (I.ok.hd hc) fun h' tk t kk => ⟨.int _, H, I.kept kk, ⟨_, rfl⟩, q⟩
  intro pins s σ H xs us Q I r h
  obtain ⟨i, j, k, rfl, q⟩ := h
  obtain ⟨u, v, w', rfl, ⟨t, rfl⟩, ⟨t', rfl⟩, ⟨t2, rfl⟩⟩ := vals3 r
  refine max_three_ints (I.ok.hd hc) fun h' tk kk => ⟨_, H, I.kept kk, ?_, q⟩
  by_cases hj : j > i
  · rw [if_pos hj, if_pos hj]
    by_cases hk : k > j
    · rw [if_pos hk, if_pos hk]; exact ⟨_, rfl⟩
    · rw [if_neg hk, if_neg hk]; exact ⟨_, rfl⟩
  · rw [if_neg hj, if_neg hj]
    by_cases hk : k > i
    · rw [if_pos hk, if_pos hk]; exact ⟨_, rfl⟩
    · rw [if_neg hk, if_neg hk]; exact ⟨_, rfl⟩
def rIntN : List V → Hp → VK → Prop := fun xs H Q => ((∃ i, xs = [.int i] ∧ Q (.int i) H) ∨ ∃ k, xs = [.bl k] ∧ Q (.int (if k then 1 else 0)) H) ∨ ∃ a n, xs = [.str a] ∧ PySem.intText? a = some n ∧ a.length ≤ 640 ∧ Q (.int n) H
def rBi (K : PySem.W.Frag) : Bi → List V → Hp → VK → Prop
  | .len => fun xs H Q => ∃ x n, xs = [x] ∧ LenV K x H n ∧ Q (.int n) H
  | .max => fun xs H Q => rMaxN xs H Q ∨ rMax K xs H Q
  | .min => fun xs H Q => (∃ i j, xs = [.int i, .int j] ∧ Q (.int (if j < i then j else i)) H) ∨ rMin K xs H Q
  | .str => fun xs H Q => ∃ i, xs = [.int i] ∧ i.natAbs.log2 < 1920 ∧ Q (.str (toString i)) H
  | .int => rIntN
  | .tuple => fun xs H Q => ∃ p ys, xs = [.ref p] ∧ ((SqL K H p ys ∧ ∀ l, H l = none → Q (.ref l) (upd H l (.tup ys))) ∨ (SqT K H p ys ∧ Q (.ref p) H))
  | .list => fun xs H Q => ∃ p ys, xs = [.ref p] ∧ (SqL K H p ys ∨ SqT K H p ys) ∧ ∀ l, H l = none → Q (.ref l) (upd H l (.lst ys))
  | .sum => rSum K
  | .all => rAll K
  | .any => rAny K
  | .abs => fun xs H Q => ∃ i, xs = [.int i] ∧ Q (.int (if i < 0 then -i else i)) H
theorem bi_rule {X : Cx} (hc : X.calm = true) (b : Bi) : CallR X b.val (rBi X.K b) := by
  cases b with
  | len => exact call_len
  | max => exact (call_maxN hc).or (cr_max hc)
  | min => exact (call_min2 hc).or (cr_min hc)
  | str => exact call_str_int
  | int => exact call_int1.or call_int_str
  | tuple => exact call_tuple_of
  | list => exact call_list_of
  | sum => exact cr_sum hc
  | all => exact cr_all hc
  | any => exact cr_any hc
  | abs => exact call_abs
section
variable {g : G} {cs : Cells} {ra : Ra} {H : Hp} {Q : VK} {E : XK}
theorem ws1 {F : Hp} {w : W} {vs : List V} (r : RepWs g F ra [w] vs) : ∃ v, vs = [v] ∧ RepW g F ra w v := by
  cases r with
  | cons h t => cases t; exact ⟨_, rfl, h⟩
theorem ws2 {F : Hp} {w w2 : W} {vs : List V} (r : RepWs g F ra [w, w2] vs) : ∃ v v2, vs = [v, v2] ∧ RepW g F ra w v ∧ RepW g F ra w2 v2 := by
  cases r with
  | cons h t =>
    obtain ⟨v2, rfl, h2⟩ := ws1 t
    exact ⟨_, _, rfl, h, h2⟩
theorem ws3 {F : Hp} {w w2 w3 : W} {vs : List V} (r : RepWs g F ra [w, w2, w3] vs) : ∃ v v2 v3, vs = [v, v2, v3] ∧ RepW g F ra w v ∧ RepW g F ra w2 v2 ∧ RepW g F ra w3 v3 := by
  cases r with
  | cons h t =>
    obtain ⟨v2, v3, rfl, h2, h3⟩ := ws2 t
    exact ⟨_, _, _, rfl, h, h2, h3⟩
theorem ws4 {F : Hp} {w w2 w3 w4 : W} {vs : List V} (r : RepWs g F ra [w, w2, w3, w4] vs) : ∃ v v2 v3 v4, vs = [v, v2, v3, v4] ∧ RepW g F ra w v ∧ RepW g F ra w2 v2 ∧ RepW g F ra w3 v3 ∧ RepW g F ra w4 v4 := by
  cases r with
  | cons h t =>
    obtain ⟨v2, v3, v4, rfl, h2, h3, h4⟩ := ws3 t
    exact ⟨_, _, _, _, rfl, h, h2, h3, h4⟩
theorem wBi_ok {b : Bi} {ws : List W} {vs : List V} (R : Rel g ra cs H) (r : RepWs g (frz H ra) ra ws vs) (h : PostR g (rpW g ra) (wBi b ws cs) ra H Q E) : rBi g.K b vs H Q := by
  unfold wBi at h
  cases b
  case len =>
    dsimp only at h
    split at h
    · obtain ⟨v, rfl, r1⟩ := ws1 r
      cases r1
      split at h
      · rename_i hl
        exact ⟨_, _, rfl, ⟨by rw [line_lit]; exact hl, rfl⟩, back R (.int _) h⟩
      · exact h.elim
    · obtain ⟨v, rfl, r1⟩ := ws1 r
      obtain ⟨a, us, rfl, h1, q1⟩ := tup_ok r1
      exact ⟨_, _, rfl, .inr ⟨us, h1, rfl⟩, back R (by rw [q1.length]; exact .int _) h⟩
    · obtain ⟨v, rfl, r1⟩ := ws1 r
      split at h
      · rename_i xs e
        obtain ⟨a, us, rfl, h1, q1⟩ := dl_ok R r1 e
        exact ⟨_, _, rfl, .inl ⟨us, h1, rfl⟩, back R (by rw [q1.length]; exact .int _) h⟩
      · exact h.elim
    · exact h.elim
  case max =>
    dsimp only at h
    split at h
    · obtain ⟨v, v2, rfl, r1, r2⟩ := ws2 r
      cases r1
      cases r2
      exact .inl (.inr (.inl ⟨_, _, rfl, back R (.int _) h⟩))
    · obtain ⟨v, v2, v3, rfl, r1, r2, r3⟩ := ws3 r
      cases r1
      cases r2
      cases r3
      exact .inl (.inr (.inr ⟨_, _, _, rfl, back R (.int _) h⟩))
    · obtain ⟨v, v2, v3, v4, rfl, r1, r2, r3, r4⟩ := ws4 r
      cases r1
      cases r2
      cases r3
      cases r4
      exact .inl (.inl ⟨_, _, _, _, rfl, back R (.int _) h⟩)
    · obtain ⟨v, rfl, r1⟩ := ws1 r
      split at h
      · rename_i m ns e
        obtain ⟨xs, e1, e2⟩ := Option.bind_eq_some_iff.mp e
        obtain ⟨a, us, rfl, h1, q1⟩ := dl_ok R r1 e1
        have e3 := intsOf_ok q1 e2
        subst e3
        obtain ⟨m1, m2⟩ := maxI_ok ns m
        refine .inr ⟨a, m :: ns, rfl, h1, by simp, fun z hz hle => ?_⟩
        rw [show z = maxI m ns from Int.le_antisymm (m2 z hz) (hle _ m1)]
        exact back R (.int _) h
      · exact h.elim
    · exact h.elim
  case min =>
    dsimp only at h
    split at h
    · obtain ⟨v, v2, rfl, r1, r2⟩ := ws2 r
      cases r1
      cases r2
      exact .inl ⟨_, _, rfl, back R (.int _) h⟩
    · obtain ⟨v, rfl, r1⟩ := ws1 r
      split at h
      · rename_i m ns e
        obtain ⟨xs, e1, e2⟩ := Option.bind_eq_some_iff.mp e
        obtain ⟨a, us, rfl, h1, q1⟩ := dl_ok R r1 e1
        have e3 := intsOf_ok q1 e2
        subst e3
        obtain ⟨m1, m2⟩ := minI_ok ns m
        refine .inr ⟨a, m :: ns, rfl, h1, by simp, fun z hz hle => ?_⟩
        rw [show z = minI m ns from Int.le_antisymm (hle _ m1) (m2 z hz)]
        exact back R (.int _) h
      · exact h.elim
    · exact h.elim
  case str =>
    dsimp only at h
    split at h
    · obtain ⟨v, rfl, r1⟩ := ws1 r
      cases r1
      split at h
      · rename_i hl
        exact ⟨_, rfl, hl, back R (.str _) h⟩
      · exact h.elim
    · exact h.elim
  case int =>
    dsimp only at h
    split at h
    · obtain ⟨v, rfl, r1⟩ := ws1 r
      cases r1
      exact .inl (.inl ⟨_, rfl, back R (.int _) h⟩)
    · obtain ⟨v, rfl, r1⟩ := ws1 r
      cases r1
      split at h
      · rename_i hl
        split at h
        · rename_i n e
          exact .inr ⟨_, _, rfl, e, hl, back R (.int _) h⟩
        · exact h.elim
      · exact h.elim
    · exact h.elim
  case tuple =>
    dsimp only at h
    split at h
    · obtain ⟨v, rfl, r1⟩ := ws1 r
      obtain ⟨a, us, rfl, h1, q1⟩ := tup_ok r1
      exact ⟨_, us, rfl, .inr ⟨h1, back R r1 h⟩⟩
    · obtain ⟨v, rfl, r1⟩ := ws1 r
      split at h
      · rename_i xs e
        obtain ⟨a, us, rfl, h1, q1⟩ := dl_ok R r1 e
        exact ⟨_, us, rfl, .inl ⟨h1, new_tup R q1 h⟩⟩
      · exact h.elim
    · exact h.elim
  case list =>
    dsimp only at h
    split at h
    · obtain ⟨v, rfl, r1⟩ := ws1 r
      obtain ⟨a, us, rfl, h1, q1⟩ := tup_ok r1
      exact ⟨_, us, rfl, .inr h1, new_lst R q1 h⟩
    · obtain ⟨v, rfl, r1⟩ := ws1 r
      split at h
      · rename_i xs e
        obtain ⟨a, us, rfl, h1, q1⟩ := dl_ok R r1 e
        exact ⟨_, us, rfl, .inl h1, new_lst R q1 h⟩
      · exact h.elim
    · exact h.elim
  case sum =>
    dsimp only at h
    split at h
    · obtain ⟨v, rfl, r1⟩ := ws1 r
      split at h
      · rename_i ns e
        obtain ⟨xs, e1, e2⟩ := Option.bind_eq_some_iff.mp e
        obtain ⟨a, us, rfl, h1, q1⟩ := dl_ok R r1 e1
        have e3 := intsOf_ok q1 e2
        subst e3
        exact ⟨a, ns, rfl, h1, back R (.int _) h⟩
      · exact h.elim
    · exact h.elim
  case all =>
    dsimp only at h
    split at h
    · obtain ⟨v, rfl, r1⟩ := ws1 r
      split at h
      · rename_i ns e
        obtain ⟨xs, e1, e2⟩ := Option.bind_eq_some_iff.mp e
        obtain ⟨a, us, rfl, h1, q1⟩ := dl_ok R r1 e1
        have e3 := blsOf_ok q1 e2
        subst e3
        exact ⟨a, ns, rfl, h1, back R (.bl _) h⟩
      · exact h.elim
    · exact h.elim
  case any =>
    dsimp only at h
    split at h
    · obtain ⟨v, rfl, r1⟩ := ws1 r
      split at h
      · rename_i ns e
        obtain ⟨xs, e1, e2⟩ := Option.bind_eq_some_iff.mp e
        obtain ⟨a, us, rfl, h1, q1⟩ := dl_ok R r1 e1
        have e3 := blsOf_ok q1 e2
        subst e3
        exact ⟨a, ns, rfl, h1, back R (.bl _) h⟩
      · exact h.elim
    · exact h.elim
  case abs =>
    dsimp only at h
    split at h
    · obtain ⟨v, rfl, r1⟩ := ws1 r
      cases r1
      exact ⟨_, rfl, back R (.int _) h⟩
    · exact h.elim
end
/-! ### built-in methods -/
inductive Bm where
  | append | extend | pop | popAt | join | partition | index | count | rstrip
  deriving DecidableEq
def Bm.name : Bm → Str
  | .append => "append" | .extend => "extend" | .pop => "pop" | .popAt => "pop" | .join => "join" | .partition => "partition" | .index => "index" | .count => "count" | .rstrip => "rstrip"
def Bm.ty : Bm → String
  | .append => "list" | .extend => "list" | .pop => "list" | .popAt => "list" | .join => "str" | .partition => "str" | .index => "list" | .count => "list" | .rstrip => "str"
def Bm.id : Bm → String
  | .append => "list.append" | .extend => "list.extend" | .pop => "list.pop" | .popAt => "list.pop" | .join => "str.join" | .partition => "str.partition" | .index => "list.index" | .count => "list.count" | .rstrip => "str.rstrip"
theorem Bm.facts (m : Bm) : PlainAttrs m.ty ∧ Slot m.ty m.name m.id ∧ typeOf (.builtin m.id) = pure (.type "method_descriptor") := by
  cases m
  · exact ⟨PySem.F.plainAttrs_list, PySem.F.slot_list_append, PySem.F.type_list_append⟩
  · exact ⟨PySem.F.plainAttrs_list, PySem.F.slot_list_extend, PySem.F.type_list_extend⟩
  · exact ⟨PySem.F.plainAttrs_list, PySem.F.slot_list_pop, PySem.F.type_list_pop⟩
  · exact ⟨PySem.F.plainAttrs_list, PySem.F.slot_list_pop, PySem.F.type_list_pop⟩
  · exact ⟨PySem.F.plainAttrs_str, PySem.F.slot_str_join, PySem.F.type_str_join⟩
  · exact ⟨PySem.F.plainAttrs_str, PySem.F.slot_str_partition, PySem.F.type_str_partition⟩
  · exact ⟨PySem.F.plainAttrs_list, PySem.F.slot_list_index, PySem.F.type_list_index⟩
  · exact ⟨PySem.F.plainAttrs_list, PySem.F.slot_list_count, PySem.F.type_list_count⟩
  · exact ⟨PySem.F.plainAttrs_str, PySem.F.slot_str_rstrip, PySem.F.type_str_rstrip⟩
def idxV (y : V) : List V → Option Nat
  | [] => none
  | z :: r => if eqV z y = true then some 0 else (idxV y r).map (· + 1)
theorem idxV_ok {y : V} : ∀ {l : List V} {j : Nat}, idxV y l = some j → (∃ z, l[j]? = some z ∧ eqV z y = true) ∧ ∀ (m : Nat) (z' : V), m < j → l[m]? = some z' → eqV z' y = false
  | [], _, e => by cases e
  | z :: r, j, e => by
    unfold idxV at e
    split at e
    · rename_i h
      cases e
      exact ⟨⟨z, rfl, h⟩, fun m z' h => absurd h (Nat.not_lt_zero _)⟩
    · rename_i h
      simp only [Option.map_eq_some_iff] at e
      obtain ⟨j', e1, rfl⟩ := e
      obtain ⟨⟨u, h1, h2⟩, h3⟩ := idxV_ok e1
      refine ⟨⟨u, by simpa using h1, h2⟩, fun m z' hm hz => ?_⟩
      cases m with
      | zero =>
        simp at hz
        subst hz
        simpa using h
      | succ m => exact h3 m z' (by omega) (by simpa using hz)
def rCntV (K : PySem.W.Frag) : V → List V → Hp → VK → Prop := fun x xs H Q => ∃ (a : Addr) (ys : List V) (y : V), x = .ref a ∧ xs = [y] ∧ SqL K H a ys ∧ flatV y = true ∧ ys.all flatV = true ∧ Q (.int (ys.countP fun z => eqV z y : Nat)) H
theorem cnt_vals {y : V} : ∀ {ys : List V} {us : List Value}, Vals ys us → ys.all flatV = true → us.countP (eqU y) = ys.countP fun z => eqV z y
  | _, _, .nil, _ => rfl
  | z :: ys, u :: us, .cons r t, f => by
    rw [List.all_cons, Bool.and_eq_true] at f
    rw [List.countP_cons, List.countP_cons, cnt_vals t f.2, eqU_of r f.1]
theorem mt_cntV {X : Cx} : MtR X "list.count" (rCntV X.K) := by
  intro pins s σ H x xs v us Q I rx rxs h
  obtain ⟨a, ys, y, rfl, rfl, hs, fy, fys, q⟩ := h
  cases rx
  obtain ⟨uy, rfl, ry⟩ := rxs.one
  obtain ⟨its, rv, ⟨⟨cls, dd, data, sl⟩, n, ho, hc, hdn, hd⟩, hlen⟩ := I.list hs
  simp only at hc hd
  subst hc hd
  refine call_meets PySem.F.slot_list_count ⟨_, ho, rfl⟩ PySem.F.entry_list_count (PySem.F.args_list_count_2 _ _)
    (SeqAt.list_countAt a its.toArray n dd sl uy (eqU y)) ⟨ho, fun u' hu' => mem_eqAt ry fy rv fys u' (by simpa using hu'), ?_⟩
  refine ⟨.int (ys.countP fun z => eqV z y : Nat), H, I.tok _, ⟨s.toks, ?_⟩, q⟩
  show Value.int ((its.toArray.toList.countP (eqU y) : Nat) : Int) s.toks = Value.int _ s.toks
  rw [show its.toArray.toList = its by simp, cnt_vals rv fys]
def joinLen (ys : List Str) : Nat := (ys.map (·.length)).sum
def seqOf (cs : Cells) : W → Option (List D)
  | .d (.tup xs) => some xs
  | w => dl cs w
theorem seqOf_ok {w : W} {xs : List D} {v : V} {g : G} {cs : Cells} {ra : Ra} {H : Hp} (R : Rel g ra cs H) (r : RepW g (frz H ra) ra w v) (e : seqOf cs w = some xs) : ∃ a vs, v = .ref a ∧ (SqL g.K H a vs ∨ SqT g.K H a vs) ∧ RepL g (frz H ra) xs vs := by
  unfold seqOf at e
  split at e
  · cases e
    obtain ⟨a, vs, h1, h2, h3⟩ := tup_ok r
    exact ⟨a, vs, h1, .inr h2, h3⟩
  · obtain ⟨a, vs, h1, h2, h3⟩ := dl_ok R r e
    exact ⟨a, vs, h1, .inl h2, h3⟩
def wBm (m : Bm) (w : W) (ws : List W) (cs : Cells) : R W := match m with
  | .append => match w, ws with
    | .loc n, [.d d] => match celL cs n with
      | some xs => if xs.length < lit then .ok (.d .non) (cs.set n (some (.lst (xs ++ [d])))) else .bad
      | none => .bad
    | _, _ => .bad
  | .extend => match w, ws with
    | .loc n, [w2] => match celL cs n, dlt cs w2 with
      | some xs, some ys => if xs.length + ys.length ≤ lit then .ok (.d .non) (cs.set n (some (.lst (xs ++ ys)))) else .bad
      | _, _ => .bad
    | _, _ => .bad
  | .pop => match w, ws with
    | .loc n, [] => match celL cs n with
      | some xs => match xs[xs.length - 1]? with
        | some d => .ok (.d d) (cs.set n (some (.lst xs.dropLast)))
        | none => .bad
      | none => .bad
    | _, _ => .bad
  | .popAt => match w, ws with
    | .loc n, [.d (.int i)] => match celL cs n with
      | some xs => if -1000000 ≤ i ∧ i ≤ 1000000 then match seqIndex? i xs.length with
          | some k => match xs[k]? with
            | some d => .ok (.d d) (cs.set n (some (.lst (xs.eraseIdx k))))
            | none => .bad
          | none => .bad
        else .bad
      | none => .bad
    | _, _ => .bad
  | .join => match w, ws with
    | .d (.str a), [w2] => match (seqOf cs w2).bind strsOf with
      | some ys => if joinLen ys + ys.length * a.length ≤ 16777216 then .ok (.d (.str (Txt.join a ys))) cs else .bad
      | none => .bad
    | _, _ => .bad
  | .partition => match w, ws with
    | .d (.str a), [.d (.str b)] => if (b.length == 0) = false ∧ a.length ≤ lit then .ok (.d (.tup [.str (Txt.partition a b).1, .str (Txt.partition a b).2.1, .str (Txt.partition a b).2.2])) cs else .bad
    | _, _ => .bad
  | .index => match w, ws with
    | w, [.d d] => match (dl cs w).bind flatL?, flatV? d with
      | some ys, some y => match idxV y ys with
        | some j => .ok (.d (.int (j : Nat))) cs
        | none => .bad
      | _, _ => .bad
    | _, _ => .bad
  | .count => match w, ws with
    | w, [.d d] => match (dl cs w).bind flatL?, flatV? d with
      | some ys, some y => .ok (.d (.int (ys.countP fun z => eqV z y : Nat))) cs
      | _, _ => .bad
    | _, _ => .bad
  | .rstrip => match w, ws with
    | .d (.str a), [.d (.str b)] => if a.length ≤ lit then .ok (.d (.str (Txt.rstripChars a b))) cs else .bad
    | _, _ => .bad
def rBm (K : PySem.W.Frag) : Bm → V → List V → Hp → VK → Prop
  | .append => rAppend
  | .extend => rExtend
  | .pop => rPop
  | .popAt => rPopAt
  | .join => fun x xs H Q => ∃ a p, ∃ ys : List Str, x = .str a ∧ xs = [.ref p] ∧ (SqL K H p (ys.map V.str) ∨ SqT K H p (ys.map V.str)) ∧ (ys.map (·.length)).sum + ys.length * a.length ≤ 16777216 ∧ Q (.str (Txt.join a ys)) H
  | .partition => fun x xs H Q => ∃ a b, x = .str a ∧ xs = [.str b] ∧ (b.length == 0) = false ∧ a.length ≤ sizeLine ∧ ∀ p, H p = none → Q (.ref p) (upd H p (.tup [.str (Txt.partition a b).1, .str (Txt.partition a b).2.1, .str (Txt.partition a b).2.2]))
  | .index => rIndex K
  | .count => rCntV K
  | .rstrip => fun x xs H Q => ∃ a b, x = .str a ∧ xs = [.str b] ∧ a.length ≤ sizeLine ∧ Q (.str (Txt.rstripChars a b)) H
theorem bm_rule {X : Cx} (m : Bm) : MtR X m.id (rBm X.K m) := by
  cases m with
  | append => exact mt_append
  | extend => exact mt_extend
  | pop => exact mt_pop
  | popAt => exact mt_popAt
  | join => exact mt_join
  | partition => exact mt_partition
  | index => exact mt_index
  | count => exact mt_cntV
  | rstrip => exact mt_rstripChars
section
variable {g : G} {cs : Cells} {ra : Ra} {H : Hp} {Q : VK} {E : XK}
theorem put_lst (R : Rel g ra cs H) {n : Nat} {a : Addr} {d : D} {v : V} {xs : List D} {vs : List V} (ha : ra[n]? = some (some a)) (r : Rep g (frz H ra) d v) (q : RepL g (frz H ra) xs vs) (h : PostR g (rpW g ra) (.ok (.d d) (cs.set n (some (.lst xs)))) ra H Q E) : Q v (upd H a (.lst vs)) := by
  obtain ⟨k, R'⟩ := R.put (o := .lst vs) (c' := .lst xs) ha ⟨vs, upd_same, q⟩
  exact h _ _ k R' (r.mono k.same)
theorem wBm_ok {m : Bm} {w : W} {ws : List W} {v : V} {vs : List V} (R : Rel g ra cs H) (r0 : RepW g (frz H ra) ra w v) (r : RepWs g (frz H ra) ra ws vs) (h : PostR g (rpW g ra) (wBm m w ws cs) ra H Q E) : tyV g.K m.ty v H ∧ rBm g.K m v vs H Q := by
  unfold wBm at h
  cases m
  case append =>
    dsimp only at h
    split at h
    · split at h
      · rename_i xs e
        split at h
        · rename_i hl
          obtain ⟨u, rfl, r1⟩ := ws1 r
          obtain ⟨a, us, rfl, ha, h1, q1⟩ := celL_ok R r0 e
          exact ⟨.inl ⟨rfl, us, SqL.of h1⟩, a, us, u, rfl, rfl, h1, by rw [line_lit, ← q1.length]; exact hl, put_lst R ha .non (q1.append (.cons r1 .nil)) h⟩
        · exact h.elim
      · exact h.elim
    · exact h.elim
  case extend =>
    dsimp only at h
    split at h
    · split at h
      · rename_i xs ys e e2
        split at h
        · rename_i hl
          obtain ⟨u, rfl, r1⟩ := ws1 r
          obtain ⟨a, us, rfl, ha, h1, q1⟩ := celL_ok R r0 e
          obtain ⟨b, us2, rfl, h2, q2⟩ := dlt_ok R r1 e2
          exact ⟨.inl ⟨rfl, us, SqL.of h1⟩, a, b, us, us2, rfl, rfl, h1, h2, by rw [line_lit, ← q1.length, ← q2.length]; exact hl, put_lst R ha .non (q1.append q2) h⟩
        · exact h.elim
      · exact h.elim
    · exact h.elim
  case pop =>
    dsimp only at h
    split at h
    · split at h
      · rename_i xs e
        split at h
        · rename_i d hd
          cases r
          obtain ⟨a, us, rfl, ha, h1, q1⟩ := celL_ok R r0 e
          obtain ⟨u, hu, ru⟩ := q1.get hd
          exact ⟨.inl ⟨rfl, us, SqL.of h1⟩, a, us, u, rfl, rfl, h1, by rw [← q1.length]; exact hu, put_lst R ha ru q1.dropLast h⟩
        · exact h.elim
      · exact h.elim
    · exact h.elim
  case popAt =>
    dsimp only at h
    split at h
    · split at h
      · rename_i xs e
        split at h
        · rename_i hl
          split at h
          · rename_i k hk
            split at h
            · rename_i d hd
              obtain ⟨u0, rfl, r1⟩ := ws1 r
              cases r1
              obtain ⟨a, us, rfl, ha, h1, q1⟩ := celL_ok R r0 e
              obtain ⟨u, hu, ru⟩ := q1.get hd
              exact ⟨.inl ⟨rfl, us, SqL.of h1⟩, a, us, _, k, u, rfl, rfl, h1, by omega, by omega, by rw [← q1.length]; exact hk, hu, put_lst R ha ru (q1.eraseIdx k) h⟩
            · exact h.elim
          · exact h.elim
        · exact h.elim
      · exact h.elim
    · exact h.elim
  case join =>
    dsimp only at h
    split at h
    · split at h
      · rename_i ys e
        split at h
        · rename_i hl
          obtain ⟨u0, rfl, r1⟩ := ws1 r
          cases r0
          obtain ⟨xs, e1, e2⟩ := Option.bind_eq_some_iff.mp e
          obtain ⟨p, us, rfl, h1, q1⟩ := seqOf_ok R r1 e1
          have e3 := strsOf_ok q1 e2
          subst e3
          exact ⟨rfl, _, p, ys, rfl, rfl, h1, hl, back R (.str _) h⟩
        · exact h.elim
      · exact h.elim
    · exact h.elim
  case partition =>
    dsimp only at h
    split at h
    · split at h
      · rename_i hl
        obtain ⟨u0, rfl, r1⟩ := ws1 r
        cases r0
        cases r1
        exact ⟨rfl, _, _, rfl, rfl, hl.1, by rw [line_lit]; exact hl.2, new_tup R (.cons (.str _) (.cons (.str _) (.cons (.str _) .nil))) h⟩
      · exact h.elim
    · exact h.elim
  case index =>
    dsimp only at h
    split at h
    · split at h
      · rename_i ys y e1 e2
        split at h
        · rename_i j ej
          obtain ⟨xs, e3, e4⟩ := Option.bind_eq_some_iff.mp e1
          obtain ⟨u0, rfl, r1⟩ := ws1 r
          obtain ⟨a, us, rfl, h1, q1⟩ := dl_ok R r0 e3
          obtain ⟨rfl, f1⟩ := flatL_ok q1 e4
          obtain ⟨rfl, f2⟩ := flatV_ok r1 e2
          obtain ⟨⟨z, h2, h3⟩, h4⟩ := idxV_ok ej
          exact ⟨.inl ⟨rfl, _, h1⟩, a, _, _, j, z, rfl, rfl, h1, f2, f1, h2, h3, h4, back R (.int _) h⟩
        · exact h.elim
      · exact h.elim
    · exact h.elim
  case count =>
    dsimp only at h
    split at h
    · split at h
      · rename_i ys y e1 e2
        obtain ⟨xs, e3, e4⟩ := Option.bind_eq_some_iff.mp e1
        obtain ⟨u0, rfl, r1⟩ := ws1 r
        obtain ⟨a, us, rfl, h1, q1⟩ := dl_ok R r0 e3
        obtain ⟨rfl, f1⟩ := flatL_ok q1 e4
        obtain ⟨rfl, f2⟩ := flatV_ok r1 e2
        exact ⟨.inl ⟨rfl, _, h1⟩, a, _, _, rfl, rfl, h1, f2, f1, back R (.int _) h⟩
      · exact h.elim
    · exact h.elim
  case rstrip =>
    dsimp only at h
    split at h
    · split at h
      · rename_i hl
        obtain ⟨u0, rfl, r1⟩ := ws1 r
        cases r0
        cases r1
        exact ⟨rfl, _, _, rfl, rfl, by rw [line_lit]; exact hl, back R (.str _) h⟩
      · exact h.elim
    · exact h.elim
end
end BV
namespace BV
open PySem L2
/-! ### the language -/
inductive Ty where
  | b (n : String) | c (k : Nat) | x (k : Nat)
  deriving DecidableEq
inductive Src where
  | p (i : Nat) | k (i : Nat) | d (x : D)
inductive E where
  | var (i : Nat) | cst (d : D) | gv (x : Str)
  | op (o : Operator) (a b : E)
  | cmp (o : CmpOp) (a b : E) | chain (o o' : CmpOp) (a b c : E)
  | and (as : E) | or (as : E) | not (a : E) | ife (t a b : E)
  | nil | cons (a as : E)
  | tup (as : E) | lst (as : E)
  | ix (a i : E) | sl (a lo hi : E)
  | bi (b : Bi) (as : E) | isi (a : E) (ts : List Ty) (many : Bool)
  | bm (m : Bm) (a as : E)
  | call (f p : Nat) (as ks : E)
  | make (c p : Nat) (as ks : E)
  | fld (a : E) (f : Str) | meth (a : E) (m : Str) (as : E)
  | lc (elt it conds : E) (tg : List Nat) (one : Bool) (own : List (Str × Nat))
 
  | neg (a : E)
  | rep (a : E)
 
  | rng1 (a : E) | itl (a : E) | itt (a : E) | zip (a b : E)
  | lam (f : Nat) (t : E) | dct0
  | dct4 (k1 k2 k3 k4 : Str) (a b c d : E) | dix (a : E) (x : Str) | callv (i q n : Nat) (as : E) | lrng (a : E)
 
 
  deriving Inhabited
/-- the static part: names, patterns, classes -/
structure Ws where
  fnm : Nat → Option Str
  cnm : Nat → Option Str
  gd : Str → Option D
  pat : Nat → Nat → Option (Nat × List Str × List Src)
  init : Nat → Option Nat
  npar : Nat → Nat
  meth : Nat → Str → Option Nat
  sup : Nat → Nat → Str → Option Nat
  prop : Nat → Str → Option Nat
  fldk : Nat → Str → Bool
  kit : Ty → Ty → Option Bool
  exk : Nat → Option (Str × Str)
  exm : List Nat → Nat → Option Bool
  lams : List Scope
  oeq : Nat → Ty → Option Nat
  one : Nat → Ty → Option Nat
  oin : Nat → Option Nat
  cmt : Nat → Str → Option Nat
  patv : Nat → Nat → Option (Nat × List Str × List Src)
/-- what functions and classes do; phd: a def that is given a lambda; phc: a lambda's body -/
structure Wd extends Ws where
  phi : Nat → List W → Cells → R D
  phl : Nat → List W → Cells → R Unit
  phd : Nat → (Cells → R D) → Cells → R D
  phc : E → Fra → Cells → R D
instance : Coe Wd Ws := ⟨Wd.toWs⟩
def asB (r : R W) : R Bool := r.bind fun w cs => match w with
  | .d (.bl b) => .ok b cs
  | _ => .bad
def asI (r : R W) : R Int := r.bind fun w cs => match w with
  | .d (.int i) => .ok i cs
  | _ => .bad
def R.nox {α : Type} : R α → R α
  | .exc _ _ _ => .bad
  | r => r
def R.map {α β : Type} (f : α → β) (r : R α) : R β := r.bind fun a cs => .ok (f a) cs
def srcs (ws zs : List W) : List Src → Option (List W)
  | [] => some []
  | .p i :: r => match ws[i]?, srcs ws zs r with
    | some w, some l => some (w :: l)
    | _, _ => none
  | .k i :: r => match zs[i]?, srcs ws zs r with
    | some w, some l => some (w :: l)
    | _, _ => none
  | .d x :: r => (srcs ws zs r).map (.d x :: ·)
def clsOf (cs : Cells) : W → Option (Nat × List (Str × D))
  | .d (.ins c fs) => some (c, fs)
  | .loc n => match cs[n]? with
    | some (some (.ins c fs)) => some (c, fs)
    | _ => none
  | _ => none
def tyOf (cs : Cells) : W → Option Ty
  | .d .non => some (.b "NoneType") | .d (.bl _) => some (.b "bool") | .d (.int _) => some (.b "int") | .d (.str _) => some (.b "str")
  | .d (.tup _) => some (.b "tuple") | .d (.lst _) => some (.b "list") | .d (.flst _) => some (.b "list") | .d (.ins c _) => some (.c c) | .d (.exc c _) => some (.x c) | .d (.dct _) => some (.b "dict")
  | .loc n => match cs[n]? with
    | some (some (.lst _)) => some (.b "list")
    | some (some (.ins c _)) => some (.c c)
    | _ => none
  | _ => none
def kitAnyD (wd : Wd) (t : Ty) : List Ty → Option Bool
  | [] => some false
  | u :: r => match wd.kit t u with
    | some true => some true
    | some false => kitAnyD wd t r
    | none => none
def wIsi (wd : Wd) (w : W) (ts : List Ty) (cs : Cells) : R W := match tyOf cs w with
  | some t => match kitAnyD wd t ts with
    | some b => .ok (.d (.bl b)) cs
    | none => .bad
  | none => .bad
def callW (wd : Wd) (f : Nat) (ws : List W) (cs : Cells) : R W := (wd.phi f ws cs).map W.d
def R.trim {α : Type} (n : Nat) : R α → R α
  | .exc c x cs => .exc c x (cs.take n)
  | r => r
def madeW (c n : Nat) (d : D) (cs' : Cells) : R W := match d, cs'[n]? with
  | .non, some (some (.ins c' fs)) => if c' = c then .ok (.d (.ins c fs)) (cs'.take n) else .bad
  | _, _ => .bad
def makeW (wd : Wd) (c p : Nat) (ws zs : List W) (cs : Cells) : R W := match wd.init c with
  | some f => match (wd.pat f p).bind fun q => srcs (.loc cs.length :: ws) zs q.2.2 with
    | some l => ((wd.phi f l (cs ++ [some (.ins c [])])).trim cs.length).bind fun d cs' => madeW c cs.length d cs'
    | none => .bad
  | none => .bad
/-- the field of a held exception -/
def fldE (wd : Wd) (w : W) (f : Str) (cs : Cells) : R W := match w with
  | .d (.exc c x) => match wd.exk c with
    | some (_, fl) => if fl = f then .ok (.d x) cs else .bad
    | none => .bad
  | _ => .bad
def fldW (wd : Wd) (w : W) (f : Str) (cs : Cells) : R W := match clsOf cs w with
  | some (c, fs) => match wd.prop c f with
    | some p => (callW wd p [w] cs).nox
    | none => if wd.fldk c f then match fs.lookup f with
        | some d => .ok (.d d) cs
        | none => .bad
      else .bad
  | none => fldE wd w f cs
/-- which method: the class and the absent attribute are looked at ahead of the arguments -/
def mthW (wd : Wd) (w : W) (m : Str) (cs : Cells) : Option Nat := match clsOf cs w with
  | some (c, fs) => match wd.meth c m, fs.lookup m with
    | some f, none => some f
    | _, _ => none
  | none => none
def setTg (tg : List Nat) (one : Bool) (d : D) (fr : Fra) : Option Fra := match one, tg, d with
  | true, [i], d => some (fr.set i (some (.d d)))
  | false, is, .tup ds => if is.length = ds.length then some ((is.zip ds).foldl (fun fr p => fr.set p.1 (some (.d p.2))) fr) else none
  | false, is, .lst ds => if is.length = ds.length then some ((is.zip ds).foldl (fun fr p => fr.set p.1 (some (.d p.2))) fr) else none
  | _, _, _ => none
def wipeF (fr : Fra) : List Nat → Fra
  | [] => fr
  | v :: vs => (wipeF fr vs).set v none
def lcAdd (n : Nat) (w : W) (cs : Cells) : R Unit := match w, celL cs n with
  | .d x, some acc => if acc.length < lit then .ok () (cs.set n (some (.lst (acc ++ [x])))) else .bad
  | _, _ => .bad
def lcTurn (tst : Fra → Cells → R Bool) (elt : Fra → Cells → R W) (n : Nat) (fr1 : Fra) (cs : Cells) : R Unit :=
  (tst fr1 cs).nox.bind fun b c1 => if b then (elt fr1 c1).nox.bind fun w c2 => lcAdd n w c2 else .ok () c1
def lcGo (tst : Fra → Cells → R Bool) (elt : Fra → Cells → R W) (tg : List Nat) (one : Bool) (fr : Fra) (n : Nat) : List D → Cells → R Unit
  | [], cs => .ok () cs
  | d :: ds, cs => match setTg tg one d fr with
    | none => .bad
    | some fr1 => (lcTurn tst elt n fr1 cs).bind fun _ c2 => lcGo tst elt tg one fr n ds c2
def lcEnd (n : Nat) (cs : Cells) : R W := match celL cs n with
  | some xs => .ok (.d (.lst xs)) (cs.take n)
  | none => .bad
def tupW (ws : List W) (cs : Cells) : R W := match pureDs ws with
  | some ds => if ds.length ≤ lit then .ok (.d (.tup ds)) cs else .bad
  | none => .bad
def lstW (ws : List W) (cs : Cells) : R W := match pureDs ws with
  | some ds => if ds.length ≤ lit then .ok (.d (.lst ds)) cs else .bad
  | none => .bad
def wTy (m : Bm) (w : W) (cs : Cells) : Bool := match m with
  | .append | .extend | .pop | .popAt | .index | .count => (dl cs w).isSome
  | .join | .partition | .rstrip => match w with
    | .d (.str _) => true
    | _ => false
def rngD (a b : Int) : List D := (List.range (b - a).toNat).map fun i => .int (a + (i : Nat))
def small62 (i : Int) : Bool := decide (-4611686018427387904 ≤ i ∧ i < 4611686018427387904)
def zipD (xs ys : List D) : List D := (xs.zip ys).map fun p => .tup [p.1, p.2]
def zipW (w1 w2 : W) (cs : Cells) : R (List D) := match w1, w2 with
  | .d (.lst xs), .d (.lst ys) => .ok (zipD xs ys) cs
  | .d (.tup xs), .d (.tup ys) => .ok (zipD xs ys) cs
  | .d (.lst xs), .d (.tup ys) => .ok (zipD xs ys) cs
  | _, _ => .bad
mutual
/-- what repr() shows, empty dicts among it -/
def pyD : D → Option PyData
  | .non => some .none
  | .bl b => some (.bool b)
  | .int i => some (.int i)
  | .str x => some (.str x)
  | .tup xs => (pyDs xs).map .tuple
  | .lst xs => (pyDs xs).map .list
  | .flst xs => (pyDs xs).map .list
  | .dct [] => some (.dict [])
  | _ => none
def pyDs : List D → Option (List PyData)
  | [] => some []
  | d :: r => match pyD d, pyDs r with
    | some p, some q => some (p :: q)
    | _, _ => none
end
def wPr (cs : Cells) : W → Option PyData
  | .d d => pyD d
  | .loc n => (celL cs n).bind fun xs => (pyDs xs).map .list
def repW (w : W) (cs : Cells) : R W := match wPr cs w with
  | some p => if p.showable = true ∧ p.depth ≤ 60 ∧ p.shown.length ≤ lit then .ok (.d (.str p.shown)) cs else .bad
  | none => .bad
/-- the dict that a display has filled -/
def dctE (n : Nat) (ks : List Str) (ws : List W) (cs : Cells) : R W := match pureDs ws, cs[n]? with
  | some ds, some (some (.dct [])) => .ok (.d (.dct (ks.zip ds))) (cs.take n)
  | _, _ => .bad
def dixW (w : W) (x : Str) (cs : Cells) : R W := match w with
  | .d (.dct fs) => match fs.lookup x with
    | some d => .ok (.d d) cs
    | none => .bad
  | _ => .bad
def okFn (wd : Ws) (f q n : Nat) : Bool := (wd.fnm f).isSome && match wd.pat f q with
  | some (m, nms, _) => decide (m = n) && decide (nms = [])
  | none => false
mutual
def ev (wd : Wd) : E → Fra → Cells → R W
  | .var i, fr, cs => match fr[i]? with
    | some (some w) => .ok w cs
    | _ => .bad
  | .cst d, _, cs => .ok (.d d) cs
  | .dct0, _, cs => .ok (.d (.dct [])) cs
  | .gv x, _, cs => match wd.gd x with
    | some d => .ok (.d d) cs
    | none => .bad
  | .op o a b, fr, cs => (ev wd a fr cs).bind fun w1 c1 => (ev wd b fr c1).bind fun w2 c2 => wOp o w1 w2 c2
  | .cmp o a b, fr, cs => (ev wd a fr cs).bind fun w1 c1 => (ev wd b fr c1).bind fun w2 c2 => wCmp o w1 w2 c2
  | .chain o o' a b c, fr, cs => (ev wd a fr cs).bind fun w1 c1 => (ev wd b fr c1).bind fun w2 c2 => (asB (wCmp o w1 w2 c2)).bind fun t c3 => if t then (ev wd c fr c3).bind fun w3 c4 => wCmp o' w2 w3 c4 else .ok (.d (.bl false)) c3
  | .and as, fr, cs => evAnd wd as fr cs
  | .or as, fr, cs => evOr wd as fr cs
  | .not a, fr, cs => (asB (ev wd a fr cs)).bind fun b c1 => .ok (.d (.bl (!b))) c1
  | .ife t a b, fr, cs => (asB (ev wd t fr cs)).bind fun x c1 => if x then ev wd a fr c1 else ev wd b fr c1
  | .tup as, fr, cs => (evA wd as fr cs).bind tupW
  | .lst as, fr, cs => (evA wd as fr cs).bind lstW
  | .ix a i, fr, cs => (ev wd a fr cs).bind fun w1 c1 => (ev wd i fr c1).bind fun w2 c2 => wIx w1 w2 c2
  | .sl a lo hi, fr, cs => (ev wd a fr cs).bind fun w1 c1 => (evO wd lo fr c1).bind fun l c2 => (evO wd hi fr c2).bind fun h c3 => wSl w1 l h c3
  | .bi b as, fr, cs => (evA wd as fr cs).bind fun ws c1 => wBi b ws c1
  | .isi a ts _, fr, cs => (ev wd a fr cs).bind fun w c1 => wIsi wd w ts c1
  | .bm m a as, fr, cs => (ev wd a fr cs).bind fun w c1 => if wTy m w c1 then (evA wd as fr c1).bind fun ws c2 => wBm m w ws c2 else .bad
  | .call f p as ks, fr, cs => (evA wd as fr cs).bind fun ws c1 => (evA wd ks fr c1).bind fun zs c2 => match (wd.pat f p).bind fun q => srcs ws zs q.2.2 with
    | some l => callW wd f l c2
    | none => .bad
  | .make c p as ks, fr, cs => (evA wd as fr cs).bind fun ws c1 => (evA wd ks fr c1).bind fun zs c2 => makeW wd c p ws zs c2
  | .lam f t, fr, cs => (wd.phd f (wd.phc t fr) cs).map W.d
  | .fld a f, fr, cs => (ev wd a fr cs).bind fun w c1 => fldW wd w f c1
  | .meth a m as, fr, cs => (ev wd a fr cs).bind fun w c1 => match mthW wd w m c1 with
    | some f => (evA wd as fr c1).bind fun ws c2 => if wd.npar f = ws.length + 1 then callW wd f (w :: ws) c2 else .bad
    | none => .bad
  | .lc elt it conds tg one own, fr, cs => (evI wd it fr cs).bind fun ds c1 => (lcGo (fun fr cs => asB (evAnd wd conds fr cs)) (ev wd elt) tg one (wipeF fr (own.map (·.2))) c1.length ds (c1 ++ [some (.lst [])])).nox.bind fun _ c2 => lcEnd c1.length c2
  | .dct4 k1 k2 k3 k4 a b c d, fr, cs => (ev wd a fr (cs ++ [some (.dct [])])).nox.bind fun w1 c1 => (ev wd b fr c1).nox.bind fun w2 c2 => (ev wd c fr c2).nox.bind fun w3 c3 => (ev wd d fr c3).nox.bind fun w4 c4 => dctE cs.length [k1, k2, k3, k4] [w1, w2, w3, w4] c4
  | .dix a x, fr, cs => (ev wd a fr cs).bind fun w c1 => dixW w x c1
  | .callv i q n as, fr, cs => match fr[i]? with
    | some (some (.d (.fn f))) => if okFn wd f q n then (evA wd as fr cs).bind fun ws c1 => match (wd.pat f q).bind fun t => srcs ws [] t.2.2 with
        | some l => callW wd f l c1
        | none => .bad
      else .bad
    | _ => .bad
  | .lrng a, fr, cs => (asI (ev wd a fr cs)).bind fun i c1 => if small62 i && decide (i ≤ 16777216) then .ok (.d (.lst (rngD 0 i))) c1 else .bad
  | .rep a, fr, cs => (ev wd a fr cs).bind fun w c1 => repW w c1
  | .neg a, fr, cs => (asI (ev wd a fr cs)).bind fun i c1 => .ok (.d (.int (-i))) c1
  | .nil .., _, _ => .bad
  | .cons .., _, _ => .bad
  | .rng1 .., _, _ => .bad
  | .itl .., _, _ => .bad
  | .itt .., _, _ => .bad
  | .zip .., _, _ => .bad
def evA (wd : Wd) : E → Fra → Cells → R (List W)
  | .nil, _, cs => .ok [] cs
  | .cons a as, fr, cs => (ev wd a fr cs).bind fun w c1 => (evA wd as fr c1).bind fun ws c2 => .ok (w :: ws) c2
  | _, _, _ => .bad
def evO (wd : Wd) : E → Fra → Cells → R (Option Int)
  | .nil, _, cs => .ok none cs
  | .cons a .nil, fr, cs => (asI (ev wd a fr cs)).bind fun i c1 => .ok (some i) c1
  | _, _, _ => .bad
def evAnd (wd : Wd) : E → Fra → Cells → R W
  | .nil, _, cs => .ok (.d (.bl true)) cs
  | .cons a as, fr, cs => (asB (ev wd a fr cs)).bind fun b c1 => if b then evAnd wd as fr c1 else .ok (.d (.bl false)) c1
  | _, _, _ => .bad
def evOr (wd : Wd) : E → Fra → Cells → R W
  | .nil, _, cs => .ok (.d (.bl false)) cs
  | .cons a as, fr, cs => (asB (ev wd a fr cs)).bind fun b c1 => if b then .ok (.d (.bl true)) c1 else evOr wd as fr c1
  | _, _, _ => .bad
def evJ (wd : Wd) : E → Str → Fra → Cells → R W
  | .nil, acc, _, cs => .ok (.d (.str acc)) cs
  | .cons a as, acc, fr, cs => (ev wd a fr cs).bind fun w c1 => match w with
    | .d (.str y) => if (acc ++ y).length ≤ lit then evJ wd as (acc ++ y) fr c1 else .bad
    | _ => .bad
  | _, _, _, _ => .bad
def evI (wd : Wd) : E → Fra → Cells → R (List D)
  | .rng1 a, fr, cs => (asI (ev wd a fr cs)).bind fun i c1 => if small62 i then .ok (rngD 0 i) c1 else .bad
  | .itl a, fr, cs => (ev wd a fr cs).bind fun w c1 => match w with
    | .d (.lst xs) => .ok xs c1
    | .d (.flst xs) => .ok xs c1
    | _ => .bad
  | .itt a, fr, cs => (ev wd a fr cs).bind fun w c1 => match w with
    | .d (.tup xs) => .ok xs c1
    | _ => .bad
  | .zip a b, fr, cs => (ev wd a fr cs).bind fun w1 c1 => (ev wd b fr c1).bind fun w2 c2 => zipW w1 w2 c2
  | _, _, _ => .bad
end
end BV
namespace BV
open PySem L2
/-! ### what is true of the written part -/
def tyVal (g : G) : Ty → Value
  | .b n => .type n
  | .c k => .ref (g.ca k)
  | .x k => .ref (g.ca k)
/-- the promise of a def, by value -/
def spOf (g : G) (n : Nat) (m : List W → Cells → R D) : Sp := fun vs H Q E => ∃ ws cs ra, Rel g ra cs H ∧ RepWs g (frz H ra) ra ws vs ∧ ws.length = n ∧ PostR g (fun H' d v => Rep g (frz H' ra) d v) (m ws cs) ra H Q E
def srcV (vs zs : List V) : List Src → List V
  | [] => []
  | .p i :: r => vs.getD i .non :: srcV vs zs r
  | .k i :: r => zs.getD i .non :: srcV vs zs r
  | .d x :: r => (flatV? x).getD .non :: srcV vs zs r
def PostL (g : G) (r : R Unit) (ra : Ra) (H : Hp) (Q : VK) (E : XK) : Prop := match r with
  | .ok _ cs => ∀ H' a, Keep ra H H' → H a = none → Rel g (ra ++ [some a]) cs H' → Q (.ref a) H'
  | .exc c x cs => ∀ H' dd v, Keep ra H H' → Rel g ra cs H' → H' dd = some (.xd [(g.efld c, v)]) → Rep g (frz H' ra) x v → E (.ref (g.ca c)) (some dd) H'
  | .bad => False
def spOfL (g : G) (n : Nat) (m : List W → Cells → R Unit) : Sp := fun vs H Q E => ∃ ws cs ra, Rel g ra cs H ∧ RepWs g (frz H ra) ra ws vs ∧ ws.length = n ∧ PostL g (m ws cs) ra H Q E
/-- a def's promise, with no repr of a container running around it; binding may make objects -/
structure FnG (P : Program) (w : World) (K : PySem.W.Frag) (mg : Str → Option Value) (base : Heap) (CX : CXT) (k : Nat) (f : Addr) (fd : FuncData) (ps : List Str) (sp : Sp) : Prop where
  len : ∀ vs H Q E, sp vs H Q E → vs.length = ps.length
  runB : ∀ (A : Around) (outer : List Env) (s : Shared) (H : Hp) (args : Args) (Q : VK) (E : XK), Room k A → A.guards = some [] → Env0 P w K mg base A outer s H → (∃ vs H2, sp vs H2 Q E) → StX.Bnd CX P w K mg base fd args ps A outer s H E (fun vs H2 => sp vs H2 Q E) →
    codeAny (model P w) A (.call (.ref f) args) (CR CX outer P w H s Q E) s
theorem FnG.run {P : Program} {w : World} {K : PySem.W.Frag} {mg : Str → Option Value} {base : Heap} {CX : CXT} {k : Nat} {f : Addr} {fd : FuncData} {ps : List Str} {sp : Sp} (F : FnG P w K mg base CX k f fd ps sp) :
    ∀ (A : Around) (outer : List Env) (s : Shared) (H : Hp) (args : Args) (us : List Value) (vs : List V) (Q : VK) (E : XK), Room k A → A.guards = some [] → Env0 P w K mg base A outer s H → BindsTo s fd args (ps.zip us) → Vals vs us → sp vs H Q E →
    codeAny (model P w) A (.call (.ref f) args) (CR CX outer P w H s Q E) s := fun A outer s H args us vs Q E hr hg e0 hb r h =>
  F.runB A outer s H args Q E hr hg e0 ⟨vs, H, h⟩ fun A' Ex Q' z => hb _ _ _ _ (z s H vs us e0 Un.refl rfl (fun _ _ y => y) r (F.len _ _ _ _ h) h)
/-- what a call binds of a def with a parameter *rest: n values ahead, those left over as a new tuple, which is the last one of the named values -/
structure KBv (K : PySem.W.Frag) (fd : FuncData) (ps : List Str) (n : Nat) (ks : List Str) (gg : List Value → List Value → List Value) (gV : List V → List V → List V) : Prop where
  to : ∀ (s : Shared) (us ws : List Value), K.In s.heap → n ≤ us.length → ws.length = ks.length → ∀ (M : Model) (A : Around) (E : Value → Shared → Prop) (Q : List (Str × Value) → Shared → Prop),
    wpAny M A (newTuple (us.drop n)) (fun t s' => Q (ps.zip (gg us (ws ++ [t]))) s') E s → wpAny M A (bindArgs fd ⟨us, ks.zip ws⟩) Q E s
  rel : ∀ {vs : List V} {us : List Value} {zs : List V} {ws : List Value}, Vals vs us → Vals zs ws → Vals (gV vs zs) (gg us ws)
structure Okx (g : G) (N : List Str) (sc : Scope) (ac : Bool) (k : Nat) (X : Cx) (Wx : WX) : Prop where
  P : X.prog = g.P
  w : X.w = g.w
  K : X.K = g.K
  mg : X.mg = g.mg
  base : X.base = g.base
  hN : X.N = N
  nd : List.Nodup N
  calm : X.calm = true
  sc : X.env.scope = sc
  fn : ac = true → ∀ x, X.env.scope.names.lookup x = some .cell → X.fn x = true
  hr : Room (k + 2) X.A
  tk : Takes X Wx
  gd : X.A.guards = some []
  lam : X.env.scope ∈ g.lams → ∃ c P, X.env.code = .ref c ∧ LamX.TabB X.base X.mg c P ∧ (P, X.env.qual ++ "<lambda>") ∈ g.T ∧ ∀ p ∈ g.T, p.1 = P → p.2 = X.env.qual ++ "<lambda>"
  top : ac = true → X.stack = X.env :: X.outer ∧ X.env.frame = some X.env.locals ∧ X.ex = []
/-! ### the checker: does a written expression say what the term says -/
def notSliceB : Expr → Bool
  | .Slice _ _ _ _ => false
  | _ => true
def notSt : Expr → Bool
  | .Starred _ _ => false
  | _ => true
def notSet : Expr → Bool
  | .Set _ _ _ => false
  | _ => true
def notSup : Expr → Bool
  | .Call (.Name _ _) [] [] _ => false
  | _ => true
def visB (sc : Scope) (x : Str) : Bool := match sc.names.lookup x with
  | some .local => true | some .cell => true | some .free => true | _ => false
def glB (sc : Scope) (x : Str) : Bool := decide (sc.names.lookup x = some .globalImplicit)
def nodbg (x : Str) : Bool := !(x == ("__debug__" : Str)) && !(x == ("__classdict__" : Str))
def locB (sc : Scope) (ac : Bool) (x : Str) : Bool := match sc.names.lookup x with
  | some .local => true | some .cell => ac | _ => false
def chkNm (N : List Str) (sc : Scope) (ac : Bool) (i : Nat) : Expr → Bool
  | .Name x _ => decide (N[i]? = some x) && locB sc ac x
  | _ => false
def chkTgs (N : List Str) (sc : Scope) (ac : Bool) : List Nat → List Expr → Bool
  | [], [] => true
  | i :: is, e :: es => chkNm N sc ac i e && chkTgs N sc ac is es
  | _, _ => false
def chkTg (N : List Str) (sc : Scope) (ac : Bool) (tg : List Nat) (one : Bool) (e : Expr) : Bool := match one, tg, e with
  | true, [i], e => chkNm N sc ac i e
  | false, is, .Tuple es _ _ => chkTgs N sc ac is es
  | _, _, _ => false
def isTupE : Expr → Bool
  | .Tuple _ _ _ => true
  | _ => false
def chkTy (wd : Ws) (sc : Scope) : Ty → Expr → Bool
  | .b n, .Name x _ => (n == "int" || n == "str" || n == "bool" || n == "tuple" || n == "list") && decide (x = Str.ofString n) && glB sc x && nodbg x
  | .c k, .Name x _ => decide (wd.cnm k = some x) && glB sc x && nodbg x
  | _, _ => false
def chkTys (wd : Ws) (sc : Scope) : List Ty → List Expr → Bool
  | [], [] => true
  | t :: ts, e :: es => chkTy wd sc t e && chkTys wd sc ts es
  | _, _ => false
def tOK : E → Bool
  | .ife _ _ _ => false
  | _ => true
def tOKs : E → Bool
  | .nil => true
  | .cons a as => tOK a && tOKs as
  | _ => false
/-- a list comprehension's block that makes no lambda -/
def blkL (l : List Scope) (N : List Str) (sc scope : Scope) (own : List (Str × Nat)) : Bool := blkC N sc scope own && !decide (relS scope sc ∈ l)
theorem blkL_and {l : List Scope} {N : List Str} {sc scope : Scope} {own : List (Str × Nat)} (h : blkL l N sc scope own = true) : blkC N sc scope own = true ∧ relS scope sc ∉ l := by
  unfold blkL at h
  simp only [Bool.and_eq_true, Bool.not_eq_true', decide_eq_false_iff_not] at h
  exact h
/-- a lambda without parameters -/
def lamP (p : Arguments) : Bool := p.posonlyargs.isEmpty && p.args.isEmpty && p.vararg.isNone && p.kwonlyargs.isEmpty && p.kwarg.isNone && p.defaults.isEmpty && p.kw_defaults.isEmpty
mutual
def chk (wd : Ws) (N : List Str) (sc : Scope) : E → Expr → Bool
  | .var i, ex => match ex with
    | .Name x _ => decide (N[i]? = some x) && visB sc x && nodbg x
    | _ => false
  | .cst d, ex => match d, ex with
    | .int i, .Constant (.int j) _ _ => decide (i = j)
    | .str i, .Constant (.str j) _ _ => decide (i = j)
    | .bl i, .Constant (.bool j) _ _ => decide (i = j)
    | .non, .Constant .none _ _ => true
    | _, _ => false
  | .dct0, ex => match ex with
    | .Dict [] [] _ => true
    | _ => false
  | .gv y, ex => match ex with
    | .Name x _ => decide (y = x) && glB sc x && nodbg x
    | _ => false
  | .op o a b, ex => match ex with
    | .BinOp l o' r _ => decide (o = o') && chk wd N sc a l && chk wd N sc b r
    | _ => false
  | .cmp o a b, ex => match ex with
    | .Compare l [o'] [r] _ => decide (o = o') && chk wd N sc a l && chk wd N sc b r
    | _ => false
  | .chain o o2 a b c, ex => match ex with
    | .Compare l [o', o2'] [r, r2] _ => decide (o = o') && decide (o2 = o2') && chk wd N sc a l && chk wd N sc b r && chk wd N sc c r2
    | _ => false
  | .and as, ex => match ex with
    | .BoolOp .And es _ => !es.isEmpty && tOKs as && chkA wd N sc as es
    | _ => false
  | .or as, ex => match ex with
    | .BoolOp .Or es _ => !es.isEmpty && tOKs as && chkA wd N sc as es
    | _ => false
  | .not a, ex => match ex with
    | .UnaryOp .Not e _ => tOK a && chk wd N sc a e
    | _ => false
  | .ife t a b, ex => match ex with
    | .IfExp c e f _ => tOK t && chk wd N sc t c && chk wd N sc a e && chk wd N sc b f
    | _ => false
  | .tup as, ex => match ex with
    | .Tuple es _ _ => chkA wd N sc as es
    | _ => false
  | .lst as, ex => match ex with
    | .List es _ => chkA wd N sc as es
    | _ => false
  | .ix a i, ex => match ex with
    | .Subscript e j _ => notSliceB j && chk wd N sc a e && chk wd N sc i j
    | _ => false
  | .sl a lo hi, ex => match ex with
    | .Subscript e (.Slice l h none _) _ => chk wd N sc a e && chkO wd N sc lo l && chkO wd N sc hi h
    | _ => false
  | .bi b as, ex => match ex with
    | .Call (.Name x _) es [] _ => decide (x = b.name) && glB sc x && nodbg x && !es.isEmpty && chkA wd N sc as es
    | _ => false
  | .isi a us kk, ex => match us, kk, ex with
    | ts, true, .Call (.Name x _) [e, .Tuple es _ _] [] _ => decide (x = "isinstance") && glB sc x && decide (ts ≠ []) && decide (ts.length ≤ 100) && chk wd N sc a e && chkTys wd sc ts es
    | [t], false, .Call (.Name x _) [e, f] [] _ => decide (x = "isinstance") && glB sc x && chk wd N sc a e && chkTy wd sc t f
    | _, _, _ => false
  | .bm m a as, ex => match ex with
    | .Call (.Attribute o x ap) es [] p => decide (x = m.name) && notSup o && (ap.endLine == p.line) && decide (es.length < 20) && chk wd N sc a o && chkA wd N sc as es
    | _ => false
  | .call f p as ks, ex => match ex with
    | .Call (.Name x _) es kws _ => decide (wd.fnm f = some x) && glB sc x && nodbg x && (match wd.pat f p with
        | some (n, nms, _) => decide (es.length = n) && decide (kws.map (·.arg) = nms.map some) && chkA wd N sc as es && chkK wd N sc ks kws
        | none => false)
    | _ => false
  | .make c p as ks, ex => match ex with
    | .Call (.Name x _) es kws _ => decide (wd.cnm c = some x) && glB sc x && nodbg x && (match wd.init c with
        | some f => (match wd.pat f p with
          | some (n, nms, _) => decide (es.length + 1 = n) && decide (kws.map (·.arg) = nms.map some) && chkA wd N sc as es && chkK wd N sc ks kws
          | none => false)
        | none => false)
    | _ => false
  | .lam f t, ex => match ex with
    | .Call (.Name x _) [.Lambda params body scope _] [] _ => decide (wd.fnm f = some x) && glB sc x && nodbg x && lamP params && LamX.lamSB sc scope && decide (sc ∈ wd.lams) && !decide (scope ∈ wd.lams) && chk wd N scope t body
    | _ => false
  | .fld a f, ex => match ex with
    | .Attribute o x _ => decide (f = x) && notSup o && chk wd N sc a o
    | _ => false
  | .meth a m as, ex => match ex with
    | .Call (.Attribute o x ap) es [] p => decide (x = m) && notSup o && (ap.endLine == p.line) && decide (es.length < 20) && chk wd N sc a o && chkA wd N sc as es
    | _ => false
  | .lc elt it conds tg one own, ex => match ex with
    | .ListComp ee [⟨te, ie, ifs, 0⟩] scope _ => chkI wd N sc it ie te && blkL wd.lams N sc scope own && decide (ifs.length ≤ 1) && tOKs conds && chk wd N (relS scope sc) elt ee && chkA wd N (relS scope sc) conds ifs && chkTg N (relS scope sc) false tg one te &&
        tg.all (fun i => (own.map (·.2)).contains i)
    | _ => false
  | .dct4 k1 k2 k3 k4 a b c d, ex => match ex with
    | .Dict [some (.Constant (.str x1) _ _), some (.Constant (.str x2) _ _), some (.Constant (.str x3) _ _), some (.Constant (.str x4) _ _)] [e1, e2, e3, e4] _ => decide (x1 = k1) && decide (x2 = k2) && decide (x3 = k3) && decide (x4 = k4) && decide ([k1, k2, k3, k4].Nodup) && chk wd N sc a e1 && chk wd N sc b e2 && chk wd N sc c e3 && chk wd N sc d e4
    | _ => false
  | .dix a x, ex => match ex with
    | .Subscript e (.Constant (.str y) _ _) _ => decide (y = x) && chk wd N sc a e
    | _ => false
  | .callv i _ n as, ex => match ex with
    | .Call (.Name x _) (e :: es) [] _ => decide (N[i]? = some x) && visB sc x && nodbg x && decide ((e :: es).length = n) && chkA wd N sc as (e :: es)
    | _ => false
  | .lrng a, ex => match ex with
    | .Call (.Name y _) [.Call (.Name x _) [e] [] _] [] _ => decide (y = "list") && decide (x = "range") && glB sc y && glB sc x && notSt e && chk wd N sc a e
    | _ => false
  | .rep a, ex => match ex with
    | .Call (.Name x _) [e] [] _ => decide (x = "repr") && glB sc x && notSt e && chk wd N sc a e
    | _ => false
  | .neg a, ex => match ex with
    | .UnaryOp .USub e _ => chk wd N sc a e
    | _ => false
  | .nil .., _ => false
  | .cons .., _ => false
  | .rng1 .., _ => false
  | .itl .., _ => false
  | .itt .., _ => false
  | .zip .., _ => false
def chkA (wd : Ws) (N : List Str) (sc : Scope) : E → List Expr → Bool
  | .nil, [] => true
  | .cons a as, e :: es => notSt e && chk wd N sc a e && chkA wd N sc as es
  | _, _ => false
def chkK (wd : Ws) (N : List Str) (sc : Scope) : E → List Keyword → Bool
  | .nil, [] => true
  | .cons a as, k :: ks => k.arg.isSome && chk wd N sc a k.value && chkK wd N sc as ks
  | _, _ => false
def chkO (wd : Ws) (N : List Str) (sc : Scope) : E → Option Expr → Bool
  | .nil, none => true
  | .cons a .nil, some e => chk wd N sc a e
  | _, _ => false
def chkI (wd : Ws) (N : List Str) (sc : Scope) : E → Expr → Expr → Bool
  | .rng1 a, ex, _ => match ex with
    | .Call (.Name x _) [e] [] _ => decide (x = "range") && glB sc x && notSt e && chk wd N sc a e
    | _ => false
  | .itl a, e, _ => notSet e && chk wd N sc a e
  | .itt a, e, _ => notSet e && chk wd N sc a e
  | .zip a b, ex, t => match ex with
    | .Call (.Name x _) [e, f] [] _ => decide (x = "zip") && glB sc x && notSt e && notSt f && chk wd N sc a e && chk wd N sc b f && isTupE t
    | _ => false
  | .var .., _, _ => false
  | .cst .., _, _ => false
  | .gv .., _, _ => false
  | .op .., _, _ => false
  | .cmp .., _, _ => false
  | .chain .., _, _ => false
  | .and .., _, _ => false
  | .or .., _, _ => false
  | .not .., _, _ => false
  | .ife .., _, _ => false
  | .nil .., _, _ => false
  | .cons .., _, _ => false
  | .tup .., _, _ => false
  | .lst .., _, _ => false
  | .ix .., _, _ => false
  | .sl .., _, _ => false
  | .bi .., _, _ => false
  | .isi .., _, _ => false
  | .bm .., _, _ => false
  | .call .., _, _ => false
  | .make .., _, _ => false
  | .fld .., _, _ => false
  | .meth .., _, _ => false
  | .lc .., _, _ => false
  | .neg .., _, _ => false
  | .rep .., _, _ => false
  | .lam .., _, _ => false
  | .dct0 .., _, _ => false
  | .dct4 .., _, _ => false
  | .dix .., _, _ => false
  | .callv .., _, _ => false
  | .lrng .., _, _ => false
end
structure Fx (g : G) (wd : Wd) (k : Nat) : Prop where
  fn : ∀ f, FnG g.P g.w g.K g.mg g.base (L2.CX g.P g.w) k (g.fa f) (g.fd f) (g.ps f) (spOf g (g.ps f).length (wd.phi f))
  fnl : ∀ f, FnG g.P g.w g.K g.mg g.base (L2.CX g.P g.w) k (g.fa f) (g.fd f) (g.ps f) (spOfL g (g.ps f).length (wd.phl f))
  nm : ∀ f x, wd.fnm f = some x → g.mg x = some (.ref (g.fa f)) ∧ PySem.W.keepIn g.K (.ref (g.fa f)) = true
  pat : ∀ f p n ks pm, wd.pat f p = some (n, ks, pm) → (∀ x, Src.d x ∈ pm → (flatV? x).isSome = true) ∧ pm.length = (g.ps f).length ∧ ∃ gg, KBn g.K (g.fd f) (g.ps f) n ks gg fun vs zs => srcV vs zs pm
  npar : ∀ f, wd.npar f = (g.ps f).length
  gd : ∀ x d, wd.gd x = some d → ∃ u v, g.mg x = some u ∧ RelV v u ∧ ∀ F, Rep g F d v
  bi : ∀ b : Bi, g.mg b.name = none
  bx : g.mg "range" = none ∧ g.mg "enumerate" = none ∧ g.mg "zip" = none ∧ g.mg "isinstance" = none
  br : g.mg "repr" = none
  bt : g.mg "int" = none ∧ g.mg "str" = none ∧ g.mg "bool" = none ∧ g.mg "tuple" = none ∧ g.mg "list" = none
  cnm : ∀ c x, wd.cnm c = some x → g.mg x = some (.ref (g.ca c))
  mk_ : ∀ c f, wd.init c = some f → Mk g.K (g.ca c) (g.fa f)
  fld : ∀ c f, wd.fldk c f = true → Cls g.K (g.ca c) ∧ NoAttr g.K (g.ca c) f
  meth : ∀ c m f, wd.meth c m = some f → Cls g.K (g.ca c) ∧ Meth g.K (g.ca c) m (g.fa f) ∧ Binds g.K (g.fd f) (g.ps f) []
  sup : ∀ d c m f, wd.sup d c m = some f → PySem.W.mroIn g.K (g.ca c) (.ref (g.ca d)) = some true ∧ PySem.W.ks_superIn g.K (g.ca c) (g.ca d) m = some (some (.ref (g.fa f))) ∧ PySem.W.typeIn g.K (.ref (g.fa f)) = some (.type "function") ∧ PySem.W.fnIn g.K (g.fa f) = true ∧ Binds g.K (g.fd f) (g.ps f) []
  prop : ∀ c m f, wd.prop c m = some f → Cls g.K (g.ca c) ∧ (∃ p, PropOf g.K (g.ca c) m p (g.fa f)) ∧ (g.ps f).length = 1 ∧ Binds g.K (g.fd f) (g.ps f) []
  kit : ∀ t u b, wd.kit t u = some b → PySem.W.kitOne g.K (tyVal g t) (tyVal g u) = some b
  kitc : ∀ c u b, wd.kit (.c c) u = some b → Cls g.K (g.ca c) ∧ PySem.W.findIn g.K (.ref (g.ca c)) "__class__" = some (some (.builtin "object.__class__")) ∧
    PySem.W.specialIn g.K (.builtin "object.__class__") "__get__" = some (some (.builtin "getset_descriptor.__get__")) ∧ PySem.W.takesIn g.K (.builtin "object.__class__") = some true ∧ PySem.W.mroIn g.K (g.ca c) (.type "object") = some true
  kitx : ∀ c u b, wd.kit (.x c) u = some b → ExcC g.K (g.ca c)
  exk : ∀ c x p, wd.exk c = some (x, p) → p = g.efld c ∧ g.mg x = some (.ref (g.ca c)) ∧ PySem.W.keepIn g.K (.ref (g.ca c)) = true ∧ MkX g.P g.w g.K g.mg (g.ca c) p ∧ PySem.W.typeIn g.K (.ref (g.ca c)) = some (.type "type") ∧ ExcC g.K (g.ca c) ∧ PySem.W.findIn g.K (.ref (g.ca c)) p = some none
  lams : wd.lams = g.lams
  oeq : ∀ c t f, wd.oeq c t = some f → PySem.W.findIn g.K (.ref (g.ca c)) "__eq__" = some (some (.ref (g.fa f))) ∧ PySem.W.isFn g.K (.ref (g.fa f)) = true ∧ Binds g.K (g.fd f) (g.ps f) [] ∧ (g.ps f).length = 2 ∧ PySem.W.notFirst g.K (g.ca c) (tyVal g t) = true
  one : ∀ c t f, wd.one c t = some f → (PySem.W.findIn g.K (.ref (g.ca c)) "__eq__" = some (some (.ref (g.fa f))) ∧ PySem.W.isFn g.K (.ref (g.fa f)) = true ∧ Binds g.K (g.fd f) (g.ps f) [] ∧ (g.ps f).length = 2 ∧ PySem.W.notFirst g.K (g.ca c) (tyVal g t) = true) ∧ PySem.W.findIn g.K (.ref (g.ca c)) "__ne__" = some (some (.builtin "object.__ne__")) ∧ PySem.W.subIn g.K (.ref (g.ca c)) (.type "object") = some true
  cmt : ∀ c m f, wd.cmt c m = some f → ∃ mc p, ClX.CRead g.K (g.ca c) mc ∧ ClX.CMet g.K (g.ca c) mc m p (g.fa f)
  patv : ∀ f p n ks pm, wd.patv f p = some (n, ks, pm) → (∀ x, Src.d x ∈ pm → (flatV? x).isSome = true) ∧ pm.length = (g.ps f).length ∧ ∃ gg, KBv g.K (g.fd f) (g.ps f) n ks gg fun vs zs => srcV vs zs pm
  oin : ∀ c f, wd.oin c = some f → PySem.W.findIn g.K (.ref (g.ca c)) "__contains__" = some (some (.ref (g.fa f))) ∧ PySem.W.isFn g.K (.ref (g.fa f)) = true ∧ Binds g.K (g.fd f) (g.ps f) [] ∧ (g.ps f).length = 2
  exm : ∀ ks c b, wd.exm ks c = some b → PySem.W.exmAny g.K (.ref (g.ca c)) (ks.map fun k => .ref (g.ca k)) = some b
  fnd : ∀ f, FnD g g.P g.w g.K g.mg g.base (k + 1) f (wd.phd f)
  lamk : (∃ kk, kk + 3 = k) ∨ ∀ f th cs, wd.phd f th cs = .bad
  lamr : ∀ {t : E} {N : List Str} {scope : Scope} {body : Expr} {X : Cx} {Wx : WX} {kk : Nat}, kk + 3 = k → chk wd N scope t body = true → Okx g N scope false kk X Wx → PE X body (tE g Wx fun fr cs => (wd.phc t fr cs).map W.d)
/-! ### side conditions -/
theorem star_of {e : Expr} {es : List Expr} {env : Env} (h : notSt e = true) : starEach (e :: es) env = (false, eval e env) :: starEach es env := by
  cases e <;> first | rfl | cases h
theorem base_of {o : Expr} {a : Str} {env : Env} {w : Sem Value} (h : notSup o = true) : attributeBase o a env w = w := by
  unfold attributeBase
  split
  · cases h
  · rfl
theorem fold_of {e : Expr} {env : Env} (h : notSet e = true) (x : Value) : foldedSetIterable e env x = pure x := by
  cases e <;> first | rfl | cases h
theorem mark_of {e : Expr} {o : CmpOp} (h : notSet e = true) : behindInMarks o e = false := by
  cases e <;> first | rfl | cases h
theorem vis_of {sc : Scope} {x : Str} (h : visB sc x = true) : Vis sc x := by
  unfold visB at h
  split at h
  · exact .inl (by assumption)
  · exact .inr (.inl (by assumption))
  · exact .inr (.inr (by assumption))
  · cases h
theorem chk_set {wd : Ws} {N : List Str} {sc : Scope} {e : E} {a b c} : chk wd N sc e (.Set a b c) = false := by
  cases e <;> first | rfl | (rename_i d; cases d <;> rfl) | (rename_i a ts m; cases m <;> rcases ts with _ | ⟨t, _ | ⟨_, _⟩⟩ <;> rfl) | (simp only [chk]; done) | (simp only [chk]; split <;> simp_all)
theorem chk_star {wd : Ws} {N : List Str} {sc : Scope} {e : E} {a b} : chk wd N sc e (.Starred a b) = false := by
  cases e <;> first | rfl | (rename_i d; cases d <;> rfl) | (rename_i a ts m; cases m <;> rcases ts with _ | ⟨t, _ | ⟨_, _⟩⟩ <;> rfl) | (simp only [chk]; done) | (simp only [chk]; split <;> simp_all)
theorem chk_notSet {wd : Ws} {N : List Str} {sc : Scope} {e : E} {x : Expr} (h : chk wd N sc e x = true) : notSet x = true := by
  cases x <;> first | rfl | (rw [chk_set] at h; cases h)
theorem chk_notSt {wd : Ws} {N : List Str} {sc : Scope} {e : E} {x : Expr} (h : chk wd N sc e x = true) : notSt x = true := by
  cases x <;> first | rfl | (rw [chk_star] at h; cases h)
end BV
namespace BV
open PySem L2
theorem PE.eqf {g : G} {Wx : WX} {X : Cx} {ex : Expr} {f f' : Fra → Cells → R W} (e : ∀ fr cs, f fr cs = f' fr cs) (h : PE X ex (tE g Wx f)) : PE X ex (tE g Wx f') := by
  have : f = f' := funext fun a => funext fun b => e a b
  rw [← this]
  exact h
theorem PT.eqf {g : G} {Wx : WX} {X : Cx} {ex : Expr} {f f' : Fra → Cells → R Bool} (e : ∀ fr cs, f fr cs = f' fr cs) (h : PT X ex (tT g Wx f)) : PT X ex (tT g Wx f') := by
  have : f = f' := funext fun a => funext fun b => e a b
  rw [← this]
  exact h
theorem PA.eqf {g : G} {Wx : WX} {X : Cx} {ex : List Expr} {f f' : Fra → Cells → R (List W)} (e : ∀ fr cs, f fr cs = f' fr cs) (h : PA X ex (tA g Wx f)) : PA X ex (tA g Wx f') := by
  have : f = f' := funext fun a => funext fun b => e a b
  rw [← this]
  exact h
/-- a bool's value as a test -/
theorem asB_post {g : G} {ra : Ra} {H : Hp} {Q : Bool → Hp → Prop} {E : XK} {r : R W} (h : PostR g (fun _ (a b : Bool) => a = b) (asB r) ra H Q E) : PostR g (rpW g ra) r ra H (fun x H' => ∃ k, x = .bl k ∧ Q k H') E := by
  refine PostR.imp (PostR.bind (rp := rpW g ra) h) ?_
  rintro x H1 ⟨w1, c1, k1, R1, r1, p1⟩
  split at p1
  · cases r1
    exact ⟨_, rfl, p1 H1 _ (Keep.refl _ _) R1 rfl⟩
  · exact p1.elim
theorem c_test {g : G} {Wx : WX} {X : Cx} {ex : Expr} {f : Fra → Cells → R W} (h : PE X ex (tE g Wx f)) (he : ∀ whole, isTrue ex X.env whole = (do let v ← whole; standAt ex.pos; holding [v] (truthy v))) : PT X ex (tT g Wx fun fr cs => asB (f fr cs)) :=
  PT.imp (pt_val h he) fun σ H Q ⟨fr, cs, ra, R, F, p⟩ => ⟨fr, cs, ra, R, F, asB_post p⟩
section
variable {g : G} {wd : Wd} {N : List Str} {sc : Scope} {ac : Bool} {k : Nat} {X : Cx} {Wx : WX} {fa fb fc : Fra → Cells → R W} {fl fm : Fra → Cells → R (List W)} {l r e : Expr} {es : List Expr} {p : Pos}
theorem c_var (ok : Okx g N sc ac k X Wx) {i : Nat} {x : Str} (h1 : N[i]? = some x) (h2 : visB sc x = true) (h3 : nodbg x = true) : PE X (.Name x p) (tE g Wx fun fr cs => match fr[i]? with
    | some (some w) => .ok w cs
    | _ => .bad) := by
  unfold nodbg at h3
  simp only [Bool.and_eq_true, Bool.not_eq_true'] at h3
  refine PE.imp (pe_var (i := i) (by rw [ok.hN]; exact h1) (by rw [ok.sc]; exact vis_of h2) h3.1 h3.2) fun σ H Q h => ?_
  obtain ⟨fr, cs, ra, R, F, q⟩ := h
  dsimp only at q
  split at q
  · rename_i w e
    obtain ⟨v, e1, r1⟩ := F.2 i w e
    exact ⟨v, e1, q H v (Keep.refl _ _) R r1⟩
  · exact q.elim
theorem c_dct0 {pos : Pos} : PE X (.Dict [] [] pos) (tE g Wx fun _ cs => .ok (.d (.dct [])) cs) := PE.imp pe_dnewK fun σ H Q h => by
  obtain ⟨fr, cs, ra, R, F, p⟩ := h
  intro a ha
  obtain ⟨k, R', e⟩ := R.new (o := .dK []) ha
  exact p _ _ k R' (.dct (vs := []) e .nil)
theorem c_cst {d : D} {v : V} (hr : ∀ F, Rep g F d v) (h : PE X e (tC v)) : PE X e (tE g Wx fun _ cs => .ok (.d d) cs) := PE.imp h fun σ H Q h => by
  obtain ⟨fr, cs, ra, R, F, q⟩ := h
  exact q H v (Keep.refl _ _) R (hr _)
theorem c_op {o : Operator} (ok : Okx g N sc ac k X Wx) (ha : PE X l (tE g Wx fa)) (hb : PE X r (tE g Wx fb)) : PE X (.BinOp l o r p) (tE g Wx fun fr cs => (fa fr cs).bind fun w1 c1 => (fb fr c1).bind fun w2 c2 => wOp o w1 w2 c2) :=
  PE.imp (pe_op (op_all o) ha hb) fun σ H Q h => tE_bin (fun R r1 r2 h => by rw [ok.K]; exact wOp_ok R r1 r2 h) h
theorem Okx.units (ok : Okx g N sc ac k X Wx) : X.A.units + 65 < cLine := by
  have := ok.hr.un
  omega
theorem c_cmp {o : CmpOp} (ok : Okx g N sc ac k X Wx) (ha : PE X l (tE g Wx fa)) (hb : PE X r (tE g Wx fb)) (hs : notSet r = true) : PE X (.Compare l [o] [r] p) (tE g Wx fun fr cs => (fa fr cs).bind fun w1 c1 => (fb fr c1).bind fun w2 c2 => wCmp o w1 w2 c2) :=
  PE.imp (pe_cmpR (op_cmp ok.units o) ha hb (mark_of hs)) fun σ H Q h => tE_bin (fun R r1 r2 h => by rw [ok.K]; exact wCmp_ok R r1 r2 h) h
/-- a value that is a bool -/
theorem tT_bin {op : W → W → Cells → R W} {r : R2}
    (hop : ∀ {w1 w2 : W} {cs : Cells} {ra : Ra} {H : Hp} {Q : VK} {E : XK} {v1 v2 : V}, Rel g ra cs H → RepW g (frz H ra) ra w1 v1 → RepW g (frz H ra) ra w2 v2 → PostR g (rpW g ra) (op w1 w2 cs) ra H Q E → r v1 v2 H Q)
    {σ : L2.St} {H : Hp} {Q : Bool → Hp → Prop} (h : tT g Wx (fun fr cs => asB ((fa fr cs).bind fun w1 c1 => (fb fr c1).bind fun w2 c2 => op w1 w2 c2)) σ H Q) : tTest (tOp r (tE g Wx fa) (tE g Wx fb)) σ H Q := by
  obtain ⟨fr, cs, ra, R, F, q⟩ := h
  exact tE_bin hop ⟨fr, cs, ra, R, F, asB_post q⟩
theorem c_cmpT {o : CmpOp} (ok : Okx g N sc ac k X Wx) (ha : PE X l (tE g Wx fa)) (hb : PE X r (tE g Wx fb)) (hs : notSet r = true) : PT X (.Compare l [o] [r] p) (tT g Wx fun fr cs => asB ((fa fr cs).bind fun w1 c1 => (fb fr c1).bind fun w2 c2 => wCmp o w1 w2 c2)) :=
  PT.imp (pt_cmpR (op_cmp ok.units o) ha hb (mark_of hs)) fun σ H Q h => tT_bin (fun R r1 r2 h => by rw [ok.K]; exact wCmp_ok R r1 r2 h) h
theorem chain_post {o o2 : CmpOp} {σ : L2.St} {H : Hp} {Q : VK} (K : X.K = g.K) (h : tE g Wx (fun fr cs => (fa fr cs).bind fun w1 c1 => (fb fr c1).bind fun w2 c2 => (asB (wCmp o w1 w2 c2)).bind fun t c3 => if t then (fc fr c3).bind fun w3 c4 => wCmp o2 w2 w3 c4 else .ok (.d (.bl false)) c3) σ H Q) :
    tChain (rCmp X.K o) (rCmp X.K o2) (tE g Wx fa) (tE g Wx fb) (tE g Wx fc) σ H Q := by
  obtain ⟨fr, cs, ra, R, F, q⟩ := h
  rw [K]
  refine ⟨fr, cs, ra, R, F, PostR.imp (PostR.bind (rp := rpW g ra) q) ?_⟩
  rintro x H1 ⟨w1, c1, k1, R1, r1, p1⟩
  refine ⟨fr, c1, ra, R1, F.mono k1, PostR.imp (PostR.bind (rp := rpW g ra) p1) ?_⟩
  rintro y H2 ⟨w2, c2, k2, R2, r2, p2⟩
  refine wCmp_ok R2 (r1.mono k2.same) r2 (PostR.imp (asB_post (PostR.bind (rp := fun _ (a b : Bool) => a = b) p2)) ?_)
  rintro z H3 ⟨t, rfl, t', c3, k3, R3, rfl, p3⟩
  refine ⟨t', rfl, ?_⟩
  cases t' with
  | false => exact p3 H3 _ (Keep.refl _ _) R3 (.bl _)
  | true =>
    rw [if_pos rfl] at p3 ⊢
    refine ⟨fr, c3, ra, R3, (F.mono k1).mono (k2.trans k3), PostR.imp (PostR.bind (rp := rpW g ra) p3) ?_⟩
    rintro u H4 ⟨w3, c4, k4, R4, r4, p4⟩
    exact wCmp_ok R4 (r2.mono (k3.trans k4).same) r4 p4
theorem last_of {o o2 : CmpOp} {b c : Expr} (h : notSet c = true) : lastMarks [o, o2] [b, c] = false := by
  show behindInMarks o2 c = false
  exact mark_of h
theorem c_chain {o o2 : CmpOp} {e2 : Expr} (ok : Okx g N sc ac k X Wx) (ha : PE X l (tE g Wx fa)) (hb : PE X r (tE g Wx fb)) (hc : PE X e2 (tE g Wx fc)) (hs : notSet e2 = true) :
    PE X (.Compare l [o, o2] [r, e2] p) (tE g Wx fun fr cs => (fa fr cs).bind fun w1 c1 => (fb fr c1).bind fun w2 c2 => (asB (wCmp o w1 w2 c2)).bind fun t c3 => if t then (fc fr c3).bind fun w3 c4 => wCmp o2 w2 w3 c4 else .ok (.d (.bl false)) c3) :=
  PE.imp (pe_chain (op_cmp ok.units o) (op_cmp ok.units o2) ha hb hc (last_of hs)) fun σ H Q h => chain_post ok.K h
theorem c_chainT {o o2 : CmpOp} {e2 : Expr} (ok : Okx g N sc ac k X Wx) (ha : PE X l (tE g Wx fa)) (hb : PE X r (tE g Wx fb)) (hc : PE X e2 (tE g Wx fc)) (hs : notSet e2 = true) :
    PT X (.Compare l [o, o2] [r, e2] p) (tT g Wx fun fr cs => asB ((fa fr cs).bind fun w1 c1 => (fb fr c1).bind fun w2 c2 => (asB (wCmp o w1 w2 c2)).bind fun t c3 => if t then (fc fr c3).bind fun w3 c4 => wCmp o2 w2 w3 c4 else .ok (.d (.bl false)) c3)) :=
  PT.imp (pt_chain (op_cmp ok.units o) (op_cmp ok.units o2) ha hb hc (last_of hs)) fun σ H Q ⟨fr, cs, ra, R, F, q⟩ => chain_post ok.K ⟨fr, cs, ra, R, F, asB_post q⟩
theorem c_notT {fb : Fra → Cells → R Bool} (h : PT X e (tT g Wx fb)) : PT X (.UnaryOp .Not e p) (tT g Wx fun fr cs => asB ((fb fr cs).bind fun b c1 => .ok (.d (.bl (!b))) c1)) := PT.imp (pt_not h) fun σ H Q ⟨fr, cs, ra, R, F, q⟩ => by
  refine ⟨fr, cs, ra, R, F, PostR.imp (PostR.bind (rp := fun _ (a b : Bool) => a = b) (asB_post q)) ?_⟩
  rintro b H1 ⟨b', c1, k1, R1, rfl, p1⟩
  obtain ⟨z, e1, q1⟩ := p1 H1 _ (Keep.refl _ _) R1 (.bl _)
  cases e1
  exact q1
theorem c_not (h : PE X e (tE g Wx fa)) : PE X (.UnaryOp .Not e p) (tE g Wx fun fr cs => (asB (fa fr cs)).bind fun b c1 => .ok (.d (.bl (!b))) c1) := PE.imp (pe_not h) fun σ H Q ⟨fr, cs, ra, R, F, q⟩ => by
  refine ⟨fr, cs, ra, R, F, PostR.imp (asB_post (PostR.bind (rp := fun _ (a b : Bool) => a = b) q)) ?_⟩
  rintro x H1 ⟨b, rfl, b', c1, k1, R1, rfl, p1⟩
  exact ⟨_, rfl, p1 H1 _ (Keep.refl _ _) R1 (.bl _)⟩
theorem c_ife {ft : Fra → Cells → R Bool} {c : Expr} (ht : PT X c (tT g Wx ft)) (ha : PE X l (tE g Wx fa)) (hb : PE X r (tE g Wx fb)) : PE X (.IfExp c l r p) (tE g Wx fun fr cs => (ft fr cs).bind fun x c1 => if x then fa fr c1 else fb fr c1) := PE.imp (pe_ifExp ht ha hb) fun σ H Q ⟨fr, cs, ra, R, F, q⟩ => by
  refine ⟨fr, cs, ra, R, F, PostR.imp (PostR.bind (rp := fun _ (a b : Bool) => a = b) q) ?_⟩
  rintro b H1 ⟨b', c1, k1, R1, rfl, p1⟩
  cases b' with
  | true => exact ⟨fr, c1, ra, R1, F.mono k1, p1⟩
  | false => exact ⟨fr, c1, ra, R1, F.mono k1, p1⟩
/-! and, or -/
def fAnd (f : Fra → Cells → R W) (rest : Fra → Cells → R W) : Fra → Cells → R W := fun fr cs => (asB (f fr cs)).bind fun b c1 => if b then rest fr c1 else .ok (.d (.bl false)) c1
def fOr (f : Fra → Cells → R W) (rest : Fra → Cells → R W) : Fra → Cells → R W := fun fr cs => (asB (f fr cs)).bind fun b c1 => if b then .ok (.d (.bl true)) c1 else rest fr c1
def fTrue : Fra → Cells → R W := fun _ cs => .ok (.d (.bl true)) cs
def fFalse : Fra → Cells → R W := fun _ cs => .ok (.d (.bl false)) cs
theorem c_and1 (h : PE X e (tE g Wx fa)) : PE X (.BoolOp .And [e] p) (tE g Wx (fAnd fa fTrue)) := PE.imp (pe_one h) fun σ H Q ⟨fr, cs, ra, R, F, q⟩ => by
  refine ⟨fr, cs, ra, R, F, PostR.imp (asB_post (PostR.bind (rp := fun _ (a b : Bool) => a = b) q)) ?_⟩
  rintro x H1 ⟨b, rfl, b', c1, k1, R1, rfl, p1⟩
  cases b' with
  | true => exact p1 H1 _ (Keep.refl _ _) R1 (.bl _)
  | false => exact p1 H1 _ (Keep.refl _ _) R1 (.bl _)
theorem c_or1 (h : PE X e (tE g Wx fa)) : PE X (.BoolOp .Or [e] p) (tE g Wx (fOr fa fFalse)) := PE.imp (pe_one h) fun σ H Q ⟨fr, cs, ra, R, F, q⟩ => by
  refine ⟨fr, cs, ra, R, F, PostR.imp (asB_post (PostR.bind (rp := fun _ (a b : Bool) => a = b) q)) ?_⟩
  rintro x H1 ⟨b, rfl, b', c1, k1, R1, rfl, p1⟩
  cases b' with
  | true => exact p1 H1 _ (Keep.refl _ _) R1 (.bl _)
  | false => exact p1 H1 _ (Keep.refl _ _) R1 (.bl _)
theorem c_and {e2 : Expr} (h : PE X e (tE g Wx fa)) (h2 : PE X (.BoolOp .And (e2 :: es) p) (tE g Wx fb)) : PE X (.BoolOp .And (e :: e2 :: es) p) (tE g Wx (fAnd fa fb)) := PE.imp (pe_and h h2) fun σ H Q ⟨fr, cs, ra, R, F, q⟩ => by
  refine ⟨fr, cs, ra, R, F, PostR.imp (asB_post (PostR.bind (rp := fun _ (a b : Bool) => a = b) q)) ?_⟩
  rintro x H1 ⟨b, rfl, b', c1, k1, R1, rfl, p1⟩
  refine ⟨b', rfl, ?_⟩
  cases b' with
  | true => exact ⟨fr, c1, ra, R1, F.mono k1, p1⟩
  | false => exact p1 H1 _ (Keep.refl _ _) R1 (.bl _)
theorem c_or {e2 : Expr} (h : PE X e (tE g Wx fa)) (h2 : PE X (.BoolOp .Or (e2 :: es) p) (tE g Wx fb)) : PE X (.BoolOp .Or (e :: e2 :: es) p) (tE g Wx (fOr fa fb)) := PE.imp (pe_or h h2) fun σ H Q ⟨fr, cs, ra, R, F, q⟩ => by
  refine ⟨fr, cs, ra, R, F, PostR.imp (asB_post (PostR.bind (rp := fun _ (a b : Bool) => a = b) q)) ?_⟩
  rintro x H1 ⟨b, rfl, b', c1, k1, R1, rfl, p1⟩
  refine ⟨b', rfl, ?_⟩
  cases b' with
  | true => exact p1 H1 _ (Keep.refl _ _) R1 (.bl _)
  | false => exact ⟨fr, c1, ra, R1, F.mono k1, p1⟩
theorem c_and1T (h : PT X e (tT g Wx fun fr cs => asB (fa fr cs))) : PW X (.BoolOp .And [e] p) (tT g Wx fun fr cs => asB (fAnd fa fTrue fr cs)) := PW.imp (pw_and1 h) fun σ H Q ⟨fr, cs, ra, R, F, q⟩ => by
  refine ⟨fr, cs, ra, R, F, PostR.imp (PostR.bind (rp := fun _ (a b : Bool) => a = b) (asB_post q)) ?_⟩
  rintro b H1 ⟨b', c1, k1, R1, rfl, p1⟩
  cases b' with
  | true => obtain ⟨z, e1, q1⟩ := p1 H1 _ (Keep.refl _ _) R1 (.bl _); cases e1; exact q1
  | false => obtain ⟨z, e1, q1⟩ := p1 H1 _ (Keep.refl _ _) R1 (.bl _); cases e1; exact q1
theorem c_or1T (h : PT X e (tT g Wx fun fr cs => asB (fa fr cs))) : PW X (.BoolOp .Or [e] p) (tT g Wx fun fr cs => asB (fOr fa fFalse fr cs)) := PW.imp (pw_or1 h) fun σ H Q ⟨fr, cs, ra, R, F, q⟩ => by
  refine ⟨fr, cs, ra, R, F, PostR.imp (PostR.bind (rp := fun _ (a b : Bool) => a = b) (asB_post q)) ?_⟩
  rintro b H1 ⟨b', c1, k1, R1, rfl, p1⟩
  cases b' with
  | true => obtain ⟨z, e1, q1⟩ := p1 H1 _ (Keep.refl _ _) R1 (.bl _); cases e1; exact q1
  | false => obtain ⟨z, e1, q1⟩ := p1 H1 _ (Keep.refl _ _) R1 (.bl _); cases e1; exact q1
theorem asB_bind {α : Type} {r : R α} {k : α → Cells → R W} : asB (r.bind k) = r.bind fun a c => asB (k a c) := by
  cases r <;> rfl
theorem c_andT {e2 : Expr} (h : PT X e (tT g Wx fun fr cs => asB (fa fr cs))) (h2 : PW X (.BoolOp .And (e2 :: es) p) (tT g Wx fun fr cs => asB (fb fr cs))) : PW X (.BoolOp .And (e :: e2 :: es) p) (tT g Wx fun fr cs => asB (fAnd fa fb fr cs)) := PW.imp (pw_and h h2) fun σ H Q ⟨fr, cs, ra, R, F, q⟩ => by
  unfold fAnd at q
  dsimp only at q
  rw [asB_bind] at q
  refine ⟨fr, cs, ra, R, F, PostR.imp (PostR.bind (rp := fun _ (a b : Bool) => a = b) q) ?_⟩
  rintro b H1 ⟨b', c1, k1, R1, rfl, p1⟩
  cases b' with
  | true => exact ⟨fr, c1, ra, R1, F.mono k1, p1⟩
  | false => exact p1 H1 _ (Keep.refl _ _) R1 rfl
theorem c_orT {e2 : Expr} (h : PT X e (tT g Wx fun fr cs => asB (fa fr cs))) (h2 : PW X (.BoolOp .Or (e2 :: es) p) (tT g Wx fun fr cs => asB (fb fr cs))) : PW X (.BoolOp .Or (e :: e2 :: es) p) (tT g Wx fun fr cs => asB (fOr fa fb fr cs)) := PW.imp (pw_or h h2) fun σ H Q ⟨fr, cs, ra, R, F, q⟩ => by
  unfold fOr at q
  dsimp only at q
  rw [asB_bind] at q
  refine ⟨fr, cs, ra, R, F, PostR.imp (PostR.bind (rp := fun _ (a b : Bool) => a = b) q) ?_⟩
  rintro b H1 ⟨b', c1, k1, R1, rfl, p1⟩
  cases b' with
  | true => exact p1 H1 _ (Keep.refl _ _) R1 rfl
  | false => exact ⟨fr, c1, ra, R1, F.mono k1, p1⟩
/-! displays, subscripts, slices -/
theorem c_tup {k2 : Nat} (h : PA X es (tA g Wx fl)) : PE X (.Tuple es k2 p) (tE g Wx fun fr cs => (fl fr cs).bind tupW) := PE.imp (pe_tup h) fun σ H Q ⟨fr, cs, ra, R, F, q⟩ => by
  refine ⟨fr, cs, ra, R, F, PostR.imp (PostR.bind (rp := rpA g ra) q) ?_⟩
  rintro vs H1 ⟨ws, c1, k1, R1, r1, p1⟩
  unfold tupW at p1
  split at p1
  · rename_i ds e
    split at p1
    · rename_i hl
      have r2 := r1.pure e
      exact ⟨by rw [line_lit, ← r2.length]; exact hl, new_tup R1 r2 p1⟩
    · exact p1.elim
  · exact p1.elim
theorem c_lst (h : PA X es (tA g Wx fl)) : PE X (.List es p) (tE g Wx fun fr cs => (fl fr cs).bind lstW) := PE.imp (pe_lst h) fun σ H Q ⟨fr, cs, ra, R, F, q⟩ => by
  refine ⟨fr, cs, ra, R, F, PostR.imp (PostR.bind (rp := rpA g ra) q) ?_⟩
  rintro vs H1 ⟨ws, c1, k1, R1, r1, p1⟩
  unfold lstW at p1
  split at p1
  · rename_i ds e
    split at p1
    · rename_i hl
      have r2 := r1.pure e
      exact ⟨by rw [line_lit, ← r2.length]; exact hl, new_lst R1 r2 p1⟩
    · exact p1.elim
  · exact p1.elim
theorem plain_ix {b : Expr} (h : notSliceB b = true) : PlainIx b := by
  intro o i
  cases b <;> first | rfl | cases h
theorem c_ix (ok : Okx g N sc ac k X Wx) (ha : PE X l (tE g Wx fa)) (hb : PE X r (tE g Wx fb)) (hs : notSliceB r = true) : PE X (.Subscript l r p) (tE g Wx fun fr cs => (fa fr cs).bind fun w1 c1 => (fb fr c1).bind fun w2 c2 => wIx w1 w2 c2) :=
  PE.imp (pe_ix ix_seq ha hb (plain_ix hs)) fun σ H Q h => tE_bin (fun R r1 r2 h => by rw [ok.K]; exact wIx_ok R r1 r2 h) h
def tO (g : G) (Wx : WX) (f : Fra → Cells → R (Option Int)) : TO := fun σ H Q => ∃ fr cs ra, Rel g ra cs H ∧ FrR g H ra fr σ ∧ PostR g (fun _ (a b : Option Int) => a = b) (f fr cs) ra H Q (fun c d H' => Wx c d σ H')
theorem PO.imp {X : Cx} {e : Option Expr} {t t' : TO} (h : PO X e t) (i : ∀ σ H Q, t' σ H Q → t σ H Q) : PO X e t' := ⟨fun pins s σ H Q I q => h.run pins s σ H Q I (i σ H Q q)⟩
theorem c_onone : PO X none (tO g Wx fun _ cs => .ok none cs) := PO.imp po_none fun σ H Q ⟨fr, cs, ra, R, F, q⟩ => q H none (Keep.refl _ _) R rfl
theorem asI_post {ra : Ra} {H : Hp} {Q : Int → Hp → Prop} {E : XK} {r : R W} (h : PostR g (fun _ (a b : Int) => a = b) (asI r) ra H Q E) : PostR g (rpW g ra) r ra H (fun x H' => ∃ i, x = .int i ∧ Q i H') E := by
  refine PostR.imp (PostR.bind (rp := rpW g ra) h) ?_
  rintro x H1 ⟨w1, c1, k1, R1, r1, p1⟩
  split at p1
  · cases r1
    exact ⟨_, rfl, p1 H1 _ (Keep.refl _ _) R1 rfl⟩
  · exact p1.elim
theorem c_osome (h : PE X e (tE g Wx fa)) : PO X (some e) (tO g Wx fun fr cs => (asI (fa fr cs)).bind fun i c1 => .ok (some i) c1) := PO.imp (po_some h) fun σ H Q ⟨fr, cs, ra, R, F, q⟩ => by
  refine ⟨fr, cs, ra, R, F, PostR.imp (asI_post (PostR.bind (rp := fun _ (a b : Int) => a = b) q)) ?_⟩
  rintro x H1 ⟨i, rfl, i', c1, k1, R1, rfl, p1⟩
  exact ⟨_, rfl, p1 H1 _ (Keep.refl _ _) R1 rfl⟩
theorem c_sl {lo hi : Option Expr} {p2 : Pos} {fo fh : Fra → Cells → R (Option Int)} (ok : Okx g N sc ac k X Wx) (ha : PE X l (tE g Wx fa)) (h1 : PO X lo (tO g Wx fo)) (h2 : PO X hi (tO g Wx fh)) :
    PE X (.Subscript l (.Slice lo hi none p2) p) (tE g Wx fun fr cs => (fa fr cs).bind fun w1 c1 => (fo fr c1).bind fun lv c2 => (fh fr c2).bind fun hv c3 => wSl w1 lv hv c3) := PE.imp (pe_slice sl_all ha h1 h2) fun σ H Q ⟨fr, cs, ra, R, F, q⟩ => by
  refine ⟨fr, cs, ra, R, F, PostR.imp (PostR.bind (rp := rpW g ra) q) ?_⟩
  rintro x H1 ⟨w1, c1, k1, R1, r1, p1⟩
  refine ⟨fr, c1, ra, R1, F.mono k1, PostR.imp (PostR.bind (rp := fun _ (a b : Option Int) => a = b) p1) ?_⟩
  rintro lv H2 ⟨lv', c2, k2, R2, rfl, p2⟩
  refine ⟨fr, c2, ra, R2, (F.mono k1).mono k2, PostR.imp (PostR.bind (rp := fun _ (a b : Option Int) => a = b) p2) ?_⟩
  rintro hv H3 ⟨hv', c3, k3, R3, rfl, p3⟩
  rw [ok.K]
  exact wSl_ok R3 (r1.mono (k2.trans k3).same) p3
/-! built-ins -/
theorem gl_of (ok : Okx g N sc ac k X Wx) {x : Str} (h : glB sc x = true) : Gl X x := by
  unfold glB at h
  show X.env.scope.names.lookup x = _
  rw [ok.sc]
  exact of_decide_eq_true h
theorem nostar_any : ∀ {es : List Expr} {env : Env} {pos : Pos}, (∀ e ∈ es, notSt e = true) → (backTo pos (starEach es env)).any (·.1) = false ∧ (backTo pos (starEach es env)).all (fun x => !x.1) = true
  | [], _, _, _ => ⟨rfl, rfl⟩
  | e :: es, env, pos, h => by
    rw [star_of (h e (List.mem_cons_self ..))]
    obtain ⟨h1, h2⟩ := nostar_any (env := env) (pos := pos) fun e' he => h e' (List.mem_cons_of_mem _ he)
    exact ⟨h1, h2⟩
theorem ne_name {b : Bi} : b.name ≠ "__name__" ∧ (b.name == ("__debug__" : Str)) = false := by cases b <;> exact ⟨by decide +kernel, by decide +kernel⟩
theorem c_bi (ok : Okx g N sc ac k X Wx) (F : Fx g wd k) {b : Bi} {pn : Pos} (hg : glB sc b.name = true) (hs : ∀ x ∈ e :: es, notSt x = true) (h : PA X (e :: es) (tA g Wx fl)) :
    PE X (.Call (.Name b.name pn) (e :: es) [] p) (tE g Wx fun fr cs => (fl fr cs).bind fun ws c1 => wBi b ws c1) := by
  have hm : X.mg b.name = none := by rw [ok.mg]; exact F.bi b
  have go : ∀ σ H Q, tE g Wx (fun fr cs => (fl fr cs).bind fun ws c1 => wBi b ws c1) σ H Q → tCB (rBi X.K b) (tA g Wx fl) σ H Q := fun σ H Q h => tE_call (fun R r h => by rw [ok.K]; exact wBi_ok R r h) h
  have hst := star_of (es := es) (env := X.env) (hs e (List.mem_cons_self ..))
  have hpl := (nostar_any (env := X.env) (pos := p) fun x hx => hs x (List.mem_cons_of_mem _ hx)).1
  have rule := bi_rule ok.calm b
  have boot := b.boot
  cases hb : b.val with
  | builtin id =>
    rw [hb] at rule boot
    exact PE.imp (pe_callB rule (gl_of ok hg) hm boot h ne_name.1 ne_name.2 hst hpl) go
  | type T =>
    rw [hb] at rule boot
    exact PE.imp (pe_callTy rule (gl_of ok hg) hm boot h ne_name.1 ne_name.2 hst hpl) go
  | _ => exact absurd hb (by cases b <;> simp [Bi.val])
theorem wTy_ok {m : Bm} {w : W} {cs : Cells} {ra : Ra} {H : Hp} {v : V} (R : Rel g ra cs H) (r : RepW g (frz H ra) ra w v) (h : wTy m w cs = true) : tyV g.K m.ty v H := by
  have hl : (dl cs w).isSome = true → tyV g.K "list" v H := fun h => by
    obtain ⟨xs, e⟩ := Option.isSome_iff_exists.mp h
    obtain ⟨a, us, rfl, h1, _⟩ := dl_ok R r e
    exact .inl ⟨rfl, us, h1⟩
  have hs : ∀ {m : Bm}, m = .join ∨ m = .partition ∨ m = .rstrip → wTy m w cs = true → tyV g.K "str" v H := fun {m} hm h => by
    have e : ∃ z, w = .d (.str z) := by
      rcases hm with rfl | rfl | rfl
      all_goals
        simp only [wTy] at h
        split at h
        · exact ⟨_, rfl⟩
        · cases h
    obtain ⟨z, rfl⟩ := e
    cases r
    rfl
  cases m with
  | append => exact hl h
  | extend => exact hl h
  | pop => exact hl h
  | popAt => exact hl h
  | join => exact hs (.inl rfl) h
  | partition => exact hs (.inr (.inl rfl)) h
  | index => exact hl h
  | count => exact hl h
  | rstrip => exact hs (.inr (.inr rfl)) h
theorem c_bm0 (ok : Okx g N sc ac k X Wx) {m : Bm} {ap : Pos} (hsup : notSup l = true) (hline : (ap.endLine == p.line) = true) (ha : PE X l (tE g Wx fa)) :
    PE X (.Call (.Attribute l m.name ap) [] [] p) (tE g Wx fun fr cs => (fa fr cs).bind fun w c1 => if wTy m w c1 then wBm m w [] c1 else .bad) := by
  obtain ⟨f1, f2, f3⟩ := m.facts
  refine PE.imp (pe_bm0 f1 f2 f3 (bm_rule (X := X) m) ha (base_of hsup) hline) ?_
  rintro σ H Q ⟨fr, cs, ra, R, F, q⟩
  refine ⟨fr, cs, ra, R, F, PostR.imp (PostR.bind (rp := rpW g ra) q) ?_⟩
  rintro x H1 ⟨w1, c1, k1, R1, r1, p1⟩
  split at p1
  · rename_i ht
    rw [ok.K]
    exact ⟨wTy_ok R1 r1 ht, (wBm_ok R1 r1 .nil p1).2⟩
  · exact p1.elim
theorem c_bm (ok : Okx g N sc ac k X Wx) {m : Bm} {ap : Pos} (hsup : notSup l = true) (hline : (ap.endLine == p.line) = true) (hlen : (e :: es).length < 20) (hs : ∀ x ∈ e :: es, notSt x = true) (ha : PE X l (tE g Wx fa)) (h : PA X (e :: es) (tA g Wx fl)) :
    PE X (.Call (.Attribute l m.name ap) (e :: es) [] p) (tE g Wx fun fr cs => (fa fr cs).bind fun w c1 => if wTy m w c1 then (fl fr c1).bind fun ws c2 => wBm m w ws c2 else .bad) := by
  obtain ⟨f1, f2, f3⟩ := m.facts
  have hst := star_of (es := es) (env := X.env) (hs e (List.mem_cons_self ..))
  have hpl := (nostar_any (env := X.env) (pos := p) fun x hx => hs x (List.mem_cons_of_mem _ hx)).1
  have hal := (nostar_any (env := X.env) (pos := p) hs).2
  refine PE.imp (pe_bm f1 f2 f3 (bm_rule (X := X) m) ha h (base_of hsup) ?_ hline hst hpl) ?_
  · rw [hal]
    have : (e :: es).length + 0 + 0 < 30 := by omega
    show (true && true && decide ((e :: es).length + 0 + 0 < 30)) = true
    rw [decide_eq_true this]
    rfl
  · rintro σ H Q ⟨fr, cs, ra, R, F, q⟩
    refine ⟨fr, cs, ra, R, F, PostR.imp (PostR.bind (rp := rpW g ra) q) ?_⟩
    rintro x H1 ⟨w1, c1, k1, R1, r1, p1⟩
    split at p1
    · rename_i ht
      rw [ok.K]
      refine ⟨wTy_ok R1 r1 ht, fr, c1, ra, R1, F.mono k1, PostR.imp (PostR.bind (rp := rpA g ra) p1) ?_⟩
      rintro vs H2 ⟨ws, c2, k2, R2, r2, p2⟩
      exact (wBm_ok R2 (r1.mono k2.same) r2 p2).2
    · exact p1.elim
/-! f-strings -/
/-! isinstance -/
theorem tyOf_ok (F : Fx g wd k) {w : W} {v : V} {cs : Cells} {ra : Ra} {H : Hp} {t u : Ty} {b : Bool} (R : Rel g ra cs H) (r : RepW g (frz H ra) ra w v) (h : tyOf cs w = some t) (hk : wd.kit t u = some b) : TyB g.K H v (tyVal g t) := by
  have own : ∀ {c : Nat} {a dx : Addr} {fs : List (Str × V)}, t = .c c → H a = some (.ins (g.ca c) dx fs) → TyB g.K H (.ref a) (tyVal g t) := fun e ha => by
    subst e
    obtain ⟨h1, h2, h3, h4, h5⟩ := F.kitc _ _ _ hk
    exact .inl <| .base (.ins ha h1 h2 h3 h4 h5)
  have seqL : ∀ {a : Addr} {vs : List V}, SqL g.K H a vs → TyB g.K H (.ref a) (.type "list") := fun h => by
    rcases h with (h | ⟨o, h⟩) | ⟨o, its, n, h1, h2, _⟩
    · exact .inl <| .base (.lst h)
    · exact .inl <| .base (.frz h)
    · exact .inl <| .kList h1 h2
  unfold tyOf at h
  split at h
  case h_1 => cases h; cases r; exact .inl <| .base .non
  case h_2 => cases h; cases r; exact .inl <| .base (.bl _)
  case h_3 => cases h; cases r; exact .inl <| .base (.int _)
  case h_4 => cases h; cases r; exact .inl <| .base (.str _)
  case h_5 =>
    cases h
    obtain ⟨a, vs, rfl, h1, _⟩ := tup_ok r
    rcases h1 with (h1 | ⟨o, h1⟩) | ⟨o, its, n, h1, h2, _⟩
    · exact .inl <| .base (.tup h1)
    · exact .inl <| .fTuple h1
    · exact .inl <| .kTuple h1 h2
  case h_6 =>
    cases h
    obtain ⟨a, vs, rfl, h1, _⟩ := dl_ok (w := .d (.lst _)) R r rfl
    exact seqL h1
  case h_7 =>
    cases h
    obtain ⟨a, vs, rfl, h1, _⟩ := dl_ok (w := .d (.flst _)) R r rfl
    exact seqL h1
  case h_8 =>
    cases h
    cases r with
    | ins h1 _ => exact own rfl (frz_same H ra _ _ h1)
  case h_9 =>
    cases h
    cases r with
    | exc h1 h2 _ => exact .inr ⟨_, _, _, _, _, rfl, rfl, frz_same H ra _ _ h1, frz_same H ra _ _ h2, F.kitx _ _ _ hk⟩
  case h_10 =>
    cases h
    cases r with
    | dct h1 _ => exact .inl <| .base (.dK (frz_same H ra _ _ h1))
  case h_11 =>
    obtain ⟨a, rfl, ha⟩ := r
    split at h
    · rename_i hc
      cases h
      obtain ⟨a', h1, vs, h2, _⟩ := R.cell _ _ hc
      rw [ha] at h1
      cases h1
      exact .inl <| .base (.lst h2)
    · rename_i hc
      cases h
      obtain ⟨a', h1, dx, vs, h2, _⟩ := R.cell _ _ hc
      rw [ha] at h1
      cases h1
      exact own rfl h2
    · cases h
  case h_12 => cases h
theorem kitAnyD_ok (F : Fx g wd k) {t : Ty} : ∀ {ts : List Ty} {b : Bool}, kitAnyD wd t ts = some b → PySem.W.kitAny g.K (tyVal g t) (ts.map (tyVal g)) = some b
  | [], b, h => h
  | u :: ts, b, h => by
    unfold kitAnyD at h
    split at h
    · rename_i e
      cases h
      show (match PySem.W.kitOne g.K (tyVal g t) (tyVal g u) with | some true => some true | some false => _ | none => none) = some true
      rw [F.kit _ _ _ e]
    · rename_i e
      show (match PySem.W.kitOne g.K (tyVal g t) (tyVal g u) with | some true => some true | some false => PySem.W.kitAny g.K (tyVal g t) (ts.map (tyVal g)) | none => none) = some b
      rw [F.kit _ _ _ e]
      exact kitAnyD_ok F h
    · cases h
theorem kitAnyD_ty (F : Fx g wd k) {t : Ty} {w : W} {v : V} {cs : Cells} {ra : Ra} {H : Hp} (R : Rel g ra cs H) (r : RepW g (frz H ra) ra w v) (h : tyOf cs w = some t) : ∀ {ts : List Ty} {b : Bool}, ts ≠ [] → kitAnyD wd t ts = some b → TyB g.K H v (tyVal g t)
  | [], _, hn, _ => absurd rfl hn
  | u :: ts, b, _, hk => by
    unfold kitAnyD at hk
    split at hk
    · rename_i e
      exact tyOf_ok F R r h e
    · rename_i e
      exact tyOf_ok F R r h e
    · cases hk
def tyV' (g : G) : Ty → V
  | .b n => .ty n
  | .c k => .ref (g.ca k)
  | .x k => .ref (g.ca k)
theorem pe_ty (ok : Okx g N sc ac k X Wx) (F : Fx g wd k) {t : Ty} (h : chkTy wd sc t e = true) : PE X e (tC (tyV' g t)) := by
  cases t with
  | b n =>
    cases e <;> simp only [chkTy, Bool.and_eq_true, Bool.or_eq_true, beq_iff_eq, decide_eq_true_eq, Bool.false_eq_true] at h
    rename_i x pp
    obtain ⟨⟨⟨hn, rfl⟩, hg⟩, hd⟩ := h
    unfold nodbg at hd
    simp only [Bool.and_eq_true, Bool.not_eq_true'] at hd
    obtain ⟨b1, b2, b3, b4, b5⟩ := F.bt
    have hm : X.mg (Str.ofString n) = none := by
      rw [ok.mg]
      rcases hn with ((((rfl | rfl) | rfl) | rfl) | rfl) <;> assumption
    have hv : bootBuiltins (Str.ofString n) = some (.type n) := by rcases hn with ((((rfl | rfl) | rfl) | rfl) | rfl) <;> decide +kernel
    have hnn : Str.ofString n ≠ "__name__" := by rcases hn with ((((rfl | rfl) | rfl) | rfl) | rfl) <;> decide +kernel
    exact pe_bltn (gl_of ok hg) hm hv rfl hnn hd.1
  | c c =>
    cases e <;> simp only [chkTy, Bool.and_eq_true, decide_eq_true_eq, Bool.false_eq_true] at h
    rename_i x pp
    obtain ⟨⟨h1, hg⟩, hd⟩ := h
    unfold nodbg at hd
    simp only [Bool.and_eq_true, Bool.not_eq_true'] at hd
    exact pe_glob (gl_of ok hg) (by rw [ok.mg]; exact F.cnm _ _ h1) rfl hd.1
  | x c => cases e <;> simp [chkTy] at h
theorem clsV_of {t : Ty} : ClsV (tyV' g t) (tyVal g t) := by
  cases t with
  | b n => exact .ty n
  | c c => exact .own _
  | x c => exact .own _
theorem clsVs : ∀ ts : List Ty, Paired ClsV (ts.map (tyV' g)) (ts.map (tyVal g))
  | [] => .nil
  | t :: ts => .cons clsV_of (clsVs ts)
theorem isi_glob (ok : Okx g N sc ac k X Wx) (F : Fx g wd k) : X.mg "isinstance" = none := by
  rw [ok.mg]
  exact F.bx.2.2.2
theorem c_isi {t : Ty} {pn : Pos} (ok : Okx g N sc ac k X Wx) (F : Fx g wd k) (hg : glB sc "isinstance" = true) (hst : notSt l = true) (ha : PE X l (tE g Wx fa)) (ht : chkTy wd sc t r = true) :
    PE X (.Call (.Name "isinstance" pn) [l, r] [] p) (tE g Wx fun fr cs => (fa fr cs).bind fun w c1 => wIsi wd w [t] c1) := by
  have hst2 : notSt r = true := by cases t <;> cases r <;> first | rfl | (simp [chkTy] at ht)
  have s1 := star_of (es := [r]) (env := X.env) hst
  have s2 := star_of (es := []) (env := X.env) hst2
  refine PE.imp (pe_callB call_isiB (gl_of ok hg) (isi_glob ok F) (by decide +kernel) (pa_cons ha (pa_cons (pe_ty ok F ht) pa_nil s2) s1) (by decide +kernel) (by decide +kernel) s1 (nostar_any (es := [r]) fun x hx => by cases List.mem_singleton.mp hx; exact hst2).1) ?_
  rintro σ H Q ⟨fr, cs, ra, R, Fr, q⟩
  refine ⟨fr, cs, ra, R, Fr, PostR.imp (PostR.bind (rp := rpW g ra) q) ?_⟩
  rintro x H1 ⟨w1, c1, k1, R1, r1, p1⟩
  unfold wIsi at p1
  split at p1
  · rename_i t' e
    split at p1
    · rename_i b hb
      have hty := kitAnyD_ty F R1 r1 e (by simp) hb
      have hk := kitAnyD_ok F hb
      have hk1 : PySem.W.kitOne g.K (tyVal g t') (tyVal g t) = some b := by
        unfold kitAnyD at hb
        split at hb
        · rename_i e2; cases hb; exact F.kit _ _ _ e2
        · rename_i e2
          have : b = false := by simpa [kitAnyD] using hb.symm
          rw [this]; exact F.kit _ _ _ e2
        · cases hb
      rw [ok.K]
      exact ⟨x, tyV' g t, tyVal g t', tyVal g t, b, rfl, clsV_of, hty, hk1, back R1 (.bl _) p1⟩
    · exact p1.elim
  · exact p1.elim
theorem pa_tys (ok : Okx g N sc ac k X Wx) (F : Fx g wd k) : ∀ {ts : List Ty} {es : List Expr}, chkTys wd sc ts es = true → ∃ t : TA, PA X es t ∧ ∀ σ H Q, Q (ts.map (tyV' g)) H → t σ H Q
  | [], [], _ => ⟨_, pa_nil, fun σ H Q h => h⟩
  | t :: ts, e :: es, h => by
    simp only [chkTys, Bool.and_eq_true] at h
    have hst2 : notSt e = true := by cases t <;> cases e <;> first | rfl | (simp [chkTy] at h)
    obtain ⟨tt, h1, h2⟩ := pa_tys ok F h.2
    exact ⟨_, pa_cons (pe_ty ok F h.1) h1 (star_of hst2), fun σ H Q q => h2 σ H _ q⟩
  | [], _ :: _, h => by simp [chkTys] at h
  | _ :: _, [], h => by simp [chkTys] at h
theorem c_isiT {ts : List Ty} {pn pt : Pos} {k2 : Nat} (ok : Okx g N sc ac k X Wx) (F : Fx g wd k) (hg : glB sc "isinstance" = true) (hst : notSt l = true) (ha : PE X l (tE g Wx fa)) (ht : chkTys wd sc ts es = true) (hne : ts ≠ []) (hlen : ts.length ≤ 100) :
    PE X (.Call (.Name "isinstance" pn) [l, .Tuple es k2 pt] [] p) (tE g Wx fun fr cs => (fa fr cs).bind fun w c1 => wIsi wd w ts c1) := by
  have s1 := star_of (es := [.Tuple es k2 pt]) (env := X.env) hst
  have s2 := star_of (e := .Tuple es k2 pt) (es := []) (env := X.env) rfl
  obtain ⟨tt, h1, h2⟩ := pa_tys ok F ht
  refine PE.imp (pe_callB call_isiTB (gl_of ok hg) (isi_glob ok F) (by decide +kernel) (pa_cons ha (pa_cons (pe_tup h1) pa_nil s2) s1) (by decide +kernel) (by decide +kernel) s1 (nostar_any (es := [.Tuple es k2 pt]) fun x hx => by cases List.mem_singleton.mp hx; rfl).1) ?_
  rintro σ H Q ⟨fr, cs, ra, R, Fr, q⟩
  refine ⟨fr, cs, ra, R, Fr, PostR.imp (PostR.bind (rp := rpW g ra) q) ?_⟩
  rintro x H1 ⟨w1, c1, k1, R1, r1, p1⟩
  refine h2 σ H1 _ ⟨by rw [List.length_map]; exact line_small (by omega), fun tp htp => ?_⟩
  unfold wIsi at p1
  split at p1
  · rename_i t' e
    split at p1
    · rename_i b hb
      obtain ⟨k2', R2, _⟩ := R1.new (o := .tup (ts.map (tyV' g))) htp
      have hty := kitAnyD_ty F R2 (r1.mono k2'.same) e hne hb
      rw [ok.K]
      refine ⟨x, tp, ts.map (tyV' g), tyVal g t', ts.map (tyVal g), b, rfl, upd_same, ?_, hty, kitAnyD_ok F hb, p1 _ _ k2' R2 (.bl _)⟩
      exact clsVs ts
    · exact p1.elim
  · exact p1.elim
section
variable {pins : List (Addr × Obj)} {σ : L2.St} {H : Hp} {s : Shared}
mutual
theorem pyD_sh (I : Inv X pins σ H s) (eK : X.K = g.K) {F : Hp} (e : Same F H) : ∀ {d : D} {v : V} {p : PyData} {u : Value}, Rep g F d v → pyD d = some p → RelV v u → p.showable = true → p.shown.length ≤ sizeLine → Sh X.prog X.w s.heap u p
  | .non, _, _, _, .non, h, r, _, _ => by
    simp only [pyD, Option.some.injEq] at h; subst h
    cases r
    exact .non
  | .bl b, _, _, _, .bl _, h, r, _, _ => by
    simp only [pyD, Option.some.injEq] at h; subst h
    cases r
    exact .bl b
  | .int i, _, _, _, .int _, h, r, hs, _ => by
    simp only [pyD, Option.some.injEq] at h; subst h
    obtain ⟨t, rfl⟩ := r
    exact .int (by simpa [PyData.showable] using hs)
  | .str x, _, _, _, .str _, h, r, _, hz => by
    simp only [pyD, Option.some.injEq] at h; subst h
    obtain ⟨t, rfl⟩ := r
    exact .str (by simpa only [PyData.shown] using hz)
  | .tup xs, _, _, _, .tup q rl, h, r, hs, hz => by
    simp only [pyD, Option.map_eq_some_iff] at h
    obtain ⟨ps, h1, rfl⟩ := h
    cases r
    obtain ⟨its, rv, ⟨o, ho, hc, n, hd⟩, _⟩ := I.tuple (by rw [eK]; exact sqT_mono e q)
    simp only [PyData.showable] at hs
    simp only [PyData.shown] at hz
    exact .tuple ho hc hd (pyDs_sh I eK e rl h1 rv hs fun t ht => Nat.le_trans (tupleText_mem_le ht) hz)
  | .lst xs, _, _, _, .lst q rl, h, r, hs, hz => by
    simp only [pyD, Option.map_eq_some_iff] at h
    obtain ⟨ps, h1, rfl⟩ := h
    cases r
    obtain ⟨its, rv, ⟨o, n, ho, hc, _, hd⟩, _⟩ := I.list (SqL.of (e _ _ q))
    simp only [PyData.showable] at hs
    simp only [PyData.shown] at hz
    exact .list ho hc hd (pyDs_sh I eK e rl h1 rv hs fun t ht => Nat.le_trans (listText_mem_le ht) hz)
  | .flst xs, _, _, _, .flst q rl, h, r, hs, hz => by
    simp only [pyD, Option.map_eq_some_iff] at h
    obtain ⟨ps, h1, rfl⟩ := h
    cases r
    obtain ⟨its, rv, ⟨o, n, ho, hc, _, hd⟩, _⟩ := I.list (by rw [eK]; exact e.seq q)
    simp only [PyData.showable] at hs
    simp only [PyData.shown] at hz
    exact .list ho hc hd (pyDs_sh I eK e rl h1 rv hs fun t ht => Nat.le_trans (listText_mem_le ht) hz)
  | .dct [], _, _, _, .dct q rf, h, r, hs, hz => by
    simp only [pyD, Option.some.injEq] at h; subst h
    cases r
    cases rf
    obtain ⟨_, lo, vs, kv, o, es, ep, ho, hc, hd, _, hp, _⟩ := (show ObjOk X.prog X.w H s.heap _ (.dK []) from I.hok _ _ (e _ _ q))
    cases kv
    cases es with
    | mk l =>
      cases (show Pairs _ l [] from hp)
      exact .dict0 ho hc.1 hd lo
  | .dct (x :: xs), _, _, _, .dct q rf, h, _, _, _ => by simp [pyD] at h
  | .ty _, _, _, _, .ty _, h, _, _, _ => by simp [pyD] at h
  | .cls _, _, _, _, .cls _, h, _, _, _ => by simp [pyD] at h
  | .fn _, _, _, _, .fn _, h, _, _, _ => by simp [pyD] at h
  | .ins _ _, _, _, _, .ins _ _, h, _, _, _ => by simp [pyD] at h
  | .exc _ _, _, _, _, .exc _ _ _, h, _, _, _ => by simp [pyD] at h
theorem pyDs_sh (I : Inv X pins σ H s) (eK : X.K = g.K) {F : Hp} (e : Same F H) : ∀ {ds : List D} {vs : List V} {ps : List PyData} {us : List Value}, RepL g F ds vs → pyDs ds = some ps → Vals vs us → PyData.showableAll ps = true → (∀ t ∈ PyData.shownAll ps, t.length ≤ sizeLine) → ShAll X.prog X.w s.heap us ps
  | [], _, _, _, .nil, h, r, _, _ => by
    simp only [pyDs, Option.some.injEq] at h; subst h
    cases r
    exact .nil
  | d :: ds, _, _, _, .cons q t, h, r, hs, hz => by
    simp only [pyDs] at h
    split at h
    · rename_i p ps h1 h2
      cases h
      cases r with
      | cons r1 r2 =>
        simp only [PyData.showableAll, Bool.and_eq_true] at hs
        simp only [PyData.shownAll] at hz
        exact .cons (pyD_sh I eK e q h1 r1 hs.1 (hz _ (List.mem_cons_self ..))) (pyDs_sh I eK e t h2 r2 hs.2 fun t ht => hz t (List.mem_cons_of_mem _ ht))
    · cases h
end
theorem wPr_top (I : Inv X pins σ H s) (eK : X.K = g.K) {ra : Ra} {cs : Cells} {w : W} {v : V} {p : PyData} {u : Value} (R : Rel g ra cs H) (r : RepW g (frz H ra) ra w v) (h : wPr cs w = some p) (ru : RelV v u) (hs : p.showable = true) (hz : p.shown.length ≤ sizeLine) : TopR X.prog X.w s.heap u p := by
  have lists : ∀ {a : Addr} {xs : List D} {vs : List V} {ps : List PyData}, SqL g.K H a vs → RepL g (frz H ra) xs vs → pyDs xs = some ps → (PyData.list ps).showable = true → (PyData.list ps).shown.length ≤ sizeLine → TopR X.prog X.w s.heap (.ref a) (.list ps) := fun {a xs vs ps} q rl h1 hs hz => by
    obtain ⟨its, rv, ⟨o, n, ho, hc, _, hd⟩, _⟩ := I.list (by rw [eK]; exact q)
    simp only [PyData.showable] at hs
    simp only [PyData.shown] at hz
    exact .list ho hc hd (pyDs_sh I eK (frz_same H ra) rl h1 rv hs fun t ht => Nat.le_trans (listText_mem_le ht) hz)
  cases w with
  | loc n =>
    simp only [wPr] at h
    cases e : celL cs n with
    | none => rw [e] at h; cases h
    | some xs =>
      rw [e] at h
      simp only [Option.bind_some, Option.map_eq_some_iff] at h
      obtain ⟨ps, h1, rfl⟩ := h
      obtain ⟨a, vs, rfl, _, h2, h3⟩ := celL_ok R r e
      cases ru
      exact lists (SqL.of h2) h3 h1 hs hz
  | d d =>
    simp only [wPr] at h
    have r : Rep g (frz H ra) d v := r
    cases r with
    | non => simp only [pyD, Option.some.injEq] at h; subst h; cases ru; exact .non
    | bl b => simp only [pyD, Option.some.injEq] at h; subst h; cases ru; exact .bl b
    | int i => simp only [pyD, Option.some.injEq] at h; subst h; obtain ⟨t, rfl⟩ := ru; exact .int i t
    | str x => simp only [pyD, Option.some.injEq] at h; subst h; obtain ⟨t, rfl⟩ := ru; exact .str x t
    | tup q rl =>
      simp only [pyD, Option.map_eq_some_iff] at h
      obtain ⟨ps, h1, rfl⟩ := h
      cases ru
      obtain ⟨its, rv, ⟨o, ho, hc, n, hd⟩, _⟩ := I.tuple (by rw [eK]; exact sqT_mono (frz_same H ra) q)
      simp only [PyData.showable] at hs
      simp only [PyData.shown] at hz
      exact .tuple ho hc hd (pyDs_sh I eK (frz_same H ra) rl h1 rv hs fun t ht => Nat.le_trans (tupleText_mem_le ht) hz)
    | lst q rl =>
      simp only [pyD, Option.map_eq_some_iff] at h
      obtain ⟨ps, h1, rfl⟩ := h
      cases ru
      exact lists (SqL.of (frz_same H ra _ _ q)) rl h1 hs hz
    | flst q rl =>
      simp only [pyD, Option.map_eq_some_iff] at h
      obtain ⟨ps, h1, rfl⟩ := h
      cases ru
      exact lists ((frz_same H ra).seq q) rl h1 hs hz
    | @dct fs _ _ q rf =>
      cases fs with
      | cons x xs => simp [pyD] at h
      | nil =>
        simp only [pyD, Option.some.injEq] at h; subst h
        cases ru
        cases rf
        obtain ⟨_, lo, vs, kv, o, es, ep, ho, hc, hd, _, hp, _⟩ := (show ObjOk X.prog X.w H s.heap _ (.dK []) from I.hok _ _ (frz_same H ra _ _ q))
        cases kv
        cases es with
        | mk l =>
          cases (show Pairs _ l [] from hp)
          exact .dict0 ho hc.1 hd lo
    | ty n => simp [pyD] at h
    | cls c => simp [pyD] at h
    | fn f => simp [pyD] at h
    | ins q rf => simp [pyD] at h
    | exc q q2 rf => simp [pyD] at h
end
theorem call_reprD (hgd : X.A.guards = some []) (hu : X.A.units + 65 < cLine) (eK : X.K = g.K) : CallR X (.builtin "repr") (fun xs H Q => ∃ x d ra cs w, xs = [x] ∧ Rel g ra cs H ∧ RepW g (frz H ra) ra w x ∧ wPr cs w = some d ∧ d.showable = true ∧ d.depth ≤ 60 ∧ d.shown.length ≤ sizeLine ∧ Q (.str d.shown) H) := by
  intro pins s σ H xs us Q I r h
  obtain ⟨x, d, ra, cs, w, rfl, R, h1, h2, h3, h4, h5, q⟩ := h
  cases r with
  | cons rv rn =>
    cases rn
    exact call_reprV (wPr_top I eK R h1 h2 rv h3 h5) h3 hgd (by omega) h5 fun h' u tk hk => ⟨.str d.shown, H, I.kept hk, ⟨u, rfl⟩, q⟩
theorem c_rep (ok : Okx g N sc ac k X Wx) (F : Fx g wd k) {pn : Pos} (hg : glB sc "repr" = true) (hst : notSt e = true) (ha : PE X e (tE g Wx fa)) :
    PE X (.Call (.Name "repr" pn) [e] [] p) (tE g Wx fun fr cs => (fa fr cs).bind fun w c1 => repW w c1) := by
  have hm : X.mg "repr" = none := by rw [ok.mg]; exact F.br
  refine PE.imp (pe_callB (call_reprD (g := g) ok.gd ok.units ok.K) (gl_of ok hg) hm (show bootBuiltins "repr" = some (.builtin "repr") by decide +kernel) (pa_cons ha pa_nil (star_of hst)) (by decide +kernel) (by decide +kernel) (star_of (es := []) hst) rfl) ?_
  rintro σ H Q ⟨fr, cs, ra, R, Fr, q⟩
  refine ⟨fr, cs, ra, R, Fr, PostR.imp (PostR.bind (rp := rpW g ra) q) ?_⟩
  rintro x H1 ⟨w, c1, k1, R1, r1, p1⟩
  unfold repW at p1
  split at p1
  · rename_i pd e1
    split at p1
    · rename_i hc
      exact ⟨x, pd, ra, c1, w, rfl, R1, r1, e1, hc.1, hc.2.1, by rw [line_lit]; exact hc.2.2, p1 H1 _ (Keep.refl _ _) R1 (.str _)⟩
    · exact p1.elim
  · exact p1.elim
end
end BV
namespace BV
open PySem L2
section
variable {g : G} {wd : Wd} {N : List Str} {sc : Scope} {ac : Bool} {k : Nat} {X : Cx} {Wx : WX} {fa fb fc : Fra → Cells → R W} {fl fm : Fra → Cells → R (List W)} {l r e : Expr} {es : List Expr} {kws : List Keyword} {p : Pos}
theorem RepWs.get {F : Hp} {ra : Ra} {ws : List W} {vs : List V} (h : RepWs g F ra ws vs) : ∀ {i : Nat} {w : W}, ws[i]? = some w → RepW g F ra w (vs.getD i .non) := by
  induction h with
  | nil => intro i w e; simp at e
  | cons h _ ih =>
    intro i w e
    cases i with
    | zero => simp at e; subst e; simpa using h
    | succ i => simpa using ih (by simpa using e)
theorem flat_rep {F : Hp} {d : D} (h : (flatV? d).isSome = true) : Rep g F d ((flatV? d).getD .non) := by
  cases d <;> first | (simp [flatV?] at h; done) | (simp only [flatV?, Option.getD_some]; constructor)
theorem srcs_ok {F : Hp} {ra : Ra} {ws zs : List W} {vs us : List V} (h1 : RepWs g F ra ws vs) (h2 : RepWs g F ra zs us) : ∀ {pm : List Src} {l : List W}, (∀ x, Src.d x ∈ pm → (flatV? x).isSome = true) → srcs ws zs pm = some l → RepWs g F ra l (srcV vs us pm) ∧ l.length = pm.length
  | [], l, _, e => by
    simp only [srcs, Option.some.injEq] at e
    subst e
    exact ⟨.nil, rfl⟩
  | .p i :: pm, l, hf, e => by
    simp only [srcs] at e
    split at e
    · rename_i w l' e1 e2
      cases e
      obtain ⟨q1, q2⟩ := srcs_ok h1 h2 (fun x hx => hf x (List.mem_cons_of_mem _ hx)) e2
      exact ⟨.cons (h1.get e1) q1, congrArg Nat.succ q2⟩
    · cases e
  | .k i :: pm, l, hf, e => by
    simp only [srcs] at e
    split at e
    · rename_i w l' e1 e2
      cases e
      obtain ⟨q1, q2⟩ := srcs_ok h1 h2 (fun x hx => hf x (List.mem_cons_of_mem _ hx)) e2
      exact ⟨.cons (h2.get e1) q1, congrArg Nat.succ q2⟩
    · cases e
  | .d x :: pm, l, hf, e => by
    simp only [srcs, Option.map_eq_some_iff] at e
    obtain ⟨l', e2, rfl⟩ := e
    obtain ⟨q1, q2⟩ := srcs_ok h1 h2 (fun x hx => hf x (List.mem_cons_of_mem _ hx)) e2
    exact ⟨.cons (flat_rep (hf x (List.mem_cons_self ..))) q1, congrArg Nat.succ q2⟩
theorem kw_facts {env : Env} {pos : Pos} : ∀ {kws : List Keyword} {nms : List Str}, kws.map (·.arg) = nms.map some →
    (backToKw pos (keywordEach kws env)).all (·.1.isSome) = true ∧ (backToKw pos (keywordEach kws env)).filterMap (·.1) = nms ∧ (backToKw pos (keywordEach kws env)).any (·.1.isNone) = false
  | [], [], _ => ⟨rfl, rfl, rfl⟩
  | ⟨a, v, kp⟩ :: kws, nm :: nms, h => by
    simp only [List.map_cons, List.cons.injEq] at h
    obtain ⟨rfl, h⟩ := h
    obtain ⟨h1, h2, h3⟩ := kw_facts (env := env) (pos := pos) h
    refine ⟨?_, ?_, ?_⟩
    · show (true && (backToKw pos (keywordEach kws env)).all (·.1.isSome)) = true
      rw [h1]; rfl
    · show nm :: (backToKw pos (keywordEach kws env)).filterMap (·.1) = nm :: nms
      rw [h2]
    · show (false || (backToKw pos (keywordEach kws env)).any (·.1.isNone)) = false
      rw [h3]; rfl
  | [], _ :: _, h => by simp at h
  | _ :: _, [], h => by simp at h
theorem pk_nilB : PK X [] (tA g Wx fun _ cs => .ok [] cs) := ⟨fun pos pins s σ H Q I ⟨fr, cs, ra, R, F, q⟩ => (pk_nil (X := X)).run pos pins s σ H Q I (q H [] (Keep.refl _ _) R .nil)⟩
theorem pk_consB {nm : Option Str} {kp : Pos} (h1 : PE X e (tE g Wx fa)) (h2 : PK X kws (tA g Wx fl)) : PK X (⟨nm, e, kp⟩ :: kws) (tA g Wx fun fr cs => (fa fr cs).bind fun w c1 => (fl fr c1).bind fun ws c2 => .ok (w :: ws) c2) :=
  ⟨fun pos pins s σ H Q I h => (pk_cons h1 h2).run pos pins s σ H Q I (by
    obtain ⟨fr, cs, ra, R, F, q⟩ := h
    refine ⟨fr, cs, ra, R, F, PostR.imp (PostR.bind (rp := rpW g ra) q) ?_⟩
    rintro x H1 ⟨w1, c1, k1, R1, r1, p1⟩
    refine ⟨fr, c1, ra, R1, F.mono k1, PostR.imp (PostR.bind (rp := rpA g ra) p1) ?_⟩
    rintro xs H2 ⟨ws, c2, k2, R2, r2, p2⟩
    exact p2 H2 _ (Keep.refl _ _) R2 (.cons (r1.mono k2.same) r2))⟩
/-- the callee runs; what it lets out is wished for at the caller's slots -/
theorem run_N {CX : CXT} {n : Nat} {f : Addr} {fd : FuncData} {ps ks : List Str} {sp : Sp} {E : XK} {gg : List Value → List Value → List Value} {gV : List V → List V → List V} {pins : List (Addr × Obj)} {σ : L2.St} {H : Hp} {s : Shared} {Q : VK} {us ws : List Value} {vs zs : List V}
    (F : FnG X.prog X.w X.K X.mg X.base CX k f fd ps sp) (hr : Room k X.A) (hgd : X.A.guards = some []) (hb : KBn X.K fd ps n ks gg gV) (hx : PassesAt CX X σ E)
    (I : Inv X pins σ H s) (r : Vals vs us) (rz : Vals zs ws) (l1 : vs.length = n) (l2 : zs.length = ks.length) (h : sp (gV vs zs) H Q E) : wpAny (model X.prog X.w) X.A (call (.ref f) us (ks.zip ws)) (EP X pins σ Q) X.xe s := by
  have r2 := hb.rel r rz
  refine wpAny_call (codeAny_mono (F.run X.A X.stack s H ⟨us, ks.zip ws⟩ (gg us ws) (gV vs zs) Q E hr hgd I.env0 (hb.to s us ws I.kIn (r.length.symm.trans l1) (rz.length.symm.trans l2)) r2 h) fun r s' hq => ?_)
  cases r with
  | error e => exact hx pins H s e s' I hq
  | ok fl =>
    cases fl with
    | ret u => exact I.after hq
    | next => exact False.elim hq
    | brk => exact False.elim hq
    | cont => exact False.elim hq
theorem Fx.fn' (F : Fx g wd k) (ok : Okx g N sc ac k X Wx) (f : Nat) : FnG X.prog X.w X.K X.mg X.base (L2.CX X.prog X.w) k (g.fa f) (g.fd f) (g.ps f) (spOf g (g.ps f).length (wd.phi f)) := by
  rw [ok.P, ok.w, ok.K, ok.mg, ok.base]
  exact F.fn f
theorem callW_post {ra : Ra} {H : Hp} {Q : VK} {E : XK} {f : Nat} {ws : List W} {cs : Cells} (h : PostR g (rpW g ra) (callW wd f ws cs) ra H Q E) : PostR g (fun H' d v => Rep g (frz H' ra) d v) (wd.phi f ws cs) ra H Q E := by
  unfold callW R.map at h
  cases e : wd.phi f ws cs with
  | ok d c => rw [e] at h; exact h
  | exc c x cc => rw [e] at h; exact h
  | bad => rw [e] at h; exact h
def evCall (wd : Wd) (f q : Nat) (fl fm : Fra → Cells → R (List W)) : Fra → Cells → R W := fun fr cs => (fl fr cs).bind fun ws c1 => (fm fr c1).bind fun zs c2 => match (wd.pat f q).bind fun q => srcs ws zs q.2.2 with
    | some l => callW wd f l c2
    | none => .bad
/-- behind the arguments: the call -/
theorem go_call {f q n : Nat} {nms : List Str} {pm : List Src} {pins : List (Addr × Obj)} {σ : L2.St} {s : Shared} {us ws' : List Value} {vs zs : List V} {ws ys : List W} {cs : Cells} {ra : Ra} {H : Hp} {Q : VK} (ok : Okx g N sc ac k X Wx) (F : Fx g wd k) (hp : wd.pat f q = some (n, nms, pm))
    (I : Inv X pins σ H s) (R : Rel g ra cs H) (r1 : RepWs g (frz H ra) ra ws vs) (r2 : RepWs g (frz H ra) ra ys zs) (v1 : Vals vs us) (v2 : Vals zs ws') (l1 : vs.length = n) (l2 : zs.length = nms.length)
    (h : PostR g (rpW g ra) (match (wd.pat f q).bind fun q => srcs ws ys q.2.2 with
      | some l => callW wd f l cs
      | none => .bad) ra H Q (fun c d H' => Wx c d σ H')) : wpAny (model X.prog X.w) X.A (call (.ref (g.fa f)) us (nms.zip ws')) (EP X pins σ Q) X.xe s := by
  obtain ⟨hf, hl, gg, hb⟩ := F.pat _ _ _ _ _ hp
  rw [hp] at h
  simp only [Option.bind_some] at h
  split at h
  · rename_i l e
    obtain ⟨q1, q2⟩ := srcs_ok r1 r2 hf e
    exact run_N (F.fn' ok f) (ok.hr.mono (by omega)) ok.gd (by rw [ok.K]; exact hb) (passAt ok.tk σ) I v1 v2 l1 l2 ⟨l, cs, ra, R, q1, by rw [q2, hl], callW_post h⟩
  · exact h.elim
theorem PostR.bindE {α β γ δ : Type} {rp : Hp → α → β → Prop} {rq : Hp → γ → δ → Prop} {ra : Ra} {H : Hp} {Q2 : δ → Hp → Prop} {E : XK} {r : R α} {k : α → Cells → R γ} (h : PostR g rq (r.bind k) ra H Q2 E) :
    PostR g rp r ra H (fun v H1 => ∃ a cs1, r = .ok a cs1 ∧ Keep ra H H1 ∧ Rel g ra cs1 H1 ∧ rp H1 a v ∧ PostR g rq (k a cs1) ra H1 Q2 E) E := by
  cases r with
  | ok a cs => exact fun H1 v k1 R1 p => ⟨a, cs, rfl, k1, R1, p, PostR.from k1 h⟩
  | exc c x cs => exact h
  | bad => exact h
theorem dbg_of {x : Str} (h : nodbg x = true) : (x == ("__debug__" : Str)) = false := by
  unfold nodbg at h
  simp only [Bool.and_eq_true, Bool.not_eq_true'] at h
  exact h.1
/-- the arguments, then what is wanted of the values -/
theorem args_call {f q n : Nat} {nms : List Str} {pm : List Src} {pn : Pos} {v : Value} (hkeep : PySem.W.keepIn X.K v = true) (ok : Okx g N sc ac k X Wx) (hn : (e :: es).length = n) (hk : kws.map (·.arg) = nms.map some) (hs : ∀ x ∈ e :: es, notSt x = true)
    (ha : PA X (e :: es) (tA g Wx fl)) (hkw : PK X kws (tA g Wx fm)) (l1 : ∀ fr cs ws c, fl fr cs = .ok ws c → ws.length = (e :: es).length) (l2 : ∀ fr cs ws c, fm fr cs = .ok ws c → ws.length = kws.length)
    {pins : List (Addr × Obj)} {σ : L2.St} {H : Hp} {s : Shared} {Q : VK} {G : List W → List W → Cells → R W} (I : Inv X pins σ H s) (h : tE g Wx (fun fr cs => (fl fr cs).bind fun ws c1 => (fm fr c1).bind fun zs c2 => G ws zs c2) σ H Q)
    (go : ∀ {s : Shared} {us ws' : List Value} {vs zs : List V} {ws ys : List W} {cs : Cells} {ra : Ra} {H : Hp}, Inv X pins σ H s → Rel g ra cs H → RepWs g (frz H ra) ra ws vs → RepWs g (frz H ra) ra ys zs → Vals vs us → Vals zs ws' → vs.length = n → zs.length = nms.length →
      PostR g (rpW g ra) (G ws ys cs) ra H Q (fun c d H' => Wx c d σ H') → wpAny (model X.prog X.w) X.A (call v us (nms.zip ws')) (EP X pins σ Q) X.xe s) :
    wpAny (model X.prog X.w) X.A (callWith p v [] (backTo p (starEach (e :: es) X.env)) (backToKw p (keywordEach kws X.env))) (EP X pins σ Q) X.xe s := by
  obtain ⟨k1, k2, k3⟩ := kw_facts (env := X.env) (pos := p) hk
  have hpl := (nostar_any (env := X.env) (pos := p) hs).1
  obtain ⟨fr, cs, ra, R, Fr, q1⟩ := h
  refine PySem.W.callWith_KW (h₀ := X.base) I.ok.mod.kin hkeep k1 (thn (ha.run p pins s σ H _ I ⟨fr, cs, ra, R, Fr, PostR.bindE (rp := rpA g ra) q1⟩) fun us s1 ⟨vs, H1, I1, rv, ws, c1, e1, kk1, R1, r1, p1⟩ => ?_) (by rw [hpl, k3]; rfl) (star_of (hs e (List.mem_cons_self ..)))
  refine thn (hkw.run p pins s1 σ H1 _ I1 ⟨fr, c1, ra, R1, Fr.mono kk1, PostR.bindE (rp := rpA g ra) p1⟩) fun ws2 s2 ⟨zs, H2, I2, rz, ys, c2, e2, kk2, R2, r2, p2⟩ => ⟨I2.kIn, ?_⟩
  rw [k2]
  refine go I2 R2 (r1.mono kk2.same) r2 rv rz ?_ ?_ p2
  · rw [← r1.length, l1 _ _ _ _ e1]; exact hn
  · have a1 := r2.length
    have a2 := l2 _ _ _ _ e2
    have a3 := congrArg List.length hk
    simp only [List.length_map] at a3
    omega
theorem args_call0 {nms : List Str} {pn : Pos} {v : Value} (hkeep : PySem.W.keepIn X.K v = true) (ok : Okx g N sc ac k X Wx) (hk : kws.map (·.arg) = nms.map some)
    (hkw : PK X kws (tA g Wx fm)) (l2 : ∀ fr cs ws c, fm fr cs = .ok ws c → ws.length = kws.length)
    {pins : List (Addr × Obj)} {σ : L2.St} {H : Hp} {s : Shared} {Q : VK} {G : List W → List W → Cells → R W} (I : Inv X pins σ H s) (h : tE g Wx (fun fr cs => (fm fr cs).bind fun zs c2 => G [] zs c2) σ H Q)
    (go : ∀ {s : Shared} {us ws' : List Value} {vs zs : List V} {ws ys : List W} {cs : Cells} {ra : Ra} {H : Hp}, Inv X pins σ H s → Rel g ra cs H → RepWs g (frz H ra) ra ws vs → RepWs g (frz H ra) ra ys zs → Vals vs us → Vals zs ws' → vs.length = 0 → zs.length = nms.length →
      PostR g (rpW g ra) (G ws ys cs) ra H Q (fun c d H' => Wx c d σ H') → wpAny (model X.prog X.w) X.A (call v us (nms.zip ws')) (EP X pins σ Q) X.xe s) :
    wpAny (model X.prog X.w) X.A (callWith p v [] (backTo p (starEach [] X.env)) (backToKw p (keywordEach kws X.env))) (EP X pins σ Q) X.xe s := by
  obtain ⟨k1, k2, k3⟩ := kw_facts (env := X.env) (pos := p) hk
  obtain ⟨fr, cs, ra, R, Fr, q1⟩ := h
  refine PySem.W.callWith_KW0 (h₀ := X.base) I.ok.mod.kin hkeep k1 ?_ (by rw [k3]; rfl)
  refine thn (hkw.run p pins s σ H _ I ⟨fr, cs, ra, R, Fr, PostR.bindE (rp := rpA g ra) q1⟩) fun ws2 s2 ⟨zs, H2, I2, rz, ys, c2, e2, kk2, R2, r2, p2⟩ => ⟨I2.kIn, ?_⟩
  rw [k2]
  refine go (vs := []) I2 R2 .nil r2 .nil rz rfl ?_ p2
  have a1 := r2.length
  have a2 := l2 _ _ _ _ e2
  have a3 := congrArg List.length hk
  simp only [List.length_map] at a3
  omega
theorem c_call {f q n : Nat} {nms : List Str} {pm : List Src} {x : Str} {pn : Pos} (ok : Okx g N sc ac k X Wx) (F : Fx g wd k) (hx : wd.fnm f = some x) (hg : glB sc x = true) (hd : nodbg x = true) (hp : wd.pat f q = some (n, nms, pm)) (hn : (e :: es).length = n) (hk : kws.map (·.arg) = nms.map some) (hs : ∀ x ∈ e :: es, notSt x = true)
    (ha : PA X (e :: es) (tA g Wx fl)) (hkw : PK X kws (tA g Wx fm)) (l1 : ∀ fr cs ws c, fl fr cs = .ok ws c → ws.length = (e :: es).length) (l2 : ∀ fr cs ws c, fm fr cs = .ok ws c → ws.length = kws.length) :
    PE X (.Call (.Name x pn) (e :: es) kws p) (tE g Wx (evCall wd f q fl fm)) := by
  refine ⟨fun pins s σ H Q I h => ?_⟩
  obtain ⟨hm, hkp⟩ := F.nm f x hx
  refine wpAny_Call_Name_kw (ld_glob I (gl_of ok hg) (by rw [ok.mg]; exact hm) ?_ (dbg_of hd))
  exact args_call (f := f) (q := q) (pm := pm) (pn := pn) (by rw [ok.K]; exact hkp) ok hn hk hs ha hkw l1 l2 I h fun I2 R2 r1 r2 v1 v2 a1 a2 p2 => go_call ok F hp I2 R2 r1 r2 v1 v2 a1 a2 p2
theorem c_call0 {f q : Nat} {nms : List Str} {pm : List Src} {x : Str} {pn : Pos} (ok : Okx g N sc ac k X Wx) (F : Fx g wd k) (hx : wd.fnm f = some x) (hg : glB sc x = true) (hd : nodbg x = true) (hp : wd.pat f q = some (0, nms, pm)) (hk : kws.map (·.arg) = nms.map some)
    (hkw : PK X kws (tA g Wx fm)) (l2 : ∀ fr cs ws c, fm fr cs = .ok ws c → ws.length = kws.length) :
    PE X (.Call (.Name x pn) [] kws p) (tE g Wx (evCall wd f q (fun _ cs => .ok [] cs) fm)) := by
  refine ⟨fun pins s σ H Q I h => ?_⟩
  obtain ⟨hm, hkp⟩ := F.nm f x hx
  refine wpAny_Call_Name_kw (ld_glob I (gl_of ok hg) (by rw [ok.mg]; exact hm) ?_ (dbg_of hd))
  exact args_call0 (pn := pn) (G := fun ws zs c2 => match (wd.pat f q).bind fun q => srcs ws zs q.2.2 with | some l => callW wd f l c2 | none => .bad) (by rw [ok.K]; exact hkp) ok hk hkw l2 I h fun I2 R2 r1 r2 v1 v2 a1 a2 p2 => go_call ok F hp I2 R2 r1 r2 v1 v2 a1 a2 p2
/-! making an instance -/
def evMake (wd : Wd) (c q : Nat) (fl fm : Fra → Cells → R (List W)) : Fra → Cells → R W := fun fr cs => (fl fr cs).bind fun ws c1 => (fm fr c1).bind fun zs c2 => makeW wd c q ws zs c2
theorem ra_app {ra : Ra} {x : Addr} {n : Nat} {a : Addr} (h : ra[n]? = some (some a)) : (ra ++ [some x])[n]? = some (some a) := by
  rw [List.getElem?_append_left (List.getElem?_eq_some_iff.mp h).1]
  exact h
theorem RepW.app {F : Hp} {ra : Ra} {x : Addr} {w : W} {v : V} (h : RepW g F ra w v) : RepW g F (ra ++ [some x]) w v := by
  cases w with
  | d d => exact h
  | loc n => obtain ⟨a, h1, h2⟩ := h; exact ⟨a, h1, ra_app h2⟩
theorem RepWs.app {F : Hp} {ra : Ra} {x : Addr} {w : List W} {v : List V} (h : RepWs g F ra w v) : RepWs g F (ra ++ [some x]) w v := by
  induction h with
  | nil => exact .nil
  | cons h _ ih => exact .cons h.app ih
theorem frz_app {H : Hp} {ra : Ra} {x : Addr} : Same (frz H (ra ++ [some x])) (frz H ra) := fun b o h => by
  obtain ⟨hn, h1, t⟩ := frz_some h
  exact frz_at h1 (fun z => hn (List.mem_append_left _ z)) t
theorem frz_new {H H' : Hp} {ra : Ra} {x : Addr} (hx : H x = none) (hs : ∀ b o, H b = some o → noTbl o → H' b = some o) : Same (frz H ra) (frz H' (ra ++ [some x])) := fun b o h => by
  obtain ⟨hn, h1, t⟩ := frz_some h
  refine frz_at (hs b o h1 t) (fun z => ?_) t
  rcases List.mem_append.mp z with z | z
  · exact hn z
  · cases List.mem_singleton.mp z
    rw [hx] at h1
    cases h1
/-- a new cell: the object at x, behind the others -/
theorem Rel.grow {ra : Ra} {cs : Cells} {H H' : Hp} {x : Addr} {c : Cell} (R : Rel g ra cs H) (hx : H x = none) (hs : ∀ b o, H b = some o → H' b = some o) (hc : CellAt g (frz H' (ra ++ [some x])) H' x c) : Rel g (ra ++ [some x]) (cs ++ [some c]) H' := by
  have hnx : ∀ {n : Nat} {a : Addr}, ra[n]? = some (some a) → a ≠ x := fun {n a} h e => R.there (ra_mem h) (e ▸ hx)
  have hsame : Same (frz H ra) (frz H' (ra ++ [some x])) := frz_new hx fun b o h _ => hs b o h
  refine ⟨by rw [List.length_append, List.length_append, R.len]; rfl, fun n c' e => ?_, fun n e => ?_, fun n m a h1 h2 => ?_, R.tabs.ext hs⟩
  · by_cases hn : n < cs.length
    · rw [List.getElem?_append_left hn] at e
      obtain ⟨a, h1, h2⟩ := R.cell n c' e
      refine ⟨a, ra_app h1, h2.mono hsame ?_⟩
      cases q : H a with
      | none => exact absurd q h2.there
      | some o => exact hs a o q
    · rw [List.getElem?_append_right (Nat.le_of_not_lt hn)] at e
      have e0 : n - cs.length = 0 := by
        cases z : n - cs.length with
        | zero => rfl
        | succ z' => rw [z] at e; simp at e
      rw [e0] at e
      simp at e
      subst e
      have en : n = ra.length := by rw [R.len]; omega
      subst en
      exact ⟨x, by simp, hc⟩
  · by_cases hn : n < cs.length
    · rw [List.getElem?_append_left hn] at e
      have := R.dead n e
      rw [List.getElem?_append_left (by rw [R.len]; exact hn)]
      exact this
    · rw [List.getElem?_append_right (Nat.le_of_not_lt hn)] at e
      cases z : n - cs.length with
      | zero => rw [z] at e; simp at e
      | succ z' => rw [z] at e; simp at e
  · have cs1 : ∀ {n : Nat} {a : Addr}, (ra ++ [some x])[n]? = some (some a) → (n < ra.length ∧ ra[n]? = some (some a)) ∨ (n = ra.length ∧ a = x) := fun {n a} h => by
      by_cases hn : n < ra.length
      · rw [List.getElem?_append_left hn] at h
        exact .inl ⟨hn, h⟩
      · rw [List.getElem?_append_right (Nat.le_of_not_lt hn)] at h
        cases z : n - ra.length with
        | zero => rw [z] at h; simp at h; exact .inr ⟨by omega, h.symm⟩
        | succ z' => rw [z] at h; simp at h
    rcases cs1 h1 with ⟨l1, q1⟩ | ⟨l1, q1⟩ <;> rcases cs1 h2 with ⟨l2, q2⟩ | ⟨l2, q2⟩
    · exact R.inj n m a q1 q2
    · exact absurd q2 (hnx q1)
    · exact absurd q1 (hnx q2)
    · omega
/-- the last cell goes, its object stands from now on -/
theorem Rel.drop {ra : Ra} {cs : Cells} {H : Hp} {x : Addr} {n : Nat} (R : Rel g (ra ++ [some x]) cs H) (hn : ra.length = n) : Rel g ra (cs.take n) H := by
  subst hn
  refine ⟨?_, fun n c e => ?_, fun n e => ?_, fun n m a h1 h2 => R.inj n m a (ra_app h1) (ra_app h2), R.tabs⟩
  · have := R.len
    simp only [List.length_append, List.length_singleton] at this
    rw [List.length_take]
    omega
  · have hl : n < ra.length := by
      have := (List.getElem?_eq_some_iff.mp e).1
      rw [List.length_take] at this
      omega
    rw [List.getElem?_take_of_lt hl] at e
    obtain ⟨a, h1, h2⟩ := R.cell n c e
    rw [List.getElem?_append_left hl] at h1
    exact ⟨a, h1, h2.mono frz_app rfl⟩
  · have hl : n < ra.length := by
      have := (List.getElem?_eq_some_iff.mp e).1
      rw [List.length_take] at this
      omega
    rw [List.getElem?_take_of_lt hl] at e
    have := R.dead n e
    rw [List.getElem?_append_left hl] at this
    exact this
theorem upd2_keep {H : Hp} {x dx : Addr} {o o' : HO} (hx : H x = none) (hd : H dx = none) : ∀ b u, H b = some u → upd (upd H dx o) x o' b = some u := fun b u e => by
  rw [upd_ne (ne_of_none e hx), upd_ne (ne_of_none e hd)]
  exact e
theorem make_sp {c q f n : Nat} {nms : List Str} {pm : List Src} {vs zs : List V} {ws ys : List W} {cs : Cells} {ra : Ra} {H : Hp} {Q : VK} {E : XK} (F : Fx g wd k) (hi : wd.init c = some f) (hp : wd.pat f q = some (n, nms, pm))
    (R : Rel g ra cs H) (r1 : RepWs g (frz H ra) ra ws vs) (r2 : RepWs g (frz H ra) ra ys zs) (h : PostR g (rpW g ra) (makeW wd c q ws ys cs) ra H Q E) (x dx : Addr) (hx : H x = none) (hd : H dx = none) (hne : dx ≠ x) :
    spOf g (g.ps f).length (wd.phi f) (srcV (.ref x :: vs) zs pm) (upd (upd H dx (.own x)) x (.ins (g.ca c) dx [])) (fun v H2 => v = .non ∧ Q (.ref x) H2) E := by
  obtain ⟨hf, hl, _⟩ := F.pat _ _ _ _ _ hp
  have hk := upd2_keep (o := .own x) (o' := .ins (g.ca c) dx []) hx hd
  have R' : Rel g (ra ++ [some x]) (cs ++ [some (.ins c [])]) (upd (upd H dx (.own x)) x (.ins (g.ca c) dx [])) := R.grow hx hk ⟨dx, [], upd_same, .nil⟩
  have hs : Same (frz H ra) (frz (upd (upd H dx (.own x)) x (.ins (g.ca c) dx [])) (ra ++ [some x])) := frz_new hx fun b o h _ => hk b o h
  have nx : some x ∉ ra := R.fresh hx
  have keep : ∀ {H' : Hp}, Keep (ra ++ [some x]) (upd (upd H dx (.own x)) x (.ins (g.ca c) dx [])) H' → Keep ra H H' := fun kk b o e nb => by
    refine kk b o (hk b o e) (fun z => ?_)
    rcases List.mem_append.mp z with z | z
    · exact nb z
    · cases List.mem_singleton.mp z
      rw [hx] at e
      cases e
  unfold makeW at h
  rw [hi] at h
  dsimp only at h
  rw [hp] at h
  simp only [Option.bind_some] at h
  split at h
  · rename_i l e
    have rx : RepWs g (frz (upd (upd H dx (.own x)) x (.ins (g.ca c) dx [])) (ra ++ [some x])) (ra ++ [some x]) (.loc cs.length :: ws) (.ref x :: vs) := .cons ⟨x, rfl, by rw [← R.len]; simp⟩ (r1.app.mono hs)
    obtain ⟨q1, q2⟩ := srcs_ok rx (r2.app.mono hs) hf e
    refine ⟨l, _, _, R', q1, by rw [q2, hl], ?_⟩
    cases e2 : wd.phi f l (cs ++ [some (.ins c [])]) with
    | bad => rw [e2] at h; exact h
    | exc c' x' cs' =>
      rw [e2] at h
      intro H' dd v kk R2 hdd rr
      exact h H' dd v (keep kk) (R2.drop R.len) hdd (rr.mono frz_app)
    | ok d cs' =>
      rw [e2] at h
      intro H' v kk R2 rr
      have h' : PostR g (rpW g ra) (madeW c cs.length d cs') ra H Q E := h
      unfold madeW at h'
      split at h'
      · rename_i c' fs hc
        split at h'
        · rename_i ec
          subst ec
          cases rr
          refine ⟨rfl, h' H' (.ref x) (keep kk) (R2.drop R.len) ?_⟩
          obtain ⟨a, ha, dx', vs', h3, h4⟩ := R2.cell _ _ hc
          have ea : a = x := by
            rw [← R.len] at ha
            simp at ha
            exact ha.symm
          subst ea
          exact .ins (frz_at h3 nx) (h4.mono frz_app)
        · exact h'.elim
      · exact h'.elim
  · exact h.elim
theorem mk_guards {A : Around} {a : Args} (h : A.guards = some []) : (A.under (.builtin "type.__call__" a)).guards = some [] := by
  show pushGuards (Code.guards (.builtin "type.__call__" a)) A.guards = _
  have e : Code.isGuard (.builtin "type.__call__" a) = false := by
    unfold Code.isGuard
    first | rfl | decide +kernel | simp | kernel_rfl
  rw [show Code.guards (.builtin "type.__call__" a) = [] by unfold Code.guards; rw [e]; rfl, h]
  rfl
theorem go_make {c q f n : Nat} {nms : List Str} {pm : List Src} {pins : List (Addr × Obj)} {σ : L2.St} {s : Shared} {us ws' : List Value} {vs zs : List V} {ws ys : List W} {cs : Cells} {ra : Ra} {H : Hp} {Q : VK} (ok : Okx g N sc ac k X Wx) (F : Fx g wd k) (hi : wd.init c = some f) (hp : wd.pat f q = some (n, nms, pm))
    (I : Inv X pins σ H s) (R : Rel g ra cs H) (r1 : RepWs g (frz H ra) ra ws vs) (r2 : RepWs g (frz H ra) ra ys zs) (v1 : Vals vs us) (v2 : Vals zs ws') (l1 : vs.length + 1 = n) (l2 : zs.length = nms.length)
    (h : PostR g (rpW g ra) (makeW wd c q ws ys cs) ra H Q (fun c d H' => Wx c d σ H')) : wpAny (model X.prog X.w) X.A (call (.ref (g.ca c)) us (nms.zip ws')) (EP X pins σ Q) X.xe s := by
  obtain ⟨hf, hl, gg, hb⟩ := F.pat _ _ _ _ _ hp
  have M : Mk X.K (g.ca c) (g.fa f) := by rw [ok.K]; exact F.mk_ _ _ hi
  have hb' : KBn X.K (g.fd f) (g.ps f) n nms gg fun vs zs => srcV vs zs pm := by rw [ok.K]; exact hb
  have hq := make_sp F hi hp R r1 r2 h (s.heap.objs.size + 1) s.heap.objs.size (I.hok.fresh (Nat.le_succ _)) (I.hok.fresh (Nat.le_refl _)) (Nat.ne_of_lt (Nat.lt_succ_self _))
  have I2 := Inv.made (C := g.ca c) I
  have rr1 : Vals (V.ref (s.heap.objs.size + 1) :: vs) (Value.ref (s.heap.objs.size + 1) :: us) := .cons rfl v1
  have rr2 := hb'.rel rr1 v2
  have n1 : (Value.ref (s.heap.objs.size + 1) :: us).length = n := by
    rw [List.length_cons, ← v1.length]
    exact l1
  have FF := F.fn' ok f
  refine wpAny_call (make_map (f := g.fa f) I.kIn M.makes M.init (beq_iff_eq.mp M.fn) (codeAny_mono (FF.run _ X.stack _ _ ⟨Value.ref (s.heap.objs.size + 1) :: us, nms.zip ws'⟩ (gg (Value.ref (s.heap.objs.size + 1) :: us) ws') _ _ (WE Wx σ) ((ok.hr.mono (by omega : k + 1 ≤ k + 2)).make (g.ca c) us (nms.zip ws')) (mk_guards ok.gd)
    (I2.env0.make (g.ca c) us (nms.zip ws')) (hb'.to _ (Value.ref (s.heap.objs.size + 1) :: us) ws' I2.kIn n1 (v2.length.symm.trans l2)) rr2 hq) fun r s' hq' => ?_))
  cases r with
  | error e => exact passAt ok.tk σ pins _ _ e s' I2 hq'
  | ok fl =>
    cases fl with
    | ret u =>
      obtain ⟨v, H', I3, rv, ev, q3⟩ := I2.after hq'
      subst ev
      exact ⟨rv, ⟨V.ref (s.heap.objs.size + 1), H', I3, rfl, q3⟩⟩
    | next => exact False.elim hq'
    | brk => exact False.elim hq'
    | cont => exact False.elim hq'
theorem c_make {c f q n : Nat} {nms : List Str} {pm : List Src} {x : Str} {pn : Pos} (ok : Okx g N sc ac k X Wx) (F : Fx g wd k) (hx : wd.cnm c = some x) (hi : wd.init c = some f) (hg : glB sc x = true) (hd : nodbg x = true) (hp : wd.pat f q = some (n, nms, pm)) (hn : (e :: es).length + 1 = n) (hk : kws.map (·.arg) = nms.map some) (hs : ∀ x ∈ e :: es, notSt x = true)
    (ha : PA X (e :: es) (tA g Wx fl)) (hkw : PK X kws (tA g Wx fm)) (l1 : ∀ fr cs ws c, fl fr cs = .ok ws c → ws.length = (e :: es).length) (l2 : ∀ fr cs ws c, fm fr cs = .ok ws c → ws.length = kws.length) :
    PE X (.Call (.Name x pn) (e :: es) kws p) (tE g Wx (evMake wd c q fl fm)) := by
  refine ⟨fun pins s σ H Q I h => ?_⟩
  refine wpAny_Call_Name_kw (ld_glob I (gl_of ok hg) (by rw [ok.mg]; exact F.cnm _ _ hx) ?_ (dbg_of hd))
  refine args_call (n := (e :: es).length) (f := f) (q := q) (pm := pm) (pn := pn) (by rw [ok.K]; exact (F.mk_ _ _ hi).kp) ok rfl hk hs ha hkw l1 l2 I h fun I2 R2 r1 r2 v1 v2 a1 a2 p2 => go_make ok F hi hp I2 R2 r1 r2 v1 v2 (by rw [a1]; exact hn) a2 p2
theorem c_make0 {c f q : Nat} {nms : List Str} {pm : List Src} {x : Str} {pn : Pos} (ok : Okx g N sc ac k X Wx) (F : Fx g wd k) (hx : wd.cnm c = some x) (hi : wd.init c = some f) (hg : glB sc x = true) (hd : nodbg x = true) (hp : wd.pat f q = some (1, nms, pm)) (hk : kws.map (·.arg) = nms.map some)
    (hkw : PK X kws (tA g Wx fm)) (l2 : ∀ fr cs ws c, fm fr cs = .ok ws c → ws.length = kws.length) :
    PE X (.Call (.Name x pn) [] kws p) (tE g Wx (evMake wd c q (fun _ cs => .ok [] cs) fm)) := by
  refine ⟨fun pins s σ H Q I h => ?_⟩
  refine wpAny_Call_Name_kw (ld_glob I (gl_of ok hg) (by rw [ok.mg]; exact F.cnm _ _ hx) ?_ (dbg_of hd))
  exact args_call0 (pn := pn) (G := fun ws zs c2 => makeW wd c q ws zs c2) (by rw [ok.K]; exact (F.mk_ _ _ hi).kp) ok hk hkw l2 I h fun I2 R2 r1 r2 v1 v2 a1 a2 p2 => go_make ok F hi hp I2 R2 r1 r2 v1 v2 (by rw [a1]) a2 p2
end
end BV
namespace BV
open PySem PySem.Spec PyProof.Rows L2 RZ
/-! ### zip of a list and a tuple, by the library's zip over iterators of any kind -/
def ItLT (K : PySem.W.Frag) (a b : Addr) : It :=
  ⟨fun i H => ∃ (xs ys : List V) (x y : V), SqL K H a xs ∧ SqT K H b ys ∧ xs[i]? = some x ∧ ys[i]? = some y,
    fun i H v H' => ∃ T x y, v = .ref T ∧ H T = none ∧ H' = upd H T (.tup [x, y]) ∧ (∀ xs, SqL K H a xs → xs[i]? = some x) ∧ ∀ ys, SqT K H b ys → ys[i]? = some y,
    fun i H => ∃ xs ys : List V, SqL K H a xs ∧ SqT K H b ys ∧ i ≤ xs.length ∧ i ≤ ys.length ∧ (i = xs.length ∨ i = ys.length)⟩
theorem sep_of {z TI TO i1 i2 a b : Addr} (D : ZipApart z TI TO i1 i2 a b) : ZipSep2 z TI TO i1 i2 [i1, a] [i2, b] where
  TIz := D.TIz
  TOz := D.TOz
  TITO := D.TITO
  TIi1 := D.TIi1
  mem1 := by simp
  zf1 := by simp [D.i1z.symm, D.l1z.symm]
  Tf1 := by simp [D.TOi1, D.l1TO.symm]
  TIi2 := D.TIi2
  mem2 := by simp
  zf2 := by simp [D.i2z.symm, D.l2z.symm]
  Tf2 := by simp [D.TOi2, D.l2TO.symm]
  sep1_2 := by simp [D.i12, D.l2i1.symm]
  sep2_1 := by simp [D.i12.symm, D.l1i2.symm]
theorem next_zip {prog : Program} {w : World} {A : Around} {E : Value → Shared → Prop} {s : Shared} {z TI TO : Addr} {Q : Option Value → Shared → Prop} (hz : IsZip s.heap z TI TO .none)
    (h : wpAny (model prog w) A.in1 (Builtin.«zip.__next__» ⟨[.ref z], []⟩) (fun fin s' => ∃ v, fin = .done (.ret v) ∧ Q (some v) s') (fun e s' => (∃ o, ∃ a, e = .ref a ∧ s'.heap.get? a = some o ∧ o.cls = .type "StopIteration") ∧ Q none s') s) : wpAny (model prog w) A (pyNext (.ref z)) Q E s := by
  have hT : s.TypeIs (.ref z) "zip" := ⟨_, hz, rfl⟩
  unfold pyNext
  refine wpAny_bind (wpAny_attempt (wpAny_callSpecial?_slot (name := Str.ofString "__next__") hT F.slot_zip_next
    (wpAny_call_entry F.slot_zip_next hT F.entry_zip_next (wpAny_mono h (fun fin s' h => ?_) fun e s' h => ?_) (F.args_zip_next_1 _))))
  · obtain ⟨v, e, q⟩ := h
    exact ⟨v, e, wpAny_pure q⟩
  · obtain ⟨⟨o, a, rfl, ho, hc⟩, q⟩ := h
    exact wpAny_bind (wpAny_isInstance (T := "StopIteration") (b := true) ⟨o, ho, hc⟩ isSubtype_stop (wpAny_pure q))
theorem turn_LT {P : Program} {w : World} {K : PySem.W.Frag} {elts : List Expr} {kk : Nat} {tpos : Pos} {a b z TI TO i1 i2 : Addr} (D : ZipApart z TI TO i1 i2 a b) :
    Turn P w K (.Tuple elts kk tpos) (ItLT K a b) [z, TI, TO, i1, i2] z (fun i h => IsZip h z TI TO .none ∧ IsPair h TI (.ref i1) (.ref i2) ∧ (∃ x y, IsPair h TO x y) ∧ h.IsListIter i1 a i ∧ h.IsTupleIter i2 b i) where
  mem := by simp
  obj := fun i h st c hc => by
    obtain ⟨hz, hTI, ⟨x, y, hTO⟩, ⟨o1, e1, _, d1⟩, ⟨o2, e2, _, d2⟩⟩ := st
    simp only [List.mem_cons, List.not_mem_nil, or_false] at hc
    rcases hc with rfl | rfl | rfl | rfl | rfl
    · exact ⟨_, hz, fun v q => nomatch q⟩
    · exact ⟨_, hTI, fun v q => nomatch q⟩
    · exact ⟨_, hTO, fun v q => nomatch q⟩
    · exact ⟨o1, e1, fun v q => by rw [d1] at q; cases q⟩
    · exact ⟨o2, e2, fun v q => by rw [d2] at q; cases q⟩
  keep := fun i h h' st k => by
    obtain ⟨hz, hTI, ⟨x, y, hTO⟩, h1, h2⟩ := st
    exact ⟨k z (by simp) _ hz, k TI (by simp) _ hTI, ⟨x, y, k TO (by simp) _ hTO⟩, h1.at fun o q => k i1 (by simp) o q, h2.at fun o q => k i2 (by simp) o q⟩
  item := by
    intro X hP hw hK hc i pins s σ H E I hf st hg
    subst hP hw hK
    obtain ⟨hz, hTI, ⟨x0, y0, hTO⟩, h1, h2⟩ := st
    obtain ⟨xs, ys, x, y, hqx, hqy, hx, hy⟩ := hg
    obtain ⟨its, rv, p, _⟩ := I.list hqx
    obtain ⟨its2, rv2, p2, _⟩ := I.tuple hqy
    obtain ⟨u, hu, ru⟩ := rv.get hx
    obtain ⟨u2, hu2, ru2⟩ := rv2.get hy
    have hzl : z < s.heap.objs.size := Heap.lt_size hz
    have hlt1 : i < its.toArray.size := by simpa using (List.getElem?_eq_some_iff.mp hu).1
    have hlt2 : i < its2.toArray.size := by simpa using (List.getElem?_eq_some_iff.mp hu2).1
    refine next_zip hz (zipD2_next_item (sep_of D) (Draws.list (show X.A.in1.handled = none from I.ok.hd hc) i1 a D.l1i1 its.toArray) (Draws.tuple (show X.A.in1.handled = none from I.ok.hd hc) i2 b D.l2i2 its2.toArray) hz hTI hTO ⟨h1, p.isList⟩ ⟨h2, p2⟩ hlt1 hlt2 fun v1 v2 h' tk e1 e2 z' TO' h1' h2' hT hsz hk => ?_)
    have e1 : v1 = u := by simp [hu] at e1; exact e1.symm
    have e2 : v2 = u2 := by simp [hu2] at e2; exact e2.symm
    subst e1 e2
    refine ⟨_, rfl, wpAny_letOwnedTupleGo_zip (s := { s with heap := h', toks := tk }) z' fun h'' z'' sb => ?_⟩
    have hT2 : h''.get? s.heap.objs.size = some { cls := .type "tuple", data := .seq #[v1, v2] } := (sb.2 _ (Nat.ne_of_gt hzl)).trans hT
    have new : ObjOk X.prog X.w (upd H s.heap.objs.size (.tup [x, y])) h'' s.heap.objs.size (.tup [x, y]) :=
      ⟨by show 2 ≤ sizeLine; decide, [v1, v2], .cons ru (.cons ru2 .nil), ⟨_, hT2, rfl, _, rfl⟩⟩
    have I1 : Inv X pins σ (upd H s.heap.objs.size (.tup [x, y])) { s with heap := h'', toks := tk } :=
      I.turnedNew (t' := tk) (ch := [z, TI, TO, i1, i2]) (fun c o hb q => (sb.2 c (fun q' => hb (by simp [q']))).trans (hk c o (fun q' => hb (by simp [q'])) (fun q' => hb (by simp [q'])) (fun q' => hb (by simp [q'])) (fun q' => hb (by simp [q'])) q)) hf (Nat.le_refl _) new
    refine ⟨.ref s.heap.objs.size, _, I1, rfl, ⟨_, x, y, rfl, I.hok.fresh (Nat.le_refl _), rfl, fun l hl => by rw [I.list_inj hl hqx]; exact hx, fun l hl => by rw [I.tuple_inj hl hqy]; exact hy⟩, ⟨z'', ?_, ⟨v1, v2, ?_⟩, ?_, ?_⟩, fun c hcm => ?_⟩
    · exact (sb.2 _ D.TIz).trans (hk _ _ D.TIz D.TITO D.TIi1 D.TIi2 hTI)
    · exact (sb.2 _ D.TOz).trans TO'
    · exact h1'.1.at fun o q => (sb.2 _ D.i1z).trans q
    · exact h2'.1.at fun o q => (sb.2 _ D.i2z).trans q
    · have hlt : c < s.heap.objs.size := by
        simp only [List.mem_cons, List.not_mem_nil, or_false] at hcm
        rcases hcm with rfl | rfl | rfl | rfl | rfl
        · exact hzl
        · exact Heap.lt_size hTI
        · exact Heap.lt_size hTO
        · obtain ⟨_, e1, _⟩ := h1; exact Heap.lt_size e1
        · obtain ⟨_, e2, _⟩ := h2; exact Heap.lt_size e2
      rw [upd_ne (Nat.ne_of_lt hlt)]
      exact (hf c hcm).1
  done := by
    intro X hP hw hK hc i pins s σ H E I hf st hg
    subst hP hw hK
    obtain ⟨hz, hTI, ⟨x0, y0, hTO⟩, h1, h2⟩ := st
    obtain ⟨xs, ys, hqx, hqy, l1, l2, hend⟩ := hg
    obtain ⟨its, rv, p, _⟩ := I.list hqx
    obtain ⟨its2, rv2, p2, _⟩ := I.tuple hqy
    have m1 := rv.length
    have m2 := rv2.length
    refine next_zip hz (zipD2_next_end (sep_of D) (Draws.list (show X.A.in1.handled = none from I.ok.hd hc) i1 a D.l1i1 its.toArray) (Draws.tuple (show X.A.in1.handled = none from I.ok.hd hc) i2 b D.l2i2 its2.toArray) hz hTI hTO ⟨h1, p.isList⟩ ⟨h2, p2⟩ (by simp; omega) (by simp; omega) (by simp; omega) fun h' tk e hk he => ?_)
    obtain ⟨o, ho, hc'⟩ := he
    exact ⟨⟨o, e, rfl, ho, hc'⟩, rfl, I.turnedL (t' := tk) (ch := [z, TI, TO, i1, i2]) (fun c o hb q =>
      hk c o (fun q' => hb (by simp [q'])) (fun q' => hb (by simp [q'])) (fun q' => hb (by simp [q'])) (fun q' => hb (by simp [q'])) q) hf⟩
  self := fun A i s Q E st h => wpAny_pyIter_zip st.1 h
/-- lists and tuples -/
def iZip3 (K : PySem.W.Frag) (ta : TA) : TI := fun σ H R => ta σ H fun vs H1 => ∃ a b xs ys, vs = [.ref a, .ref b] ∧ ((SqL K H1 a xs ∧ SqL K H1 b ys ∧ R (Itz K a b) H1) ∨ (SqT K H1 a xs ∧ SqT K H1 b ys ∧ R (ItzT K a b) H1) ∨ (SqL K H1 a xs ∧ SqT K H1 b ys ∧ R (ItLT K a b) H1))
theorem pi_zip3 {X : Cx} {e e2 : Expr} {ta : TA} {p pos tpos : Pos} {elts : List Expr} {kk : Nat} (hg : Gl X "zip") (hm : X.mg "zip" = none) (ha : PA X [e, e2] ta)
    (hs : starEach [e, e2] X.env = (false, eval e X.env) :: starEach [e2] X.env := by rfl) (hpl : (backTo pos (starEach [e2] X.env)).any (·.1) = false := by rfl) :
    PI X (.Tuple elts kk tpos) (.Call (.Name "zip" p) [e, e2] [] pos) (iZip3 X.K ta) := by
  refine ⟨fun pins s σ H R I h => ?_⟩
  refine Call_ (ld_blt I hg hm PyProof.Rows.boot_zip (PyProof.Rows.callWith_type1 (thn (ha.run pos pins s σ H _ I h) fun us s1 ⟨vs, H1, I1, r1, q1⟩ => ?_) hs hpl))
  obtain ⟨a, b, xs, ys, ex, q⟩ := q1
  subst ex
  cases r1 with
  | cons r rr =>
    cases rr with
    | cons r' rr =>
      cases rr
      cases r
      cases r'
      have fresh5 : ∀ c, c ∈ [s1.heap.objs.size + 4, s1.heap.objs.size + 2, s1.heap.objs.size + 3, s1.heap.objs.size, s1.heap.objs.size + 1] → FpOk X pins H1 c := fun c hcm => by
        have hle : s1.heap.objs.size ≤ c := by
          simp only [List.mem_cons, List.not_mem_nil, or_false] at hcm
          rcases hcm with z | z | z | z | z <;> rw [z] <;> first | exact Nat.le_add_right _ _ | exact Nat.le_refl _
        exact I1.fpOk hle (I1.hok.fresh hle)
      rcases q with ⟨hqx, hqy, q⟩ | ⟨hqx, hqy, q⟩ | ⟨hqx, hqy, q⟩
      · obtain ⟨its, rv, p1, _⟩ := I1.list hqx
        obtain ⟨its2, rv2, p2, _⟩ := I1.list hqy
        refine zip_begins2 (begins_list a its.toArray) (begins_list b its2.toArray) p1.isList p2.isList fun h' hz hTI hTO h1 h2 hsz hk => wpAny_pyIter_zip hz ?_
        have I2 : Inv X pins σ H1 { s1 with heap := h' } := I1.kept (t' := s1.toks) hk
        exact ⟨s1.heap.objs.size + 4, [s1.heap.objs.size + 4, s1.heap.objs.size + 2, s1.heap.objs.size + 3, s1.heap.objs.size, s1.heap.objs.size + 1], _, _, H1, rfl, I2, turn_zip (PySem.W.ktu_apart s1.heap.objs.size a b p1.lt p2.lt), ⟨hz, hTI, ⟨_, _, hTO⟩, ⟨_, h1, rfl, rfl⟩, ⟨_, h2, rfl, rfl⟩⟩, fresh5, q⟩
      · obtain ⟨its, rv, p1, _⟩ := I1.tuple hqx
        obtain ⟨its2, rv2, p2, _⟩ := I1.tuple hqy
        obtain ⟨o1, ho1, _⟩ := id p1
        obtain ⟨o2, ho2, _⟩ := id p2
        refine zip_begins2 (begins_tuple a its.toArray) (begins_tuple b its2.toArray) p1 p2 fun h' hz hTI hTO h1 h2 hsz hk => wpAny_pyIter_zip hz ?_
        have I2 : Inv X pins σ H1 { s1 with heap := h' } := I1.kept (t' := s1.toks) hk
        exact ⟨s1.heap.objs.size + 4, [s1.heap.objs.size + 4, s1.heap.objs.size + 2, s1.heap.objs.size + 3, s1.heap.objs.size, s1.heap.objs.size + 1], _, _, H1, rfl, I2, turn_zipT (PySem.W.ktu_apart s1.heap.objs.size a b (Heap.lt_size ho1) (Heap.lt_size ho2)), ⟨hz, hTI, ⟨_, _, hTO⟩, ⟨_, h1, rfl, rfl⟩, ⟨_, h2, rfl, rfl⟩⟩, fresh5, q⟩
      · obtain ⟨its, rv, p1, _⟩ := I1.list hqx
        obtain ⟨its2, rv2, p2, _⟩ := I1.tuple hqy
        obtain ⟨o2, ho2, _⟩ := id p2
        refine zip_begins2 (begins_list a its.toArray) (begins_tuple b its2.toArray) p1.isList p2 fun h' hz hTI hTO h1 h2 hsz hk => wpAny_pyIter_zip hz ?_
        have I2 : Inv X pins σ H1 { s1 with heap := h' } := I1.kept (t' := s1.toks) hk
        exact ⟨s1.heap.objs.size + 4, [s1.heap.objs.size + 4, s1.heap.objs.size + 2, s1.heap.objs.size + 3, s1.heap.objs.size, s1.heap.objs.size + 1], _, _, H1, rfl, I2, turn_LT (PySem.W.ktu_apart s1.heap.objs.size a b p1.lt (Heap.lt_size ho2)), ⟨hz, hTI, ⟨_, _, hTO⟩, ⟨_, h1, rfl, rfl⟩, ⟨_, h2, rfl, rfl⟩⟩, fresh5, q⟩
end BV
namespace BV
open PySem L2
section
variable {g : G} {wd : Wd} {N : List Str} {sc : Scope} {ac : Bool} {k : Nat} {X : Cx} {Wx : WX} {fa fb fc : Fra → Cells → R W} {fl fm : Fra → Cells → R (List W)} {l r e : Expr} {es : List Expr} {kws : List Keyword} {p : Pos}
/-! fields, properties, methods -/
theorem clsOf_ok {w : W} {v : V} {cs : Cells} {ra : Ra} {H : Hp} {c : Nat} {fs : List (Str × D)} (R : Rel g ra cs H) (r : RepW g (frz H ra) ra w v) (h : clsOf cs w = some (c, fs)) : ∃ a dx vs, v = .ref a ∧ H a = some (.ins (g.ca c) dx vs) ∧ RepF g (frz H ra) fs vs := by
  unfold clsOf at h
  split at h
  · cases h
    cases r with
    | ins h1 h2 => exact ⟨_, _, _, rfl, frz_same H ra _ _ h1, h2⟩
  · split at h
    · rename_i hc
      cases h
      obtain ⟨a, rfl, ha⟩ := r
      obtain ⟨a', h1, dx, vs, h2, h3⟩ := R.cell _ _ hc
      rw [ha] at h1
      cases h1
      exact ⟨a, dx, vs, rfl, h2, h3⟩
    · cases h
  · cases h
theorem nox_post {α β : Type} {rp : Hp → α → β → Prop} {ra : Ra} {H : Hp} {Q : β → Hp → Prop} {E E' : XK} {r : R α} (h : PostR g rp r.nox ra H Q E) : PostR g rp r ra H Q E' := by
  cases r with
  | ok a cs => exact h
  | exc c x cs => exact h.elim
  | bad => exact h.elim
/-- positional arguments only -/
theorem run_B {CX : CXT} {n : Nat} {f : Addr} {fd : FuncData} {ps : List Str} {sp : Sp} {E : XK} {pins : List (Addr × Obj)} {σ : L2.St} {H : Hp} {s : Shared} {Q : VK} {us : List Value} {vs : List V}
    (F : FnG X.prog X.w X.K X.mg X.base CX n f fd ps sp) (hr : Room n X.A) (hgd : X.A.guards = some []) (hb : Binds X.K fd ps []) (hx : PassesAt CX X σ E) (I : Inv X pins σ H s) (r : Vals vs us) (h : sp vs H Q E) :
    wpAny (model X.prog X.w) X.A (call (.ref f) us) (EP X pins σ Q) X.xe s := by
  have hl : us.length = ps.length := by rw [← r.length]; exact F.len _ _ _ _ h
  have b2 := hb s us I.kIn (by rw [List.append_nil]; exact hl)
  rw [List.append_nil] at b2
  refine wpAny_call (codeAny_mono (F.run X.A X.stack s H ⟨us, []⟩ us vs Q E hr hgd I.env0 b2 r h) fun r s' hq => ?_)
  cases r with
  | error e => exact hx pins H s e s' I hq
  | ok fl =>
    cases fl with
    | ret u => exact I.after hq
    | next => exact False.elim hq
    | brk => exact False.elim hq
    | cont => exact False.elim hq
/-- a property is read -/
theorem getpropG {CX : CXT} {n : Nat} {f : Str} {a C dx p gg : Addr} {fs : List (Str × V)} {fd : FuncData} {ps : List Str} {sp : Sp} {E : XK} {pins : List (Addr × Obj)} {σ : L2.St} {H : Hp} {s : Shared} {Q : VK} {b : Bool} {E' : Value → Shared → Prop} (I : Inv X pins σ H s) (ea : H a = some (.ins C dx fs)) (c : Cls X.K C) (hp : PropOf X.K C f p gg)
    (F : FnG X.prog X.w X.K X.mg X.base CX n gg fd ps sp) (hr : Room (n + 1) X.A) (hgd : X.A.guards = some []) (hb : Binds X.K fd ps []) (hx : Passes CX X.nox E) (h : sp [.ref a] H Q E) :
    wpAny (model X.prog X.w) X.A (getAttr (.ref a) f b) (EP X pins σ Q) E' s := by
  obtain ⟨mA, O, _, _, _, _⟩ := ins_get I.hok ea
  obtain ⟨od, J, _⟩ := O.look
  obtain ⟨rest, hrec⟩ := hp.rec_
  have I1 := I.tok (s.toks + 1)
  have b2 := hb { s with toks := s.toks + 1 } [.ref a] I1.kIn (by rw [List.append_nil]; exact F.len _ _ _ _ h)
  rw [List.append_nil] at b2
  have hc : (PySem.W.clsIn X.K C).isSome = true := by
    obtain ⟨cd, hc, _⟩ := PySem.W.any_some c.hd
    rw [hc]
    rfl
  refine PySem.W.get_bind I.kIn J (PySem.W.plainGet_of (c.get f)).1 (PySem.W.findObj_data hc hp.at_ hp.get hp.tak) (PySem.W.plainGet_of (c.get f)).2 (wpAny_call (PySem.W.prop_get (s := { s with toks := s.toks + 1 }) I.kIn hrec ?_))
  refine codeAny_mono (F.run X.A.in1 X.stack { s with toks := s.toks + 1 } H ⟨[.ref a], []⟩ [.ref a] [.ref a] Q E hr.in1 hgd I1.env0.in1 b2 (.cons rfl .nil) h) fun r s' hq => ?_
  cases r with
  | error er => exact False.elim (hx pins σ H { s with toks := s.toks + 1 } er s' (I1.wish _) hq)
  | ok fl =>
    cases fl with
    | ret u =>
      obtain ⟨v, H', I3, rv, q3⟩ := I1.after hq
      show wpAny _ _ (handedOut u) _ _ _
      rw [PySem.W.handedOut_of (handed_of rv)]
      exact wpAny_pure ⟨v, H', I3, rv, q3⟩
    | next => exact False.elim hq
    | brk => exact False.elim hq
    | cont => exact False.elim hq
theorem c_fld {f : Str} (ok : Okx g N sc ac k X Wx) (F : Fx g wd k) (hsup : notSup l = true) (ha : PE X l (tE g Wx fa)) : PE X (.Attribute l f p) (tE g Wx fun fr cs => (fa fr cs).bind fun w c1 => fldW wd w f c1) := by
  refine ⟨fun pins s σ H Q I h => ?_⟩
  obtain ⟨fr, cs, ra, R, Fr, q⟩ := h
  refine attr_of (base_of hsup) (thn (ha.run pins s σ H _ I ⟨fr, cs, ra, R, Fr, PostR.bind (rp := rpW g ra) q⟩) fun u s1 ⟨x, H1, I1, ru, w, c1, k1, R1, rw', p1⟩ => ?_)
  unfold fldW at p1
  split at p1
  · rename_i c fs e
    obtain ⟨a, dx, vs, rfl, ea, rf⟩ := clsOf_ok R1 rw' e
    obtain rfl : u = Value.ref a := ru
    split at p1
    · rename_i pf ep
      obtain ⟨hc, ⟨pp, hp⟩, hl, hb⟩ := F.prop _ _ _ ep
      have hc' : Cls X.K (g.ca c) := by rw [ok.K]; exact hc
      have hp' : PropOf X.K (g.ca c) f pp (g.fa pf) := by rw [ok.K]; exact hp
      have hb' : Binds X.K (g.fd pf) (g.ps pf) [] := by rw [ok.K]; exact hb
      refine getpropG I1 ea hc' hp' (F.fn' ok pf) (ok.hr.mono (by omega)) ok.gd hb' (E := E0) passL ?_
      refine ⟨[w], c1, ra, R1, .cons rw' .nil, hl.symm, callW_post (nox_post p1)⟩
    · split at p1
      · rename_i hk
        obtain ⟨hc, hn⟩ := F.fld _ _ hk
        have hc' : Cls X.K (g.ca c) := by rw [ok.K]; exact hc
        have hn' : NoAttr X.K (g.ca c) f := by rw [ok.K]; exact hn
        split at p1
        · rename_i d ed
          obtain ⟨v, ev, rv⟩ := rf.lookup ed
          exact getattr_ok I1 ea hc' hn' ev fun u s' I' ru => ⟨v, H1, I', ru, back R1 rv p1⟩
        · exact p1.elim
      · exact p1.elim
  · unfold fldE at p1
    split at p1
    · rename_i c x
      split at p1
      · rename_i nm fl ex
        split at p1
        · rename_i ef
          subst ef
          obtain ⟨e0, _, _, _, _, hC, hN⟩ := F.exk _ _ _ ex
          cases rw' with
          | @exc c x v a dd h1 h2 rx =>
            obtain rfl : u = Value.ref a := ru
            exact held_get I1 (frz_same _ _ _ _ h1) (by rw [e0]; exact frz_same _ _ _ _ h2) (by rw [ok.K]; exact hC) (by rw [ok.K]; exact hN) (back R1 rx p1)
        · exact p1.elim
      · exact p1.elim
    · exact p1.elim
theorem meth_rule {m : Str} {apos : Pos} {pins : List (Addr × Obj)} {s : Shared} {Q : Value → Shared → Prop} (hsup : notSup l = true) (hline : (apos.endLine == p.line) = true) (hlen : es.length < 20) (hs : ∀ x ∈ es, notSt x = true)
    (h : wpAny (model X.prog X.w) X.A (eval l X.env) (fun ov s₁ => wpAny (model X.prog X.w) X.A (getMethod ov m (do return (← importBound l X.env).getD true)) (fun fx s2 => wpAny (model X.prog X.w) X.A (callWith p fx.1 fx.2 (backTo p (starEach es X.env)) []) Q X.xe s2) X.xe s₁) X.xe s) :
    wpAny (model X.prog X.w) X.A (eval (.Call (.Attribute l m apos) es [] p) X.env) Q X.xe s := by
  rw [PySem.arm_eval_Call, base_of hsup]
  refine wpAny_bind (thn h fun ov s1 h1 => ?_)
  have hal := (nostar_any (env := X.env) (pos := p) hs).2
  have hform : methodCallForm (es.length + ([] : List Keyword).length) (backTo p (starEach es X.env)) (backToKw p (keywordEach [] X.env)) = true := by
    unfold methodCallForm
    rw [hal]
    have : es.length + 0 + 0 < 30 := by omega
    show (true && true && decide (es.length + 0 + 0 < 30)) = true
    rw [decide_eq_true this]
    rfl
  have hpos : methodCallPos true l X.env apos p = pure p := by unfold methodCallPos; simp [hline]
  refine wpAny_bind (wpAny_standAt ?_)
  unfold methodCall
  rw [hform]
  refine wpAny_bind (wpAny_holding (thn (show wpAny _ _ (getMethod ov m _) _ _ _ from h1) fun fx s2 h2 => ?_))
  exact wpAny_bind (wpAny_of_eq hpos h2)
theorem meth_go {m : Str} {pins : List (Addr × Obj)} {σ : L2.St} {s : Shared} {us : List Value} {vs : List V} {ws : List W} {w : W} {a : Addr} {cs : Cells} {ra : Ra} {H : Hp} {Q : VK} {c f : Nat} (ok : Okx g N sc ac k X Wx) (F : Fx g wd k) (hm : wd.meth c m = some f)
    (I : Inv X pins σ H s) (R : Rel g ra cs H) (r0 : RepW g (frz H ra) ra w (.ref a)) (r1 : RepWs g (frz H ra) ra ws vs) (v1 : Vals vs us) (hl : (g.ps f).length = ws.length + 1)
    (h : PostR g (rpW g ra) (callW wd f (w :: ws) cs) ra H Q (fun c d H' => Wx c d σ H')) : wpAny (model X.prog X.w) X.A (call (.ref (g.fa f)) (.ref a :: us)) (EP X pins σ Q) X.xe s := by
  obtain ⟨_, _, hb⟩ := F.meth _ _ _ hm
  have hb' : Binds X.K (g.fd f) (g.ps f) [] := by rw [ok.K]; exact hb
  exact run_B (vs := .ref a :: vs) (us := .ref a :: us) (E := WE Wx σ) (F.fn' ok f) (ok.hr.mono (by omega)) ok.gd hb' (passAt ok.tk σ) I (.cons rfl v1) (by
    exact ⟨w :: ws, cs, ra, R, .cons r0 r1, by rw [hl]; rfl, callW_post h⟩)
def evMeth (wd : Wd) (m : Str) (fa : Fra → Cells → R W) (fl : Fra → Cells → R (List W)) : Fra → Cells → R W := fun fr cs => (fa fr cs).bind fun w c1 => match mthW wd w m c1 with
  | some f => (fl fr c1).bind fun ws c2 => if wd.npar f = ws.length + 1 then callW wd f (w :: ws) c2 else .bad
  | none => .bad
theorem mthW_ok {w : W} {m : Str} {f : Nat} {cs : Cells} {ra : Ra} {H : Hp} {v : V} (R : Rel g ra cs H) (r : RepW g (frz H ra) ra w v) (h : mthW wd w m cs = some f) :
    ∃ a c dx vs, v = .ref a ∧ H a = some (.ins (g.ca c) dx vs) ∧ vs.lookup m = none ∧ wd.meth c m = some f := by
  unfold mthW at h
  split at h
  · rename_i c fs e
    obtain ⟨a, dx, vs, rfl, ea, rf⟩ := clsOf_ok R r e
    split at h
    · rename_i f' e1 e2
      cases h
      exact ⟨a, c, dx, vs, rfl, ea, rf.lookup_none e2, e1⟩
    · cases h
  · cases h
theorem c_meth {m : Str} {apos : Pos} (ok : Okx g N sc ac k X Wx) (F : Fx g wd k) (hsup : notSup l = true) (hline : (apos.endLine == p.line) = true) (hlen : (e :: es).length < 20) (hs : ∀ x ∈ e :: es, notSt x = true) (ha : PE X l (tE g Wx fa)) (hl : PA X (e :: es) (tA g Wx fl)) :
    PE X (.Call (.Attribute l m apos) (e :: es) [] p) (tE g Wx (evMeth wd m fa fl)) := by
  refine ⟨fun pins s σ H Q I h => ?_⟩
  obtain ⟨fr, cs, ra, R, Fr, q⟩ := h
  refine meth_rule (pins := pins) hsup hline hlen hs (thn (ha.run pins s σ H _ I ⟨fr, cs, ra, R, Fr, PostR.bind (rp := rpW g ra) q⟩) fun u s1 ⟨x, H1, I1, ru, w, c1, k1, R1, rw', p1⟩ => ?_)
  split at p1
  · rename_i f ef
    obtain ⟨a, c, dx, vs, rfl, ea, hno, hm⟩ := mthW_ok R1 rw' ef
    obtain rfl : u = Value.ref a := ru
    obtain ⟨hc, hme, _⟩ := F.meth _ _ _ hm
    have hc' : Cls X.K (g.ca c) := by rw [ok.K]; exact hc
    have hme' : Meth X.K (g.ca c) m (g.fa f) := by rw [ok.K]; exact hme
    refine getmeth_ok I1 ea hc' hme' hno ?_
    have hst := star_of (es := es) (env := X.env) (hs e (List.mem_cons_self ..))
    have hpl := (nostar_any (env := X.env) (pos := p) fun x hx => hs x (List.mem_cons_of_mem _ hx)).1
    refine PySem.W.callWith_K (first := [.ref a]) (h₀ := X.base) I1.ok.mod.kin hme'.kp (thn (hl.run p pins s1 σ H1 _ I1 ⟨fr, c1, ra, R1, Fr.mono k1, PostR.bind (rp := rpA g ra) p1⟩) fun us s2 ⟨vs2, H2, I2, r2, ws, c2, k2, R2, rws, p2⟩ => ⟨I2.kIn, ?_⟩) hst hpl
    split at p2
    · rename_i hn
      exact meth_go (m := m) ok F hm I2 R2 (rw'.mono k2.same) rws r2 ((F.npar f).symm.trans hn) p2
    · exact p2.elim
  · exact p1.elim
theorem c_meth0 {m : Str} {apos : Pos} (ok : Okx g N sc ac k X Wx) (F : Fx g wd k) (hsup : notSup l = true) (hline : (apos.endLine == p.line) = true) (ha : PE X l (tE g Wx fa)) :
    PE X (.Call (.Attribute l m apos) [] [] p) (tE g Wx (evMeth wd m fa fun _ cs => .ok [] cs)) := by
  refine ⟨fun pins s σ H Q I h => ?_⟩
  obtain ⟨fr, cs, ra, R, Fr, q⟩ := h
  refine meth_rule (pins := pins) hsup hline (by show 0 < 20; decide) (fun x hx => by cases hx) (thn (ha.run pins s σ H _ I ⟨fr, cs, ra, R, Fr, PostR.bind (rp := rpW g ra) q⟩) fun u s1 ⟨x, H1, I1, ru, w, c1, k1, R1, rw', p1⟩ => ?_)
  split at p1
  · rename_i f ef
    obtain ⟨a, c, dx, vs, rfl, ea, hno, hm⟩ := mthW_ok R1 rw' ef
    obtain rfl : u = Value.ref a := ru
    obtain ⟨hc, hme, _⟩ := F.meth _ _ _ hm
    have hc' : Cls X.K (g.ca c) := by rw [ok.K]; exact hc
    have hme' : Meth X.K (g.ca c) m (g.fa f) := by rw [ok.K]; exact hme
    refine getmeth_ok I1 ea hc' hme' hno ?_
    have p1' : PostR g (rpW g ra) (if wd.npar f = ([] : List W).length + 1 then callW wd f [w] c1 else .bad) ra H1 Q (fun c d H' => Wx c d σ H') := p1
    split at p1'
    · rename_i hn
      exact PySem.W.callWith_K0 (first := [.ref a]) I1.kIn hme'.kp (meth_go (m := m) (us := []) (vs := []) (ws := []) ok F hm I1 R1 rw' .nil .nil ((F.npar f).symm.trans hn) p1')
    · exact p1'.elim
  · exact p1.elim
/-! what is walked -/
def WalksD (g : G) (F : Hp) (J : It) (ds : List D) : Prop := ∀ H2, Same F H2 → (∀ i d, ds[i]? = some d → J.go i H2 ∧ ∀ x H3, J.yld i H2 x H3 → Same H2 H3 ∧ ∀ F3, Same F F3 → (∀ b o, H2 b = none → H3 b = some o → noTbl o → F3 b = some o) → Rep g F3 d x) ∧ J.stop ds.length H2
def tI (g : G) (Wx : WX) (fi : Fra → Cells → R (List D)) : TI := fun σ H RR => ∃ fr cs ra, Rel g ra cs H ∧ FrR g H ra fr σ ∧ PostR g (fun H1 ds J => WalksD g (frz H1 ra) J ds) (fi fr cs) ra H RR (fun c d H' => Wx c d σ H')
theorem PI.imp {X : Cx} {tg e : Expr} {t t' : TI} (h : PI X tg e t) (i : ∀ σ H Q, t' σ H Q → t σ H Q) : PI X tg e t' := ⟨fun pins s σ H Q I q => h.run pins s σ H Q I (i σ H Q q)⟩
theorem walks_rng {F : Hp} {a : Int} {n : Nat} : WalksD g F (Itr a n) ((List.range n).map fun i => .int (a + (i : Nat))) := by
  intro H2 hs
  refine ⟨fun i d h => ?_, ?_⟩
  · rw [List.getElem?_map] at h
    cases e : (List.range n)[i]? with
    | none => rw [e] at h; cases h
    | some j =>
      rw [e] at h
      have hi : i < n := by
        have := (List.getElem?_eq_some_iff.mp e).1
        rwa [List.length_range] at this
      have ej : j = i := by
        rw [List.getElem?_range hi] at e
        exact (Option.some.inj e).symm
      subst ej
      cases h
      exact ⟨hi, fun x H3 ⟨e1, e2⟩ => ⟨by rw [e1]; exact Same.refl _, fun F3 _ _ => by rw [e2]; exact .int _⟩⟩
  · show n ≤ _
    rw [List.length_map, List.length_range]
    exact Nat.le_refl _
theorem small62_ok {i : Int} (h : small62 i = true) : -(2 ^ 62) ≤ i ∧ i < 2 ^ 62 := by
  unfold small62 at h
  have := of_decide_eq_true h
  omega
theorem c_rng1 {tg : Expr} {pn : Pos} (ok : Okx g N sc ac k X Wx) (F : Fx g wd k) (hg : glB sc "range" = true) (hst : notSt e = true) (ha : PE X e (tE g Wx fa)) :
    PI X tg (.Call (.Name "range" pn) [e] [] p) (tI g Wx fun fr cs => (asI (fa fr cs)).bind fun i c1 => if small62 i then .ok (rngD 0 i) c1 else .bad) := by
  refine PI.imp (pi_range1 (gl_of ok hg) (by rw [ok.mg]; exact F.bx.1) (pa_cons ha pa_nil (star_of hst)) (star_of (es := []) hst)) ?_
  rintro σ H RR ⟨fr, cs, ra, R, Fr, q⟩
  refine ⟨fr, cs, ra, R, Fr, PostR.imp (asI_post (PostR.bind (rp := fun _ (a b : Int) => a = b) q)) ?_⟩
  rintro x H1 ⟨i, rfl, i', c1, k1, R1, rfl, p1⟩
  split at p1
  · rename_i hs
    obtain ⟨h1, h2⟩ := small62_ok hs
    refine ⟨i', rfl, h1, h2, p1 H1 _ (Keep.refl _ _) R1 ?_⟩
    unfold rngD
    rw [Int.sub_zero]
    exact walks_rng
  · exact p1.elim
theorem walks_list {F : Hp} {a : Addr} {ds : List D} {vs : List V} (h : SqL g.K F a vs) (r : RepL g F ds vs) : WalksD g F (Itl g.K a) ds := by
  intro H2 hs
  refine ⟨fun i d hd => ?_, vs, hs.seq h, by rw [r.length]; exact Nat.le_refl _⟩
  obtain ⟨v, e1, e2⟩ := r.get hd
  refine ⟨⟨vs, v, hs.seq h, e1⟩, fun x H3 ⟨e3, e4⟩ => ?_⟩
  subst e3
  refine ⟨Same.refl _, fun F3 hF _ => ?_⟩
  have := e4 vs (hs.seq h)
  rw [e1] at this
  cases this
  exact e2.mono hF
theorem walks_tup {F : Hp} {a : Addr} {ds : List D} {vs : List V} (h : SqT g.K F a vs) (r : RepL g F ds vs) : WalksD g F (Itt g.K a) ds := by
  intro H2 hs
  refine ⟨fun i d hd => ?_, vs, sqT_mono hs h, by rw [r.length]; exact Nat.le_refl _⟩
  obtain ⟨v, e1, e2⟩ := r.get hd
  refine ⟨⟨vs, v, sqT_mono hs h, e1⟩, fun x H3 ⟨e3, e4⟩ => ?_⟩
  subst e3
  refine ⟨Same.refl _, fun F3 hF _ => ?_⟩
  have := e4 vs (sqT_mono hs h)
  rw [e1] at this
  cases this
  exact e2.mono hF
theorem c_itl {tg : Expr} (ok : Okx g N sc ac k X Wx) (ha : PE X e (tE g Wx fa)) : PI X tg e (tI g Wx fun fr cs => (fa fr cs).bind fun w c1 => match w with
    | .d (.lst xs) => .ok xs c1
    | .d (.flst xs) => .ok xs c1
    | _ => .bad) := by
  refine PI.imp (pi_list ha) ?_
  rintro σ H RR ⟨fr, cs, ra, R, Fr, q⟩
  refine ⟨fr, cs, ra, R, Fr, PostR.imp (PostR.bind (rp := rpW g ra) q) ?_⟩
  rintro x H1 ⟨w, c1, k1, R1, r1, p1⟩
  rw [ok.K]
  split at p1
  · cases r1 with
    | lst h rr => exact ⟨_, rfl, ⟨_, SqL.of (frz_same _ _ _ _ h)⟩, p1 H1 _ (Keep.refl _ _) R1 (walks_list (SqL.of h) rr)⟩
  · cases r1 with
    | flst h rr => exact ⟨_, rfl, ⟨_, (frz_same H1 ra).seq h⟩, p1 H1 _ (Keep.refl _ _) R1 (walks_list h rr)⟩
  · exact p1.elim
theorem c_itt {tg : Expr} (ok : Okx g N sc ac k X Wx) (ha : PE X e (tE g Wx fa)) : PI X tg e (tI g Wx fun fr cs => (fa fr cs).bind fun w c1 => match w with
    | .d (.tup xs) => .ok xs c1
    | _ => .bad) := by
  refine PI.imp (pi_tup ha) ?_
  rintro σ H RR ⟨fr, cs, ra, R, Fr, q⟩
  refine ⟨fr, cs, ra, R, Fr, PostR.imp (PostR.bind (rp := rpW g ra) q) ?_⟩
  rintro x H1 ⟨w, c1, k1, R1, r1, p1⟩
  rw [ok.K]
  split at p1
  · cases r1 with
    | tup h rr => exact ⟨_, rfl, ⟨_, sqT_mono (frz_same _ _) h⟩, p1 H1 _ (Keep.refl _ _) R1 (walks_tup h rr)⟩
  · exact p1.elim
theorem walks_zip {F : Hp} {xs ys : List D} {vs us : List V} {SA SB : Hp → List V → Prop} {stop : Nat → Hp → Prop} (sa : ∀ H, Same F H → SA H vs) (sb : ∀ H, Same F H → SB H us) (rr : RepL g F xs vs) (rr' : RepL g F ys us) (hst : ∀ H, Same F H → stop (zipD xs ys).length H) :
    WalksD g F ⟨fun i H => ∃ (xs ys : List V) (x y : V), SA H xs ∧ SB H ys ∧ xs[i]? = some x ∧ ys[i]? = some y,
      fun i H v H' => ∃ T x y, v = .ref T ∧ H T = none ∧ H' = upd H T (.tup [x, y]) ∧ (∀ xs, SA H xs → xs[i]? = some x) ∧ ∀ ys, SB H ys → ys[i]? = some y, stop⟩ (zipD xs ys) := by
  intro H3 hs
  refine ⟨fun i d hd => ?_, hst H3 hs⟩
  unfold zipD at hd
  rw [List.getElem?_map] at hd
  cases e1 : (xs.zip ys)[i]? with
  | none => rw [e1] at hd; cases hd
  | some d' =>
    rw [e1] at hd
    cases hd
    obtain ⟨e2, e3⟩ := List.getElem?_zip_eq_some.mp e1
    obtain ⟨v, f1, f2⟩ := rr.get e2
    obtain ⟨u, f3, f4⟩ := rr'.get e3
    refine ⟨⟨vs, us, v, u, sa _ hs, sb _ hs, f1, f3⟩, fun x H4 ⟨T, y1, y2, g1, g2, g3, g4, g5⟩ => ?_⟩
    have e4 := g4 vs (sa _ hs)
    have e5 := g5 us (sb _ hs)
    rw [f1] at e4
    rw [f3] at e5
    cases e4
    cases e5
    subst g1 g3
    refine ⟨fun b o hb => by rw [upd_ne (ne_of_none hb g2)]; exact hb, fun F3 hF hn => ?_⟩
    exact .tup (SqT.of (hn T _ g2 upd_same (fun _ z => by cases z))) (.cons (f2.mono hF) (.cons (f4.mono hF) .nil))
theorem zipD_len (xs ys : List D) : (zipD xs ys).length = min xs.length ys.length := by
  unfold zipD
  rw [List.length_map, List.length_zip]
theorem c_zip {tg : Expr} {pn : Pos} (ok : Okx g N sc ac k X Wx) (F : Fx g wd k) (hg : glB sc "zip" = true) (hst : notSt l = true) (hst2 : notSt r = true) (ht : isTupE tg = true) (ha : PE X l (tE g Wx fa)) (hb : PE X r (tE g Wx fb)) :
    PI X tg (.Call (.Name "zip" pn) [l, r] [] p) (tI g Wx fun fr cs => (fa fr cs).bind fun w1 c1 => (fb fr c1).bind fun w2 c2 => zipW w1 w2 c2) := by
  cases tg <;> first | (cases ht; done) | skip
  have s2 := star_of (es := []) (env := X.env) hst2
  have s1 := star_of (es := [r]) (env := X.env) hst
  refine PI.imp (pi_zip3 (gl_of ok hg) (by rw [ok.mg]; exact F.bx.2.2.1) (pa_cons ha (pa_cons hb pa_nil s2) s1) s1 (nostar_any (es := [r]) fun x hx => by cases List.mem_singleton.mp hx; exact hst2).1) ?_
  rintro σ H RR ⟨fr, cs, ra, R, Fr, q⟩
  refine ⟨fr, cs, ra, R, Fr, PostR.imp (PostR.bind (rp := rpW g ra) q) ?_⟩
  rintro x H1 ⟨w1, c1, k1, R1, r1, p1⟩
  refine ⟨fr, c1, ra, R1, Fr.mono k1, PostR.imp (PostR.bind (rp := rpW g ra) p1) ?_⟩
  rintro y H2 ⟨w2, c2, k2, R2, r2, p2⟩
  rw [ok.K]
  have r1' := r1.mono k2.same
  unfold zipW at p2
  split at p2
  · rename_i xs ys
    cases r1' with
    | @lst _ vs a h rr =>
      cases r2 with
      | @lst _ us b h' rr' =>
        refine ⟨a, b, vs, us, rfl, .inl ⟨SqL.of (frz_same _ _ _ _ h), SqL.of (frz_same _ _ _ _ h'), p2 H2 _ (Keep.refl _ _) R2 (walks_zip (fun H hs => hs.seq (SqL.of h)) (fun H hs => hs.seq (SqL.of h')) rr rr' fun H hs => ⟨vs, us, hs.seq (SqL.of h), hs.seq (SqL.of h'), ?_⟩)⟩⟩
        rw [zipD_len, rr.length, rr'.length]
        omega
  · rename_i xs ys
    cases r1' with
    | @tup _ vs a h rr =>
      cases r2 with
      | @tup _ us b h' rr' =>
        refine ⟨a, b, vs, us, rfl, .inr (.inl ⟨sqT_mono (frz_same _ _) h, sqT_mono (frz_same _ _) h', p2 H2 _ (Keep.refl _ _) R2 (walks_zip (fun H hs => sqT_mono hs h) (fun H hs => sqT_mono hs h') rr rr' fun H hs => ⟨vs, us, sqT_mono hs h, sqT_mono hs h', ?_⟩)⟩)⟩
        rw [zipD_len, rr.length, rr'.length]
        omega
  · rename_i xs ys
    cases r1' with
    | @lst _ vs a h rr =>
      cases r2 with
      | @tup _ us b h' rr' =>
        refine ⟨a, b, vs, us, rfl, .inr (.inr ⟨SqL.of (frz_same _ _ _ _ h), sqT_mono (frz_same _ _) h', p2 H2 _ (Keep.refl _ _) R2 (walks_zip (fun H hs => hs.seq (SqL.of h)) (fun H hs => sqT_mono hs h') rr rr' fun H hs => ⟨vs, us, hs.seq (SqL.of h), sqT_mono hs h', ?_⟩)⟩)⟩
        rw [zipD_len, rr.length, rr'.length]
        omega
  · exact p2.elim
theorem Rel.same {ra : Ra} {cs : Cells} {H H' : Hp} (R : Rel g ra cs H) (h : Same H H') : Rel g ra cs H' := R.keep (Same.keep h) (fun a ha => by
  cases q : H a with
  | none => exact absurd q (R.there ha)
  | some o => exact h a o q) (R.tabs.ext h)
end
end BV
namespace BV
open PySem L2
section
variable {g : G} {wd : Wd} {N : List Str} {sc : Scope} {ac : Bool} {k : Nat} {X : Cx} {Wx : WX} {fa fb fc : Fra → Cells → R W} {fl fm : Fra → Cells → R (List W)} {l r e : Expr} {es : List Expr} {kws : List Keyword} {p : Pos}
/-! targets -/
theorem FrR.set {ra : Ra} {H : Hp} {fr : Fra} {σ : L2.St} {i : Nat} {w : W} {v : V} (F : FrR g H ra fr σ) (r : RepW g (frz H ra) ra w v) : FrR g H ra (fr.set i (some w)) (σ.set i (some v)) := by
  refine ⟨by rw [List.length_set, List.length_set]; exact F.1, fun j w' e => ?_⟩
  by_cases hj : j = i
  · subst hj
    have hl : j < fr.length := by
      have := (List.getElem?_eq_some_iff.mp e).1
      rwa [List.length_set] at this
    rw [List.getElem?_set_self hl] at e
    cases e
    exact ⟨v, List.getElem?_set_self (by rw [← F.1]; exact hl), r⟩
  · rw [List.getElem?_set_ne (Ne.symm hj)] at e
    rw [List.getElem?_set_ne (Ne.symm hj)]
    exact F.2 j w' e
theorem FrR.wipe {ra : Ra} {H : Hp} {fr : Fra} {σ : L2.St} (F : FrR g H ra fr σ) : ∀ vs : List Nat, FrR g H ra (wipeF fr vs) (wipe σ vs)
  | [] => F
  | v :: vs => by
    have ih := FrR.wipe F vs
    unfold wipeF L2.wipe
    refine ⟨by rw [List.length_set, List.length_set]; exact ih.1, fun j w' e => ?_⟩
    by_cases hj : j = v
    · subst hj
      by_cases hl : j < (wipeF fr vs).length
      · rw [List.getElem?_set_self hl] at e; cases e
      · rw [List.getElem?_eq_none (by rw [List.length_set]; omega)] at e; cases e
    · rw [List.getElem?_set_ne (Ne.symm hj)] at e
      rw [List.getElem?_set_ne (Ne.symm hj)]
      exact ih.2 j w' e
/-- what a target's store wants, by value: what is behind it may know the slots that changed -/
def tG (g : G) (tg : List Nat) (one : Bool) : TG := fun v σ H Q => ∃ (fr : Fra) (d : D) (ra : Ra) (fr1 : Fra), FrR g H ra fr σ ∧ Rep g (frz H ra) d v ∧ setTg tg one d fr = some fr1 ∧ ∀ σ1, FrR g H ra fr1 σ1 → (∀ vs : List Nat, (∀ i ∈ tg, i ∈ vs) → wipe σ1 vs = wipe σ vs) → Q σ1 H
theorem wipe_set {σ : L2.St} {i : Nat} {v : Option V} : ∀ {vs : List Nat}, i ∈ vs → wipe (σ.set i v) vs = wipe σ vs
  | u :: vs, h => by
    unfold L2.wipe
    by_cases hu : u = i
    · subst hu
      by_cases hm : u ∈ vs
      · rw [wipe_set hm]
      · have : ∀ {vs : List Nat} {σ : L2.St}, u ∉ vs → wipe (σ.set u v) vs = (wipe σ vs).set u v := by
          intro vs
          induction vs with
          | nil => intro σ _; rfl
          | cons w ws ih =>
            intro σ hn
            unfold L2.wipe
            rw [ih fun z => hn (List.mem_cons_of_mem _ z)]
            exact List.set_comm _ _ fun e => hn (by rw [e]; exact List.mem_cons_self)
        rw [this hm, List.set_set]
    · rw [wipe_set ((List.mem_cons.mp h).resolve_left (Ne.symm hu))]
theorem loc_of {x : Str} (ok : Okx g N sc ac k X Wx) (h : locB sc ac x = true) : Loc X.env.scope x ∧ (X.fn x = true ∨ X.env.scope.names.lookup x = some .local) := by
  unfold locB at h
  rw [ok.sc]
  split at h
  · rename_i e
    exact ⟨.inl e, .inr e⟩
  · rename_i e
    exact ⟨.inr e, .inl (ok.fn h x (by rw [ok.sc]; exact e))⟩
  · cases h
theorem pg_nm {i : Nat} (ok : Okx g N sc ac k X Wx) (h : chkNm N sc ac i e = true) : PG X e (gName i) := by
  cases e <;> simp only [chkNm, Bool.and_eq_true, decide_eq_true_eq, Bool.false_eq_true] at h
  obtain ⟨h1, h2⟩ := h
  obtain ⟨h3, h4⟩ := loc_of ok h2
  exact pg_name (by rw [ok.hN]; exact ok.nd) (by rw [ok.hN]; exact h1) h3 h4
theorem PG.imp {X : Cx} {e : Expr} {t t' : TG} (h : PG X e t) (i : ∀ v σ H Q, t' v σ H Q → t v σ H Q) : PG X e t' := ⟨fun pins s σ H v u Q I r q => h.run pins s σ H v u Q I r (i v σ H Q q)⟩
def setAll (fr : Fra) (ps : List (Nat × D)) : Fra := ps.foldl (fun fr p => fr.set p.1 (some (.d p.2))) fr
/-- several names, one behind another -/
theorem pgs_nms (ok : Okx g N sc ac k X Wx) : ∀ {is : List Nat} {es : List Expr}, chkTgs N sc ac is es = true → ∃ t : TGs, PGs X es t ∧ (assignEach es X.env).length = es.length ∧ (assignEach es X.env).findIdx? (·.1) = none ∧ is.length = es.length ∧
    ∀ {vs : List V} {σ : L2.St} {H : Hp} {ra : Ra} {fr : Fra} {ds : List D} {Q : L2.St → Hp → Prop}, is.length = ds.length → FrR g H ra fr σ → RepL g (frz H ra) ds vs → (∀ σ1, FrR g H ra (setAll fr (is.zip ds)) σ1 → (∀ ws : List Nat, (∀ i ∈ is, i ∈ ws) → wipe σ1 ws = wipe σ ws) → Q σ1 H) → t vs σ H Q
  | [], [], _ => ⟨_, pgs_nil, rfl, rfl, rfl, fun {vs σ H ra fr ds Q} hl F r q => by
      cases ds with
      | cons d ds => simp at hl
      | nil =>
        cases r
        exact ⟨rfl, q σ F fun _ _ => rfl⟩⟩
  | i :: is, e :: es, h => by
    simp only [chkTgs, Bool.and_eq_true] at h
    obtain ⟨t, h1, h2, h3, h5, h4⟩ := pgs_nms ok h.2
    have hne : notSt e = true := by cases e <;> first | rfl | (simp [chkNm] at h)
    have hae : assignEach (e :: es) X.env = (false, assign e X.env) :: assignEach es X.env := by cases e <;> first | rfl | cases hne
    refine ⟨_, pgs_cons (pg_nm ok h.1) h1 (by rw [hae]; rfl), by rw [hae]; simp [h2], ?_, by simp [h5], fun {vs σ H ra fr ds Q} hl F r q => ?_⟩
    · rw [hae, List.findIdx?_cons]
      simp [h3]
    · cases r with
      | nil => simp at hl
      | @cons d v ds vs r rt =>
        refine ⟨v, vs, rfl, h4 (by simpa using hl) (F.set (i := i) (w := .d d) r) rt fun σ1 F1 hw => ?_⟩
        refine q σ1 F1 fun ws hi => ?_
        rw [hw ws fun j hj => hi j (List.mem_cons_of_mem _ hj), wipe_set (hi i List.mem_cons_self)]
  | [], _ :: _, h => by simp [chkTgs] at h
  | _ :: _, [], h => by simp [chkTgs] at h
theorem PG.either {X : Cx} {e : Expr} {t t' u : TG} (h : PG X e t) (h' : PG X e t') (i : ∀ v σ H Q, u v σ H Q → t v σ H Q ∨ t' v σ H Q) : PG X e u := ⟨fun pins s σ H v w Q I r q => (i v σ H Q q).elim (h.run pins s σ H v w Q I r) (h'.run pins s σ H v w Q I r)⟩
theorem c_tg {tg : List Nat} {one : Bool} (ok : Okx g N sc ac k X Wx) (h : chkTg N sc ac tg one e = true) : PG X e (tG g tg one) := by
  unfold chkTg at h
  split at h
  · rename_i e i
    refine PG.imp (pg_nm ok h) ?_
    rintro v σ H Q ⟨fr, d, ra, fr1, F, r, e1, q⟩
    simp only [setTg, Option.some.injEq] at e1
    subst e1
    exact q _ (F.set (w := .d d) r) fun vs hv => wipe_set (hv _ (List.mem_singleton.mpr rfl))
  · rename_i is es k2 pp
    obtain ⟨t, h1, h2, h3, h5, h4⟩ := pgs_nms ok h
    refine PG.either (pg_tup ok.calm h1 h2 h3) (pg_lst ok.calm h1 h2 h3) ?_
    rintro v σ H Q ⟨fr, d, ra, fr1, F, r, e1, q⟩
    unfold setTg at e1
    split at e1
    · rename_i hh; cases hh
    · rename_i ds
      split at e1
      · rename_i hl
        cases e1
        obtain ⟨a, vs, rfl, h6, h7⟩ := tup_ok (g := g) (ra := ra) (H := H) r
        rw [ok.K]
        refine .inl ⟨a, vs, rfl, h6, ?_, h4 hl F h7 fun σ1 F1 hw => q σ1 F1 hw⟩
        rw [← h7.length, ← hl, h5]
      · cases e1
    · rename_i ds
      split at e1
      · rename_i hl
        cases e1
        cases r with
        | lst h6 h7 =>
          rw [ok.K]
          refine .inr ⟨_, _, rfl, SqL.of (frz_same _ _ _ _ h6), ?_, h4 hl F h7 fun σ1 F1 hw => q σ1 F1 hw⟩
          rw [← h7.length, ← hl, h5]
      · cases e1
    · cases e1
  · cases h
/-! list comprehensions -/
theorem FrR.lift {ra ra' : Ra} {H H' : Hp} {fr : Fra} {σ : L2.St} (hs : Same (frz H ra) (frz H' ra')) (hr : ∀ (n : Nat) a, ra[n]? = some (some a) → ra'[n]? = some (some a)) (F : FrR g H ra fr σ) : FrR g H' ra' fr σ :=
  ⟨F.1, fun i w e => by
    obtain ⟨v, h1, h2⟩ := F.2 i w e
    refine ⟨v, h1, ?_⟩
    cases w with
    | d d => exact Rep.mono hs h2
    | loc n => obtain ⟨a, h3, h4⟩ := h2; exact ⟨a, h3, hr n a h4⟩⟩
theorem wipe_idem {σ : L2.St} : ∀ (vs : List Nat), wipe (wipe σ vs) vs = wipe σ vs := fun vs => by
  have h : ∀ (us : List Nat), (∀ u ∈ us, u ∈ vs) → wipe (wipe σ us) vs = wipe σ vs := fun us => by
    induction us with
    | nil => intro _; rfl
    | cons u us ih =>
      intro hu
      show wipe ((wipe σ us).set u none) vs = _
      rw [wipe_set (hu u List.mem_cons_self), ih fun x hx => hu x (List.mem_cons_of_mem _ hx)]
  exact h vs fun _ hx => hx
def LcP (g : G) (ra : Ra) (Q : Hp → Prop) (r : R Unit) (H : Hp) : Prop := match r with
  | .ok _ c2 => ∀ H', Keep ra H H' → Rel g ra c2 H' → Q H'
  | _ => False
theorem LcP.from {ra : Ra} {Q : Hp → Prop} {r : R Unit} {H H' : Hp} (k : Keep ra H H') (h : LcP g ra Q r H) : LcP g ra Q r H' := by
  cases r with
  | ok u c => exact fun H2 k2 R2 => h H2 (k.trans k2) R2
  | exc c x cs => exact h
  | bad => exact h
abbrev W0 : WX := fun _ _ _ _ => False
theorem c_lc {own : List (Str × Nat)} {tg : List Nat} {one : Bool} {scope : Scope} {ie te ee : Expr} {ifs : List Expr} {fi : Fra → Cells → R (List D)} {ft : Fra → Cells → R Bool} {fe : Fra → Cells → R W}
    (ok : Okx g N sc ac k X Wx) (hi : PI X te ie (tI g Wx fi)) (hset : notSet ie = true) (hbl : blkL g.lams N sc scope own = true)
    (hg : ∀ X', Okx g N (relS scope sc) false k X' W0 → PG X' te (tG g tg one))
    (ht : ∀ X', Okx g N (relS scope sc) false k X' W0 → PTs X' ifs (tT g W0 ft))
    (he : ∀ X', Okx g N (relS scope sc) false k X' W0 → PE X' ee (tE g W0 fe)) (htg : ∀ i ∈ tg, i ∈ own.map (·.2)) :
    PE X (.ListComp ee [⟨te, ie, ifs, 0⟩] scope p) (tE g Wx fun fr cs => (fi fr cs).bind fun ds c1 => (lcGo ft fe tg one (wipeF fr (own.map (·.2))) c1.length ds (c1 ++ [some (.lst [])])).nox.bind fun _ c2 => lcEnd c1.length c2) := by
  have okb : ∀ (s : Shared) (H : Hp) (C : Addr) (cl : List (Str × Addr)) (fp : List Addr), Okx g N (relS scope sc) false k (X.blk s H scope (compEnvC scope cl C X.env) fp) W0 := fun s H C cl fp =>
    ⟨ok.P, ok.w, ok.K, ok.mg, ok.base, ok.hN, ok.nd, ok.calm, by rw [← ok.sc]; rfl, (fun h => by cases h), ok.hr, takes0, ok.gd, fun h => absurd (show relS scope sc ∈ g.lams by rw [← ok.sc]; exact h) (blkL_and hbl).2, fun h => by cases h⟩
  refine PE.imp (pe_lc ok.calm (by rw [ok.hN]; exact ok.nd) hi (blkOk_by (own := own) (by rw [ok.hN, ok.sc]; exact (blkL_and hbl).1)) (fun s H C cl fp => hg _ (okb s H C cl fp)) (fun s H C cl fp => ht _ (okb s H C cl fp)) (fun s H C cl fp => he _ (okb s H C cl fp)) (fold_of hset)) ?_
  rintro σ H Q ⟨fr, cs, ra, R, Fr, q⟩
  refine ⟨fr, cs, ra, R, Fr, PostR.imp (PostR.bind (rp := fun H1 ds J => WalksD g (frz H1 ra) J ds) q) ?_⟩
  rintro J H1 ⟨ds, c1, k1, R1, wk, p1⟩ D hD
  have hD' : some D ∉ ra := R1.fresh hD
  have same1 : Same H1 (upd H1 D (.lst [])) := fun b o e => by rw [upd_ne (ne_of_none e hD)]; exact e
  have R1' : Rel g (ra ++ [some D]) (c1 ++ [some (.lst [])]) (upd H1 D (.lst [])) := R1.grow hD same1 ⟨[], upd_same, .nil⟩
  have inD : ∀ {b : Addr}, some b ∈ ra ++ [some D] → some b ∈ ra ∨ b = D := fun {b} z => by
    rcases List.mem_append.mp z with z | z
    · exact .inl z
    · exact .inr (Option.some.inj (List.mem_singleton.mp z))
  have start : LcP g (ra ++ [some D]) (Q (.ref D)) (lcGo ft fe tg one (wipeF fr (own.map (·.2))) c1.length ds (c1 ++ [some (.lst [])])) (upd H1 D (.lst [])) := by
    cases e : lcGo ft fe tg one (wipeF fr (own.map (·.2))) c1.length ds (c1 ++ [some (.lst [])]) with
    | bad => rw [e] at p1; exact p1
    | exc c x cs => rw [e] at p1; exact p1
    | ok u c2 =>
      rw [e] at p1
      intro H' kk R2
      have p2 : PostR g (rpW g ra) (lcEnd c1.length c2) ra H1 Q (fun c d H' => Wx c d σ H') := p1
      unfold lcEnd at p2
      split at p2
      · rename_i xs hx
        have hc : c2[c1.length]? = some (some (.lst xs)) := by
          unfold celL at hx
          split at hx
          · rename_i ys hy; cases hx; exact hy
          · cases hx
        obtain ⟨a, ha, vs, h3, h4⟩ := R2.cell _ _ hc
        have ea : a = D := by
          rw [← R1.len] at ha
          simp at ha
          exact ha.symm
        subst ea
        refine p2 H' (.ref a) (fun b o e nb => kk b o (same1 b o e) (fun z => ?_)) (R2.drop R1.len) (.lst (frz_at h3 hD') (h4.mono frz_app))
        rcases inD z with z | z
        · exact nb z
        · rw [z, hD] at e; cases e
      · exact p2.elim
  have frame : ∀ {H' : Hp}, Keep (ra ++ [some D]) (upd H1 D (.lst [])) H' → Same (frz H1 ra) (frz H' (ra ++ [some D])) := fun {H'} kk b o e => kk.same b o (frz_new hD (fun b o h _ => same1 b o h) b o e)
  refine ⟨fun i m H => m = ds.length - i ∧ i ≤ ds.length ∧ ∃ cs, Rel g (ra ++ [some D]) cs H ∧ Keep (ra ++ [some D]) (upd H1 D (.lst [])) H ∧ LcP g (ra ++ [some D]) (Q (.ref D)) (lcGo ft fe tg one (wipeF fr (own.map (·.2))) c1.length (ds.drop i) cs) H,
    ⟨ds.length, rfl, Nat.zero_le _, _, R1', Keep.refl _ _, start⟩, ?_⟩
  rintro i m H2 ⟨rfl, hle, cs2, R2, kk2, post⟩
  have sm : Same (frz H1 ra) H2 := fun b o e => frz_same _ _ _ _ (frame kk2 b o e)
  obtain ⟨w1, w2⟩ := wk H2 sm
  by_cases hlt : i < ds.length
  · have hd : ds[i]? = some ds[i] := List.getElem?_eq_getElem hlt
    obtain ⟨go, yld⟩ := w1 i _ hd
    have ed : ds.drop i = ds[i] :: ds.drop (i + 1) := List.drop_eq_getElem_cons hlt
    rw [ed] at post
    generalize ds[i] = d at post yld hd
    refine .inr ⟨go, fun H' => ∃ cs', Rel g (ra ++ [some D]) cs' H' ∧ Keep (ra ++ [some D]) (upd H1 D (.lst [])) H' ∧ LcP g (ra ++ [some D]) (Q (.ref D)) (lcGo ft fe tg one (wipeF fr (own.map (·.2))) c1.length (ds.drop (i + 1)) cs') H',
      fun H' ⟨cs', h1, h2, h3⟩ => ⟨ds.length - (i + 1), by omega, rfl, hlt, cs', h1, h2, h3⟩, fun x H3 hy => ?_⟩
    obtain ⟨s3, rep3⟩ := yld x H3 hy
    have R3 := R2.same s3
    have kk3 : Keep (ra ++ [some D]) (upd H1 D (.lst [])) H3 := kk2.trans (Same.keep s3)
    have post3 := LcP.from (Same.keep s3) post
    have rd : Rep g (frz H3 (ra ++ [some D])) d x := rep3 _ (frame kk3) fun b o e1 e2 t => frz_at e2 (R2.fresh e1) t
    have F3 : FrR g H3 (ra ++ [some D]) (wipeF fr (own.map (·.2))) (wipe σ (own.map (·.2))) := ((Fr.mono k1).lift (frame kk3) fun n a h => ra_app h).wipe _
    unfold lcGo at post3
    split at post3
    · exact post3.elim
    · rename_i fr1 es
      refine ⟨wipeF fr (own.map (·.2)), d, ra ++ [some D], fr1, F3, rd, es, fun σ1 F1 hw => ⟨(hw _ htg).trans (wipe_idem _), fr1, cs2, ra ++ [some D], R3, F1, ?_⟩⟩
      unfold lcTurn at post3
      cases e4 : ft fr1 cs2 with
      | bad => rw [e4] at post3; exact post3.elim
      | exc c x cs => rw [e4] at post3; exact post3.elim
      | ok b c4 =>
        rw [e4] at post3
        intro H4 b' k4 R4 eb
        subst eb
        cases b with
        | false =>
          exact ⟨c4, R4, kk3.trans k4, LcP.from k4 (show LcP g (ra ++ [some D]) (Q (.ref D)) (lcGo ft fe tg one (wipeF fr (own.map (·.2))) c1.length (ds.drop (i + 1)) c4) H3 from post3)⟩
        | true =>
          refine ⟨fr1, c4, ra ++ [some D], R4, F1.mono k4, ?_⟩
          have post4 : LcP g (ra ++ [some D]) (Q (.ref D)) (((fe fr1 c4).nox.bind fun w c2 => lcAdd c1.length w c2).bind fun _ c2 => lcGo ft fe tg one (wipeF fr (own.map (·.2))) c1.length (ds.drop (i + 1)) c2) H3 := post3
          cases e5 : fe fr1 c4 with
          | bad => rw [e5] at post4; exact post4.elim
          | exc c x cs => rw [e5] at post4; exact post4.elim
          | ok w c5 =>
            rw [e5] at post4
            have post5 : LcP g (ra ++ [some D]) (Q (.ref D)) ((lcAdd c1.length w c5).bind fun _ c2 => lcGo ft fe tg one (wipeF fr (own.map (·.2))) c1.length (ds.drop (i + 1)) c2) H3 := post4
            intro H5 y k5 R5 ry
            unfold lcAdd at post5
            split at post5
            · rename_i xd acc hx
              split at post5
              · rename_i hl
                have hc : c5[c1.length]? = some (some (.lst acc)) := by
                  unfold celL at hx
                  split at hx
                  · rename_i ys hy; cases hx; exact hy
                  · cases hx
                obtain ⟨a, ha, vs, h3, h4⟩ := R5.cell _ _ hc
                have ha' := ha
                have ea : a = D := by
                  rw [← R1.len] at ha
                  simp at ha
                  exact ha.symm
                subst ea
                obtain ⟨k6, R6⟩ := R5.put (o := .lst (vs ++ [y])) (c' := .lst (acc ++ [xd])) ha' ⟨_, upd_same, h4.append (.cons ry .nil)⟩
                refine ⟨vs, h3, by rw [line_lit, ← h4.length]; exact hl, _, R6, ((kk3.trans k4).trans k5).trans k6, LcP.from ((k4.trans k5).trans k6) post5⟩
              · exact post5.elim
            · exact post5.elim
  · have ei : i = ds.length := by omega
    subst ei
    rw [List.drop_length] at post
    exact .inl ⟨w2, post H2 (Keep.refl _ _) R2⟩
theorem c_neg {fa : Fra → Cells → R W} (ha : PE X e (tE g Wx fa)) : PE X (.UnaryOp .USub e p) (tE g Wx fun fr cs => (asI (fa fr cs)).bind fun i c1 => .ok (.d (.int (-i))) c1) := PE.imp (pe_un un_neg ha) fun σ H Q ⟨fr, cs, ra, R, F, q⟩ => by
  refine ⟨fr, cs, ra, R, F, PostR.imp (asI_post (PostR.bind (rp := fun _ (a b : Int) => a = b) q)) ?_⟩
  rintro x H1 ⟨i, rfl, i', c1, k1, R1, rfl, p1⟩
  exact ⟨_, rfl, p1 H1 _ (Keep.refl _ _) R1 (.int _)⟩
end
end BV
namespace BV
open PySem L2 PySem.Spec PyProof.Rows LamX
/-! ### a lambda handed to a def -/
def KeepA (H H' : Hp) : Prop := ∀ b o, H b = some o → ∃ o', H' b = some o' ∧ (noTbl o → o' = o)
theorem codeO_noTbl {c : Addr} {q : Str} : noTbl (CodeO c q) := fun ps z => codeO_ne ps z
section
variable {X : Cx} {pins : List (Addr × Obj)} {σ : L2.St} {H : Hp} {s : Shared}
/-- as the library's lam_make2, and nothing that was tracked is lost -/
theorem lam_makeK {T : List (Addr × Str)} {c P : Addr} {params : Arguments} {body : Expr} {scope : Scope} {pos : Pos} {E : Value → Shared → Prop} {Q : Value → Shared → Prop} {q0 : Str} (eq0 : X.env.qual ++ "<lambda>" = q0) (I : Inv X pins σ H s) (TB : TabB X.base X.mg c P) (hcode : X.env.code = .ref c)
    (hm : (P, q0) ∈ T) (hu : ∀ p ∈ T, p.1 = P → p.2 = q0) (hT : Tabs T H) (hdef : defaultsOf params X.env = ([], [])) (hfree : ∀ y ∈ scope.names, y.2 = .free → ∃ c, X.env.cells.lookup y.1 = some c)
    (go : ∀ (f c' : Addr) (pm ctv : Value) (H1 : Hp) (s' : Shared), Inv X pins σ H1 s' → KeepA H H1 → Tabs T H1 →
      s'.heap.get? f = some (PySem.W.kla_obj "<lambda>" (X.env.qual ++ "<lambda>") params body scope (cloFrom X.env.cells scope.names []) pm c' ctv) → H1 f = none → f ∉ frs X.stack → H1 c' = some (CodeO c' (X.env.qual ++ "<lambda>")) → H1 = H ∨ (∃ ps more, H P = some (.tbl ps) ∧ H c' = none ∧ H1 = upd (upd H P (.tbl (ps ++ more))) c' (CodeO c' (X.env.qual ++ "<lambda>"))) → Q (.ref f) s') :
    wpAny (model X.prog X.w) X.A (eval (.Lambda params body scope pos) X.env) Q E s := by
  subst eq0
  obtain ⟨ps, hP, ht, ha⟩ := hT _ hm
  refine PySem.W.kla_eval hdef ?_
  have tabAt : s.heap.get? P = some { cls := .none, data := .fields ps } := I.hok P _ hP
  have outside : ∀ f, s.heap.objs.size ≤ f → f ∉ frs X.stack := fun f hf z => (List.mem_cons.mp (I.stkSub _ z)).elim (fun e => absurd (Nat.lt_of_lt_of_le (e ▸ I.lt) hf) (Nat.lt_irrefl _)) fun e => I.nofs hf e
  cases hc : codeAmong pos ps.toList with
  | some cv =>
    obtain ⟨c', e, hco⟩ := ha pos cv hc
    subst e
    refine PySem.W.kla_makeFunctionHit (mg := X.mg) (c := c) (P := P) (ps := ps) (closure_ok hfree) I.ok.glob (I.mod.glob.keeps I.bk) hcode (TB.code.keeps I.bk) tabAt ht hc (TB.bm.keeps I.bk) fun ctv h' tk hx hsz => ?_
    exact go h'.objs.size c' ((X.mg "__name__").getD .none) ctv H _ (I.kept (t' := tk) fun b o e => Heap.get?_push_of_some _ (hx b o e)) (fun b o e => ⟨o, e, fun _ => rfl⟩) hT (Heap.get?_push_size _ rfl) (I.hok.fresh hsz) (outside _ hsz) hco (.inl rfl)
  | none =>
    refine PySem.W.kla_makeFunction (mg := X.mg) (c := c) (P := P) (ps := ps) (closure_ok hfree) I.ok.glob (I.mod.glob.keeps I.bk) hcode (TB.code.keeps I.bk) tabAt ht hc TB.gP (TB.bm.keeps I.bk) fun c' ctv h' tk hx hge hlt hrec htb => ?_
    obtain ⟨c2, oc, vs, t, e2, hoc, hd, hv⟩ := hrec
    cases e2
    have hsz : s.heap.objs.size ≤ h'.objs.size := Nat.le_trans hge (Nat.le_of_lt hlt)
    have nC : H c' = none := I.hok.fresh hge
    generalize eM : (#[rawInt pos.line, rawInt pos.col, .ref c'] : Array Value) = more at htb
    have I1 := inv_table (t' := tk) (more := more) (h' := h'.push (PySem.W.kla_obj "<lambda>" (X.env.qual ++ "<lambda>") params body scope (cloFrom X.env.cells scope.names []) ((X.mg "__name__").getD .none) c' ctv)) I hP
      (fun b o hb e => Heap.get?_push_of_some _ (hx b o hb e)) (Heap.get?_push_of_some _ htb) hge ⟨oc, vs, t, Heap.get?_push_of_some _ hoc, hd, hv⟩
    have atP : upd (upd H P (.tbl (ps ++ more))) c' (CodeO c' (X.env.qual ++ "<lambda>")) P = some (.tbl (ps ++ more)) := by rw [upd_ne (ne_of_none hP nC), upd_same]
    have off : ∀ b o, H b = some o → b ≠ P → upd (upd H P (.tbl (ps ++ more))) c' (CodeO c' (X.env.qual ++ "<lambda>")) b = some o := fun b o e n => by
      rw [upd_ne (ne_of_none e nC), upd_ne n]; exact e
    have hK : KeepA H (upd (upd H P (.tbl (ps ++ more))) c' (CodeO c' (X.env.qual ++ "<lambda>"))) := fun b o e => by
      by_cases hb : b = P
      · subst hb
        rw [hP] at e
        cases e
        exact ⟨_, atP, fun t => absurd rfl (t ps)⟩
      · exact ⟨o, off b o e hb, fun _ => rfl⟩
    have code_ : ∀ c0 q, H c0 = some (CodeO c0 q) → upd (upd H P (.tbl (ps ++ more))) c' (CodeO c' (X.env.qual ++ "<lambda>")) c0 = some (CodeO c0 q) := fun c0 q e => by
      obtain ⟨o', h1, h2⟩ := hK c0 _ e
      rw [h1, h2 codeO_noTbl]
    refine go h'.objs.size c' ((X.mg "__name__").getD .none) ctv _ _ I1 hK (fun p hp => ?_) (Heap.get?_push_size _ rfl) ?_ (outside _ hsz) upd_same (.inr ⟨ps, more, hP, nC, rfl⟩)
    · by_cases hb : p.1 = P
      · have el : (ps ++ more).toList = ps.toList ++ [rawInt pos.line, rawInt pos.col, .ref c'] := by rw [← eM]; simp
        rw [hu p hp hb, hb]
        refine ⟨_, atP, by rw [el]; exact PySem.TriplesOk_snoc _ _ _ _ ht, fun p' cv hcv => ?_⟩
        rw [el] at hcv
        rcases among_app _ ht hcv with z | z
        · obtain ⟨c0, e1, e2⟩ := ha p' cv z
          exact ⟨c0, e1, code_ _ _ e2⟩
        · exact ⟨c', z, upd_same⟩
      · obtain ⟨ps', a1, a2, a3⟩ := hT p hp
        refine ⟨ps', off _ _ a1 hb, a2, fun p' cv hcv => ?_⟩
        obtain ⟨c0, e1, e2⟩ := a3 p' cv hcv
        exact ⟨c0, e1, code_ _ _ e2⟩
    · rw [upd_ne (Nat.ne_of_gt hlt), upd_ne (Nat.ne_of_gt (Nat.lt_of_lt_of_le (Heap.lt_size tabAt) hsz))]
      exact I.hok.fresh hsz
end
section
variable {g : G} {wd : Wd} {N : List Str} {sc : Scope} {ac : Bool} {k : Nat} {X : Cx} {Wx : WX}
theorem mapW_post {ra : Ra} {H : Hp} {Q : VK} {E : XK} {r : R D} (h : PostR g (rpW g ra) (r.map W.d) ra H Q E) : PostR g (fun H' d v => Rep g (frz H' ra) d v) r ra H Q E := by
  unfold R.map at h
  cases r with
  | ok d c => exact h
  | exc c x cc => exact h
  | bad => exact h
theorem mapW_post' {ra : Ra} {H : Hp} {Q : VK} {E : XK} {r : R D} (h : PostR g (fun H' d v => Rep g (frz H' ra) d v) r ra H Q E) : PostR g (rpW g ra) (r.map W.d) ra H Q E := by
  unfold R.map
  cases r with
  | ok d c => exact h
  | exc c x cc => exact h
  | bad => exact h
theorem lamP_eq {p : Arguments} (h : lamP p = true) : p = ⟨[], [], none, [], [], none, []⟩ := by
  unfold lamP at h
  simp only [Bool.and_eq_true, List.isEmpty_iff, Option.isNone_iff_eq_none] at h
  obtain ⟨⟨⟨⟨⟨⟨h1, h2⟩, h3⟩, h4⟩, h5⟩, h6⟩, h7⟩ := h
  cases p
  simp_all
theorem c_lam {f : Nat} {t : E} {x : Str} {pn lpos pos : Pos} {params : Arguments} {body : Expr} {scope : Scope} (ok : Okx g N sc ac k X Wx) (F : Fx g wd k) (hx : wd.fnm f = some x) (hg : glB sc x = true) (hd : nodbg x = true) (hp : lamP params = true) (hl : lamSB sc scope = true) (hs : sc ∈ wd.lams) (hn : scope ∉ wd.lams)
    (hb : chk wd N scope t body = true) : PE X (.Call (.Name x pn) [.Lambda params body scope lpos] [] pos) (tE g Wx fun fr cs => (wd.phd f (wd.phc t fr) cs).map W.d) := by
  have ep := lamP_eq hp
  subst ep
  have L : LamS X.env.scope scope := by rw [ok.sc]; exact lamS_by hl
  unfold nodbg at hd
  simp only [Bool.and_eq_true, Bool.not_eq_true'] at hd
  obtain ⟨gm, hkeep⟩ := F.nm f x hx
  refine ⟨fun pins s σ H Q I h => ?_⟩
  obtain ⟨fr, cs, ra, R, Fr, q⟩ := h
  rcases F.lamk with ⟨kk, hkk⟩ | hbad
  · obtain ⟨c, P, hcode, TB, hmT, hu⟩ := ok.lam (by rw [ok.sc, ← F.lams]; exact hs)
    refine wpAny_Call_Name_kw (ld_glob I (gl_of ok hg) (by rw [ok.mg]; exact gm) ?_ hd.1)
    refine PySem.W.callWith_K (h₀ := X.base) I.ok.mod.kin (by rw [ok.K]; exact hkeep) ?_ (by rfl) (by rfl)
    rw [star_of (e := .Lambda ⟨[], [], none, [], [], none, []⟩ body scope lpos) (es := []) (env := X.env) rfl]
    show wpAny _ _ (spliced ((false, eval (.Lambda ⟨[], [], none, [], [], none, []⟩ body scope lpos) X.env) :: backTo pos (starEach [] X.env))) _ _ s
    refine Calls.spliced_cons (lam_makeK rfl I TB hcode hmT hu R.tabs (show defaultsOf ⟨[], [], none, [], [], none, []⟩ X.env = ([], []) by rfl) (L.has I.ok) fun fA c' pm' ctv H1 s' I1 kp T1 hf hfn hfr hco hH1 => ?_)
    refine Calls.spliced_nil ⟨I1.kIn, ?_⟩
    have k1 : Keep ra H H1 := fun b o e _ => kp b o e
    have cellNe : ∀ a, some a ∈ ra → (∃ vs, H a = some (.lst vs)) ∨ (∃ c dx vs, H a = some (.ins c dx vs)) ∨ ∃ vs, H a = some (.dK vs) := fun a ha => by
      obtain ⟨m, hm⟩ := mem_ra ha
      obtain ⟨c0, _, q⟩ := R.back hm
      exact q.kind
    have R1 : Rel g ra cs H1 := R.keep k1 (fun a ha => by
      rcases cellNe a ha with ⟨vs, e⟩ | ⟨c, dx, vs, e⟩ | ⟨vs, e⟩
      · obtain ⟨o', h1, h2⟩ := kp a _ e
        rw [h1, e, h2 (fun _ z => by cases z)]
      · obtain ⟨o', h1, h2⟩ := kp a _ e
        rw [h1, e, h2 (fun _ z => by cases z)]
      · obtain ⟨o', h1, h2⟩ := kp a _ e
        rw [h1, e, h2 (fun _ z => by cases z)]) T1
    have cNot : some c' ∉ ra := fun z => by
      obtain ⟨m, hm⟩ := mem_ra z
      obtain ⟨c0, _, q⟩ := R1.back hm
      rcases q.kind with ⟨vs, e⟩ | ⟨c, dx, vs, e⟩ | ⟨vs, e⟩ <;> rw [hco] at e <;> unfold CodeO at e <;> cases e
    have FD : FnD g X.prog X.w X.K X.mg X.base (k + 1) f (wd.phd f) := by rw [ok.P, ok.w, ok.K, ok.mg, ok.base]; exact F.fnd f
    have deed : DeedRun g X.prog X.w X.K X.mg X.base (k + 1) (frs X.stack) (.ref fA) (wd.phc t fr) ra s' H1 := by
      intro A outer s2 H2 cs2 Q2 E2 hr2 hg2 e0 un kp2 R2 post2
      have of1 : s2.heap.get? fA = some _ := un.keep fA _ hf hfn hfr (fun z => nomatch (show fA ∈ ([] : List Addr) from z))
      have hc2 : H2 c' = some (CodeO c' _) := kp2.at hco cNot codeO_noTbl
      obtain ⟨⟨oc, vs, tt, hoc, hdc, hvc⟩, _, _⟩ := e0.hok c' _ hc2
      refine PySem.W.kla_callFunE hr2.depth of1 rfl L.co L.gen rfl ⟨c', oc, vs, tt, rfl, hoc, hdc, hvc⟩ ?_
      refine wpAny_of_eq (a := ([] : List (Str × Value))) (by rfl) (wpAny_newFunctionEnv (fun y hy => (L.own y hy).2) (fun y hy => absurd hy (by simp)) (fun h₁ hns hsb => ⟨(e0.mod.nolimit.keeps fun b o e => (e0.bs b o e).1).fresh _ hsb, ?_⟩) L.kind)
      show codeAny _ _ (.expr body (lamEnv X scope s2.heap.objs.size fA c')) _ _
      have kp3 : ∀ b o, s2.heap.get? b = some o → h₁.get? b = some o := fun b o e => hsb.extBut b o (Nat.ne_of_lt (Heap.lt_size e)) (Heap.get?_push_of_some _ e)
      have J : Inv (lamCx X A outer s2 H2 E2 scope fA c') [] σ H2 { s2 with heap := h₁, toks := s2.toks + ([] : List (Str × Value)).length } := lam_start2 I1 L e0 hr2.hd un hns kp3
      have okL : Okx g N scope false kk (lamCx X A outer s2 H2 E2 scope fA c') (fun c d _ H' => E2 c d H') :=
        ⟨ok.P, ok.w, ok.K, ok.mg, ok.base, ok.hN, ok.nd, rfl, rfl, (fun h => by cases h), (hr2.deeper _).mono (by omega), takes_of rfl rfl rfl rfl, hg2, fun h => absurd (by rw [F.lams]; exact h) hn, fun h => by cases h⟩
      refine PySem.W.kla_codeExpr (wpAny_mono ((F.lamr hkk hb okL).run [] _ σ H2 Q2 J ⟨fr, cs2, ra, R2, Fr.mono (k1.trans kp2), mapW_post' post2⟩) (fun v s' hq => ?_) fun e s' hq => hq)
      obtain ⟨w', H', J', rv, q⟩ := hq
      exact ⟨w', H', J'.os, J'.bare, J'.base, J'.hok, rv, q⟩
    have rc := FD.run X.A X.stack s' H1 fA (wd.phc t fr) ra cs Q (fun c d H' => Wx c d σ H') ok.hr ok.gd I1.env0 ⟨_, _, _, _, hf⟩ hfn hfr deed R1 (PostR.from k1 (mapW_post q))
    refine wpAny_call (codeAny_mono rc fun r s2 hq => ?_)
    cases r with
    | error e => exact ok.tk e s2 (XE.of_call I1 (fun cls d H' z => z) hq)
    | ok fl =>
      cases fl with
      | ret u => exact I1.after hq
      | next => exact False.elim hq
      | brk => exact False.elim hq
      | cont => exact False.elim hq
  · dsimp only at q
    rw [hbad] at q
    exact q.elim
end
end BV
namespace BV
open PySem L2
/-! ### dicts with text keys, list(range(..)), functions as values -/
theorem post_step {g : G} {α β γ δ : Type} {rp : Hp → α → β → Prop} {rq : Hp → γ → δ → Prop} {r : R α} {f : α → Cells → R γ} {ra ra' : Ra} {H H' : Hp} {Q : δ → Hp → Prop} {E E' : XK}
    (q : PostR g rq (r.nox.bind f) ra H Q E) : PostR g rp r ra' H' (fun v H1 => ∃ a c1, r = .ok a c1 ∧ Keep ra' H' H1 ∧ Rel g ra' c1 H1 ∧ rp H1 a v ∧ PostR g rq (f a c1) ra H Q E) E' := by
  cases r with
  | ok a cs => exact fun H1 v k1 R1 p => ⟨a, cs, rfl, k1, R1, p, q⟩
  | exc c x cs => exact q.elim
  | bad => exact q
theorem valV_lookup {x : Str} {v : V} : ∀ {vs : List (Str × V)}, vs.lookup x = some v → valV (vs.map fun p => ((.inr p.1 : Key), p.2)) (.inr x) = some v
  | [], h => by simp at h
  | (y, u) :: r, h => by
    rw [List.lookup_cons] at h
    rw [List.map_cons]
    by_cases e : x = y
    · subst e
      simp at h
      subst h
      exact valV_pos rfl
    · have e2 : (x == y) = false := by simpa using e
      rw [e2] at h
      have h2 := valV_lookup (vs := r) h
      unfold valV at h2 ⊢
      rw [List.find?_cons]
      have e3 : decide ((.inr y : Key) = .inr x) = false := by
        rw [decide_eq_false_iff_not]
        intro z
        exact e (Sum.inr.inj z).symm
      simp only [e3]
      exact h2
theorem rep_ints {g : G} {F : Hp} : ∀ (l : List Nat) (a : Int), RepL g F (l.map fun (i : Nat) => D.int (a + (i : Nat))) (l.map fun (i : Nat) => V.int (a + (i : Nat)))
  | [], _ => .nil
  | _ :: r, a => .cons (.int _) (rep_ints r a)
theorem rep_rg {g : G} (F : Hp) (i : Int) : RepL g F (rngD 0 i) (rgV 0 i) := rep_ints _ _
theorem merge_nil : ∀ (vs : List (Str × V)) (acc : List (Key × V)), (vs.map (·.1)).Nodup → (∀ p ∈ vs, ∀ q ∈ acc, q.1 ≠ .inr p.1) → mergeK acc (vs.map fun p => ((.inr p.1 : Key), p.2)) = acc ++ vs.map fun p => ((.inr p.1 : Key), p.2)
  | [], acc, _, _ => by simp [mergeK]
  | (x, v) :: r, acc, hn, ha => by
    rw [List.map_cons, List.nodup_cons] at hn
    have h1 : putK acc (.inr x) v = acc ++ [(.inr x, v)] := by
      unfold putK
      rw [if_neg]
      simp only [List.any_eq_true, decide_eq_true_eq, not_exists, not_and]
      intro q hq
      exact ha (x, v) (List.mem_cons_self ..) q hq
    have h2 := merge_nil r (acc ++ [(.inr x, v)]) hn.2 (fun p hp q hq => by
      rcases List.mem_append.mp hq with hq | hq
      · exact ha p (List.mem_cons_of_mem _ hp) q hq
      · simp only [List.mem_singleton] at hq
        subst hq
        intro z
        have z := Sum.inr.inj z
        exact hn.1 (List.mem_map.mpr ⟨p, hp, z.symm⟩))
    unfold mergeK at h2 ⊢
    rw [List.map_cons, List.foldl_cons]
    show List.foldl _ (putK acc (.inr x) v) _ = _
    rw [h1, h2]
    simp
section
variable {g : G} {wd : Wd} {N : List Str} {sc : Scope} {ac : Bool} {k : Nat} {X : Cx} {Wx : WX} {fa fb fc fd : Fra → Cells → R W} {fl fm : Fra → Cells → R (List W)} {l r e : Expr} {es : List Expr} {p : Pos}
theorem c_dix {x : Str} {j : Nat} {cp : Pos} (ok : Okx g N sc ac k X Wx) (ha : PE X l (tE g Wx fa)) : PE X (.Subscript l (.Constant (.str x) j cp) p) (tE g Wx fun fr cs => (fa fr cs).bind fun w c1 => dixW w x c1) := by
  refine PE.imp (pe_dget (by have := ok.units; omega) ha (pe_str (x := x)) (fun _ _ => rfl)) ?_
  rintro σ H Q ⟨fr, cs, ra, R, Fr, q⟩
  refine ⟨fr, cs, ra, R, Fr, PostR.imp (PostR.bind (rp := rpW g ra) q) ?_⟩
  rintro v H1 ⟨w, c1, k1, R1, r1, p1⟩
  unfold dixW at p1
  split at p1
  · rename_i fs
    split at p1
    · rename_i d e1
      cases r1 with
      | dct h rf =>
        obtain ⟨u, h2, h3⟩ := rf.lookup e1
        refine ⟨_, u, rfl, .inl ⟨_, .inr x, .of (frz_same _ _ _ _ h), rfl, ?_⟩, p1 H1 _ (Keep.refl _ _) R1 h3⟩
        exact (valV_lookup h2).symm
    · exact p1.elim
  · exact p1.elim
theorem c_lrng {pl pn p1 : Pos} (ok : Okx g N sc ac k X Wx) (F : Fx g wd k) (hgl : glB sc "list" = true) (hg : glB sc "range" = true) (hst : notSt e = true) (ha : PE X e (tE g Wx fa)) :
    PE X (.Call (.Name "list" pl) [.Call (.Name "range" pn) [e] [] p1] [] p) (tE g Wx fun fr cs => (asI (fa fr cs)).bind fun i c1 => if small62 i && decide (i ≤ 16777216) then .ok (.d (.lst (rngD 0 i))) c1 else .bad) := by
  refine PE.imp (pe_listRg ok.calm (gl_of ok hgl) (by rw [ok.mg]; exact F.bi .list) (prg_1 (gl_of ok hg) (by rw [ok.mg]; exact F.bx.1) ha (star_of (es := []) hst)) rfl) ?_
  rintro σ H Q ⟨fr, cs, ra, R, Fr, q⟩
  refine ⟨fr, cs, ra, R, Fr, PostR.imp (asI_post (PostR.bind (rp := fun _ (a b : Int) => a = b) q)) ?_⟩
  rintro x H1 ⟨i, rfl, i', c1, k1, R1, rfl, p1⟩
  split at p1
  · rename_i hs
    simp only [Bool.and_eq_true, decide_eq_true_eq] at hs
    obtain ⟨h1, h2⟩ := small62_ok hs.1
    refine ⟨i', rfl, ⟨by decide, by decide, h1, h2, by omega⟩, fun a hn => ?_⟩
    obtain ⟨kk, R2, e2⟩ := R1.new (o := .lst (rgV 0 i')) hn
    exact p1 _ _ kk R2 (.lst e2 (rep_rg _ i'))
  · exact p1.elim
theorem Rel.at_last {ra : Ra} {cs : Cells} {n : Nat} {H : Hp} {p : Addr} {c : Cell} (R : Rel g (ra ++ [some p]) cs H) (hn : ra.length = n) (h : cs[n]? = some (some c)) : CellAt g (frz H (ra ++ [some p])) H p c := by
  obtain ⟨a, ha, h2⟩ := R.cell _ _ h
  subst hn
  simp at ha
  subst ha
  exact h2
/-- {"a": .., "b": .., "c": .., "d": ..} -/
theorem c_dct4 {k1 k2 k3 k4 : Str} {j1 j2 j3 j4 : Nat} {q1 q2 q3 q4 : Pos} {ea eb ec ed : Expr} (hk : [k1, k2, k3, k4].Nodup) (ha : PE X ea (tE g Wx fa)) (hb : PE X eb (tE g Wx fb)) (hc : PE X ec (tE g Wx fc)) (hd : PE X ed (tE g Wx fd)) :
    PE X (.Dict [some (.Constant (.str k1) j1 q1), some (.Constant (.str k2) j2 q2), some (.Constant (.str k3) j3 q3), some (.Constant (.str k4) j4 q4)] [ea, eb, ec, ed] p)
      (tE g Wx fun fr cs => (fa fr (cs ++ [some (.dct [])])).nox.bind fun w1 c1 => (fb fr c1).nox.bind fun w2 c2 => (fc fr c2).nox.bind fun w3 c3 => (fd fr c3).nox.bind fun w4 c4 => dctE cs.length [k1, k2, k3, k4] [w1, w2, w3, w4] c4) := by
  refine PE.imp (pe_disp (pps_cons pe_str ha (pps_cons pe_str hb (pps_cons pe_str hc (pps_cons pe_str hd pps_nil)))) rfl rfl (by simp) (by show (4 : Nat) ≤ 15; decide)) ?_
  rintro σ H Q ⟨fr, cs, ra, R, Fr, q⟩ x hx
  have same1 : Same H (upd H x (.dK [])) := fun b o e => by rw [upd_ne (ne_of_none e hx)]; exact e
  have hx' : some x ∉ ra := R.fresh hx
  have R' : Rel g (ra ++ [some x]) (cs ++ [some (.dct [])]) (upd H x (.dK [])) := R.grow hx same1 ⟨[], upd_same, .nil⟩
  have F' : FrR g (upd H x (.dK [])) (ra ++ [some x]) fr σ := Fr.lift (frz_new hx fun b o h _ => same1 b o h) fun n a h => ra_app h
  refine ⟨fr, _, _, R', F', PostR.imp (post_step (rp := rpW g (ra ++ [some x])) q) ?_⟩
  rintro v1 H1 ⟨w1, c1, _, kk1, R1, r1, p1⟩
  refine ⟨fr, _, _, R1, F'.mono kk1, PostR.imp (post_step (rp := rpW g (ra ++ [some x])) p1) ?_⟩
  rintro v2 H2 ⟨w2, c2, _, kk2, R2, r2, p2⟩
  refine ⟨fr, _, _, R2, (F'.mono kk1).mono kk2, PostR.imp (post_step (rp := rpW g (ra ++ [some x])) p2) ?_⟩
  rintro v3 H3 ⟨w3, c3, _, kk3, R3, r3, p3⟩
  refine ⟨fr, _, _, R3, ((F'.mono kk1).mono kk2).mono kk3, PostR.imp (post_step (rp := rpW g (ra ++ [some x])) p3) ?_⟩
  rintro v4 H4 ⟨w4, c4, _, kk4, R4, r4, p4⟩
  unfold dctE at p4
  split at p4
  · rename_i ds e1 e2
    have hcell := R4.at_last R.len e2
    obtain ⟨vs, hH, rf0⟩ := hcell
    cases rf0
    have rr : RepWs g (frz H4 (ra ++ [some x])) (ra ++ [some x]) [w1, w2, w3, w4] [v1, v2, v3, v4] := .cons (r1.mono (kk2.trans (kk3.trans kk4)).same) (.cons (r2.mono (kk3.trans kk4).same) (.cons (r3.mono kk4.same) (.cons r4 .nil)))
    have rd := rr.pure e1
    have hl := rd.length
    match ds, rd, hl with
    | [d1, d2, d3, d4], .cons a1 (.cons a2 (.cons a3 (.cons a4 .nil))), _ =>
      have rf : RepF g (frz H4 (ra ++ [some x])) [(k1, d1), (k2, d2), (k3, d3), (k4, d4)] [(k1, v1), (k2, v2), (k3, v3), (k4, v4)] := .cons a1 (.cons a2 (.cons a3 (.cons a4 .nil)))
      have hm := merge_nil [(k1, v1), (k2, v2), (k3, v3), (k4, v4)] [] hk (fun p _ q hq => by cases hq)
      refine ⟨hH, [(.inr k1, v1), (.inr k2, v2), (.inr k3, v3), (.inr k4, v4)], rfl, by simp, ?_⟩
      rw [show ([((.inr k1 : Key), v1), (.inr k2, v2), (.inr k3, v3), (.inr k4, v4)] : List (Key × V)) = [(k1, v1), (k2, v2), (k3, v3), (k4, v4)].map (fun p : Str × V => ((.inr p.1 : Key), p.2)) from rfl, hm, List.nil_append]
      obtain ⟨k5, R5⟩ := R4.put (n := cs.length) (o := .dK ([(k1, v1), (k2, v2), (k3, v3), (k4, v4)].map fun p : Str × V => ((.inr p.1 : Key), p.2))) (c' := .dct [(k1, d1), (k2, d2), (k3, d3), (k4, d4)]) (by rw [← R.len]; exact List.getElem?_concat_length) ⟨_, upd_same, rf⟩
      have R6 := R5.drop R.len
      rw [List.take_set_of_le (Nat.le_refl _)] at R6
      refine p4 _ (.ref x) (fun b o e nb => ?_) R6 (.dct (vs := [(k1, v1), (k2, v2), (k3, v3), (k4, v4)]) (frz_at upd_same hx') (rf.mono (fun b o e => frz_app b o (k5.same b o e))))
      have hb : some b ∉ ra ++ [some x] := fun z => by
        rcases List.mem_append.mp z with z | z
        · exact nb z
        · have := Option.some.inj (List.mem_singleton.mp z)
          rw [this, hx] at e; cases e
      exact (((kk1.trans kk2).trans (kk3.trans kk4)).trans k5) b o (same1 b o e) hb
  · exact p4.elim
/-- a def that is a value, called -/
theorem c_callv {i q n : Nat} {x : Str} {pn : Pos} (ok : Okx g N sc ac k X Wx) (F : Fx g wd k) (h1 : N[i]? = some x) (h2 : visB sc x = true) (h3 : nodbg x = true) (hn : (e :: es).length = n) (hs : ∀ x ∈ e :: es, notSt x = true) (ha : PA X (e :: es) (tA g Wx fl)) (l1 : ∀ fr cs ws c, fl fr cs = .ok ws c → ws.length = (e :: es).length) :
    PE X (.Call (.Name x pn) (e :: es) [] p) (tE g Wx fun fr cs => match fr[i]? with
      | some (some (.d (.fn f))) => if okFn wd f q n then (fl fr cs).bind fun ws c1 => match (wd.pat f q).bind fun t => srcs ws [] t.2.2 with
        | some l => callW wd f l c1
        | none => .bad
      else .bad
      | _ => .bad) := by
  refine ⟨fun pins s σ H Q I h => ?_⟩
  obtain ⟨fr, cs, ra, R, Fr, qq⟩ := h
  dsimp only at qq
  split at qq
  · rename_i f ef
    split at qq
    · rename_i hf
      unfold okFn at hf
      simp only [Bool.and_eq_true] at hf
      obtain ⟨hf, hpt⟩ := hf
      split at hpt
      · rename_i m nms pm hp
        simp only [Bool.and_eq_true, decide_eq_true_eq] at hpt
        obtain ⟨rfl, rfl⟩ := hpt
        obtain ⟨y, hy⟩ := Option.isSome_iff_exists.mp hf
        obtain ⟨hm, hkp⟩ := F.nm f y hy
        have hv := c_var (g := g) (Wx := Wx) (p := pn) ok h1 h2 h3
        refine wpAny_Call_Name_kw (thn (hv.run pins s σ H (fun v H1 => v = .ref (g.fa f) ∧ tE g Wx (fun fr cs => (fl fr cs).bind fun ws c1 => match (wd.pat f q).bind fun t => srcs ws [] t.2.2 with
          | some l => callW wd f l c1
          | none => .bad) σ H1 Q) I ⟨fr, cs, ra, R, Fr, ?_⟩) fun u s1 ⟨v, H1, I1, ru, ev, p1⟩ => ?_)
        · dsimp only
          rw [ef]
          intro H1 v k1 R1 r1
          cases r1
          exact ⟨rfl, fr, cs, ra, R1, Fr.mono k1, PostR.from k1 qq⟩
        · subst ev
          obtain rfl : u = Value.ref (g.fa f) := ru
          refine args_call (f := f) (q := q) (pm := pm) (pn := pn) (nms := []) (n := m) (fm := fun _ cs => .ok [] cs) (by rw [ok.K]; exact hkp) ok hn rfl hs ha pk_nilB l1 (fun fr cs ws c h => by cases h; rfl) (G := fun ws zs c2 => match (wd.pat f q).bind fun q => srcs ws zs q.2.2 with | some l => callW wd f l c2 | none => .bad) I1 p1 fun I2 R2 r1 r2 v1 v2 a1 a2 p2 => go_call ok F hp I2 R2 r1 r2 v1 v2 a1 a2 p2
      · cases hpt
    · exact qq.elim
  · exact qq.elim
end
end BV
namespace BV
open PySem L2
def plainT : Expr → Bool
  | .UnaryOp .Not _ _ => false
  | .BoolOp _ _ _ => false
  | .IfExp _ _ _ _ => false
  | .Compare _ _ _ _ => false
  | _ => true
theorem plain_true {e : Expr} (h : plainT e = true) (env : Env) (whole : Sem Value) : isTrue e env whole = (do let v ← whole; standAt e.pos; holding [v] (truthy v)) := by
  cases e <;> first | rfl | (cases h; done) | (rename_i op _ _; cases op <;> first | rfl | (cases h; done))
structure Snd (g : G) (wd : Wd) (k : Nat) (z : E) : Prop where
  ex_ : ∀ {N sc ac X Wx ex}, Okx g N sc ac k X Wx → chk wd N sc z ex = true → PE X ex (tE g Wx (ev wd z))
  t : tOK z = true → ∀ {N sc ac X Wx ex}, Okx g N sc ac k X Wx → chk wd N sc z ex = true → PT X ex (tT g Wx fun fr cs => asB (ev wd z fr cs))
  a : ∀ {N sc ac X Wx es}, Okx g N sc ac k X Wx → chkA wd N sc z es = true → PA X es (tA g Wx (evA wd z)) ∧ (∀ x ∈ es, notSt x = true) ∧ ∀ fr cs ws c, evA wd z fr cs = .ok ws c → ws.length = es.length
  kw : ∀ {N sc ac X Wx es}, Okx g N sc ac k X Wx → chkK wd N sc z es = true → PK X es (tA g Wx (evA wd z)) ∧ ∀ fr cs ws c, evA wd z fr cs = .ok ws c → ws.length = es.length
  o : ∀ {N sc ac X Wx eo}, Okx g N sc ac k X Wx → chkO wd N sc z eo = true → PO X eo (tO g Wx (evO wd z))
  an : ∀ {N sc ac X Wx x xs p}, Okx g N sc ac k X Wx → chkA wd N sc z (x :: xs) = true → PE X (.BoolOp .And (x :: xs) p) (tE g Wx (evAnd wd z))
  ant : tOKs z = true → ∀ {N sc ac X Wx x xs p}, Okx g N sc ac k X Wx → chkA wd N sc z (x :: xs) = true → PW X (.BoolOp .And (x :: xs) p) (tT g Wx fun fr cs => asB (evAnd wd z fr cs))
  or : ∀ {N sc ac X Wx x xs p}, Okx g N sc ac k X Wx → chkA wd N sc z (x :: xs) = true → PE X (.BoolOp .Or (x :: xs) p) (tE g Wx (evOr wd z))
  ort : tOKs z = true → ∀ {N sc ac X Wx x xs p}, Okx g N sc ac k X Wx → chkA wd N sc z (x :: xs) = true → PW X (.BoolOp .Or (x :: xs) p) (tT g Wx fun fr cs => asB (evOr wd z fr cs))
  ts : tOKs z = true → ∀ {N sc ac X Wx es}, Okx g N sc ac k X Wx → chkA wd N sc z es = true → es.length ≤ 1 → PTs X es (tT g Wx fun fr cs => asB (evAnd wd z fr cs))
  j : ∀ {N sc ac X Wx es}, Okx g N sc ac k X Wx → chkA wd N sc z es = true → ∃ ts, PJ X es ts ∧ ∀ {acc fr cs ra σ H Q}, Rel g ra cs H → FrR g H ra fr σ → PostR g (rpW g ra) (evJ wd z acc fr cs) ra H Q (fun c d H' => Wx c d σ H') → tJs ts acc σ H fun out H1 => Q (.str out) H1
  i : ∀ {N sc ac X Wx ex tg}, Okx g N sc ac k X Wx → chkI wd N sc z ex tg = true → PI X tg ex (tI g Wx (evI wd z)) ∧ notSet ex = true
section
variable {g : G} {wd : Wd} {k : Nat}
theorem Snd.ofE {e : E} (he : ∀ {N sc ac X Wx ex}, Okx g N sc ac k X Wx → chk wd N sc e ex = true → PE X ex (tE g Wx (ev wd e)))
    (ht : tOK e = true → ∀ {N sc ac X Wx ex}, Okx g N sc ac k X Wx → chk wd N sc e ex = true → PT X ex (tT g Wx fun fr cs => asB (ev wd e fr cs)))
    (hA : ∀ N sc es, chkA wd N sc e es = false) (hK : ∀ N sc es, chkK wd N sc e es = false) (hO : ∀ N sc es, chkO wd N sc e es = false) (hI : ∀ N sc x t, chkI wd N sc e x t = false) : Snd g wd k e where
  ex_ := he
  t := ht
  a := fun _ h => by rw [hA] at h; cases h
  kw := fun _ h => by rw [hK] at h; cases h
  o := fun _ h => by rw [hO] at h; cases h
  an := fun _ h => by rw [hA] at h; cases h
  ant := fun _ {_ _ _ _ _ _ _ _} _ h => by rw [hA] at h; cases h
  or := fun _ h => by rw [hA] at h; cases h
  ort := fun _ {_ _ _ _ _ _ _ _} _ h => by rw [hA] at h; cases h
  ts := fun _ {_ _ _ _ _ _} _ h => by rw [hA] at h; cases h
  j := fun _ h => by rw [hA] at h; cases h
  i := fun _ h => by rw [hI] at h; cases h
theorem Snd.ofP {e : E} (he : ∀ {N sc ac X Wx ex}, Okx g N sc ac k X Wx → chk wd N sc e ex = true → PE X ex (tE g Wx (ev wd e)))
    (hp : ∀ N sc ex, chk wd N sc e ex = true → plainT ex = true)
    (hA : ∀ N sc es, chkA wd N sc e es = false) (hK : ∀ N sc es, chkK wd N sc e es = false) (hO : ∀ N sc es, chkO wd N sc e es = false) (hI : ∀ N sc x t, chkI wd N sc e x t = false) : Snd g wd k e :=
  Snd.ofE he (fun _ {N sc ac X Wx ex} ok h => c_test (he ok h) fun whole => plain_true (hp N sc ex h) X.env whole) hA hK hO hI
theorem Snd.ofI {e : E} (hi : ∀ {N sc ac X Wx ex tg}, Okx g N sc ac k X Wx → chkI wd N sc e ex tg = true → PI X tg ex (tI g Wx (evI wd e)) ∧ notSet ex = true)
    (hE : ∀ N sc x, chk wd N sc e x = false) (hA : ∀ N sc es, chkA wd N sc e es = false) (hK : ∀ N sc es, chkK wd N sc e es = false) (hO : ∀ N sc es, chkO wd N sc e es = false) : Snd g wd k e where
  ex_ := fun _ h => by rw [hE] at h; cases h
  t := fun _ {_ _ _ _ _ _} _ h => by rw [hE] at h; cases h
  a := fun _ h => by rw [hA] at h; cases h
  kw := fun _ h => by rw [hK] at h; cases h
  o := fun _ h => by rw [hO] at h; cases h
  an := fun _ h => by rw [hA] at h; cases h
  ant := fun _ {_ _ _ _ _ _ _ _} _ h => by rw [hA] at h; cases h
  or := fun _ h => by rw [hA] at h; cases h
  ort := fun _ {_ _ _ _ _ _ _ _} _ h => by rw [hA] at h; cases h
  ts := fun _ {_ _ _ _ _ _} _ h => by rw [hA] at h; cases h
  j := fun _ h => by rw [hA] at h; cases h
  i := hi
theorem snd (F : Fx g wd k) : ∀ z : E, Snd g wd k z := by
  intro z
  induction z with
  | var i =>
    refine Snd.ofP (fun {N sc ac X Wx ex} ok h => ?_) (fun N sc ex h => by cases ex <;> first | rfl | exact absurd h Bool.false_ne_true | (simp [chk] at h)) (fun _ _ es => by cases es <;> rfl) (fun _ _ es => by cases es <;> rfl) (fun _ _ es => by cases es <;> rfl) (fun _ _ x t => rfl)
    cases ex <;> simp only [chk, Bool.and_eq_true, Bool.or_eq_true, decide_eq_true_eq, Bool.false_eq_true, Bool.not_eq_true', and_false, false_and] at h
    obtain ⟨⟨h1, h2⟩, h3⟩ := h
    exact PE.eqf (fun fr cs => by first | (rw [ev]; done) | (rw [ev]; rfl)) (c_var ok h1 h2 h3)
  | cst d =>
    refine Snd.ofP (fun {N sc ac X Wx ex} ok h => ?_) (fun N sc ex h => by cases d <;> cases ex <;> first | rfl | exact absurd h Bool.false_ne_true | (simp [chk] at h)) (fun _ _ es => by cases es <;> rfl) (fun _ _ es => by cases es <;> rfl) (fun _ _ es => by cases es <;> rfl) (fun _ _ x t => rfl)
    cases d <;> cases ex <;> first | exact absurd h Bool.false_ne_true | (simp [chk] at h; done) | skip
    all_goals rename_i c kk pp
    all_goals cases c <;> first | exact absurd h Bool.false_ne_true | (simp [chk] at h; done) | skip
    · exact PE.eqf (fun fr cs => by first | (rw [ev]; done) | (rw [ev]; rfl)) (c_cst (fun _ => .non) pe_non)
    · simp only [chk, decide_eq_true_eq] at h
      subst h
      exact PE.eqf (fun fr cs => by first | (rw [ev]; done) | (rw [ev]; rfl)) (c_cst (fun _ => .bl _) pe_bl)
    · simp only [chk, decide_eq_true_eq] at h
      subst h
      exact PE.eqf (fun fr cs => by first | (rw [ev]; done) | (rw [ev]; rfl)) (c_cst (fun _ => .int _) pe_int)
    · simp only [chk, decide_eq_true_eq] at h
      subst h
      exact PE.eqf (fun fr cs => by first | (rw [ev]; done) | (rw [ev]; rfl)) (c_cst (fun _ => .str _) pe_str)
  | dct0 =>
    refine Snd.ofP (fun {N sc ac X Wx ex} ok h => ?_) (fun N sc ex h => by cases ex <;> first | rfl | exact absurd h Bool.false_ne_true | (simp [chk] at h)) (fun _ _ es => by cases es <;> rfl) (fun _ _ es => by cases es <;> rfl) (fun _ _ es => by cases es <;> rfl) (fun _ _ x t => rfl)
    cases ex <;> first | exact absurd h Bool.false_ne_true | (simp [chk] at h; done) | skip
    rename_i ks vs pos
    cases ks <;> cases vs <;> first | exact absurd h Bool.false_ne_true | (simp [chk] at h; done) | skip
    exact PE.eqf (fun fr cs => by first | (rw [ev]; done) | (rw [ev]; rfl)) c_dct0
  | gv y =>
    refine Snd.ofP (fun {N sc ac X Wx ex} ok h => ?_) (fun N sc ex h => by cases ex <;> first | rfl | exact absurd h Bool.false_ne_true | (simp [chk] at h)) (fun _ _ es => by cases es <;> rfl) (fun _ _ es => by cases es <;> rfl) (fun _ _ es => by cases es <;> rfl) (fun _ _ x t => rfl)
    cases ex <;> simp only [chk, Bool.and_eq_true, Bool.or_eq_true, decide_eq_true_eq, Bool.false_eq_true, Bool.not_eq_true', and_false, false_and] at h
    rename_i x pp
    obtain ⟨⟨rfl, h2⟩, h3⟩ := h
    cases e : wd.gd y with
    | none => exact ⟨fun pins s σ H Q I ⟨fr, cs, ra, R, Fr, q⟩ => by rw [ev, e] at q; exact q.elim⟩
    | some d =>
      obtain ⟨u, v, h4, h5, h6⟩ := F.gd _ _ e
      exact PE.eqf (fun fr cs => by rw [ev, e]) (c_cst h6 (pe_glob (gl_of ok h2) (by rw [ok.mg]; exact h4) h5 (dbg_of h3)))
  | op o a b iha ihb =>
    refine Snd.ofP (fun {N sc ac X Wx ex} ok h => ?_) (fun N sc ex h => by cases ex <;> first | rfl | exact absurd h Bool.false_ne_true | (simp [chk] at h)) (fun _ _ es => by cases es <;> rfl) (fun _ _ es => by cases es <;> rfl) (fun _ _ es => by cases es <;> rfl) (fun _ _ x t => rfl)
    cases ex <;> simp only [chk, Bool.and_eq_true, Bool.or_eq_true, decide_eq_true_eq, Bool.false_eq_true, Bool.not_eq_true', and_false, false_and] at h
    obtain ⟨⟨rfl, h1⟩, h2⟩ := h
    exact PE.eqf (fun fr cs => by first | (rw [ev]; done) | (rw [ev]; rfl)) (c_op ok (iha.ex_ ok h1) (ihb.ex_ ok h2))
  | cmp o a b iha ihb =>
    refine Snd.ofE (fun {N sc ac X Wx ex} ok h => ?_) (fun _ {N sc ac X Wx ex} ok h => ?_) (fun _ _ es => by cases es <;> rfl) (fun _ _ es => by cases es <;> rfl) (fun _ _ es => by cases es <;> rfl) (fun _ _ x t => rfl)
    · cases ex <;> first | exact absurd h Bool.false_ne_true | (simp [chk] at h; done) | skip
      rename_i l os rs pp
      match os, rs, h with
      | [o'], [r'], h =>
        simp only [chk, Bool.and_eq_true, decide_eq_true_eq] at h
        obtain ⟨⟨rfl, h1⟩, h2⟩ := h
        exact PE.eqf (fun fr cs => by first | (rw [ev]; done) | (rw [ev]; rfl)) (c_cmp ok (iha.ex_ ok h1) (ihb.ex_ ok h2) (chk_notSet h2))
    · cases ex <;> first | exact absurd h Bool.false_ne_true | (simp [chk] at h; done) | skip
      rename_i l os rs pp
      match os, rs, h with
      | [o'], [r'], h =>
        simp only [chk, Bool.and_eq_true, decide_eq_true_eq] at h
        obtain ⟨⟨rfl, h1⟩, h2⟩ := h
        exact PT.eqf (fun fr cs => by first | (rw [ev]; done) | (rw [ev]; rfl)) (c_cmpT ok (iha.ex_ ok h1) (ihb.ex_ ok h2) (chk_notSet h2))
  | chain o o2 a b c iha ihb ihc =>
    refine Snd.ofE (fun {N sc ac X Wx ex} ok h => ?_) (fun _ {N sc ac X Wx ex} ok h => ?_) (fun _ _ es => by cases es <;> rfl) (fun _ _ es => by cases es <;> rfl) (fun _ _ es => by cases es <;> rfl) (fun _ _ x t => rfl)
    · cases ex <;> first | exact absurd h Bool.false_ne_true | (simp [chk] at h; done) | skip
      rename_i l os rs pp
      match os, rs, h with
      | [o', o2'], [r', r2'], h =>
        simp only [chk, Bool.and_eq_true, decide_eq_true_eq] at h
        obtain ⟨⟨⟨⟨rfl, rfl⟩, h1⟩, h2⟩, h3⟩ := h
        exact PE.eqf (fun fr cs => by first | (rw [ev]; done) | (rw [ev]; rfl)) (c_chain ok (iha.ex_ ok h1) (ihb.ex_ ok h2) (ihc.ex_ ok h3) (chk_notSet h3))
    · cases ex <;> first | exact absurd h Bool.false_ne_true | (simp [chk] at h; done) | skip
      rename_i l os rs pp
      match os, rs, h with
      | [o', o2'], [r', r2'], h =>
        simp only [chk, Bool.and_eq_true, decide_eq_true_eq] at h
        obtain ⟨⟨⟨⟨rfl, rfl⟩, h1⟩, h2⟩, h3⟩ := h
        exact PT.eqf (fun fr cs => by first | (rw [ev]; done) | (rw [ev]; rfl)) (c_chainT ok (iha.ex_ ok h1) (ihb.ex_ ok h2) (ihc.ex_ ok h3) (chk_notSet h3))
  | and as ih =>
    refine Snd.ofE (fun {N sc ac X Wx ex} ok h => ?_) (fun _ {N sc ac X Wx ex} ok h => ?_) (fun _ _ es => by cases es <;> rfl) (fun _ _ es => by cases es <;> rfl) (fun _ _ es => by cases es <;> rfl) (fun _ _ x t => rfl)
    · cases ex <;> first | exact absurd h Bool.false_ne_true | (simp [chk] at h; done) | skip
      rename_i bo es pp
      cases bo with
      | Or => simp [chk] at h
      | And =>
        cases es with
        | nil => simp [chk] at h
        | cons x xs =>
          simp only [chk, Bool.and_eq_true] at h
          exact PE.eqf (fun fr cs => by first | (rw [ev]; done) | (rw [ev]; rfl)) (ih.an ok h.2)
    · cases ex <;> first | exact absurd h Bool.false_ne_true | (simp [chk] at h; done) | skip
      rename_i bo es pp
      cases bo with
      | Or => simp [chk] at h
      | And =>
        cases es with
        | nil => simp [chk] at h
        | cons x xs =>
          simp only [chk, Bool.and_eq_true] at h
          exact PT.eqf (fun fr cs => by first | (rw [ev]; done) | (rw [ev]; rfl)) (ih.ant h.1.2 ok h.2).pt
  | or as ih =>
    refine Snd.ofE (fun {N sc ac X Wx ex} ok h => ?_) (fun _ {N sc ac X Wx ex} ok h => ?_) (fun _ _ es => by cases es <;> rfl) (fun _ _ es => by cases es <;> rfl) (fun _ _ es => by cases es <;> rfl) (fun _ _ x t => rfl)
    · cases ex <;> first | exact absurd h Bool.false_ne_true | (simp [chk] at h; done) | skip
      rename_i bo es pp
      cases bo with
      | And => simp [chk] at h
      | Or =>
        cases es with
        | nil => simp [chk] at h
        | cons x xs =>
          simp only [chk, Bool.and_eq_true] at h
          exact PE.eqf (fun fr cs => by first | (rw [ev]; done) | (rw [ev]; rfl)) (ih.or ok h.2)
    · cases ex <;> first | exact absurd h Bool.false_ne_true | (simp [chk] at h; done) | skip
      rename_i bo es pp
      cases bo with
      | And => simp [chk] at h
      | Or =>
        cases es with
        | nil => simp [chk] at h
        | cons x xs =>
          simp only [chk, Bool.and_eq_true] at h
          exact PT.eqf (fun fr cs => by first | (rw [ev]; done) | (rw [ev]; rfl)) (ih.ort h.1.2 ok h.2).pt
  | not a ih =>
    refine Snd.ofE (fun {N sc ac X Wx ex} ok h => ?_) (fun _ {N sc ac X Wx ex} ok h => ?_) (fun _ _ es => by cases es <;> rfl) (fun _ _ es => by cases es <;> rfl) (fun _ _ es => by cases es <;> rfl) (fun _ _ x t => rfl)
    · cases ex <;> first | exact absurd h Bool.false_ne_true | (simp [chk] at h; done) | skip
      rename_i uo x pp
      cases uo <;> first | exact absurd h Bool.false_ne_true | (simp [chk] at h; done) | skip
      simp only [chk, Bool.and_eq_true] at h
      exact PE.eqf (fun fr cs => by first | (rw [ev]; done) | (rw [ev]; rfl)) (c_not (ih.ex_ ok h.2))
    · cases ex <;> first | exact absurd h Bool.false_ne_true | (simp [chk] at h; done) | skip
      rename_i uo x pp
      cases uo <;> first | exact absurd h Bool.false_ne_true | (simp [chk] at h; done) | skip
      simp only [chk, Bool.and_eq_true] at h
      exact PT.eqf (fun fr cs => by first | (rw [ev]; done) | (rw [ev]; rfl)) (c_notT (ih.t h.1 ok h.2))
  | ife t a b iht iha ihb =>
    refine Snd.ofE (fun {N sc ac X Wx ex} ok h => ?_) (fun hf => by cases hf) (fun _ _ es => by cases es <;> rfl) (fun _ _ es => by cases es <;> rfl) (fun _ _ es => by cases es <;> rfl) (fun _ _ x t => rfl)
    cases ex <;> first | exact absurd h Bool.false_ne_true | (simp [chk] at h; done) | skip
    simp only [chk, Bool.and_eq_true] at h
    exact PE.eqf (fun fr cs => by first | (rw [ev]; done) | (rw [ev]; rfl)) (c_ife (iht.t h.1.1.1 ok h.1.1.2) (iha.ex_ ok h.1.2) (ihb.ex_ ok h.2))
  | nil =>
    exact {
      ex_ := fun {N sc ac X Wx ex} _ h => by cases ex <;> simp [chk] at h
      t := fun _ {N sc ac X Wx ex} _ h => by cases ex <;> simp [chk] at h
      a := fun {N sc ac X Wx es} ok h => by
        cases es with
        | nil => exact ⟨PA.eqf (fun fr cs => by rw [evA]) pa_nilB, fun x hx => (by cases hx), fun fr cs ws c e => by rw [evA] at e; cases e; rfl⟩
        | cons x xs => simp [chkA] at h
      kw := fun {N sc ac X Wx es} ok h => by
        cases es with
        | nil =>
          refine ⟨?_, fun fr cs ws c e => by rw [evA] at e; cases e; rfl⟩
          have e1 : evA wd .nil = fun _ cs => .ok [] cs := funext fun fr => funext fun cs => by rw [evA]
          rw [e1]
          exact pk_nilB
        | cons x xs => simp [chkK] at h
      o := fun {N sc ac X Wx eo} ok h => by
        cases eo with
        | none =>
          have e1 : evO wd .nil = fun _ cs => .ok none cs := funext fun fr => funext fun cs => by rw [evO]
          rw [e1]
          exact c_onone
        | some x => simp [chkO] at h
      an := fun _ h => by simp [chkA] at h
      ant := fun _ {_ _ _ _ _ _ _ _} _ h => by simp [chkA] at h
      or := fun _ h => by simp [chkA] at h
      ort := fun _ {_ _ _ _ _ _ _ _} _ h => by simp [chkA] at h
      ts := fun _ {N sc ac X Wx es} ok h hl => by
        cases es with
        | nil =>
          refine ⟨fun pins s σ H Q I ⟨fr, cs, ra, R, Fr, q⟩ => pts_nil.run pins s σ H Q I ?_⟩
          simp only [evAnd] at q
          exact q H true (Keep.refl _ _) R rfl
        | cons x xs => simp [chkA] at h
      j := fun {N sc ac X Wx es} ok h => by
        cases es with
        | nil =>
          refine ⟨[], .nil, fun {acc fr cs ra σ H Q} R Fr q => ?_⟩
          rw [evJ] at q
          exact q H _ (Keep.refl _ _) R (.str _)
        | cons x xs => simp [chkA] at h
      i := fun {N sc ac X Wx ex tg} _ h => by simp [chkI] at h }
  | cons a as iha ihas =>
    exact {
      ex_ := fun {N sc ac X Wx ex} _ h => by cases ex <;> simp [chk] at h
      t := fun _ {N sc ac X Wx ex} _ h => by cases ex <;> simp [chk] at h
      a := fun {N sc ac X Wx es} ok h => by
        cases es with
        | nil => simp [chkA] at h
        | cons x xs =>
          simp only [chkA, Bool.and_eq_true] at h
          obtain ⟨h1, h2, h3⟩ := ihas.a ok h.2
          refine ⟨PA.eqf (fun fr cs => by rw [evA]) (pa_consB (iha.ex_ ok h.1.2) h1 (star_of h.1.1)), fun y hy => ?_, fun fr cs ws c e => ?_⟩
          · rcases List.mem_cons.mp hy with rfl | hy
            · exact h.1.1
            · exact h2 y hy
          · rw [evA] at e
            cases e1 : ev wd a fr cs with
            | bad => rw [e1] at e; cases e
            | exc c x cs => rw [e1] at e; cases e
            | ok w c1 =>
              rw [e1] at e
              have e' : ((evA wd as fr c1).bind fun ws c2 => R.ok (w :: ws) c2) = .ok ws c := e
              cases e2 : evA wd as fr c1 with
              | bad => rw [e2] at e'; cases e'
              | exc c x cs => rw [e2] at e'; cases e'
              | ok ws' c2 =>
                rw [e2] at e'
                cases e'
                rw [List.length_cons, List.length_cons, h3 _ _ _ _ e2]
      kw := fun {N sc ac X Wx es} ok h => by
        cases es with
        | nil => simp [chkK] at h
        | cons x xs =>
          simp only [chkK, Bool.and_eq_true] at h
          obtain ⟨h1, h3⟩ := ihas.kw ok h.2
          refine ⟨?_, fun fr cs ws c e => ?_⟩
          · have e1 : evA wd (.cons a as) = fun fr cs => (ev wd a fr cs).bind fun w c1 => (evA wd as fr c1).bind fun ws c2 => .ok (w :: ws) c2 := funext fun fr => funext fun cs => by rw [evA]
            rw [e1]
            cases x with
            | mk nm e kp => exact pk_consB (iha.ex_ ok h.1.2) h1
          · rw [evA] at e
            cases e1 : ev wd a fr cs with
            | bad => rw [e1] at e; cases e
            | exc c x cs => rw [e1] at e; cases e
            | ok w c1 =>
              rw [e1] at e
              have e' : ((evA wd as fr c1).bind fun ws c2 => R.ok (w :: ws) c2) = .ok ws c := e
              cases e2 : evA wd as fr c1 with
              | bad => rw [e2] at e'; cases e'
              | exc c x cs => rw [e2] at e'; cases e'
              | ok ws' c2 =>
                rw [e2] at e'
                cases e'
                rw [List.length_cons, List.length_cons, h3 _ _ _ _ e2]
      o := fun {N sc ac X Wx eo} ok h => by
        cases eo with
        | none => cases as <;> simp [chkO] at h
        | some x =>
          cases as <;> first | (simp [chkO] at h; done) | skip
          simp only [chkO] at h
          have e1 : evO wd (.cons a .nil) = fun fr cs => (asI (ev wd a fr cs)).bind fun i c1 => .ok (some i) c1 := funext fun fr => funext fun cs => by rw [evO]
          rw [e1]
          exact c_osome (iha.ex_ ok h)
      an := fun {N sc ac X Wx x xs p} ok h => by
        simp only [chkA, Bool.and_eq_true] at h
        cases xs with
        | nil =>
          cases as <;> first | (simp [chkA] at h; done) | skip
          exact PE.eqf (fun fr cs => by simp only [evAnd, fAnd, fTrue]) (c_and1 (iha.ex_ ok h.1.2))
        | cons y ys => exact PE.eqf (fun fr cs => by simp only [evAnd, fAnd]) (c_and (iha.ex_ ok h.1.2) (ihas.an ok h.2))
      ant := fun ht {N sc ac X Wx x xs p} ok h => by
        simp only [chkA, Bool.and_eq_true] at h
        simp only [tOKs, Bool.and_eq_true] at ht
        have e1 : ∀ fr cs, asB (evAnd wd (.cons a as) fr cs) = asB (fAnd (ev wd a) (evAnd wd as) fr cs) := fun fr cs => by simp only [evAnd, fAnd]
        cases xs with
        | nil =>
          cases as <;> first | (simp [chkA] at h; done) | skip
          have e2 : (fun fr cs => asB (evAnd wd (.cons a .nil) fr cs)) = fun fr cs => asB (fAnd (ev wd a) fTrue fr cs) := funext fun fr => funext fun cs => by simp only [evAnd, fAnd, fTrue]
          rw [e2]
          exact c_and1T (iha.t ht.1 ok h.1.2)
        | cons y ys =>
          have e2 : (fun fr cs => asB (evAnd wd (.cons a as) fr cs)) = fun fr cs => asB (fAnd (ev wd a) (evAnd wd as) fr cs) := funext fun fr => funext fun cs => e1 fr cs
          rw [e2]
          exact c_andT (iha.t ht.1 ok h.1.2) (ihas.ant ht.2 ok h.2)
      or := fun {N sc ac X Wx x xs p} ok h => by
        simp only [chkA, Bool.and_eq_true] at h
        cases xs with
        | nil =>
          cases as <;> first | (simp [chkA] at h; done) | skip
          exact PE.eqf (fun fr cs => by simp only [evOr, fOr, fFalse]) (c_or1 (iha.ex_ ok h.1.2))
        | cons y ys => exact PE.eqf (fun fr cs => by simp only [evOr, fOr]) (c_or (iha.ex_ ok h.1.2) (ihas.or ok h.2))
      ort := fun ht {N sc ac X Wx x xs p} ok h => by
        simp only [chkA, Bool.and_eq_true] at h
        simp only [tOKs, Bool.and_eq_true] at ht
        cases xs with
        | nil =>
          cases as <;> first | (simp [chkA] at h; done) | skip
          have e2 : (fun fr cs => asB (evOr wd (.cons a .nil) fr cs)) = fun fr cs => asB (fOr (ev wd a) fFalse fr cs) := funext fun fr => funext fun cs => by simp only [evOr, fOr, fFalse]
          rw [e2]
          exact c_or1T (iha.t ht.1 ok h.1.2)
        | cons y ys =>
          have e2 : (fun fr cs => asB (evOr wd (.cons a as) fr cs)) = fun fr cs => asB (fOr (ev wd a) (evOr wd as) fr cs) := funext fun fr => funext fun cs => by simp only [evOr, fOr]
          rw [e2]
          exact c_orT (iha.t ht.1 ok h.1.2) (ihas.ort ht.2 ok h.2)
      ts := fun ht {N sc ac X Wx es} ok h hl => by
        simp only [tOKs, Bool.and_eq_true] at ht
        cases es with
        | nil => simp [chkA] at h
        | cons x xs =>
          cases xs with
          | cons y ys => simp at hl
          | nil =>
            simp only [chkA, Bool.and_eq_true] at h
            cases as <;> first | (simp [chkA] at h; done) | skip
            refine ⟨fun pins s σ H Q I ⟨fr, cs, ra, R, Fr, q⟩ => (pts_one (iha.t ht.1 ok h.1.2)).run pins s σ H Q I ⟨fr, cs, ra, R, Fr, ?_⟩⟩
            have e2 : asB (evAnd wd (.cons a .nil) fr cs) = asB (ev wd a fr cs) := by
              simp only [evAnd]
              cases e3 : asB (ev wd a fr cs) with
              | bad => rfl
              | exc c x cs => rfl
              | ok b c => cases b <;> rfl
            dsimp only at q ⊢
            rw [e2] at q
            exact q
      j := fun {N sc ac X Wx es} ok h => by
        cases es with
        | nil => simp [chkA] at h
        | cons x xs =>
          simp only [chkA, Bool.and_eq_true] at h
          obtain ⟨ts, h1, h2⟩ := ihas.j ok h.2
          refine ⟨_ :: ts, .cons (iha.ex_ ok h.1.2) h1, fun {acc fr cs ra σ H Q} R Fr q => ?_⟩
          rw [evJ] at q
          refine ⟨fr, cs, ra, R, Fr, PostR.imp (PostR.bind (rp := rpW g ra) q) ?_⟩
          rintro y H1 ⟨w, c1, k1, R1, r1, p1⟩
          split at p1
          · cases r1
            split at p1
            · rename_i hl
              exact ⟨_, rfl, by rw [line_lit]; exact hl, h2 R1 (Fr.mono k1) p1⟩
            · exact p1.elim
          · exact p1.elim
      i := fun {N sc ac X Wx ex tg} _ h => by simp [chkI] at h }
  | tup as ih =>
    refine Snd.ofP (fun {N sc ac X Wx ex} ok h => ?_) (fun N sc ex h => by cases ex <;> first | rfl | exact absurd h Bool.false_ne_true | (simp [chk] at h)) (fun _ _ es => by cases es <;> rfl) (fun _ _ es => by cases es <;> rfl) (fun _ _ es => by cases es <;> rfl) (fun _ _ x t => rfl)
    cases ex <;> simp only [chk, Bool.and_eq_true, Bool.or_eq_true, decide_eq_true_eq, Bool.false_eq_true, Bool.not_eq_true', and_false, false_and] at h
    exact PE.eqf (fun fr cs => by first | (rw [ev]; done) | (rw [ev]; rfl)) (c_tup (ih.a ok h).1)
  | lst as ih =>
    refine Snd.ofP (fun {N sc ac X Wx ex} ok h => ?_) (fun N sc ex h => by cases ex <;> first | rfl | exact absurd h Bool.false_ne_true | (simp [chk] at h)) (fun _ _ es => by cases es <;> rfl) (fun _ _ es => by cases es <;> rfl) (fun _ _ es => by cases es <;> rfl) (fun _ _ x t => rfl)
    cases ex <;> simp only [chk, Bool.and_eq_true, Bool.or_eq_true, decide_eq_true_eq, Bool.false_eq_true, Bool.not_eq_true', and_false, false_and] at h
    exact PE.eqf (fun fr cs => by first | (rw [ev]; done) | (rw [ev]; rfl)) (c_lst (ih.a ok h).1)
  | ix a i iha ihb =>
    refine Snd.ofP (fun {N sc ac X Wx ex} ok h => ?_) (fun N sc ex h => by cases ex <;> first | rfl | exact absurd h Bool.false_ne_true | (simp [chk] at h)) (fun _ _ es => by cases es <;> rfl) (fun _ _ es => by cases es <;> rfl) (fun _ _ es => by cases es <;> rfl) (fun _ _ x t => rfl)
    cases ex <;> first | exact absurd h Bool.false_ne_true | (simp [chk] at h; done) | skip
    simp only [chk, Bool.and_eq_true] at h
    exact PE.eqf (fun fr cs => by first | (rw [ev]; done) | (rw [ev]; rfl)) (c_ix ok (iha.ex_ ok h.1.2) (ihb.ex_ ok h.2) h.1.1)
  | sl a lo hi iha ihl ihh =>
    refine Snd.ofP (fun {N sc ac X Wx ex} ok h => ?_) (fun N sc ex h => by cases ex <;> first | rfl | exact absurd h Bool.false_ne_true | (simp [chk] at h)) (fun _ _ es => by cases es <;> rfl) (fun _ _ es => by cases es <;> rfl) (fun _ _ es => by cases es <;> rfl) (fun _ _ x t => rfl)
    cases ex <;> first | exact absurd h Bool.false_ne_true | (simp [chk] at h; done) | skip
    rename_i e j pp
    cases j <;> first | exact absurd h Bool.false_ne_true | (simp [chk] at h; done) | skip
    rename_i l u st p2
    cases st with
    | some st => simp [chk] at h
    | none =>
      simp only [chk, Bool.and_eq_true] at h
      exact PE.eqf (fun fr cs => by first | (rw [ev]; done) | (rw [ev]; rfl)) (c_sl ok (iha.ex_ ok h.1.1) (ihl.o ok h.1.2) (ihh.o ok h.2))
  | bi b as ih =>
    refine Snd.ofP (fun {N sc ac X Wx ex} ok h => ?_) (fun N sc ex h => by cases ex <;> first | rfl | exact absurd h Bool.false_ne_true | (simp [chk] at h)) (fun _ _ es => by cases es <;> rfl) (fun _ _ es => by cases es <;> rfl) (fun _ _ es => by cases es <;> rfl) (fun _ _ x t => rfl)
    cases ex <;> first | exact absurd h Bool.false_ne_true | (simp [chk] at h; done) | skip
    rename_i fe es kws pp
    cases fe <;> first | exact absurd h Bool.false_ne_true | (simp [chk] at h; done) | skip
    rename_i x pn
    cases kws with
    | cons _ _ => simp [chk] at h
    | nil =>
      cases es with
      | nil => simp [chk] at h
      | cons y ys =>
        simp only [chk, Bool.and_eq_true, decide_eq_true_eq] at h
        obtain ⟨⟨⟨⟨rfl, hg⟩, hd⟩, _⟩, h5⟩ := h
        exact PE.eqf (fun fr cs => by first | (rw [ev]; done) | (rw [ev]; rfl)) (c_bi ok F hg (ih.a ok h5).2.1 (ih.a ok h5).1)
  | isi a ts many ih =>
    refine Snd.ofP (fun {N sc ac X Wx ex} ok h => ?_) (fun N sc ex h => by cases many <;> cases ts <;> cases ex <;> first | rfl | exact absurd h Bool.false_ne_true | (simp [chk] at h)) (fun _ _ es => by cases es <;> rfl) (fun _ _ es => by cases es <;> rfl) (fun _ _ es => by cases es <;> rfl) (fun _ _ x t => rfl)
    simp only [chk] at h
    split at h
    · simp only [Bool.and_eq_true, decide_eq_true_eq] at h
      obtain ⟨⟨⟨⟨⟨rfl, hg⟩, h3⟩, h4⟩, h5⟩, h6⟩ := h
      exact PE.eqf (fun fr cs => by first | (rw [ev]; done) | (rw [ev]; rfl)) (c_isiT ok F hg (chk_notSt h5) (ih.ex_ ok h5) h6 h3 h4)
    · simp only [Bool.and_eq_true, decide_eq_true_eq] at h
      obtain ⟨⟨⟨rfl, hg⟩, h5⟩, h6⟩ := h
      exact PE.eqf (fun fr cs => by first | (rw [ev]; done) | (rw [ev]; rfl)) (c_isi ok F hg (chk_notSt h5) (ih.ex_ ok h5) h6)
    · exact absurd h Bool.false_ne_true
  | bm m a as iha ih =>
    refine Snd.ofP (fun {N sc ac X Wx ex} ok h => ?_) (fun N sc ex h => by cases ex <;> first | rfl | exact absurd h Bool.false_ne_true | (simp [chk] at h)) (fun _ _ es => by cases es <;> rfl) (fun _ _ es => by cases es <;> rfl) (fun _ _ es => by cases es <;> rfl) (fun _ _ x t => rfl)
    cases ex <;> first | exact absurd h Bool.false_ne_true | (simp [chk] at h; done) | skip
    rename_i fe es kws pp
    cases fe <;> first | exact absurd h Bool.false_ne_true | (simp [chk] at h; done) | skip
    rename_i o x ap
    cases kws with
    | cons _ _ => simp [chk] at h
    | nil =>
      simp only [chk, Bool.and_eq_true, decide_eq_true_eq] at h
      obtain ⟨⟨⟨⟨⟨rfl, hsup⟩, hline⟩, hlen⟩, h5⟩, h6⟩ := h
      cases es with
      | nil =>
        cases as <;> first | (simp [chkA] at h6; done) | skip
        exact PE.eqf (fun fr cs => by first | (rw [ev, evA]; rfl; done) | (rw [ev, evA]; done) | (simp only [ev, evA]; rfl) | simp only [ev, evA]) (c_bm0 ok hsup hline (iha.ex_ ok h5))
      | cons y ys => exact PE.eqf (fun fr cs => by first | (rw [ev]; done) | (rw [ev]; rfl)) (c_bm ok hsup hline hlen (ih.a ok h6).2.1 (iha.ex_ ok h5) (ih.a ok h6).1)
  | lam f t iht =>
    refine Snd.ofP (fun {N sc ac X Wx ex} ok h => ?_) (fun N sc ex h => by cases ex <;> first | rfl | exact absurd h Bool.false_ne_true | (simp [chk] at h)) (fun _ _ es => by cases es <;> rfl) (fun _ _ es => by cases es <;> rfl) (fun _ _ es => by cases es <;> rfl) (fun _ _ x t => rfl)
    cases ex <;> first | exact absurd h Bool.false_ne_true | (simp [chk] at h; done) | skip
    rename_i fe es kws pp
    cases fe <;> first | exact absurd h Bool.false_ne_true | (simp [chk] at h; done) | skip
    rename_i x pn
    cases es with
    | nil => simp [chk] at h
    | cons e1 es =>
      cases es with
      | cons _ _ => cases e1 <;> simp [chk] at h
      | nil =>
        cases kws with
        | cons _ _ => cases e1 <;> simp [chk] at h
        | nil =>
          cases e1 <;> first | exact absurd h Bool.false_ne_true | (simp [chk] at h; done) | skip
          rename_i params body scope lp
          simp only [chk, Bool.and_eq_true, Bool.not_eq_true', decide_eq_true_eq, decide_eq_false_iff_not] at h
          obtain ⟨⟨⟨⟨⟨⟨⟨hx, hg⟩, hd⟩, hp⟩, hl⟩, hs⟩, hn⟩, hb⟩ := h
          exact PE.eqf (fun fr cs => by rw [ev]) (c_lam ok F hx hg hd hp hl hs hn hb)
  | call f p as ks iha ihk =>
    refine Snd.ofP (fun {N sc ac X Wx ex} ok h => ?_) (fun N sc ex h => by cases ex <;> first | rfl | exact absurd h Bool.false_ne_true | (simp [chk] at h)) (fun _ _ es => by cases es <;> rfl) (fun _ _ es => by cases es <;> rfl) (fun _ _ es => by cases es <;> rfl) (fun _ _ x t => rfl)
    cases ex <;> first | exact absurd h Bool.false_ne_true | (simp [chk] at h; done) | skip
    rename_i fe es kws pp
    cases fe <;> first | exact absurd h Bool.false_ne_true | (simp [chk] at h; done) | skip
    rename_i x pn
    simp only [chk, Bool.and_eq_true, decide_eq_true_eq] at h
    obtain ⟨⟨⟨hx, hg⟩, hd⟩, h⟩ := h
    split at h
    · rename_i n nms pm hp
      simp only [Bool.and_eq_true, decide_eq_true_eq] at h
      obtain ⟨⟨⟨hn, hk⟩, h5⟩, h6⟩ := h
      cases es with
      | nil =>
        cases as <;> first | (simp [chkA] at h5; done) | skip
        cases n with
        | succ n => cases hn
        | zero => exact PE.eqf (fun fr cs => by rw [ev]; simp only [evCall, evA] <;> rfl) (c_call0 ok F hx hg hd hp hk (ihk.kw ok h6).1 (ihk.kw ok h6).2)
      | cons y ys => exact PE.eqf (fun fr cs => by first | (rw [ev]; done) | (rw [ev]; rfl)) (c_call ok F hx hg hd hp hn hk (iha.a ok h5).2.1 (iha.a ok h5).1 (ihk.kw ok h6).1 (iha.a ok h5).2.2 (ihk.kw ok h6).2)
    · cases h
  | make c p as ks iha ihk =>
    refine Snd.ofP (fun {N sc ac X Wx ex} ok h => ?_) (fun N sc ex h => by cases ex <;> first | rfl | exact absurd h Bool.false_ne_true | (simp [chk] at h)) (fun _ _ es => by cases es <;> rfl) (fun _ _ es => by cases es <;> rfl) (fun _ _ es => by cases es <;> rfl) (fun _ _ x t => rfl)
    cases ex <;> first | exact absurd h Bool.false_ne_true | (simp [chk] at h; done) | skip
    rename_i fe es kws pp
    cases fe <;> first | exact absurd h Bool.false_ne_true | (simp [chk] at h; done) | skip
    rename_i x pn
    simp only [chk, Bool.and_eq_true, decide_eq_true_eq] at h
    obtain ⟨⟨⟨hx, hg⟩, hd⟩, h⟩ := h
    split at h
    · rename_i f hi
      split at h
      · rename_i n nms pm hp
        simp only [Bool.and_eq_true, decide_eq_true_eq] at h
        obtain ⟨⟨⟨hn, hk⟩, h5⟩, h6⟩ := h
        cases es with
        | nil =>
          cases as <;> first | (simp [chkA] at h5; done) | skip
          have hn' : n = 1 := by rw [← hn]; rfl
          subst hn'
          exact PE.eqf (fun fr cs => by rw [ev]; simp only [evMake, evA]) (c_make0 ok F hx hi hg hd hp hk (ihk.kw ok h6).1 (ihk.kw ok h6).2)
        | cons y ys => exact PE.eqf (fun fr cs => by first | (rw [ev]; done) | (rw [ev]; rfl)) (c_make ok F hx hi hg hd hp hn hk (iha.a ok h5).2.1 (iha.a ok h5).1 (ihk.kw ok h6).1 (iha.a ok h5).2.2 (ihk.kw ok h6).2)
      · cases h
    · cases h
  | fld a f iha =>
    refine Snd.ofP (fun {N sc ac X Wx ex} ok h => ?_) (fun N sc ex h => by cases ex <;> first | rfl | exact absurd h Bool.false_ne_true | (simp [chk] at h)) (fun _ _ es => by cases es <;> rfl) (fun _ _ es => by cases es <;> rfl) (fun _ _ es => by cases es <;> rfl) (fun _ _ x t => rfl)
    cases ex <;> first | exact absurd h Bool.false_ne_true | (simp [chk] at h; done) | skip
    simp only [chk, Bool.and_eq_true, decide_eq_true_eq] at h
    obtain ⟨⟨rfl, h2⟩, h3⟩ := h
    exact PE.eqf (fun fr cs => by first | (rw [ev]; done) | (rw [ev]; rfl)) (c_fld ok F h2 (iha.ex_ ok h3))
  | meth a m as iha ih =>
    refine Snd.ofP (fun {N sc ac X Wx ex} ok h => ?_) (fun N sc ex h => by cases ex <;> first | rfl | exact absurd h Bool.false_ne_true | (simp [chk] at h)) (fun _ _ es => by cases es <;> rfl) (fun _ _ es => by cases es <;> rfl) (fun _ _ es => by cases es <;> rfl) (fun _ _ x t => rfl)
    cases ex <;> first | exact absurd h Bool.false_ne_true | (simp [chk] at h; done) | skip
    rename_i fe es kws pp
    cases fe <;> first | exact absurd h Bool.false_ne_true | (simp [chk] at h; done) | skip
    rename_i o x ap
    cases kws with
    | cons _ _ => simp [chk] at h
    | nil =>
      simp only [chk, Bool.and_eq_true, decide_eq_true_eq] at h
      obtain ⟨⟨⟨⟨⟨rfl, hsup⟩, hline⟩, hlen⟩, h5⟩, h6⟩ := h
      cases es with
      | nil =>
        cases as <;> first | (simp [chkA] at h6; done) | skip
        exact PE.eqf (fun fr cs => by rw [ev]; simp only [evMeth, evA] <;> rfl) (c_meth0 ok F hsup hline (iha.ex_ ok h5))
      | cons y ys => exact PE.eqf (fun fr cs => by first | (rw [ev]; done) | (rw [ev]; rfl)) (c_meth ok F hsup hline hlen (ih.a ok h6).2.1 (iha.ex_ ok h5) (ih.a ok h6).1)
  | lc elt it conds tg one own ihe ihi ihc =>
    refine Snd.ofP (fun {N sc ac X Wx ex} ok h => ?_) (fun N sc ex h => by cases ex <;> first | rfl | exact absurd h Bool.false_ne_true | (simp [chk] at h)) (fun _ _ es => by cases es <;> rfl) (fun _ _ es => by cases es <;> rfl) (fun _ _ es => by cases es <;> rfl) (fun _ _ x t => rfl)
    simp only [chk] at h
    split at h
    rotate_left
    · exact absurd h Bool.false_ne_true
    · simp only [Bool.and_eq_true, decide_eq_true_eq, List.all_eq_true] at h
      obtain ⟨⟨⟨⟨⟨⟨⟨h1, h2⟩, h3⟩, h4⟩, h5⟩, h6⟩, h7⟩, h8⟩ := h
      exact PE.eqf (fun fr cs => by first | (rw [ev]; done) | (rw [ev]; rfl)) (c_lc (fe := ev wd elt) (ft := fun fr cs => asB (evAnd wd conds fr cs)) ok (ihi.i ok h1).1 (ihi.i ok h1).2 (by rw [← F.lams]; exact h2) (fun X' ok' => c_tg ok' h7) (fun X' ok' => ihc.ts h4 ok' h6 h3) (fun X' ok' => ihe.ex_ ok' h5) (fun i hi => by have := h8 i hi; exact List.contains_iff_mem.mp this))
  | rep a iha =>
    refine Snd.ofP (fun {N sc ac X Wx ex} ok h => ?_) (fun N sc ex h => by cases ex <;> first | rfl | exact absurd h Bool.false_ne_true | (simp [chk] at h)) (fun _ _ es => by cases es <;> rfl) (fun _ _ es => by cases es <;> rfl) (fun _ _ es => by cases es <;> rfl) (fun _ _ x t => rfl)
    simp only [chk] at h
    split at h
    rotate_left
    · exact absurd h Bool.false_ne_true
    · simp only [Bool.and_eq_true, decide_eq_true_eq] at h
      obtain ⟨⟨⟨rfl, hg⟩, h3⟩, h4⟩ := h
      exact PE.eqf (fun fr cs => by first | (rw [ev]; done) | (rw [ev]; rfl)) (c_rep ok F hg h3 (iha.ex_ ok h4))
  | dct4 k1 k2 k3 k4 a b c d iha ihb ihc ihd =>
    refine Snd.ofP (fun {N sc ac X Wx ex} ok h => ?_) (fun N sc ex h => by cases ex <;> first | rfl | exact absurd h Bool.false_ne_true | (simp [chk] at h)) (fun _ _ es => by cases es <;> rfl) (fun _ _ es => by cases es <;> rfl) (fun _ _ es => by cases es <;> rfl) (fun _ _ x t => rfl)
    simp only [chk] at h
    split at h
    rotate_left
    · exact absurd h Bool.false_ne_true
    · simp only [Bool.and_eq_true, decide_eq_true_eq] at h
      obtain ⟨⟨⟨⟨⟨⟨⟨⟨rfl, rfl⟩, rfl⟩, rfl⟩, hk⟩, h1⟩, h2⟩, h3⟩, h4⟩ := h
      exact PE.eqf (fun fr cs => by first | (rw [ev]; done) | (rw [ev]; rfl)) (c_dct4 hk (iha.ex_ ok h1) (ihb.ex_ ok h2) (ihc.ex_ ok h3) (ihd.ex_ ok h4))
  | dix a x iha =>
    refine Snd.ofP (fun {N sc ac X Wx ex} ok h => ?_) (fun N sc ex h => by cases ex <;> first | rfl | exact absurd h Bool.false_ne_true | (simp [chk] at h)) (fun _ _ es => by cases es <;> rfl) (fun _ _ es => by cases es <;> rfl) (fun _ _ es => by cases es <;> rfl) (fun _ _ x t => rfl)
    simp only [chk] at h
    split at h
    rotate_left
    · exact absurd h Bool.false_ne_true
    · simp only [Bool.and_eq_true, decide_eq_true_eq] at h
      obtain ⟨rfl, h1⟩ := h
      exact PE.eqf (fun fr cs => by first | (rw [ev]; done) | (rw [ev]; rfl)) (c_dix ok (iha.ex_ ok h1))
  | callv i q n as iha =>
    refine Snd.ofP (fun {N sc ac X Wx ex} ok h => ?_) (fun N sc ex h => by cases ex <;> first | rfl | exact absurd h Bool.false_ne_true | (simp [chk] at h)) (fun _ _ es => by cases es <;> rfl) (fun _ _ es => by cases es <;> rfl) (fun _ _ es => by cases es <;> rfl) (fun _ _ x t => rfl)
    simp only [chk] at h
    split at h
    rotate_left
    · exact absurd h Bool.false_ne_true
    · simp only [Bool.and_eq_true, decide_eq_true_eq] at h
      obtain ⟨⟨⟨⟨h1, h2⟩, h3⟩, hn⟩, h5⟩ := h
      exact PE.eqf (fun fr cs => by first | (rw [ev]; done) | (rw [ev]; rfl)) (c_callv ok F h1 h2 h3 hn (iha.a ok h5).2.1 (iha.a ok h5).1 (iha.a ok h5).2.2)
  | lrng a iha =>
    refine Snd.ofP (fun {N sc ac X Wx ex} ok h => ?_) (fun N sc ex h => by cases ex <;> first | rfl | exact absurd h Bool.false_ne_true | (simp [chk] at h)) (fun _ _ es => by cases es <;> rfl) (fun _ _ es => by cases es <;> rfl) (fun _ _ es => by cases es <;> rfl) (fun _ _ x t => rfl)
    simp only [chk] at h
    split at h
    rotate_left
    · exact absurd h Bool.false_ne_true
    · simp only [Bool.and_eq_true, decide_eq_true_eq] at h
      obtain ⟨⟨⟨⟨⟨rfl, rfl⟩, hgl⟩, hg⟩, h3⟩, h4⟩ := h
      exact PE.eqf (fun fr cs => by first | (rw [ev]; done) | (rw [ev]; rfl)) (c_lrng ok F hgl hg h3 (iha.ex_ ok h4))
  | neg a iha =>
    refine Snd.ofP (fun {N sc ac X Wx ex} ok h => ?_) (fun N sc ex h => by cases ex <;> first | rfl | (rename_i o _ _; cases o <;> first | rfl | exact absurd h Bool.false_ne_true | (simp [chk] at h)) | (simp [chk] at h)) (fun _ _ es => by cases es <;> rfl) (fun _ _ es => by cases es <;> rfl) (fun _ _ es => by cases es <;> rfl) (fun _ _ x t => rfl)
    cases ex <;> first | exact absurd h Bool.false_ne_true | (simp [chk] at h; done) | skip
    rename_i uo x pp
    cases uo <;> first | exact absurd h Bool.false_ne_true | (simp [chk] at h; done) | skip
    simp only [chk] at h
    exact PE.eqf (fun fr cs => by first | (rw [ev]; done) | (rw [ev]; rfl)) (c_neg (iha.ex_ ok h))
  | rng1 a iha =>
    refine Snd.ofI (fun {N sc ac X Wx ex tg} ok h => ?_) (fun N sc ex => by cases ex <;> rfl) (fun _ _ es => by cases es <;> rfl) (fun _ _ es => by cases es <;> rfl) (fun _ _ es => by cases es <;> rfl)
    cases ex <;> first | exact absurd h Bool.false_ne_true | (simp [chkI] at h; done) | skip
    rename_i fe es kws pp
    cases fe <;> first | exact absurd h Bool.false_ne_true | (simp [chkI] at h; done) | skip
    rename_i x pn
    match es, kws, h with
    | [e], [], h =>
      simp only [chkI, Bool.and_eq_true, decide_eq_true_eq] at h
      obtain ⟨⟨⟨rfl, hg⟩, h3⟩, h4⟩ := h
      refine ⟨?_, rfl⟩
      have e1 : evI wd (.rng1 a) = _ := funext fun fr => funext fun cs => by rw [evI]
      rw [e1]
      exact (c_rng1 ok F hg h3 (iha.ex_ ok h4))
  | itl a iha =>
    refine Snd.ofI (fun {N sc ac X Wx ex tg} ok h => ?_) (fun N sc ex => by cases ex <;> rfl) (fun _ _ es => by cases es <;> rfl) (fun _ _ es => by cases es <;> rfl) (fun _ _ es => by cases es <;> rfl)
    simp only [chkI, Bool.and_eq_true] at h
    refine ⟨?_, h.1⟩
    have e1 : evI wd (.itl a) = _ := funext fun fr => funext fun cs => by rw [evI]
    rw [e1]
    exact c_itl ok (iha.ex_ ok h.2)
  | itt a iha =>
    refine Snd.ofI (fun {N sc ac X Wx ex tg} ok h => ?_) (fun N sc ex => by cases ex <;> rfl) (fun _ _ es => by cases es <;> rfl) (fun _ _ es => by cases es <;> rfl) (fun _ _ es => by cases es <;> rfl)
    simp only [chkI, Bool.and_eq_true] at h
    refine ⟨?_, h.1⟩
    have e1 : evI wd (.itt a) = _ := funext fun fr => funext fun cs => by rw [evI]
    rw [e1]
    exact c_itt ok (iha.ex_ ok h.2)
  | zip a b iha ihb =>
    refine Snd.ofI (fun {N sc ac X Wx ex tg} ok h => ?_) (fun N sc ex => by cases ex <;> rfl) (fun _ _ es => by cases es <;> rfl) (fun _ _ es => by cases es <;> rfl) (fun _ _ es => by cases es <;> rfl)
    cases ex <;> first | exact absurd h Bool.false_ne_true | (simp [chkI] at h; done) | skip
    rename_i fe es kws pp
    cases fe <;> first | exact absurd h Bool.false_ne_true | (simp [chkI] at h; done) | skip
    rename_i x pn
    match es, kws, h with
    | [e, f], [], h =>
      simp only [chkI, Bool.and_eq_true, decide_eq_true_eq] at h
      obtain ⟨⟨⟨⟨⟨⟨rfl, hg⟩, h3⟩, h4⟩, h5⟩, h6⟩, h7⟩ := h
      refine ⟨?_, rfl⟩
      have e1 : evI wd (.zip a b) = _ := funext fun fr => funext fun cs => by rw [evI]
      rw [e1]
      exact (c_zip ok F hg h3 h4 h7 (iha.ex_ ok h5) (ihb.ex_ ok h6))
end
end BV
namespace BV
open PySem L2
/-! ### values that come as a new cell -/
section
variable {g : G} {wd : Wd} {N : List Str} {sc : Scope} {ac : Bool} {k : Nat} {X : Cx} {Wx : WX} {l r e : Expr} {es : List Expr} {kws : List Keyword} {p : Pos} {fl fm : Fra → Cells → R (List W)} {α β : Type}
theorem last_new {ra : Ra} {a : Addr} {cs : Cells} {H : Hp} (R : Rel g (ra ++ [some a]) cs H) : some a ∉ ra := fun h => by
  obtain ⟨n, hn⟩ := mem_ra h
  have h1 : (ra ++ [some a])[n]? = some (some a) := ra_app hn
  have h2 : (ra ++ [some a])[ra.length]? = some (some a) := by simp
  have := R.inj _ _ _ h1 h2
  have := (List.getElem?_eq_some_iff.mp hn).1
  omega
theorem PostL.from {r : R Unit} {ra : Ra} {H H1 : Hp} {Q : VK} {E : XK} (k : Keep ra H H1) (h : PostL g r ra H Q E) : PostL g r ra H1 Q E := by
  cases r with
  | ok u cs =>
    intro H' a k' hn R
    refine h H' a (k.trans k') ?_ R
    cases e : H a with
    | none => rfl
    | some o =>
      obtain ⟨o', q, _⟩ := k a o e (last_new R)
      rw [hn] at q; cases q
  | exc c x cs => exact fun H' dd v k' R p q => h H' dd v (k.trans k') R p q
  | bad => exact h
theorem PostL.bind {r : R α} {f : α → Cells → R Unit} {rp : Hp → α → β → Prop} {ra : Ra} {H : Hp} {Q2 : VK} {E : XK} (h : PostL g (r.bind f) ra H Q2 E) :
    PostR g rp r ra H (fun v H1 => ∃ a cs1, r = .ok a cs1 ∧ Keep ra H H1 ∧ Rel g ra cs1 H1 ∧ rp H1 a v ∧ PostL g (f a cs1) ra H1 Q2 E) E := by
  cases r with
  | ok a cs => exact fun H1 v k1 R1 p => ⟨a, cs, rfl, k1, R1, p, PostL.from k1 h⟩
  | exc c x cs => exact h
  | bad => exact h
theorem PostL.imp {r : R Unit} {ra : Ra} {H : Hp} {Q Q' : VK} {E : XK} (h : PostL g r ra H Q E) (i : ∀ v H, Q v H → Q' v H) : PostL g r ra H Q' E := by
  cases r with
  | ok u cs => exact fun H' a k' hn R => i _ _ (h H' a k' hn R)
  | exc c x cs => exact h
  | bad => exact h
def tL (g : G) (Wx : WX) (f : Fra → Cells → R Unit) : TE := fun σ H Q => ∃ fr cs ra, Rel g ra cs H ∧ FrR g H ra fr σ ∧ PostL g (f fr cs) ra H Q (fun c d H' => Wx c d σ H')
theorem PE.eqL {ex : Expr} {f f' : Fra → Cells → R Unit} (e : ∀ fr cs, f fr cs = f' fr cs) (h : PE X ex (tL g Wx f)) : PE X ex (tL g Wx f') := by
  have : f = f' := funext fun a => funext fun b => e a b
  rw [← this]
  exact h
def lstL (ws : List W) (cs : Cells) : R Unit := match pureDs ws with
  | some ds => if ds.length ≤ lit then .ok () (cs ++ [some (.lst ds)]) else .bad
  | none => .bad
theorem grow_lst {ra : Ra} {cs : Cells} {H : Hp} {a : Addr} {ds : List D} {vs : List V} (R : Rel g ra cs H) (hn : H a = none) (r : RepL g (frz H ra) ds vs) : Keep ra H (upd H a (.lst vs)) ∧ Rel g (ra ++ [some a]) (cs ++ [some (.lst ds)]) (upd H a (.lst vs)) := by
  have same1 : Same H (upd H a (.lst vs)) := fun b o e => by rw [upd_ne (ne_of_none e hn)]; exact e
  refine ⟨Same.keep same1, R.grow hn same1 ⟨vs, upd_same, r.mono (frz_new hn fun b o h _ => same1 b o h)⟩⟩
theorem c_lstL (h : PA X es (tA g Wx fl)) : PE X (.List es p) (tL g Wx fun fr cs => (fl fr cs).bind fun ws c1 => lstL ws c1) := PE.imp (pe_lst h) fun σ H Q ⟨fr, cs, ra, R, F, q⟩ => by
  refine ⟨fr, cs, ra, R, F, PostR.imp (PostL.bind (rp := rpA g ra) q) ?_⟩
  rintro vs H1 ⟨ws, c1, e0, k1, R1, r1, p1⟩
  unfold lstL at p1
  split at p1
  · rename_i ds e
    split at p1
    · rename_i hl
      have r2 := r1.pure e
      refine ⟨by rw [line_lit, ← r2.length]; exact hl, fun a hn => ?_⟩
      obtain ⟨kk, R2⟩ := grow_lst R1 hn r2
      exact p1 _ a kk hn R2
    · exact p1.elim
  · exact p1.elim
/-- a + b, a list of ours -/
def addL (w1 w2 : W) (cs : Cells) : R Unit := match dlt cs w1, dlt cs w2 with
  | some xs, some ys => if xs.length + ys.length ≤ lit then .ok () (cs ++ [some (.lst (xs ++ ys))]) else .bad
  | _, _ => .bad
theorem c_addL {fa fb : Fra → Cells → R W} (ha : PE X l (tE g Wx fa)) (hb : PE X r (tE g Wx fb)) : PE X (.BinOp l .Add r p) (tL g Wx fun fr cs => (fa fr cs).bind fun w1 c1 => (fb fr c1).bind fun w2 c2 => addL w1 w2 c2) := PE.imp (pe_op op_cat ha hb) fun σ H Q ⟨fr, cs, ra, R, F, q⟩ => by
  refine ⟨fr, cs, ra, R, F, PostR.imp (PostL.bind (rp := rpW g ra) q) ?_⟩
  rintro x H1 ⟨w1, c1, _, k1, R1, r1, p1⟩
  refine ⟨fr, c1, ra, R1, F.mono k1, PostR.imp (PostL.bind (rp := rpW g ra) p1) ?_⟩
  rintro y H2 ⟨w2, c2, _, k2, R2, r2, p2⟩
  unfold addL at p2
  split at p2
  · rename_i xs ys e1 e2
    split at p2
    · rename_i hl
      obtain ⟨a, vs, rfl, h1, q1⟩ := dlt_ok R2 (r1.mono k2.same) e1
      obtain ⟨b, us, rfl, h2, q2⟩ := dlt_ok R2 r2 e2
      refine ⟨a, b, vs, us, rfl, rfl, h1, h2, by rw [line_lit, ← q1.length, ← q2.length]; exact hl, fun l hn => ?_⟩
      obtain ⟨kk, R3⟩ := grow_lst R2 hn (q1.append q2)
      exact p2 _ l kk hn R3
    · exact p2.elim
  · exact p2.elim
/-- list(x), a list of ours -/
def oflW (ws : List W) (cs : Cells) : R Unit := match ws with
  | [w] => match seqOf cs w with
    | some ds => .ok () (cs ++ [some (.lst ds)])
    | none => .bad
  | _ => .bad
theorem c_oflL {pn : Pos} (ok : Okx g N sc ac k X Wx) (F : Fx g wd k) (hg : glB sc "list" = true) (hs : ∀ x ∈ e :: es, notSt x = true) (h : PA X (e :: es) (tA g Wx fl)) :
    PE X (.Call (.Name "list" pn) (e :: es) [] p) (tL g Wx fun fr cs => (fl fr cs).bind fun ws c1 => oflW ws c1) := by
  have hm : X.mg "list" = none := by rw [ok.mg]; exact F.bi .list
  have hst := star_of (es := es) (env := X.env) (hs e (List.mem_cons_self ..))
  have hpl := (nostar_any (env := X.env) (pos := p) fun x hx => hs x (List.mem_cons_of_mem _ hx)).1
  refine PE.imp (pe_callTy (bi_rule ok.calm .list) (gl_of ok hg) hm (Bi.boot .list) h (ne_name (b := .list)).1 (ne_name (b := .list)).2 hst hpl) ?_
  rintro σ H Q ⟨fr, cs, ra, R, F', q⟩
  refine ⟨fr, cs, ra, R, F', PostR.imp (PostL.bind (rp := rpA g ra) q) ?_⟩
  rintro vs H1 ⟨ws, c1, e0, k1, R1, r1, p1⟩
  unfold oflW at p1
  split at p1
  · obtain ⟨v, rfl, rw_⟩ := ws1 r1
    split at p1
    · rename_i ds ed
      obtain ⟨a, us, rfl, h1, q1⟩ := seqOf_ok R1 rw_ ed
      refine ⟨a, us, rfl, by rw [ok.K]; exact h1, fun l hn => ?_⟩
      obtain ⟨kk, R2⟩ := grow_lst R1 hn q1
      exact p1 _ l kk hn R2
    · exact p1.elim
  · exact p1.elim
/-- list(range(n)), a list of ours -/
theorem c_lrngL {pl pn p1 : Pos} {fa : Fra → Cells → R W} (ok : Okx g N sc ac k X Wx) (F : Fx g wd k) (hgl : glB sc "list" = true) (hg : glB sc "range" = true) (hst : notSt e = true) (ha : PE X e (tE g Wx fa)) :
    PE X (.Call (.Name "list" pl) [.Call (.Name "range" pn) [e] [] p1] [] p) (tL g Wx fun fr cs => (asI (fa fr cs)).bind fun i c1 => if small62 i && decide (i ≤ 16777216) then .ok () (c1 ++ [some (.lst (rngD 0 i))]) else .bad) := by
  refine PE.imp (pe_listRg ok.calm (gl_of ok hgl) (by rw [ok.mg]; exact F.bi .list) (prg_1 (gl_of ok hg) (by rw [ok.mg]; exact F.bx.1) ha (star_of (es := []) hst)) rfl) ?_
  rintro σ H Q ⟨fr, cs, ra, R, Fr, q⟩
  refine ⟨fr, cs, ra, R, Fr, PostR.imp (asI_post (PostL.bind (rp := fun _ (a b : Int) => a = b) q)) ?_⟩
  rintro x H1 ⟨i, rfl, i', c1, _, k1, R1, rfl, p1⟩
  split at p1
  · rename_i hs
    simp only [Bool.and_eq_true, decide_eq_true_eq] at hs
    obtain ⟨h1, h2⟩ := small62_ok hs.1
    refine ⟨i', rfl, ⟨by decide, by decide, h1, h2, by omega⟩, fun a hn => ?_⟩
    obtain ⟨kk, R2⟩ := grow_lst R1 hn (rep_rg _ i')
    exact p1 _ a kk hn R2
  · exact p1.elim
theorem lcL_imp {own : List (Str × Nat)} {tg : List Nat} {one : Bool} {fi : Fra → Cells → R (List D)} {ft : Fra → Cells → R Bool} {fe : Fra → Cells → R W} (htg : ∀ i ∈ tg, i ∈ own.map (·.2)) :
    ∀ σ H Q, tL g Wx (fun fr cs => (fi fr cs).bind fun ds c1 => (lcGo ft fe tg one (wipeF fr (own.map (·.2))) c1.length ds (c1 ++ [some (.lst [])])).nox) σ H Q → tLc (tI g Wx fi) (tG g tg one) (tT g W0 ft) (tE g W0 fe) (own.map (·.2)) σ H Q := by
  rintro σ H Q ⟨fr, cs, ra, R, Fr, q⟩
  refine ⟨fr, cs, ra, R, Fr, PostR.imp (PostL.bind (rp := fun H1 ds J => WalksD g (frz H1 ra) J ds) q) ?_⟩
  rintro J H1 ⟨ds, c1, _, k1, R1, wk, p1⟩ D hD
  have hD' : some D ∉ ra := R1.fresh hD
  have same1 : Same H1 (upd H1 D (.lst [])) := fun b o e => by rw [upd_ne (ne_of_none e hD)]; exact e
  have R1' : Rel g (ra ++ [some D]) (c1 ++ [some (.lst [])]) (upd H1 D (.lst [])) := R1.grow hD same1 ⟨[], upd_same, .nil⟩
  have inD : ∀ {b : Addr}, some b ∈ ra ++ [some D] → some b ∈ ra ∨ b = D := fun {b} z => by
    rcases List.mem_append.mp z with z | z
    · exact .inl z
    · exact .inr (Option.some.inj (List.mem_singleton.mp z))
  have start : LcP g (ra ++ [some D]) (Q (.ref D)) (lcGo ft fe tg one (wipeF fr (own.map (·.2))) c1.length ds (c1 ++ [some (.lst [])])) (upd H1 D (.lst [])) := by
    cases e : lcGo ft fe tg one (wipeF fr (own.map (·.2))) c1.length ds (c1 ++ [some (.lst [])]) with
    | bad => rw [e] at p1; exact p1
    | exc c x cs => rw [e] at p1; exact p1
    | ok u c2 =>
      rw [e] at p1
      intro H' kk R2
      refine p1 H' D (fun b o e nb => kk b o (same1 b o e) (fun z => ?_)) hD R2
      rcases inD z with z | z
      · exact nb z
      · rw [z, hD] at e; cases e
  have frame : ∀ {H' : Hp}, Keep (ra ++ [some D]) (upd H1 D (.lst [])) H' → Same (frz H1 ra) (frz H' (ra ++ [some D])) := fun {H'} kk b o e => kk.same b o (frz_new hD (fun b o h _ => same1 b o h) b o e)
  refine ⟨fun i m H => m = ds.length - i ∧ i ≤ ds.length ∧ ∃ cs, Rel g (ra ++ [some D]) cs H ∧ Keep (ra ++ [some D]) (upd H1 D (.lst [])) H ∧ LcP g (ra ++ [some D]) (Q (.ref D)) (lcGo ft fe tg one (wipeF fr (own.map (·.2))) c1.length (ds.drop i) cs) H,
    ⟨ds.length, rfl, Nat.zero_le _, _, R1', Keep.refl _ _, start⟩, ?_⟩
  rintro i m H2 ⟨rfl, hle, cs2, R2, kk2, post⟩
  have sm : Same (frz H1 ra) H2 := fun b o e => frz_same _ _ _ _ (frame kk2 b o e)
  obtain ⟨w1, w2⟩ := wk H2 sm
  by_cases hlt : i < ds.length
  · have hd : ds[i]? = some ds[i] := List.getElem?_eq_getElem hlt
    obtain ⟨go, yld⟩ := w1 i _ hd
    have ed : ds.drop i = ds[i] :: ds.drop (i + 1) := List.drop_eq_getElem_cons hlt
    rw [ed] at post
    generalize ds[i] = d at post yld hd
    refine .inr ⟨go, fun H' => ∃ cs', Rel g (ra ++ [some D]) cs' H' ∧ Keep (ra ++ [some D]) (upd H1 D (.lst [])) H' ∧ LcP g (ra ++ [some D]) (Q (.ref D)) (lcGo ft fe tg one (wipeF fr (own.map (·.2))) c1.length (ds.drop (i + 1)) cs') H',
      fun H' ⟨cs', h1, h2, h3⟩ => ⟨ds.length - (i + 1), by omega, rfl, hlt, cs', h1, h2, h3⟩, fun x H3 hy => ?_⟩
    obtain ⟨s3, rep3⟩ := yld x H3 hy
    have R3 := R2.same s3
    have kk3 : Keep (ra ++ [some D]) (upd H1 D (.lst [])) H3 := kk2.trans (Same.keep s3)
    have post3 := LcP.from (Same.keep s3) post
    have rd : Rep g (frz H3 (ra ++ [some D])) d x := rep3 _ (frame kk3) fun b o e1 e2 t => frz_at e2 (R2.fresh e1) t
    have F3 : FrR g H3 (ra ++ [some D]) (wipeF fr (own.map (·.2))) (wipe σ (own.map (·.2))) := ((Fr.mono k1).lift (frame kk3) fun n a h => ra_app h).wipe _
    unfold lcGo at post3
    split at post3
    · exact post3.elim
    · rename_i fr1 es
      refine ⟨wipeF fr (own.map (·.2)), d, ra ++ [some D], fr1, F3, rd, es, fun σ1 F1 hw => ⟨(hw _ htg).trans (wipe_idem _), fr1, cs2, ra ++ [some D], R3, F1, ?_⟩⟩
      unfold lcTurn at post3
      cases e4 : ft fr1 cs2 with
      | bad => rw [e4] at post3; exact post3.elim
      | exc c x cs => rw [e4] at post3; exact post3.elim
      | ok b c4 =>
        rw [e4] at post3
        intro H4 b' k4 R4 eb
        subst eb
        cases b with
        | false =>
          exact ⟨c4, R4, kk3.trans k4, LcP.from k4 (show LcP g (ra ++ [some D]) (Q (.ref D)) (lcGo ft fe tg one (wipeF fr (own.map (·.2))) c1.length (ds.drop (i + 1)) c4) H3 from post3)⟩
        | true =>
          refine ⟨fr1, c4, ra ++ [some D], R4, F1.mono k4, ?_⟩
          have post4 : LcP g (ra ++ [some D]) (Q (.ref D)) (((fe fr1 c4).nox.bind fun w c2 => lcAdd c1.length w c2).bind fun _ c2 => lcGo ft fe tg one (wipeF fr (own.map (·.2))) c1.length (ds.drop (i + 1)) c2) H3 := post3
          cases e5 : fe fr1 c4 with
          | bad => rw [e5] at post4; exact post4.elim
          | exc c x cs => rw [e5] at post4; exact post4.elim
          | ok w c5 =>
            rw [e5] at post4
            have post5 : LcP g (ra ++ [some D]) (Q (.ref D)) ((lcAdd c1.length w c5).bind fun _ c2 => lcGo ft fe tg one (wipeF fr (own.map (·.2))) c1.length (ds.drop (i + 1)) c2) H3 := post4
            intro H5 y k5 R5 ry
            unfold lcAdd at post5
            split at post5
            · rename_i xd acc hx
              split at post5
              · rename_i hl
                have hc : c5[c1.length]? = some (some (.lst acc)) := by
                  unfold celL at hx
                  split at hx
                  · rename_i ys hy; cases hx; exact hy
                  · cases hx
                obtain ⟨a, ha, vs, h3, h4⟩ := R5.cell _ _ hc
                have ha' := ha
                have ea : a = D := by
                  rw [← R1.len] at ha
                  simp at ha
                  exact ha.symm
                subst ea
                obtain ⟨k6, R6⟩ := R5.put (o := .lst (vs ++ [y])) (c' := .lst (acc ++ [xd])) ha' ⟨_, upd_same, h4.append (.cons ry .nil)⟩
                refine ⟨vs, h3, by rw [line_lit, ← h4.length]; exact hl, _, R6, ((kk3.trans k4).trans k5).trans k6, LcP.from ((k4.trans k5).trans k6) post5⟩
              · exact post5.elim
            · exact post5.elim
  · have ei : i = ds.length := by omega
    subst ei
    rw [List.drop_length] at post
    exact .inl ⟨w2, post H2 (Keep.refl _ _) R2⟩
theorem c_lcL {own : List (Str × Nat)} {tg : List Nat} {one : Bool} {scope : Scope} {ie te ee : Expr} {ifs : List Expr} {fi : Fra → Cells → R (List D)} {ft : Fra → Cells → R Bool} {fe : Fra → Cells → R W}
    (ok : Okx g N sc ac k X Wx) (hi : PI X te ie (tI g Wx fi)) (hset : notSet ie = true) (hbl : blkL g.lams N sc scope own = true)
    (hg : ∀ X', Okx g N (relS scope sc) false k X' W0 → PG X' te (tG g tg one))
    (ht : ∀ X', Okx g N (relS scope sc) false k X' W0 → PTs X' ifs (tT g W0 ft))
    (he : ∀ X', Okx g N (relS scope sc) false k X' W0 → PE X' ee (tE g W0 fe)) (htg : ∀ i ∈ tg, i ∈ own.map (·.2)) :
    PE X (.ListComp ee [⟨te, ie, ifs, 0⟩] scope p) (tL g Wx fun fr cs => (fi fr cs).bind fun ds c1 => (lcGo ft fe tg one (wipeF fr (own.map (·.2))) c1.length ds (c1 ++ [some (.lst [])])).nox) := by
  have okb : ∀ (s : Shared) (H : Hp) (C : Addr) (cl : List (Str × Addr)) (fp : List Addr), Okx g N (relS scope sc) false k (X.blk s H scope (compEnvC scope cl C X.env) fp) W0 := fun s H C cl fp =>
    ⟨ok.P, ok.w, ok.K, ok.mg, ok.base, ok.hN, ok.nd, ok.calm, by rw [← ok.sc]; rfl, (fun h => by cases h), ok.hr, takes0, ok.gd, fun h => absurd (show relS scope sc ∈ g.lams by rw [← ok.sc]; exact h) (blkL_and hbl).2, fun h => by cases h⟩
  exact PE.imp (pe_lc ok.calm (by rw [ok.hN]; exact ok.nd) hi (blkOk_by (own := own) (by rw [ok.hN, ok.sc]; exact (blkL_and hbl).1)) (fun s H C cl fp => hg _ (okb s H C cl fp)) (fun s H C cl fp => ht _ (okb s H C cl fp)) (fun s H C cl fp => he _ (okb s H C cl fp)) (fold_of hset)) (lcL_imp htg)
theorem c_setLc {i : Nat} {y : Str} {py spos : Pos} {own : List (Str × Nat)} {tg : List Nat} {one : Bool} {scope : Scope} {ie te ee : Expr} {ifs : List Expr} {fi : Fra → Cells → R (List D)} {ft : Fra → Cells → R Bool} {fe : Fra → Cells → R W}
    (ok : Okx g N sc ac k X Wx) (hi : PI X te ie (tI g Wx fi)) (hset : notSet ie = true) (hbl : blkL g.lams N sc scope own = true)
    (hg : ∀ X', Okx g N (relS scope sc) false k X' W0 → PG X' te (tG g tg one))
    (ht : ∀ X', Okx g N (relS scope sc) false k X' W0 → PTs X' ifs (tT g W0 ft))
    (he : ∀ X', Okx g N (relS scope sc) false k X' W0 → PE X' ee (tE g W0 fe)) (hy : N[i]? = some y) (hyl : sc.names.lookup y = some .local) (hsw : swapsWith (.ListComp ee [⟨te, ie, ifs, 0⟩] scope p) (some (.Name y py)) spos.line X.env = pure true) (htg : ∀ i ∈ tg, i ∈ own.map (·.2)) :
    PS X (.Assign [.Name y py] (.ListComp ee [⟨te, ie, ifs, 0⟩] scope p) spos) (tAsg (tL g Wx fun fr cs => (fi fr cs).bind fun ds c1 => (lcGo ft fe tg one (wipeF fr (own.map (·.2))) c1.length ds (c1 ++ [some (.lst [])])).nox) (gName i)) := by
  have okb : ∀ (s : Shared) (H : Hp) (C : Addr) (cl : List (Str × Addr)) (fp : List Addr), Okx g N (relS scope sc) false k (X.blk s H scope (compEnvC scope cl C X.env) fp) W0 := fun s H C cl fp =>
    ⟨ok.P, ok.w, ok.K, ok.mg, ok.base, ok.hN, ok.nd, ok.calm, by rw [← ok.sc]; rfl, (fun h => by cases h), ok.hr, takes0, ok.gd, fun h => absurd (show relS scope sc ∈ g.lams by rw [← ok.sc]; exact h) (blkL_and hbl).2, fun h => by cases h⟩
  exact PS.imp (ps_setLc ok.calm (by rw [ok.hN]; exact ok.nd) (by rw [ok.hN]; exact hy) (by rw [ok.sc]; exact hyl) hsw hi (blkOk_by (own := own) (by rw [ok.hN, ok.sc]; exact (blkL_and hbl).1)) (fun s H C cl fp => hg _ (okb s H C cl fp)) (fun s H C cl fp => ht _ (okb s H C cl fp)) (fun s H C cl fp => he _ (okb s H C cl fp)) (fold_of hset)) fun D σ H q => lcL_imp htg σ H _ q
def evCallL (wd : Wd) (f q : Nat) (fl fm : Fra → Cells → R (List W)) : Fra → Cells → R Unit := fun fr cs => (fl fr cs).bind fun ws c1 => (fm fr c1).bind fun zs c2 => match (wd.pat f q).bind fun q => srcs ws zs q.2.2 with
    | some l => wd.phl f l c2
    | none => .bad
theorem Fx.fnl' (F : Fx g wd k) (ok : Okx g N sc ac k X Wx) (f : Nat) : FnG X.prog X.w X.K X.mg X.base (L2.CX X.prog X.w) k (g.fa f) (g.fd f) (g.ps f) (spOfL g (g.ps f).length (wd.phl f)) := by
  rw [ok.P, ok.w, ok.K, ok.mg, ok.base]
  exact F.fnl f
/-- behind the arguments: the call -/
theorem go_callL {f q n : Nat} {nms : List Str} {pm : List Src} {pins : List (Addr × Obj)} {σ : L2.St} {s : Shared} {us ws' : List Value} {vs zs : List V} {ws ys : List W} {cs : Cells} {ra : Ra} {H : Hp} {Q : VK} (ok : Okx g N sc ac k X Wx) (F : Fx g wd k) (hp : wd.pat f q = some (n, nms, pm))
    (I : Inv X pins σ H s) (R : Rel g ra cs H) (r1 : RepWs g (frz H ra) ra ws vs) (r2 : RepWs g (frz H ra) ra ys zs) (v1 : Vals vs us) (v2 : Vals zs ws') (l1 : vs.length = n) (l2 : zs.length = nms.length)
    (h : PostL g (match (wd.pat f q).bind fun q => srcs ws ys q.2.2 with
      | some l => wd.phl f l cs
      | none => .bad) ra H Q (fun c d H' => Wx c d σ H')) : wpAny (model X.prog X.w) X.A (call (.ref (g.fa f)) us (nms.zip ws')) (EP X pins σ Q) X.xe s := by
  obtain ⟨hf, hl, gg, hb⟩ := F.pat _ _ _ _ _ hp
  rw [hp] at h
  simp only [Option.bind_some] at h
  split at h
  · rename_i l e
    obtain ⟨q1, q2⟩ := srcs_ok r1 r2 hf e
    exact run_N (F.fnl' ok f) (ok.hr.mono (by omega)) ok.gd (by rw [ok.K]; exact hb) (passAt ok.tk σ) I v1 v2 l1 l2 ⟨l, cs, ra, R, q1, by rw [q2, hl], h⟩
  · exact h.elim
/-- the arguments, then what is wanted of the values -/
theorem args_callL {f q n : Nat} {nms : List Str} {pm : List Src} {pn : Pos} {v : Value} (hkeep : PySem.W.keepIn X.K v = true) (ok : Okx g N sc ac k X Wx) (hn : (e :: es).length = n) (hk : kws.map (·.arg) = nms.map some) (hs : ∀ x ∈ e :: es, notSt x = true)
    (ha : PA X (e :: es) (tA g Wx fl)) (hkw : PK X kws (tA g Wx fm)) (l1 : ∀ fr cs ws c, fl fr cs = .ok ws c → ws.length = (e :: es).length) (l2 : ∀ fr cs ws c, fm fr cs = .ok ws c → ws.length = kws.length)
    {pins : List (Addr × Obj)} {σ : L2.St} {H : Hp} {s : Shared} {Q : VK} {G : List W → List W → Cells → R Unit} (I : Inv X pins σ H s) (h : tL g Wx (fun fr cs => (fl fr cs).bind fun ws c1 => (fm fr c1).bind fun zs c2 => G ws zs c2) σ H Q)
    (go : ∀ {s : Shared} {us ws' : List Value} {vs zs : List V} {ws ys : List W} {cs : Cells} {ra : Ra} {H : Hp}, Inv X pins σ H s → Rel g ra cs H → RepWs g (frz H ra) ra ws vs → RepWs g (frz H ra) ra ys zs → Vals vs us → Vals zs ws' → vs.length = n → zs.length = nms.length →
      PostL g (G ws ys cs) ra H Q (fun c d H' => Wx c d σ H') → wpAny (model X.prog X.w) X.A (call v us (nms.zip ws')) (EP X pins σ Q) X.xe s) :
    wpAny (model X.prog X.w) X.A (callWith p v [] (backTo p (starEach (e :: es) X.env)) (backToKw p (keywordEach kws X.env))) (EP X pins σ Q) X.xe s := by
  obtain ⟨k1, k2, k3⟩ := kw_facts (env := X.env) (pos := p) hk
  have hpl := (nostar_any (env := X.env) (pos := p) hs).1
  obtain ⟨fr, cs, ra, R, Fr, q1⟩ := h
  refine PySem.W.callWith_KW (h₀ := X.base) I.ok.mod.kin hkeep k1 (thn (ha.run p pins s σ H _ I ⟨fr, cs, ra, R, Fr, PostL.bind (rp := rpA g ra) q1⟩) fun us s1 ⟨vs, H1, I1, rv, ws, c1, e1, kk1, R1, r1, p1⟩ => ?_) (by rw [hpl, k3]; rfl) (star_of (hs e (List.mem_cons_self ..)))
  refine thn (hkw.run p pins s1 σ H1 _ I1 ⟨fr, c1, ra, R1, Fr.mono kk1, PostL.bind (rp := rpA g ra) p1⟩) fun ws2 s2 ⟨zs, H2, I2, rz, ys, c2, e2, kk2, R2, r2, p2⟩ => ⟨I2.kIn, ?_⟩
  rw [k2]
  refine go I2 R2 (r1.mono kk2.same) r2 rv rz ?_ ?_ p2
  · rw [← r1.length, l1 _ _ _ _ e1]; exact hn
  · have a1 := r2.length
    have a2 := l2 _ _ _ _ e2
    have a3 := congrArg List.length hk
    simp only [List.length_map] at a3
    omega
theorem args_call0L {nms : List Str} {pn : Pos} {v : Value} (hkeep : PySem.W.keepIn X.K v = true) (ok : Okx g N sc ac k X Wx) (hk : kws.map (·.arg) = nms.map some)
    (hkw : PK X kws (tA g Wx fm)) (l2 : ∀ fr cs ws c, fm fr cs = .ok ws c → ws.length = kws.length)
    {pins : List (Addr × Obj)} {σ : L2.St} {H : Hp} {s : Shared} {Q : VK} {G : List W → List W → Cells → R Unit} (I : Inv X pins σ H s) (h : tL g Wx (fun fr cs => (fm fr cs).bind fun zs c2 => G [] zs c2) σ H Q)
    (go : ∀ {s : Shared} {us ws' : List Value} {vs zs : List V} {ws ys : List W} {cs : Cells} {ra : Ra} {H : Hp}, Inv X pins σ H s → Rel g ra cs H → RepWs g (frz H ra) ra ws vs → RepWs g (frz H ra) ra ys zs → Vals vs us → Vals zs ws' → vs.length = 0 → zs.length = nms.length →
      PostL g (G ws ys cs) ra H Q (fun c d H' => Wx c d σ H') → wpAny (model X.prog X.w) X.A (call v us (nms.zip ws')) (EP X pins σ Q) X.xe s) :
    wpAny (model X.prog X.w) X.A (callWith p v [] (backTo p (starEach [] X.env)) (backToKw p (keywordEach kws X.env))) (EP X pins σ Q) X.xe s := by
  obtain ⟨k1, k2, k3⟩ := kw_facts (env := X.env) (pos := p) hk
  obtain ⟨fr, cs, ra, R, Fr, q1⟩ := h
  refine PySem.W.callWith_KW0 (h₀ := X.base) I.ok.mod.kin hkeep k1 ?_ (by rw [k3]; rfl)
  refine thn (hkw.run p pins s σ H _ I ⟨fr, cs, ra, R, Fr, PostL.bind (rp := rpA g ra) q1⟩) fun ws2 s2 ⟨zs, H2, I2, rz, ys, c2, e2, kk2, R2, r2, p2⟩ => ⟨I2.kIn, ?_⟩
  rw [k2]
  refine go (vs := []) I2 R2 .nil r2 .nil rz rfl ?_ p2
  have a1 := r2.length
  have a2 := l2 _ _ _ _ e2
  have a3 := congrArg List.length hk
  simp only [List.length_map] at a3
  omega
theorem c_callL {f q n : Nat} {nms : List Str} {pm : List Src} {x : Str} {pn : Pos} (ok : Okx g N sc ac k X Wx) (F : Fx g wd k) (hx : wd.fnm f = some x) (hg : glB sc x = true) (hd : nodbg x = true) (hp : wd.pat f q = some (n, nms, pm)) (hn : (e :: es).length = n) (hk : kws.map (·.arg) = nms.map some) (hs : ∀ x ∈ e :: es, notSt x = true)
    (ha : PA X (e :: es) (tA g Wx fl)) (hkw : PK X kws (tA g Wx fm)) (l1 : ∀ fr cs ws c, fl fr cs = .ok ws c → ws.length = (e :: es).length) (l2 : ∀ fr cs ws c, fm fr cs = .ok ws c → ws.length = kws.length) :
    PE X (.Call (.Name x pn) (e :: es) kws p) (tL g Wx (evCallL wd f q fl fm)) := by
  refine ⟨fun pins s σ H Q I h => ?_⟩
  obtain ⟨hm, hkp⟩ := F.nm f x hx
  refine wpAny_Call_Name_kw (ld_glob I (gl_of ok hg) (by rw [ok.mg]; exact hm) ?_ (dbg_of hd))
  exact args_callL (f := f) (q := q) (pm := pm) (pn := pn) (by rw [ok.K]; exact hkp) ok hn hk hs ha hkw l1 l2 I h fun I2 R2 r1 r2 v1 v2 a1 a2 p2 => go_callL ok F hp I2 R2 r1 r2 v1 v2 a1 a2 p2
theorem c_call0L {f q : Nat} {nms : List Str} {pm : List Src} {x : Str} {pn : Pos} (ok : Okx g N sc ac k X Wx) (F : Fx g wd k) (hx : wd.fnm f = some x) (hg : glB sc x = true) (hd : nodbg x = true) (hp : wd.pat f q = some (0, nms, pm)) (hk : kws.map (·.arg) = nms.map some)
    (hkw : PK X kws (tA g Wx fm)) (l2 : ∀ fr cs ws c, fm fr cs = .ok ws c → ws.length = kws.length) :
    PE X (.Call (.Name x pn) [] kws p) (tL g Wx (evCallL wd f q (fun _ cs => .ok [] cs) fm)) := by
  refine ⟨fun pins s σ H Q I h => ?_⟩
  obtain ⟨hm, hkp⟩ := F.nm f x hx
  refine wpAny_Call_Name_kw (ld_glob I (gl_of ok hg) (by rw [ok.mg]; exact hm) ?_ (dbg_of hd))
  exact args_call0L (pn := pn) (G := fun ws zs c2 => match (wd.pat f q).bind fun q => srcs ws zs q.2.2 with | some l => wd.phl f l c2 | none => .bad) (by rw [ok.K]; exact hkp) ok hk hkw l2 I h fun I2 R2 r1 r2 v1 v2 a1 a2 p2 => go_callL ok F hp I2 R2 r1 r2 v1 v2 a1 a2 p2
/-! making an instance -/
end
end BV
namespace BV
open PySem L2 PySem.Spec PyProof.Rows
/-! ### try: body / except (..) as n: v = n: the exception is held as a value -/
theorem excV_ok {P : Program} {w : World} {H : Hp} {h : Heap} {a : Addr} {cls : Value} {d : Option Addr} {oe : Obj} {vs : Array Value} (e : h.get? a = some oe) (z : Zc cls d oe) (dd : oe.data = .fields vs) : ObjOk P w H h a (ExcV cls d a) :=
  ⟨⟨oe, vs, e, z, dd⟩, ⟨oe, e⟩, fun _ _ ⟨o, v, q, r⟩ k => ⟨o, v, k o q, r⟩⟩
theorem flyingZ_keeps {B h h' : Heap} {l : List Env} {e : Addr} {Z : Obj → Prop} (fl : HandSPX.FlyingZ B l e Z h) (k : ∀ b o, h.get? b = some o → h'.get? b = some o) : HandSPX.FlyingZ B l e Z h' := by
  obtain ⟨f1, f2, f3, oe, vs, T, oT, ts, he, hz, hd, h1, hn, hne, hT, hdT, h3⟩ := fl
  exact ⟨fun b o q => k b o (f1 b o q), f2, f3.of_keeps fun b o q _ => ⟨o, k b o q, rfl⟩, oe, vs, T, oT, ts, k _ _ he, hz, hd, h1, hn, hne, k _ _ hT, hdT, h3⟩
section
variable {X : Cx} {pins : List (Addr × Obj)} {σ : L2.St} {H : Hp} {s sI : Shared}
theorem Inv.suite0 (I : Inv X pins σ H s) (a : Addr) : Inv (X.suite a (X.pn ++ pins)) [] σ H s :=
  ⟨I.ok.suite _ _, I.os, I.bare, I.base, I.loc, I.cell, I.free, I.freeC, fun p hp => I.pin p (by rw [List.append_nil] at hp; exact hp), I.hok, I.len⟩
theorem Inv.unsuite0 {a : Addr} {pn' : List (Addr × Obj)} (I : Inv (X.suite a (X.pn ++ pins)) pn' σ H s) (ok : X.Ok) : Inv X pins σ H s :=
  ⟨ok, I.os, I.bare, I.base, I.loc, I.cell, I.free, I.freeC, fun p hp => I.pin p (List.mem_append_left _ hp), I.hok, I.len⟩
/-- an object that stands, new since the frame's start, is tracked -/
theorem Inv.track {a : Addr} {o : HO} {oe : Obj} {vs : Array Value} (I : Inv X pins σ H s) (he : s.heap.get? a = some oe) (hd : oe.data = .fields vs) (n0 : X.s_0.heap.get? a = none) (na : H a = none) (nL : a ≠ X.env.locals) (np : ∀ p ∈ X.pn ++ pins, p.1 ≠ a) (new : ObjOk X.prog X.w (upd H a o) s.heap a o) :
    Inv X pins σ (upd H a o) s := by
  have ne0 : ∀ b u, X.s_0.heap.get? b = some u → b ≠ a := fun b u e z => by rw [z, n0] at e; cases e
  refine ⟨I.ok, I.os, I.bare, ⟨I.base.keep, I.base.slot, fun b u e n hx => ?_, I.base.there, fun b xs e => ?_, fun b ob u e => ?_, fun b ps e => ?_⟩, I.loc, I.cell, ?_, fun x c e => ?_, fun p hp => ?_, fun b u e => ?_, I.len⟩
  · rw [upd_ne (ne0 b u e)]; exact I.base.free b u e n hx
  · have q := I.base.tups b xs e
    rw [upd_ne (ne_of_none q na)]; exact q
  · have q := I.base.frzs b ob u e
    rw [upd_ne (ne_of_none q na)]; exact q
  · obtain ⟨m, q⟩ := I.base.tbls b ps e
    exact ⟨m, by rw [upd_ne (ne_of_none q na)]; exact q⟩
  · rw [upd_ne (Ne.symm nL)]; exact I.free
  · obtain ⟨v, oc, hc, hdc⟩ := I.cell x c e
    have : c ≠ a := fun z => by
      rw [z, he] at hc
      cases hc
      rw [hd] at hdc; cases hdc
    rw [upd_ne this]; exact I.freeC x c e
  · obtain ⟨e, n, r⟩ := I.pin p hp
    exact ⟨e, by rw [upd_ne (np p hp)]; exact n, r⟩
  · by_cases hb : b = a
    · subst hb
      rw [upd_same] at e
      cases e
      exact new
    · rw [upd_ne hb] at e
      exact (I.hok b u e).stay (fun c v _ q => q) (fun c q => by rw [upd_ne (ne_of_none q na)]; exact q) fun c xs q => by rw [upd_ne (ne_of_none q na)]; exact q
/-- the test of a clause, read -/
def TestOk (X : Cx) (te : Expr) (cs : List Value) : Prop := ∀ (a : Addr) (pn : List (Addr × Obj)) (s : Shared) (σ : L2.St) (H : Hp) (cls : Value) (b : Bool) (Q : Bool → Shared → Prop) (E : Value → Shared → Prop),
  Inv (X.suite a pn) [] σ H s → PySem.W.Looks (model X.prog X.w) s.heap (typeOf (.ref a)) cls → PySem.W.exmAny X.K cls cs = some b → (∀ h' : Heap, (∀ q o, s.heap.get? q = some o → h'.get? q = some o) → Q b { s with heap := h' }) →
  wpAny (model X.prog X.w) (X.A.mark (some (.ref a))) (eval te X.env) (fun c s₁ => wpAny (model X.prog X.w) (X.A.mark (some (.ref a))) (excMatches (.ref a) c) Q E s₁) E s
def wHold (K : PySem.W.Frag) (cs : List Value) (i j : Nat) (Wout : WX) (D : Ends) : WX := fun cls d σ H =>
  ∃ b, PySem.W.exmAny K cls cs = some b ∧ (b = true → ∀ a, H a = none → D.nx (((σ.set i (some (.ref a))).set j (some (.ref a))).set i none) (upd H a (ExcV cls d a))) ∧ (b = false → Wout cls d σ H)
theorem ps_try_hold {n : Str} {i j : Nat} {te : Expr} {cs : List Value} {b₀ : Stmt} {body suite : List Stmt} {pos pos' : Pos} {tb : WX → TS} {Wout : WX} (hs : X.stack = X.env :: X.outer) (hf : X.env.frame = some X.env.locals) (hN : X.N.Nodup) (hi : X.N[i]? = some n) (hln : X.env.kindOf n = some .local) (hc : TestOk X te cs) (tk : Takes X Wout)
    (hb : ∀ (W : WX) (pn : List (Addr × Obj)) (xe : Value → Shared → Prop), Takes (X.tr pn xe) W → PassesOwn (model X.prog X.w) X.A X.env xe → PSs (X.tr pn xe) body (tb W))
    (hsu : ∀ (a : Addr) (pn : List (Addr × Obj)), PSs (X.suite a pn) (b₀ :: suite) (fun D σ H => ∃ v, σ[i]? = some (some v) ∧ D.nx (σ.set j (some v)) H)) (hex : X.ex = []) :
    PS X (.Try body [.ExceptHandler (some te) (some n) (b₀ :: suite) pos'] [] [] pos) (fun D σ H => tb (wHold X.K cs i j Wout D) D σ H) := by
  refine ⟨fun pins s σ H D I h => ?_⟩
  have ok := I.ok
  have hfr : X.A.frames = some (X.env :: X.outer) := by rw [ok.frames, hs]
  have hloc : Loc X.env.scope n := .inl hln
  refine wpAny_Try_except ?_
  refine wpAny_mono ((hb (wHold X.K cs i j Wout D) (X.pn ++ pins) (fun e s₁ => wpAny (model X.prog X.w) X.A (noteFrame e X.env) (fun _ s₂ => wpAny (model X.prog X.w) X.A (setFlight e none) (fun _ s₃ =>
    wpAny (model X.prog X.w) X.A (handleBy e X.env [.ExceptHandler (some te) (some n) (b₀ :: suite) pos']) (SP X pins D) X.xe s₃) X.xe s₂) X.xe s₁) (fun u s' xx => ?_) PassesOwn.looking).run [] s σ H D (I.toTry _) h) (fun f s1 hsp => ?_) (fun e s1 he => he)
  · obtain ⟨a, B, sI, pins', σ', H', cls, d, rfl, J', nb, up, sky, na, os, ag, b, hb1, hyes, hno⟩ := xx
    have J : Inv X pins σ' H' sI := J'.ofTry ok
    have sky' : Sky B (X.env :: X.outer) a (Zc cls d) X.env.locals s'.heap := by rw [← hs]; exact sky
    show wpAny (model X.prog X.w) X.A (noteFrame (.ref a) X.env) _ _ _
    refine Sky.land Zc.steady hfr hf sky' fun h3 fl3 up3 => ?_
    have J3 : Inv X pins σ' H' { s' with heap := h3 } := J.landed nb fl3.1 (up.trans up3) os ag
    obtain ⟨oe3, vs3, he3, hz3, hd3⟩ := fl3.there
    have notFr : ∀ {h : Heap} {o : Obj} {vs : Array Value}, h.FunFrames B (X.env :: X.outer) → h.get? a = some o → o.data = .fields vs → a ∉ frs (X.env :: X.outer) := fun {h o vs} ff e dd hm => by
      obtain ⟨_, o', e', hnf⟩ := ff.mem hm
      rw [e] at e'; cases e'
      exact hnf _ dd
    have nfr := notFr fl3.2.2.1 he3 hd3
    have nL : a ≠ X.env.locals := fun z => nfr (List.mem_filterMap.mpr ⟨X.env, List.mem_cons_self, by rw [hf, z]⟩)
    have nF : a ∉ X.fs := fun hm => by
      obtain ⟨e, he, q⟩ := List.mem_filterMap.mp hm
      exact nfr (List.mem_filterMap.mpr ⟨e, List.mem_cons_of_mem _ he, q⟩)
    have nI : sI.heap.get? a = none := by
      cases e : sI.heap.get? a with
      | none => rfl
      | some o =>
        have := nb a o e (by rw [hs]; exact nfr)
        rw [fl3.2.1] at this; cases this
    have n0 : X.s_0.heap.get? a = none := by
      cases e : X.s_0.heap.get? a with
      | none => rfl
      | some o =>
        obtain ⟨o', q⟩ := J.base.there a o e (by rw [hex]; exact fun z => nomatch z)
        rw [nI] at q; cases q
    have S3 := BV.Inv.suite0 J3 a
    refine wpAny_handleBy_cons (codeAny_handlers_test ?_) (by intro q; cases q)
    have LT : PySem.W.Looks (model X.prog X.w) h3 (typeOf (.ref a)) cls := fun A Q E s k q => wpAny_typeOf_ref (k _ _ he3) (by rw [hz3.1]; exact q)
    refine hc a (X.pn ++ pins) { s' with heap := h3 } σ' H' cls b _ _ S3 LT hb1 fun h5 k5 => ?_
    have J5 : Inv X pins σ' H' { s' with heap := h5 } := J3.kept (t' := s'.toks) k5
    have fl5 := flyingZ_keeps fl3 k5
    have up5 : sI.heap.UpToSlots h5 := (up.trans up3).trans (Heap.UpToSlots.of_keeps k5)
    cases b with
    | true =>
      refine codeAny_handlers_suite_as ?_
      refine HandSPX.lands_againZ fl5 fun h4 fl4 up4 => ?_
      have J4 : Inv X pins σ' H' { s' with heap := h4 } := J.landed nb fl4.1 (up5.trans up4) os ag
      obtain ⟨oe4, vs4, he4, hz4, hd4⟩ := fl4.there
      have np : ∀ p ∈ X.pn ++ pins, p.1 ≠ a := fun p hp z => by
        obtain ⟨e, _⟩ := J.pin p hp
        rw [z, nI] at e; cases e
      have T4 := BV.Inv.track (o := ExcV cls d a) J4 he4 hd4 n0 na nL np (excV_ok he4 hz4 hd4)
      have S4 := BV.Inv.suite0 T4 a
      refine store_ok (X := X.suite a (X.pn ++ pins)) (v := .ref a) S4 hN hi hloc rfl (fun s5 S5 => ?_) (.inr hln)
      have hlen : i < σ'.length := by
        rw [J.len]
        exact (List.getElem?_eq_some_iff.mp hi).1
      refine wpAny_mono ((hsu a (X.pn ++ pins)).run [] s5 _ _ { nx := fun σ' H' => D.nx (σ'.set i none) H', rt := D.rt, bk := fun σ' H' => D.bk (σ'.set i none) H', ct := fun σ' H' => D.ct (σ'.set i none) H' } S5 ⟨.ref a, List.getElem?_set_self hlen, hyes rfl a na⟩) (fun f s6 hsp => ?_) (fun _ _ z => False.elim z)
      have end_ : ∀ {σ6 : L2.St} {H6 : Hp} {Q : Shared → Prop}, Inv (X.suite a (X.pn ++ pins)) [] σ6 H6 s6 → (∀ s7, Inv X pins (σ6.set i none) H6 s7 → Q s7) →
          wpAny (model X.prog X.w) X.A (do bindName X.env n .none; unbindBehindTheSuite X.env n pos') (fun _ s7 => Q s7) X.xe s6 := fun {σ6 H6 Q} S6 hq => gone_ok (BV.Inv.unsuite0 S6 ok) hN hi hln hq
      cases f with
      | next =>
        obtain ⟨σ6, H6, S6, q6⟩ := hsp
        exact end_ S6 fun s7 J7 => ⟨_, _, J7, q6⟩
      | brk =>
        obtain ⟨σ6, H6, S6, q6⟩ := hsp
        exact end_ S6 fun s7 J7 => ⟨_, _, J7, q6⟩
      | cont =>
        obtain ⟨σ6, H6, S6, q6⟩ := hsp
        exact end_ S6 fun s7 J7 => ⟨_, _, J7, q6⟩
      | ret u =>
        obtain ⟨v6, σ6, H6, S6, r6, q6⟩ := hsp
        exact end_ S6 fun s7 J7 => ⟨_, _, _, J7, r6, q6⟩
    | false =>
      show wpAny _ X.A (handleBy (.ref a) X.env []) _ _ _
      refine wpAny_handleBy_nil ?_
      obtain ⟨k1, k2, k3, oe, vs, T, oT, ts', he, hz, hd, h1, hr⟩ := id fl5
      unfold PySem.passOn
      refine wpAny_bind (wpAny_field he hd h1 ?_)
      rw [if_neg (show ¬ ((Value.ref T == Value.none) = true) from by simp)]
      have fin : wpAny (model X.prog X.w) X.A (setFlight (.ref a) X.env.frame) (fun _ s4 => wpAny (model X.prog X.w) X.A (throw (.ref a) : Sem Flow) (SP X pins D) X.xe s4) X.xe { s' with heap := h5 } := by
        rw [hf]
        refine HandSPX.setFlight_upZ fl5 fun h4 hh4 up4 => wpAny_throw (tk _ _ ?_)
        exact ⟨a, B, sI, pins, σ', H', cls, d, rfl, J, nb, up5.trans up4, .inr (.inr (by rw [hs]; exact hh4)), na, os, ag, hno rfl⟩
      first
        | exact wpAny_bind (wpAny_pure (wpAny_bind fin))
        | exact wpAny_bind fin
  · cases f with
    | next =>
      obtain ⟨σ', H', J', q⟩ := hsp
      exact wpAny_execs_nil ⟨σ', H', J'.ofTry ok, q⟩
    | brk =>
      obtain ⟨σ', H', J', q⟩ := hsp
      exact ⟨σ', H', J'.ofTry ok, q⟩
    | cont =>
      obtain ⟨σ', H', J', q⟩ := hsp
      exact ⟨σ', H', J'.ofTry ok, q⟩
    | ret u =>
      obtain ⟨v, σ', H', J', r, q⟩ := hsp
      exact ⟨v, σ', H', J'.ofTry ok, r, q⟩
end
end BV
namespace BV
open PySem L2
/-! ### raise C(e) -/
theorem relO_one {p : Str} {v : V} {v' : Value} (r : RelV v v') (f : Str) : RelO (List.lookup f [(p, v)]) (if f = p then some v' else none) := by
  by_cases hw : f = p
  · subst hw
    rw [if_pos rfl]
    have q : List.lookup f [(f, v)] = some v := by simp [List.lookup]
    rw [q]
    exact r
  · rw [if_neg hw]
    have qw : (f == p) = false := by simpa using hw
    have q2 : List.lookup f [(p, v)] = none := by simp [List.lookup, qw]
    rw [q2]
    trivial
def tMkX (C : Addr) (p : Str) (ta : TA) : L2.St → Hp → XK → Prop := fun σ H Q => ta σ H fun vs H1 => ∃ v, vs = [v] ∧ ∀ d, H1 d = none → Q (.ref C) (some d) (upd H1 d (.xd [(p, v)]))
theorem pmk_exc {X : Cx} {a : Expr} {ta : TA} {q pos : Pos} {k : Nat} {C : Addr} {p x : Str} (M : MkX X.prog X.w X.K X.mg C p) (kC : PySem.W.keepIn X.K (.ref C) = true) (gC : X.mg x = some (.ref C)) (exC : PySem.W.subIn X.K (.ref C) (.type "BaseException") = some true) (tyC : PySem.W.typeIn X.K (.ref C) = some (.type "type"))
    (hr : Room (k + 2) X.A) (ha : PA X [a] ta) (hg : Gl X x) (hdb : (x == ("__debug__" : Str)) = false) (he : starEach (a :: []) X.env = (false, eval a X.env) :: starEach [] X.env) (hpl : (backTo pos (starEach [] X.env)).any (·.1) = false) :
    PMk X (.Call (.Name x q) [a] [] pos) (tMkX C p ta) := by
  intro pins s σ H Q I h
  refine wpAny_Call_Name_kw (ld_glob I hg gC ?_ hdb)
  refine PySem.W.callWith_K (h₀ := X.base) I.ok.mod.kin kC (thn (ha.run pos pins s σ H _ I h) fun us s1 hh => ?_) he hpl
  obtain ⟨vs, H1, I1, r1, v, ev, q1⟩ := hh
  subst ev
  refine ⟨I1.kIn, ?_⟩
  cases r1 with
  | cons rv rn =>
    rename_i v' us'
    cases rn
    show wpAny _ _ (call (.ref C) [v']) _ _ _
    have hlim := I1.nolimit
    have GN := I1.mod.glob.keeps I1.bk
    obtain ⟨mb, hmb, hbb⟩ := I1.mod.blt
    have BN := hmb.keeps I1.bk
    obtain ⟨hp, g, dr, tk, os⟩ := s1
    refine wpAny_call (M (v := v') I1.kIn GN BN (by rw [hbb _ (by decide)]; rfl) hlim (by have := hr.dp; omega) fun h' tk' e d M => ?_)
    show MkP X pins σ Q (.ref e) ⟨h', g, dr, tk', os⟩
    obtain ⟨t1, hoe⟩ := M.obj
    have hns := M.ns
    obtain ⟨G', g1, g2⟩ := restrict h' fun b => decide (b ≠ e)
    have gk : ∀ b, b ≠ e → G'.get? b = h'.get? b := fun b hb => g1 b (decide_eq_true hb)
    have ge : G'.get? e = none := g2 e (by simp)
    have old : ∀ b o, hp.get? b = some o → G'.get? b = some o := fun b o q => (gk b (Nat.ne_of_lt (Nat.lt_of_lt_of_le (Heap.lt_size q) M.new))).trans (M.keep b o q)
    have ob : ObjOk X.prog X.w (upd H1 d (.xd [(p, v)])) G' d (.xd [(p, v)]) :=
      ⟨_, hns.at (fun o q => (gk d M.dne).trans q), fun f => relO_one rv f⟩
    have J : Inv X pins σ (upd H1 d (.xd [(p, v)])) ⟨G', g, dr, tk', os⟩ := I1.laid (t' := tk') old M.dbig ob
    refine ⟨e, _, _, ⟨G', g, dr, tk', os⟩, _, .ref C, some d, rfl, J, fun b o q => ?_, ge, hoe, ⟨rfl, rfl⟩, rfl, rfl, ?_, rfl, I1.bare, raises_own exC tyC, q1 d (I1.hok.fresh M.dbig)⟩
    · by_cases hb : b = e
      · have q' : G'.get? b = some o := q
        rw [hb, ge] at q'; cases q'
      · exact (gk b hb).symm.trans q
    · rw [upd_ne (Ne.symm M.dne)]
      exact I1.hok.fresh M.new
/-! ### the tests of except clauses -/
def chkKs (wd : Ws) (sc : Scope) : List Nat → List Expr → Bool
  | [], [] => true
  | k :: ks, .Name x _ :: es => decide (wd.cnm k = some x) && glB sc x && nodbg x && chkKs wd sc ks es
  | _, _ => false
def chkTe (wd : Ws) (sc : Scope) : List Nat → Expr → Bool
  | [k], .Name x p => chkKs wd sc [k] [.Name x p]
  | [k1, k2], .Tuple es _ _ => chkKs wd sc [k1, k2] es
  | [k1, k2, k3], .Tuple es _ _ => chkKs wd sc [k1, k2, k3] es
  | _, _ => false
section
variable {g : G} {wd : Wd} {N : List Str} {sc : Scope} {ac : Bool} {k : Nat} {X : Cx} {Wx : WX}
theorem chkKs_cons (F : Fx g wd k) (ok : Okx g N sc ac k X Wx) {c : Nat} {ks : List Nat} {e : Expr} {es : List Expr} (h : chkKs wd sc (c :: ks) (e :: es) = true) :
    ∃ x p, e = .Name x p ∧ X.mg x = some (.ref (g.ca c)) ∧ Gl X x ∧ (x == ("__debug__" : Str)) = false ∧ chkKs wd sc ks es = true := by
  cases e <;> first | (simp [chkKs] at h; done) | skip
  rename_i x p
  simp only [chkKs, Bool.and_eq_true, decide_eq_true_eq] at h
  obtain ⟨⟨⟨h1, h2⟩, h3⟩, h4⟩ := h
  unfold nodbg at h3
  simp only [Bool.and_eq_true, Bool.not_eq_true'] at h3
  exact ⟨x, p, rfl, by rw [ok.mg]; exact F.cnm _ _ h1, gl_of ok h2, h3.1, h4⟩
theorem chkKs_nil {es : List Expr} (h : chkKs wd sc [] es = true) : es = [] := by
  cases es with
  | nil => rfl
  | cons e es => simp [chkKs] at h
theorem testOk (F : Fx g wd k) (ok : Okx g N sc ac k X Wx) : ∀ {ks : List Nat} {te : Expr}, chkTe wd sc ks te = true → TestOk X te (ks.map fun c => .ref (g.ca c)) := by
  intro ks te h
  unfold chkTe at h
  split at h
  · rename_i c x p
    obtain ⟨_, _, e, m, hg, hd, _⟩ := chkKs_cons F ok h
    cases e
    intro a pn s σ H cls b Q E I LT hb q
    have h1 : PySem.W.exmOne X.K cls (.ref (g.ca c)) = some b := by
      obtain ⟨b1, d1, e1, e2, e3⟩ := PySem.W.exmAny_cons hb
      cases e2
      rw [e1, e3, Bool.or_false]
    exact ld_glob I hg m ((PySem.W.exm_one I.kIn LT h1).here (q s.heap fun _ _ z => z)) hd
  · rename_i c1 c2 es kk tp
    cases es with
    | nil => simp [chkKs] at h
    | cons e1 es =>
    obtain ⟨x1, p1, rfl, m1, g1, d1, h⟩ := chkKs_cons F ok h
    cases es with
    | nil => simp [chkKs] at h
    | cons e2 es =>
    obtain ⟨x2, p2, rfl, m2, g2, d2, h⟩ := chkKs_cons F ok h
    cases chkKs_nil h
    intro a pn s σ H cls b Q E I LT hb q
    refine wpAny_Tuple ?_
    refine wpAny_items_cons (ld_glob I g1 m1 ?_ d1)
    refine wpAny_items_cons (ld_glob I g2 m2 ?_ d2)
    refine wpAny_items_nil ⟨by show 2 ≤ sizeLine; rw [sizeLine_eq]; decide, ?_⟩
    have kp : ∀ q o, s.heap.get? q = some o → (s.heap.push { cls := .type "tuple", data := .seq [Value.ref (g.ca c1), Value.ref (g.ca c2)].toArray }).get? q = some o := fun _ _ z => Heap.get?_push_of_some _ z
    exact (PySem.W.exm_tup2 (I.kIn.keeps kp) (LT.keeps kp) (Heap.get?_push_size s.heap rfl) hb).here (q _ kp)
  · rename_i c1 c2 c3 es kk tp
    cases es with
    | nil => simp [chkKs] at h
    | cons e1 es =>
    obtain ⟨x1, p1, rfl, m1, g1, d1, h⟩ := chkKs_cons F ok h
    cases es with
    | nil => simp [chkKs] at h
    | cons e2 es =>
    obtain ⟨x2, p2, rfl, m2, g2, d2, h⟩ := chkKs_cons F ok h
    cases es with
    | nil => simp [chkKs] at h
    | cons e3 es =>
    obtain ⟨x3, p3, rfl, m3, g3, d3, h⟩ := chkKs_cons F ok h
    cases chkKs_nil h
    intro a pn s σ H cls b Q E I LT hb q
    refine wpAny_Tuple ?_
    refine wpAny_items_cons (ld_glob I g1 m1 ?_ d1)
    refine wpAny_items_cons (ld_glob I g2 m2 ?_ d2)
    refine wpAny_items_cons (ld_glob I g3 m3 ?_ d3)
    refine wpAny_items_nil ⟨by show 3 ≤ sizeLine; rw [sizeLine_eq]; decide, ?_⟩
    have kp : ∀ q o, s.heap.get? q = some o → (s.heap.push { cls := .type "tuple", data := .seq [Value.ref (g.ca c1), Value.ref (g.ca c2), Value.ref (g.ca c3)].toArray }).get? q = some o := fun _ _ z => Heap.get?_push_of_some _ z
    exact (PySem.W.exm_tup3 (I.kIn.keeps kp) (LT.keeps kp) (Heap.get?_push_size s.heap rfl) hb).here (q _ kp)
  · cases h
end
end BV
namespace BV
open PySem L2
/-! ### located values -/
inductive L where
  | lst (as : E) | lc (elt it conds : E) (tg : List Nat) (one : Bool) (own : List (Str × Nat)) | call (f p : Nat) (as ks : E) | ofl (a : E) | addl (a b : E) | rng (a : E)
def evL (wd : Wd) : L → Fra → Cells → R Unit
  | .lst as => fun fr cs => (evA wd as fr cs).bind fun ws c1 => lstL ws c1
  | .lc elt it conds tg one own => fun fr cs => (evI wd it fr cs).bind fun ds c1 => (lcGo (fun fr cs => asB (evAnd wd conds fr cs)) (ev wd elt) tg one (wipeF fr (own.map (·.2))) c1.length ds (c1 ++ [some (.lst [])])).nox
  | .call f p as ks => evCallL wd f p (evA wd as) (evA wd ks)
  | .rng a => fun fr cs => (asI (ev wd a fr cs)).bind fun i c1 => if small62 i && decide (i ≤ 16777216) then .ok () (c1 ++ [some (.lst (rngD 0 i))]) else .bad
  | .ofl a => fun fr cs => (evA wd (.cons a .nil) fr cs).bind fun ws c1 => oflW ws c1
  | .addl a b => fun fr cs => (ev wd a fr cs).bind fun w1 c1 => (ev wd b fr c1).bind fun w2 c2 => addL w1 w2 c2
def L.e : L → E
  | .lst as => .lst as
  | .lc elt it conds tg one own => .lc elt it conds tg one own
  | .call f p as ks => .call f p as ks
  | .ofl a => .bi .list (.cons a .nil)
  | .rng a => .lrng a
  | .addl a b => .op .Add a b
def isComp : Expr → Bool
  | .ListComp _ _ _ _ => true | .SetComp _ _ _ _ => true | .DictComp _ _ _ _ _ => true
  | _ => false
/-- a value, or a located one -/
inductive PL where
  | e (e : E) | l (z : L)
def evPL (wd : Wd) : List PL → Fra → Cells → R (List W)
  | [], _, cs => .ok [] cs
  | .e e :: r, fr, cs => (ev wd e fr cs).bind fun w c1 => (evPL wd r fr c1).bind fun ws c2 => .ok (w :: ws) c2
  | .l z :: r, fr, cs => (evL wd z fr cs).bind fun _ c1 => (evPL wd r fr c1).bind fun ws c2 => .ok (.loc (c1.length - 1) :: ws) c2
/-! ### statements -/
inductive S where
  | nop | set (i : Nat) (e : E) | setL (i : Nat) (z : L) | setT (is : List Nat) (e : E) | par (is : List Nat) (as : E) | parL (is : List Nat) (zs : List PL)
  | put (a i e : E) | putT (a i : E) (j : Nat) (e : E) | fld (a : E) (f : Str) (e : E) | expr (e : E) | ret (e : E) | retL (z : L)
  | ife (c : E) (a b : S) | loop (it : E) (tg : List Nat) (one : Bool) (b : S) | wh (c : E) (b : S)
  | raise (c : Nat) (e : E)
  | frz (i : Nat) | never | nil | cons (s r : S)
  deriving Inhabited
inductive RS where
  | nx (fr : Fra) (cs : Cells) | rt (w : W) (cs : Cells) | bk (fr : Fra) (cs : Cells) | ct (fr : Fra) (cs : Cells) | ex (c : Nat) (x : D) (fr : Fra) (cs : Cells) | bad
def RS.bind (r : RS) (k : Fra → Cells → RS) : RS := match r with
  | .nx fr cs => k fr cs
  | r => r
def RS.loop (r : RS) (k : Fra → Cells → RS) : RS := match r with
  | .nx fr cs => k fr cs
  | .ct fr cs => k fr cs
  | .bk fr cs => .nx fr cs
  | r => r
def onE {α : Type} (fr : Fra) (r : R α) (k : α → Cells → RS) : RS := match r with
  | .ok a cs => k a cs
  | .exc c x cs => .ex c x fr cs
  | .bad => .bad
def setWs (fr : Fra) (ps : List (Nat × W)) : Fra := ps.foldl (fun fr p => fr.set p.1 (some p.2)) fr
def forGo (f : Fra → Cells → RS) (tg : List Nat) (one : Bool) : List D → Fra → Cells → RS
  | [], fr, cs => .nx fr cs
  | d :: ds, fr, cs => match setTg tg one d fr with
    | none => .bad
    | some fr1 => (f fr1 cs).loop fun fr cs => forGo f tg one ds fr cs
def whGo (t : Fra → Cells → R Bool) (f : Fra → Cells → RS) : Nat → Fra → Cells → RS
  | 0, _, _ => .bad
  | n + 1, fr, cs => onE fr (t fr cs) fun b c1 => if b then (f fr c1).loop fun fr cs => whGo t f n fr cs else .nx fr c1
def putR (fr : Fra) (w wa wi : W) (cs : Cells) : RS := match w, wa, wi with
  | .d d, .loc n, .d (.int j) => match celL cs n with
    | some xs => match ixN xs.length j with
      | some m => .nx fr (cs.set n (some (.lst (xs.set m d))))
      | none => .bad
    | none => .bad
  | _, _, _ => .bad
def fldR (wd : Wd) (fr : Fra) (f : Str) (w wa : W) (cs : Cells) : RS := match w, wa with
  | .d d, .loc n => match cs[n]? with
    | some (some (.ins c fs)) => if wd.fldk c f && decide (fs.length < 1000) then .nx fr (cs.set n (some (.ins c (putD f d fs)))) else .bad
    | _ => .bad
  | _, _ => .bad
def frzW (n : Nat) (xs : List D) : Option W → Option W
  | some (.loc m) => if m = n then some (.d (.lst xs)) else some (.loc m)
  | w => w
def frzR (b i : Nat) (fr : Fra) (cs : Cells) : RS := match fr[i]? with
  | some (some (.loc n)) => if b ≤ n then match celL cs n with
    | some xs => .nx (fr.map (frzW n xs)) (cs.set n none)
    | none => .bad
    else .bad
  | some (some (.d _)) => .nx fr cs
  | _ => .bad
def raiseR (wd : Wd) (c : Nat) (w : W) (fr : Fra) (cs : Cells) : RS := match w, wd.exk c with
  | .d d, some _ => .ex c d fr cs
  | _, _ => .bad
def holdR (wd : Wd) (ks : List Nat) (i j : Nat) : RS → RS
  | .ex c x fr cs => match wd.exm ks c with
    | some true => .nx ((fr.set i none).set j (some (.d (.exc c x)))) cs
    | some false => .ex c x fr cs
    | none => .bad
  | r => r
def exS (wd : Wd) (n b : Nat) : S → Fra → Cells → RS
  | .nop, fr, cs => .nx fr cs
  | .set i e, fr, cs => onE fr (ev wd e fr cs) fun w c1 => .nx (fr.set i (some w)) c1
  | .setL i z, fr, cs => onE fr (evL wd z fr cs) fun _ c1 => .nx (fr.set i (some (.loc (c1.length - 1)))) c1
  | .setT is e, fr, cs => onE fr (ev wd e fr cs) fun w c1 => match w with
    | .d d => match setTg is false d fr with
      | some fr1 => .nx fr1 c1
      | none => .bad
    | _ => .bad
  | .par is as, fr, cs => onE fr (evA wd as fr cs) fun ws c1 => .nx (setWs fr (is.zip ws)) c1
  | .parL is zs, fr, cs => onE fr (evPL wd zs fr cs) fun ws c1 => .nx (setWs fr (is.zip ws)) c1
  | .put a i e, fr, cs => onE fr (ev wd e fr cs) fun w c1 => onE fr (ev wd a fr c1) fun wa c2 => onE fr (ev wd i fr c2) fun wi c3 => putR fr w wa wi c3
  | .putT a i j e, fr, cs => onE fr (ev wd e fr cs) fun w c1 => match w with
    | .d (.tup [d1, d2]) => onE fr (ev wd a fr c1) fun wa c2 => onE fr (ev wd i fr c2) fun wi c3 => (putR fr (.d d1) wa wi c3).bind fun fr2 c4 => match setTg [j] true d2 fr2 with
      | some fr3 => .nx fr3 c4
      | none => .bad
    | _ => .bad
  | .fld a f e, fr, cs => onE fr (ev wd e fr cs) fun w c1 => onE fr (ev wd a fr c1) fun wa c2 => fldR wd fr f w wa c2
  | .expr e, fr, cs => onE fr (ev wd e fr cs) fun _ c1 => .nx fr c1
  | .ret e, fr, cs => onE fr (ev wd e fr cs) fun w c1 => .rt w c1
  | .retL z, fr, cs => onE fr (evL wd z fr cs) fun _ c1 => .rt (.loc (c1.length - 1)) c1
  | .ife c s t, fr, cs => onE fr (asB (ev wd c fr cs)) fun b1 c1 => if b1 then exS wd n b s fr c1 else exS wd n b t fr c1
  | .loop it tg one s, fr, cs => onE fr (evI wd it fr cs) fun ds c1 => forGo (exS wd n b s) tg one ds fr c1
  | .wh c s, fr, cs => whGo (fun fr cs => asB (ev wd c fr cs)) (exS wd n b s) n fr cs
  | .raise c e, fr, cs => onE fr (ev wd e fr cs) fun w c1 => raiseR wd c w fr c1
  | .frz i, fr, cs => frzR b i fr cs
  | .never, _, _ => .bad
  | .nil, fr, cs => .nx fr cs
  | .cons s r, fr, cs => (exS wd n b s fr cs).bind fun fr cs => exS wd n b r fr cs
/-! ### the checker -/
/-- does name = [..] swap: some true, some false, or undecided here -/
def swapB (sc : Scope) (t : Expr) (e : Expr) : Option Bool := match e with
  | .ListComp _ _ scope pos => match t with
    | .Name y py => if decide (sc.kind = .function) then some (decide (sc.names.lookup y = some .local) && (py.line == pos.line) && !(scope.names.any fun (n, k) => n == y && (k == .local || k == .cell))) else none
    | _ => none
  | .SetComp _ _ _ _ => none
  | .DictComp _ _ _ _ _ => none
  | _ => some false
def chkL (wd : Ws) (N : List Str) (sc : Scope) (z : L) (e : Expr) : Bool := chk wd N sc z.e e
def swL (sc : Scope) (z : L) (t v : Expr) : Bool := match z with
  | .lc _ _ _ _ _ _ => (swapB sc t v).isSome
  | _ => !isComp v
def parN (N : List Str) (sc : Scope) (line : Nat) : List Nat → List Expr → Bool
  | [], [] => true
  | i :: is, .Name x p :: es => decide (N[i]? = some x) && decide (sc.names.lookup x = some .local) && (p.line == line) && parN N sc line is es
  | _, _ => false
/-- one of the names is shared with a lambda -/
def cellT (sc : Scope) (ts : List Expr) : Bool := match ts with
  | [.Name x _, .Name y _] => decide (sc.names.lookup x = some .cell) || decide (sc.names.lookup y = some .cell)
  | _ => false
def chkPar (N : List Str) (sc : Scope) (is : List Nat) (ts vs : List Expr) : Bool :=
  decide (is.length = ts.length) && decide (ts.length = vs.length) && decide (is.Nodup) && parN N sc ((ts.head?.map (·.pos.line)).getD 0) is ts && decide (sc.kind = .function) && !(vs.all (foldedForSure 8)) && !(vs.all (constantsAlone 8))
def chkPL (wd : Ws) (N : List Str) (sc : Scope) : List PL → List Expr → Bool
  | [], [] => true
  | .e e :: r, v :: vs => notSt v && chk wd N sc e v && chkPL wd N sc r vs
  | .l z :: r, v :: vs => (match z with
    | .lc _ _ _ _ _ _ => false
    | _ => true) && notSt v && !isComp v && chkL wd N sc z v && chkPL wd N sc r vs
  | _, _ => false
def raiseP : Stmt → Option (Str × Expr)
  | .Raise (some (.Call (.Name x _) [a] [] _)) none _ => some (x, a)
  | _ => none
theorem raiseP_some {st : Stmt} {x : Str} {a : Expr} (h : raiseP st = some (x, a)) : ∃ q pos pp, st = .Raise (some (.Call (.Name x q) [a] [] pos)) none pp := by
  unfold raiseP at h
  split at h
  · cases h; exact ⟨_, _, _, rfl⟩
  · cases h
mutual
def chkS (wd : Ws) (N : List Str) (sc : Scope) : S → Stmt → Bool
  | .nop, st => match st with
    | .Pass _ => true
    | .Expr (.Constant (.str _) _ _) _ => true
    | _ => false
  | .set i e, st => match st with
    | .Assign [t] v _ => chkNm N sc true i t && !isComp v && chk wd N sc e v
    | _ => false
  | .setL i z, st => match st with
    | .Assign [t] v _ => chkNm N sc true i t && swL sc z t v && chkL wd N sc z v
    | _ => false
  | .setT is e, st => match st with
    | .Assign [.Tuple ts k p] v _ => chkTg N sc true is false (.Tuple ts k p) && !isComp v && (!isTupE v || cellT sc ts) && chk wd N sc e v
    | _ => false
  | .par is as, st => match st with
    | .Assign [.Tuple ts _ _] (.Tuple vs _ _) _ => (ts.length == 2 || ts.length == 3) && chkPar N sc is ts vs && chkA wd N sc as vs
    | _ => false
  | .parL is zs, st => match st with
    | .Assign [.Tuple ts _ _] (.Tuple vs _ _) _ => (ts.length == 2 || ts.length == 3) && chkPar N sc is ts vs && chkPL wd N sc zs vs
    | _ => false
  | .put a i e, st => match st with
    | .Assign [.Subscript o j _] v _ => notSliceB j && !isComp v && chk wd N sc e v && chk wd N sc a o && chk wd N sc i j
    | _ => false
  | .putT a i j e, st => match st with
    | .Assign [.Tuple [.Subscript o ix _, .Name x px] _ _] v _ => notSliceB ix && chkTg N sc true [j] true (.Name x px) && !isComp v && chk wd N sc e v && chk wd N sc a o && chk wd N sc i ix
    | _ => false
  | .fld a f e, st => match st with
    | .Assign [.Attribute o x _] v _ => decide (f = x) && !isComp v && chk wd N sc e v && chk wd N sc a o
    | _ => false
  | .expr e, st => match st with
    | .Expr v _ => !isComp v && chk wd N sc e v
    | _ => false
  | .ret e, st => match st with
    | .Return (some v) _ => chk wd N sc e v
    | _ => false
  | .retL z, st => match st with
    | .Return (some v) _ => chkL wd N sc z v
    | _ => false
  | .ife c a b, st => match st with
    | .If t x y _ => tOK c && chk wd N sc c t && chkSs wd N sc a x && chkSs wd N sc b y
    | _ => false
  | .loop it tg one b, st => match st with
    | .For t i x [] _ => chkI wd N sc it i t && chkTg N sc true tg one t && chkSs wd N sc b x
    | _ => false
  | .wh c b, st => match st with
    | .While t x [] _ => tOK c && chk wd N sc c t && chkSs wd N sc b x
    | _ => false
  | .raise c e, st => (match raiseP st with
      | some (x, a) => (match wd.exk c with | some (y, _) => decide (y = x) | none => false) && glB sc x && nodbg x && notSt a && chk wd N sc e a
      | none => false)
  | .never, _ => true
  | .frz .., _ => false
  | .nil .., _ => false
  | .cons .., _ => false
def chkSs (wd : Ws) (N : List Str) (sc : Scope) : S → List Stmt → Bool
  | .nil, [] => true
  | .cons (.frz _) r, ss => chkSs wd N sc r ss
  | .never, _ => true
  | .cons s r, st :: ss => chkS wd N sc s st && chkSs wd N sc r ss
  | _, _ => false
end
/-! ### the base of a def's run -/
structure Bs where
  ra0 : Ra
  H0 : Hp
  F : Hp
def BOk (B : Bs) (ra : Ra) (H : Hp) : Prop := Same B.F (frz H ra) ∧ ∃ ext, ra = B.ra0 ++ ext ∧ Keep B.ra0 B.H0 H ∧ ∀ a, some a ∈ ext → B.H0 a = none
theorem Keep.over {ra ext : Ra} {H0 H H' : Hp} (a : Keep ra H0 H) (k : Keep (ra ++ ext) H H') (h3 : ∀ a, some a ∈ ext → H0 a = none) : Keep ra H0 H' := fun x o e n => by
  obtain ⟨o1, h1, e1⟩ := a x o e n
  obtain ⟨o2, h2, e2⟩ := k x o1 h1 fun z => by
    rcases List.mem_append.mp z with z | z
    · exact n z
    · rw [h3 x z] at e; cases e
  exact ⟨o2, h2, fun t => by rw [e2 (by rw [e1 t]; exact t), e1 t]⟩
theorem BOk.keep {B : Bs} {ra : Ra} {H H' : Hp} (k : Keep ra H H') (b : BOk B ra H) : BOk B ra H' := by
  obtain ⟨h1, ext, rfl, h2, h3⟩ := b
  exact ⟨fun x o e => k.same x o (h1 x o e), ext, rfl, h2.over k h3, h3⟩
theorem BOk.push {B : Bs} {ra : Ra} {H H' : Hp} {a : Addr} (k : Keep ra H H') (hn : H a = none) (b : BOk B ra H) (fresh : B.H0 a = none ∨ some a ∉ B.ra0) : BOk B (ra ++ [some a]) H' := by
  obtain ⟨h1, ext, rfl, h2, h3⟩ := b
  have ha : B.H0 a = none := by
    rcases fresh with f | f
    · exact f
    · cases e : B.H0 a with
      | none => rfl
      | some o =>
        obtain ⟨o', q, _⟩ := h2 a o e f
        rw [hn] at q; cases q
  refine ⟨fun x o e => ?_, ext ++ [some a], by rw [List.append_assoc], h2.over k h3, fun x hx => ?_⟩
  · have e1 := h1 x o e
    have e2 := k.same x o e1
    have hxa : x ≠ a := fun z => by
      have := frz_same _ _ _ _ e1
      rw [z, hn] at this; cases this
    obtain ⟨n2, e3, t2⟩ := frz_some e2
    refine frz_at e3 (fun z => ?_) t2
    rcases List.mem_append.mp z with z | z
    · exact n2 z
    · exact hxa (Option.some.inj (List.mem_singleton.mp z))
  · rcases List.mem_append.mp hx with z | z
    · exact h3 x z
    · rw [Option.some.inj (List.mem_singleton.mp z)]; exact ha
def PostS (g : G) (Wx : WX) (B : Bs) (r : RS) (D : Ends) : Prop := match r with
  | .nx fr cs => ∀ ra H σ, BOk B ra H → Rel g ra cs H → FrR g H ra fr σ → D.nx σ H
  | .bk fr cs => ∀ ra H σ, BOk B ra H → Rel g ra cs H → FrR g H ra fr σ → D.bk σ H
  | .ct fr cs => ∀ ra H σ, BOk B ra H → Rel g ra cs H → FrR g H ra fr σ → D.ct σ H
  | .rt w cs => ∀ ra H v, BOk B ra H → Rel g ra cs H → RepW g (frz H ra) ra w v → D.rt v H
  | .ex c x fr cs => ∀ ra H σ dd v, BOk B ra H → Rel g ra cs H → FrR g H ra fr σ → H dd = some (.xd [(g.efld c, v)]) → Rep g (frz H ra) x v → Wx (.ref (g.ca c)) (some dd) σ H
  | .bad => False
def tS (g : G) (Wx : WX) (b : Nat) (f : Fra → Cells → RS) : TS := fun D σ H => ∃ B fr cs ra, B.ra0.length = b ∧ BOk B ra H ∧ Rel g ra cs H ∧ FrR g H ra fr σ ∧ PostS g Wx B (f fr cs) D
section
variable {g : G} {wd : Wd} {N : List Str} {sc : Scope} {ac : Bool} {k n b : Nat} {X : Cx} {Wx : WX} {B : Bs} {D : Ends}
theorem PostS.bind {r : RS} {f : Fra → Cells → RS} (hb : B.ra0.length = b) (h : PostS g Wx B (r.bind f) D) : PostS g Wx B r { D with nx := fun σ H => tS g Wx b f D σ H } := by
  cases r with
  | nx fr cs => exact fun ra H σ bk R Fr => ⟨B, fr, cs, ra, hb, bk, R, Fr, h⟩
  | _ => exact h
theorem tS_seq {f h : Fra → Cells → RS} {D : Ends} {σ : L2.St} {H : Hp} (q : tS g Wx b (fun fr cs => (f fr cs).bind h) D σ H) : tSeq (tS g Wx b f) (tS g Wx b h) D σ H := by
  obtain ⟨B, fr, cs, ra, hb, bk, R, Fr, p⟩ := q
  exact ⟨B, fr, cs, ra, hb, bk, R, Fr, p.bind hb⟩
theorem onE_post {α β : Type} {rp : Hp → α → β → Prop} {r : R α} {f : α → Cells → RS} {fr : Fra} {ra : Ra} {H : Hp} {σ : L2.St} (bk : BOk B ra H) (Fr : FrR g H ra fr σ) (h : PostS g Wx B (onE fr r f) D) :
    PostR g rp r ra H (fun v H1 => ∃ a cs1, Keep ra H H1 ∧ BOk B ra H1 ∧ Rel g ra cs1 H1 ∧ FrR g H1 ra fr σ ∧ rp H1 a v ∧ PostS g Wx B (f a cs1) D) (fun c d H' => Wx c d σ H') := by
  cases r with
  | ok a cs => exact fun H1 v k1 R1 p => ⟨a, cs, k1, bk.keep k1, R1, Fr.mono k1, p, h⟩
  | exc c x cs => exact fun H1 dd v k1 R1 p q => h ra H1 σ dd v (bk.keep k1) R1 (Fr.mono k1) p q
  | bad => exact h
theorem onL_post {r : R Unit} {f : Unit → Cells → RS} {fr : Fra} {ra : Ra} {H : Hp} {σ : L2.St} (bk : BOk B ra H) (Fr : FrR g H ra fr σ) (h : PostS g Wx B (onE fr r f) D) :
    PostL g r ra H (fun v H1 => ∃ a cs1, v = .ref a ∧ BOk B (ra ++ [some a]) H1 ∧ Rel g (ra ++ [some a]) cs1 H1 ∧ FrR g H1 (ra ++ [some a]) fr σ ∧ PostS g Wx B (f () cs1) D) (fun c d H' => Wx c d σ H') := by
  cases r with
  | ok u cs =>
    intro H1 a k1 hn R1
    have hna : some a ∉ ra := last_new R1
    have sm : Same (frz H ra) (frz H1 (ra ++ [some a])) := fun x o e => by
      have e2 := k1.same x o e
      obtain ⟨n2, e3, t2⟩ := frz_some e2
      refine frz_at e3 (fun z => ?_) t2
      rcases List.mem_append.mp z with z | z
      · exact n2 z
      · have := frz_same _ _ _ _ e
        rw [Option.some.inj (List.mem_singleton.mp z), hn] at this; cases this
    refine ⟨a, cs, rfl, bk.push k1 hn (.inr fun z => ?_), R1, Fr.lift sm fun n x hx => ra_app hx, h⟩
    obtain ⟨_, ext, rfl, _⟩ := bk
    exact hna (List.mem_append_left _ z)
  | exc c x cs => exact fun H1 dd v k1 R1 p q => h ra H1 σ dd v (bk.keep k1) R1 (Fr.mono k1) p q
  | bad => exact h
theorem PostS.loop {r : RS} {f : Fra → Cells → RS} {F1 : Hp} (hs : Same B.F F1) (h : PostS g Wx B (r.loop f) D) :
    PostS g Wx { B with F := F1 } r { D with nx := fun σ H => ∃ fr cs ra, BOk { B with F := F1 } ra H ∧ Rel g ra cs H ∧ FrR g H ra fr σ ∧ PostS g Wx B (f fr cs) D, ct := fun σ H => ∃ fr cs ra, BOk { B with F := F1 } ra H ∧ Rel g ra cs H ∧ FrR g H ra fr σ ∧ PostS g Wx B (f fr cs) D, bk := D.nx } := by
  have dn : ∀ {ra : Ra} {H : Hp}, BOk { B with F := F1 } ra H → BOk B ra H := fun {ra H} b => ⟨fun x o e => b.1 x o (hs x o e), b.2⟩
  cases r with
  | nx fr cs => exact fun ra H σ bk R Fr => ⟨fr, cs, ra, bk, R, Fr, h⟩
  | ct fr cs => exact fun ra H σ bk R Fr => ⟨fr, cs, ra, bk, R, Fr, h⟩
  | bk fr cs => exact fun ra H σ bk R Fr => h ra H σ (dn bk) R Fr
  | rt w cs => exact fun ra H v bk R rr => h ra H v (dn bk) R rr
  | ex c x fr cs => exact fun ra H σ dd v bk R Fr e r => h ra H σ dd v (dn bk) R Fr e r
  | bad => exact h
end
end BV
namespace BV
open PySem L2
section
variable {g : G} {wd : Wd} {N : List Str} {sc : Scope} {ac : Bool} {k n b : Nat} {X : Cx} {Wx : WX} {B : Bs} {D : Ends} {fa fb fc : Fra → Cells → R W} {fl : Fra → Cells → R (List W)} {fu : Fra → Cells → R Unit} {l r e v t : Expr} {es : List Expr} {p : Pos}
theorem c_L (F : Fx g wd k) {z : L} (ok : Okx g N sc ac k X Wx) (h : chkL wd N sc z e = true) : PE X e (tL g Wx (evL wd z)) := by
  unfold chkL L.e at h
  cases z with
  | lst as =>
    dsimp only at h
    cases e <;> simp only [chk, Bool.and_eq_true, Bool.or_eq_true, decide_eq_true_eq, Bool.false_eq_true, Bool.not_eq_true', and_false, false_and] at h
    exact PE.eqL (fun fr cs => rfl) (c_lstL ((snd F as).a ok h).1)
  | lc elt it conds tg one own =>
    dsimp only at h
    cases e <;> first | (simp [chk] at h; done) | skip
    rename_i ee gens scope pp
    match gens, h with
    | [⟨te, ie, ifs, 0⟩], h =>
      simp only [chk, Bool.and_eq_true, decide_eq_true_eq, List.all_eq_true] at h
      obtain ⟨⟨⟨⟨⟨⟨⟨h1, h2⟩, h3⟩, h4⟩, h5⟩, h6⟩, h7⟩, h8⟩ := h
      exact PE.eqL (fun fr cs => rfl) (c_lcL (fe := ev wd elt) (ft := fun fr cs => asB (evAnd wd conds fr cs)) ok ((snd F it).i ok h1).1 ((snd F it).i ok h1).2 (by rw [← F.lams]; exact h2) (fun X' ok' => c_tg ok' h7) (fun X' ok' => (snd F conds).ts h4 ok' h6 h3) (fun X' ok' => (snd F elt).ex_ ok' h5) (fun i hi => List.contains_iff_mem.mp (h8 i hi)))
  | rng a =>
    dsimp only at h
    simp only [L.e, chk] at h
    split at h
    rotate_left
    · exact absurd h Bool.false_ne_true
    · simp only [Bool.and_eq_true, decide_eq_true_eq] at h
      obtain ⟨⟨⟨⟨⟨rfl, rfl⟩, hgl⟩, hg⟩, h3⟩, h4⟩ := h
      exact PE.eqL (fun fr cs => rfl) (c_lrngL ok F hgl hg h3 ((snd F a).ex_ ok h4))
  | ofl a =>
    dsimp only at h
    cases e <;> first | (simp [chk] at h; done) | skip
    rename_i fe es kws pp
    cases fe <;> first | (simp [chk] at h; done) | skip
    rename_i x pn
    cases kws with
    | cons _ _ => simp [chk] at h
    | nil =>
      simp only [chk, Bool.and_eq_true, decide_eq_true_eq] at h
      obtain ⟨⟨⟨⟨rfl, hg⟩, hd⟩, hne⟩, hA⟩ := h
      cases es with
      | nil => simp at hne
      | cons y ys =>
        obtain ⟨a1, a2, _⟩ := (snd F (.cons a .nil)).a ok hA
        exact PE.eqL (fun fr cs => rfl) (c_oflL ok F hg a2 a1)
  | addl a b =>
    dsimp only at h
    cases e <;> simp only [chk, Bool.and_eq_true, Bool.or_eq_true, decide_eq_true_eq, Bool.false_eq_true, Bool.not_eq_true', and_false, false_and] at h
    obtain ⟨⟨rfl, h1⟩, h2⟩ := h
    exact PE.eqL (fun fr cs => rfl) (c_addL ((snd F a).ex_ ok h1) ((snd F b).ex_ ok h2))
  | call f q as ks =>
    dsimp only at h
    cases e <;> first | (simp [chk] at h; done) | skip
    rename_i fe es kws pp
    cases fe <;> first | (simp [chk] at h; done) | skip
    rename_i x pn
    simp only [chk, Bool.and_eq_true, decide_eq_true_eq] at h
    obtain ⟨⟨⟨hx, hg⟩, hd⟩, h⟩ := h
    split at h
    · rename_i n nms pm hp
      simp only [Bool.and_eq_true, decide_eq_true_eq] at h
      obtain ⟨⟨⟨hn, hk⟩, h5⟩, h6⟩ := h
      have iha := snd F as
      have ihk := snd F ks
      cases es with
      | nil =>
        cases as <;> first | (simp [chkA] at h5; done) | skip
        cases n with
        | succ n => cases hn
        | zero => exact PE.eqL (fun fr cs => by simp only [evL, evCallL, evA]) (c_call0L ok F hx hg hd hp hk (ihk.kw ok h6).1 (ihk.kw ok h6).2)
      | cons y ys => exact PE.eqL (fun fr cs => rfl) (c_callL ok F hx hg hd hp hn hk (iha.a ok h5).2.1 (iha.a ok h5).1 (ihk.kw ok h6).1 (iha.a ok h5).2.2 (ihk.kw ok h6).2)
    · cases h
theorem swap_no {v : Expr} {t : Option Expr} {l : Nat} {env : Env} (h : isComp v = false) : swapsWith v t l env = pure false := by
  cases v <;> first | rfl | cases h
theorem swapB_ok {t e : Expr} {l : Nat} {env : Env} {b : Bool} (hs : env.scope = sc) (h : swapB sc t e = some b) : swapsWith e (some t) l env = pure b := by
  unfold swapB at h
  split at h
  · split at h
    · split at h
      · rename_i hk
        have hk := of_decide_eq_true hk
        cases h
        have hb : env.blockKind = .function := by unfold Env.blockKind; rw [hs, hk]; rfl
        unfold swapsWith
        simp only [hb, Env.kindOf, hs, Expr.pos]
        congr 2
        simp
        congr 1
        exact Bool.eq_iff_iff.2 (by simp)
      · cases h
    · cases h
  · cases h
  · cases h
  · cases h
    rename_i h1 h2 h3
    cases e <;> first | rfl | (exact absurd rfl (h1 _ _ _ _)) | (exact absurd rfl (h2 _ _ _ _)) | (exact absurd rfl (h3 _ _ _ _ _))
theorem ps_nm {i : Nat} {te : TE} (ok : Okx g N sc true k X Wx) (h : chkNm N sc true i t = true) (hv : PE X v te) (hs : swapsWith v (some t) p.line X.env = pure false) : PS X (.Assign [t] v p) (tAsg te (gName i)) := by
  have hg := pg_nm ok h
  cases t <;> first | (simp [chkNm] at h; done) | skip
  exact ps_asg hv hg hs rfl rfl
theorem r_set {i : Nat} {D : Ends} {σ : L2.St} {H : Hp} (q : tS g Wx b (fun fr cs => onE fr (fa fr cs) fun w c1 => .nx (fr.set i (some w)) c1) D σ H) : tAsg (tE g Wx fa) (gName i) D σ H := by
  obtain ⟨B, fr, cs, ra, hb, bk, R, Fr, p⟩ := q
  refine ⟨fr, cs, ra, R, Fr, PostR.imp (onE_post (rp := rpW g ra) bk Fr p) ?_⟩
  rintro x H1 ⟨w, c1, k1, bk1, R1, F1, r1, p1⟩
  exact p1 ra H1 _ bk1 R1 (F1.set r1)
theorem rel_last {ra : Ra} {a : Addr} {cs : Cells} {H : Hp} (R : Rel g (ra ++ [some a]) cs H) : RepW g (frz H (ra ++ [some a])) (ra ++ [some a]) (.loc (cs.length - 1)) (.ref a) := by
  refine ⟨a, rfl, ?_⟩
  have := R.len
  rw [← this]
  simp
theorem r_setL {i : Nat} {D : Ends} {σ : L2.St} {H : Hp} (q : tS g Wx b (fun fr cs => onE fr (fu fr cs) fun _ c1 => .nx (fr.set i (some (.loc (c1.length - 1)))) c1) D σ H) : tAsg (tL g Wx fu) (gName i) D σ H := by
  obtain ⟨B, fr, cs, ra, hb, bk, R, Fr, p⟩ := q
  refine ⟨fr, cs, ra, R, Fr, PostL.imp (onL_post bk Fr p) ?_⟩
  rintro x H1 ⟨a, c1, rfl, bk1, R1, F1, p1⟩
  exact p1 _ H1 _ bk1 R1 (F1.set (rel_last R1))
theorem r_ret {D : Ends} {σ : L2.St} {H : Hp} (q : tS g Wx b (fun fr cs => onE fr (fa fr cs) fun w c1 => .rt w c1) D σ H) : tRet (tE g Wx fa) D σ H := by
  obtain ⟨B, fr, cs, ra, hb, bk, R, Fr, p⟩ := q
  refine ⟨fr, cs, ra, R, Fr, PostR.imp (onE_post (rp := rpW g ra) bk Fr p) ?_⟩
  rintro x H1 ⟨w, c1, k1, bk1, R1, F1, r1, p1⟩
  exact p1 ra H1 _ bk1 R1 r1
theorem r_retL {D : Ends} {σ : L2.St} {H : Hp} (q : tS g Wx b (fun fr cs => onE fr (fu fr cs) fun _ c1 => .rt (.loc (c1.length - 1)) c1) D σ H) : tRet (tL g Wx fu) D σ H := by
  obtain ⟨B, fr, cs, ra, hb, bk, R, Fr, p⟩ := q
  refine ⟨fr, cs, ra, R, Fr, PostL.imp (onL_post bk Fr p) ?_⟩
  rintro x H1 ⟨a, c1, rfl, bk1, R1, F1, p1⟩
  exact p1 _ H1 _ bk1 R1 (rel_last R1)
theorem r_expr {D : Ends} {σ : L2.St} {H : Hp} (q : tS g Wx b (fun fr cs => onE fr (fa fr cs) fun w c1 => .nx fr c1) D σ H) : tDrop (tE g Wx fa) D σ H := by
  obtain ⟨B, fr, cs, ra, hb, bk, R, Fr, p⟩ := q
  refine ⟨fr, cs, ra, R, Fr, PostR.imp (onE_post (rp := rpW g ra) bk Fr p) ?_⟩
  rintro x H1 ⟨w, c1, k1, bk1, R1, F1, r1, p1⟩
  exact p1 ra H1 _ bk1 R1 F1
theorem r_setT {is : List Nat} {D : Ends} {σ : L2.St} {H : Hp} (q : tS g Wx b (fun fr cs => onE fr (fa fr cs) fun w c1 => match w with
    | .d d => match setTg is false d fr with
      | some fr1 => .nx fr1 c1
      | none => .bad
    | _ => .bad) D σ H) : tAsg (tE g Wx fa) (tG g is false) D σ H := by
  obtain ⟨B, fr, cs, ra, hb, bk, R, Fr, p⟩ := q
  refine ⟨fr, cs, ra, R, Fr, PostR.imp (onE_post (rp := rpW g ra) bk Fr p) ?_⟩
  rintro x H1 ⟨w, c1, k1, bk1, R1, F1, r1, p1⟩
  try dsimp only at p1
  split at p1
  · rename_i d
    split at p1
    · rename_i fr1 e1
      exact ⟨fr, d, ra, fr1, F1, r1, e1, fun σ1 F2 _ => p1 ra H1 σ1 bk1 R1 F2⟩
    · exact p1.elim
  · exact p1.elim
theorem plain_asub {o i : Expr} {pos : Pos} {env : Env} (h : notSliceB i = true) : ∀ v, assign (.Subscript o i pos) env v = (do
      let ov ← holding [v] (eval o env)
      let iv ← holding [v, ov] (eval i env)
      standAt pos
      holding [v, ov, iv] (setItem ov iv v)
      release [v, ov, iv] []) := by
  intro v
  cases i <;> first | rfl | cases h
theorem r_put {D : Ends} {σ : L2.St} {H : Hp} (q : tS g Wx b (fun fr cs => onE fr (fa fr cs) fun w c1 => onE fr (fb fr c1) fun wa c2 => onE fr (fc fr c2) fun wi c3 => putR fr w wa wi c3) D σ H) : tAsg (tE g Wx fa) (gSub (tE g Wx fb) (tE g Wx fc) rSetL) D σ H := by
  obtain ⟨B, fr, cs, ra, hb, bk, R, Fr, p⟩ := q
  refine ⟨fr, cs, ra, R, Fr, PostR.imp (onE_post (rp := rpW g ra) bk Fr p) ?_⟩
  rintro x H1 ⟨w, c1, k1, bk1, R1, F1, r1, p1⟩
  refine ⟨fr, c1, ra, R1, F1, PostR.imp (onE_post (rp := rpW g ra) bk1 F1 p1) ?_⟩
  rintro y H2 ⟨wa, c2, k2, bk2, R2, F2, r2, p2⟩
  refine ⟨fr, c2, ra, R2, F2, PostR.imp (onE_post (rp := rpW g ra) bk2 F2 p2) ?_⟩
  rintro z H3 ⟨wi, c3, k3, bk3, R3, F3, r3, p3⟩
  have r1' := (r1.mono k2.same).mono k3.same
  have r2' := r2.mono k3.same
  unfold putR at p3
  split at p3
  · rename_i d nn j
    obtain ⟨a, rfl, ha⟩ := r2'
    cases r3
    split at p3
    · rename_i xs hx
      split at p3
      · rename_i m hm
        have hc : c3[nn]? = some (some (.lst xs)) := by
          unfold celL at hx
          split at hx
          · rename_i ys hy; cases hx; exact hy
          · cases hx
        obtain ⟨a', ha', vs, h3, h4⟩ := R3.cell _ _ hc
        rw [ha] at ha'; cases ha'
        obtain ⟨k6, R6⟩ := R3.put (o := .lst (vs.set m x)) (c' := .lst (xs.set m d)) ha ⟨_, upd_same, h4.set r1' m⟩
        refine ⟨a, vs, j, m, rfl, rfl, h3, by rw [← h4.length]; exact hm, ?_⟩
        exact p3 ra _ σ (bk3.keep k6) R6 (F3.mono k6)
      · exact p3.elim
    · exact p3.elim
  · exact p3.elim
/-- a[i], x = a pair -/
theorem r_putT {j : Nat} {D : Ends} {σ : L2.St} {H : Hp} (hK : X.K = g.K) (q : tS g Wx b (fun fr cs => onE fr (fa fr cs) fun w c1 => match w with
    | .d (.tup [d1, d2]) => onE fr (fb fr c1) fun wa c2 => onE fr (fc fr c2) fun wi c3 => (putR fr (.d d1) wa wi c3).bind fun fr2 c4 => match setTg [j] true d2 fr2 with
      | some fr3 => .nx fr3 c4
      | none => .bad
    | _ => .bad) D σ H) : tAsg (tE g Wx fa) (gTup X.K 2 (gCons (gSub (tE g Wx fb) (tE g Wx fc) rSetL) (gCons (tG g [j] true) gNil))) D σ H := by
  obtain ⟨B, fr, cs, ra, hb, bk, R, Fr, p⟩ := q
  refine ⟨fr, cs, ra, R, Fr, PostR.imp (onE_post (rp := rpW g ra) bk Fr p) ?_⟩
  rintro x H1 ⟨w, c1, k1, bk1, R1, F1, r1, p1⟩
  split at p1
  · rename_i d1 d2
    cases r1 with
    | tup h rl =>
      cases rl with
      | cons q1 rl =>
        cases rl with
        | cons q2 rl =>
          cases rl
          refine ⟨_, _, rfl, by rw [hK]; exact sqT_mono (frz_same _ _) h, rfl, _, _, rfl, ?_⟩
          refine ⟨fr, c1, ra, R1, F1, PostR.imp (onE_post (rp := rpW g ra) bk1 F1 p1) ?_⟩
          rintro y H2 ⟨wa, c2, k2, bk2, R2, F2, r2, p2⟩
          refine ⟨fr, c2, ra, R2, F2, PostR.imp (onE_post (rp := rpW g ra) bk2 F2 p2) ?_⟩
          rintro z H3 ⟨wi, c3, k3, bk3, R3, F3, r3, p3⟩
          have q1' := (q1.mono k2.same).mono k3.same
          have q2' := (q2.mono k2.same).mono k3.same
          have r2' := r2.mono k3.same
          unfold putR at p3
          split at p3
          · rename_i d nn jj ed
            cases ed
            obtain ⟨a, rfl, ha⟩ := r2'
            cases r3
            split at p3
            · rename_i xs hx
              split at p3
              · rename_i m hm
                have hc : c3[nn]? = some (some (.lst xs)) := by
                  unfold celL at hx
                  split at hx
                  · rename_i ys hy; cases hx; exact hy
                  · cases hx
                obtain ⟨a', ha', vs, h3, h4⟩ := R3.cell _ _ hc
                rw [ha] at ha'; cases ha'
                obtain ⟨k6, R6⟩ := R3.put (o := .lst (vs.set m _)) (c' := .lst (xs.set m d1)) ha ⟨_, upd_same, h4.set q1' m⟩
                refine ⟨a, vs, jj, m, rfl, rfl, h3, by rw [← h4.length]; exact hm, ?_⟩
                unfold RS.bind at p3
                dsimp only at p3
                split at p3
                · rename_i fr3 e3
                  exact ⟨_, _, rfl, fr, d2, ra, fr3, F3.mono k6, q2'.mono k6.same, e3, fun σ1 F4 _ => ⟨rfl, p3 ra _ σ1 (bk3.keep k6) R6 F4⟩⟩
                · exact p3.elim
              · exact p3.elim
            · exact p3.elim
          · exact p3.elim
  · exact p1.elim
theorem r_fld {f : Str} {D : Ends} {σ : L2.St} {H : Hp} (F : Fx g wd k) (ok : Okx g N sc ac k X Wx) (q : tS g Wx b (fun fr cs => onE fr (fa fr cs) fun w c1 => onE fr (fb fr c1) fun wa c2 => fldR wd fr f w wa c2) D σ H) : sFld X.K (tE g Wx fb) (tE g Wx fa) f D σ H := by
  obtain ⟨B, fr, cs, ra, hb, bk, R, Fr, p⟩ := q
  refine ⟨fr, cs, ra, R, Fr, PostR.imp (onE_post (rp := rpW g ra) bk Fr p) ?_⟩
  rintro x H1 ⟨w, c1, k1, bk1, R1, F1, r1, p1⟩
  refine ⟨fr, c1, ra, R1, F1, PostR.imp (onE_post (rp := rpW g ra) bk1 F1 p1) ?_⟩
  rintro y H2 ⟨wa, c2, k2, bk2, R2, F2, r2, p2⟩
  have r1' := r1.mono k2.same
  unfold fldR at p2
  split at p2
  · rename_i d nn
    obtain ⟨a, rfl, ha⟩ := r2
    split at p2
    · rename_i c fs hc
      split at p2
      · rename_i hk
        simp only [Bool.and_eq_true, decide_eq_true_eq] at hk
        obtain ⟨h5, h6⟩ := F.fld _ _ hk.1
        obtain ⟨a', ha', dx, vs, h3, h4⟩ := R2.cell _ _ hc
        rw [ha] at ha'; cases ha'
        obtain ⟨k6, R6⟩ := R2.put (o := .ins (g.ca c) dx (putF f x vs)) (c' := .ins c (putD f d fs)) ha ⟨_, _, upd_same, RepF.put r1' h4⟩
        refine ⟨a, g.ca c, dx, vs, rfl, h3, by rw [ok.K]; exact h5, by rw [ok.K]; exact h6, by rw [← h4.length]; exact hk.2, ?_⟩
        exact p2 ra _ σ (bk2.keep k6) R6 (F2.mono k6)
      · exact p2.elim
    · exact p2.elim
  · exact p2.elim
theorem r_if {fg : Fra → Cells → R Bool} {f h : Fra → Cells → RS} {D : Ends} {σ : L2.St} {H : Hp} (q : tS g Wx b (fun fr cs => onE fr (fg fr cs) fun b1 c1 => if b1 then f fr c1 else h fr c1) D σ H) : tIfS (tT g Wx fg) (tS g Wx b f) (tS g Wx b h) D σ H := by
  obtain ⟨B, fr, cs, ra, hb, bk, R, Fr, p⟩ := q
  refine ⟨fr, cs, ra, R, Fr, PostR.imp (onE_post (rp := fun _ (a b : Bool) => a = b) bk Fr p) ?_⟩
  rintro x H1 ⟨w, c1, k1, bk1, R1, F1, rfl, p1⟩
  try dsimp only at p1
  cases w with
  | true => exact ⟨B, fr, c1, ra, hb, bk1, R1, F1, p1⟩
  | false => exact ⟨B, fr, c1, ra, hb, bk1, R1, F1, p1⟩
theorem r_wh {fg : Fra → Cells → R Bool} {f : Fra → Cells → RS} {D : Ends} {σ : L2.St} {H : Hp} (q : tS g Wx b (fun fr cs => whGo fg f n fr cs) D σ H) : tWhile (tT g Wx fg) (tS g Wx b f) D σ H := by
  obtain ⟨B, fr, cs, ra, hb, bk, R, Fr, p⟩ := q
  refine ⟨fun m σ H => ∃ fr cs ra, BOk B ra H ∧ Rel g ra cs H ∧ FrR g H ra fr σ ∧ PostS g Wx B (whGo fg f m fr cs) D, ⟨n, fr, cs, ra, bk, R, Fr, p⟩, ?_⟩
  rintro m σ H ⟨fr, cs, ra, bk, R, Fr, p⟩
  cases m with
  | zero => exact p.elim
  | succ m =>
    rw [whGo] at p
    refine ⟨fr, cs, ra, R, Fr, PostR.imp (onE_post (rp := fun _ (a b : Bool) => a = b) bk Fr p) ?_⟩
    rintro x H1 ⟨w, c1, k1, bk1, R1, F1, rfl, p1⟩
    try dsimp only at p1
    cases w with
    | true =>
      have p2 := PostS.loop (F1 := B.F) (fun _ _ e => e) p1
      exact ⟨_, fun σ' H' h => ⟨m, Nat.lt_succ_self m, h⟩, B, fr, c1, ra, hb, bk1, R1, F1, p2⟩
    | false => exact p1 ra H1 σ bk1 R1 F1
theorem r_for {fi : Fra → Cells → R (List BV.D)} {f : Fra → Cells → RS} {tg : List Nat} {one : Bool} {D : Ends} {σ : L2.St} {H : Hp} (q : tS g Wx b (fun fr cs => onE fr (fi fr cs) fun ds c1 => forGo f tg one ds fr c1) D σ H) :
    tFor (tI g Wx fi) (tG g tg one) (tS g Wx b f) D σ H := by
  obtain ⟨B, fr, cs, ra, hb, bk, R, Fr, p⟩ := q
  refine ⟨fr, cs, ra, R, Fr, PostR.imp (onE_post (rp := fun H1 ds J => WalksD g (frz H1 ra) J ds) bk Fr p) ?_⟩
  rintro J H1 ⟨ds, c1, k1, bk1, R1, F1, wk, p1⟩
  have hs : Same B.F (frz H1 ra) := bk1.1
  refine ⟨fun i m σ H => m = ds.length - i ∧ i ≤ ds.length ∧ ∃ fr cs ra', BOk { B with F := frz H1 ra } ra' H ∧ Rel g ra' cs H ∧ FrR g H ra' fr σ ∧ PostS g Wx B (forGo f tg one (ds.drop i) fr cs) D,
    ⟨ds.length, rfl, Nat.zero_le _, fr, c1, ra, ⟨fun _ _ e => e, bk1.2⟩, R1, F1, p1⟩, ?_⟩
  rintro i m σ2 H2 ⟨rfl, hle, fr2, cs2, ra2, bk2, R2, F2, post⟩
  have sm : Same (frz H1 ra) H2 := fun b o e => frz_same _ _ _ _ (bk2.1 b o e)
  obtain ⟨w1, w2⟩ := wk H2 sm
  by_cases hlt : i < ds.length
  · have hd : ds[i]? = some ds[i] := List.getElem?_eq_getElem hlt
    obtain ⟨go, yld⟩ := w1 i _ hd
    have ed : ds.drop i = ds[i] :: ds.drop (i + 1) := List.drop_eq_getElem_cons hlt
    rw [ed] at post
    generalize ds[i] = d at post yld hd
    rw [forGo] at post
    split at post
    · exact post.elim
    · rename_i fr3 e3
      have p2 := PostS.loop hs post
      refine .inr ⟨go, _, fun σ' H' h => ⟨ds.length - (i + 1), by omega, rfl, hlt, h⟩, fun x H3 hy => ?_⟩
      obtain ⟨s3, rep3⟩ := yld x H3 hy
      have R3 := R2.same s3
      have bk3 := bk2.keep (Same.keep s3)
      have F3 := F2.mono (Same.keep s3)
      have rd : Rep g (frz H3 ra2) d x := rep3 _ bk3.1 fun b o e1 e2 t => frz_at e2 (R2.fresh e1) t
      exact ⟨fr2, d, ra2, fr3, F3, rd, e3, fun σ4 F4 _ => ⟨{ B with F := frz H1 ra }, fr3, cs2, ra2, hb, bk3, R3, F4, p2⟩⟩
  · have ei : i = ds.length := by omega
    subst ei
    rw [List.drop_length] at post
    exact .inl ⟨w2, post ra2 H2 σ2 ⟨fun x o e => bk2.1 x o (hs x o e), bk2.2⟩ R2 F2⟩
theorem frzR_inv {i : Nat} {fr : Fra} {cs : Cells} : frzR b i fr cs = .bad ∨ frzR b i fr cs = .nx fr cs ∨ ∃ nn xs, b ≤ nn ∧ cs[nn]? = some (some (.lst xs)) ∧ frzR b i fr cs = .nx (fr.map (frzW nn xs)) (cs.set nn none) := by
  unfold frzR
  split
  · rename_i nn e
    split
    · rename_i hle
      split
      · rename_i xs hx
        refine .inr (.inr ⟨nn, xs, hle, ?_, rfl⟩)
        unfold celL at hx
        split at hx
        · rename_i ys hy; cases hx; exact hy
        · cases hx
      · exact .inl rfl
    · exact .inl rfl
  · exact .inr (.inl rfl)
  · exact .inl rfl
theorem r_frz {i : Nat} {h : Fra → Cells → RS} {D : Ends} {σ : L2.St} {H : Hp} (q : tS g Wx b (fun fr cs => (frzR b i fr cs).bind h) D σ H) : tS g Wx b h D σ H := by
  obtain ⟨B, fr, cs, ra, hb, bk, R, Fr, p⟩ := q
  dsimp only at p
  rcases frzR_inv (b := b) (i := i) (fr := fr) (cs := cs) with e0 | e0 | ⟨nn, xs, hle, hc, e0⟩
  · rw [e0] at p; exact p.elim
  · rw [e0] at p; exact ⟨B, fr, cs, ra, hb, bk, R, Fr, p⟩
  · rw [e0] at p
    · · skip
        obtain ⟨a, ha, vs, h3, h4⟩ := R.cell _ _ hc
        obtain ⟨h1, ext, rfl, h5, h6⟩ := bk
        have hlt : nn < (B.ra0 ++ ext).length := (List.getElem?_eq_some_iff.mp ha).1
        have hset : (B.ra0 ++ ext).set nn none = B.ra0 ++ ext.set (nn - b) none := by
          rw [List.set_append]
          rw [hb, if_neg (by omega)]
        have mem' : ∀ {x : Addr}, some x ∈ (B.ra0 ++ ext).set nn none → some x ∈ B.ra0 ++ ext := fun {x} z => by
          rcases List.mem_or_eq_of_mem_set z with z | z
          · exact z
          · cases z
        have sm : Same (frz H (B.ra0 ++ ext)) (frz H ((B.ra0 ++ ext).set nn none)) := frz_sub fun x z => mem' z
        have hna : some a ∉ (B.ra0 ++ ext).set nn none := fun z => by
          obtain ⟨m, hm⟩ := mem_ra z
          by_cases hmn : m = nn
          · subst hmn
            rw [List.getElem?_set_self hlt] at hm
            cases hm
          · rw [List.getElem?_set_ne (Ne.symm hmn)] at hm
            exact hmn (R.inj _ _ _ hm ha)
        have keepn : ∀ {m : Nat} {x : Addr}, m ≠ nn → (B.ra0 ++ ext)[m]? = some (some x) → ((B.ra0 ++ ext).set nn none)[m]? = some (some x) := fun {m x} hm hx => by
          rw [List.getElem?_set_ne (Ne.symm hm)]; exact hx
        have csl : nn < cs.length := by rw [← R.len]; exact hlt
        refine ⟨B, _, _, (B.ra0 ++ ext).set nn none, hb, ⟨fun x o e => sm x o (h1 x o e), ext.set (nn - b) none, hset, h5, fun x hx => ?_⟩, ⟨?_, fun m c e2 => ?_, fun m e2 => ?_, fun m1 m2 x e1 e2 => ?_, R.tabs⟩, ⟨?_, fun j w e2 => ?_⟩, p⟩
        · rcases List.mem_or_eq_of_mem_set hx with z | z
          · exact h6 x z
          · cases z
        · rw [List.length_set, List.length_set]; exact R.len
        · by_cases hm : m = nn
          · subst hm
            rw [List.getElem?_set_self csl] at e2
            cases e2
          · rw [List.getElem?_set_ne (Ne.symm hm)] at e2
            obtain ⟨x, hx, hcx⟩ := R.cell _ _ e2
            exact ⟨x, keepn hm hx, hcx.mono sm rfl⟩
        · by_cases hm : m = nn
          · subst hm
            rw [List.getElem?_set_self hlt]
          · rw [List.getElem?_set_ne (Ne.symm hm)] at e2
            rw [List.getElem?_set_ne (Ne.symm hm)]
            exact R.dead _ e2
        · have g1 : ∀ {m : Nat}, ((B.ra0 ++ ext).set nn none)[m]? = some (some x) → (B.ra0 ++ ext)[m]? = some (some x) := fun {m} z => by
            by_cases hm : m = nn
            · subst hm
              rw [List.getElem?_set_self hlt] at z
              cases z
            · rwa [List.getElem?_set_ne (Ne.symm hm)] at z
          exact R.inj _ _ _ (g1 e1) (g1 e2)
        · rw [List.length_map]; exact Fr.1
        · rw [List.getElem?_map] at e2
          cases e3 : fr[j]? with
          | none => rw [e3] at e2; cases e2
          | some ow =>
            rw [e3] at e2
            cases ow with
            | none => cases e2
            | some w0 =>
              obtain ⟨v, hv, hr⟩ := Fr.2 _ _ e3
              refine ⟨v, hv, ?_⟩
              cases w0 with
              | d d => cases e2; exact Rep.mono sm hr
              | loc m =>
                obtain ⟨x, rfl, hx⟩ := hr
                by_cases hm : m = nn
                · subst hm
                  rw [ha] at hx; cases hx
                  have e4 : w = .d (.lst xs) := by
                    have : frzW m xs (some (.loc m)) = some w := Option.some.inj e2
                    simp only [frzW, if_pos] at this
                    exact (Option.some.inj this).symm
                  subst e4
                  exact Rep.lst (frz_at h3 hna) (h4.mono sm)
                · have e4 : w = .loc m := by
                    have : frzW nn xs (some (.loc m)) = some w := Option.some.inj e2
                    simp only [frzW, if_neg hm] at this
                    exact (Option.some.inj this).symm
                  subst e4
                  exact ⟨x, rfl, keepn hm hx⟩
end
end BV
namespace BV
open PySem L2
section
variable {g : G} {wd : Wd} {N : List Str} {sc : Scope} {ac : Bool} {k n b : Nat} {X : Cx} {Wx : WX} {B : Bs} {D : Ends} {fl : Fra → Cells → R (List W)} {l r e v t : Expr} {es : List Expr} {p : Pos}
theorem len2 {α : Type} {l : List α} (h : l.length = 2) : ∃ a b, l = [a, b] := by
  match l, h with
  | [a, b], _ => exact ⟨a, b, rfl⟩
theorem len3 {α : Type} {l : List α} (h : l.length = 3) : ∃ a b c, l = [a, b, c] := by
  match l, h with
  | [a, b, c], _ => exact ⟨a, b, c, rfl⟩
theorem fnN {i j : Nat} {x y : Str} (hN : N.Nodup) (hi : N[i]? = some x) (hj : N[j]? = some y) (hij : i ≠ j) : x ≠ y := fun e => by
  subst e
  exact hij ((List.getElem?_inj (List.getElem?_eq_some_iff.mp hi).1 hN).mp (hi.trans hj.symm))
theorem sw2 {x y : Str} {px py pt pv : Pos} {a b : Expr} {kt kv : Nat} {env : Env} (hs : env.scope = sc) (hk : sc.kind = .function) (hx : sc.names.lookup x = some .local) (hy : sc.names.lookup y = some .local) (hl : (py.line == px.line) = true) (hxy : x ≠ y)
    (na : notSt a = true) (nb : notSt b = true) (h1 : ([a, b].all (foldedForSure 8)) = false) (h2 : ([a, b].all (constantsAlone 8)) = false) :
    swappedStores [.Tuple [.Name x px, .Name y py] kt pt] (.Tuple [a, b] kv pv) env = pure (some [x, y]) := by
  have hb : env.blockKind = .function := by unfold Env.blockKind; rw [hs, hk]; rfl
  have hst : ([a, b].any fun | .Starred .. => true | _ => false) = false := by
    rw [List.any_eq_false]
    intro w hw
    have : notSt w = true := by
      rcases List.mem_cons.mp hw with rfl | hw
      · exact na
      · rw [List.mem_singleton.mp hw]; exact nb
    cases w <;> first | (cases this; done) | simp
  have k1 : env.kindOf x = some .local := by rw [← hx, ← hs]; rfl
  have k2 : env.kindOf y = some .local := by rw [← hy, ← hs]; rfl
  unfold swappedStores
  simp only [hb, h1, h2, List.filterMap_cons, List.filterMap_nil, k1, k2, List.head?_cons, Option.map_some, Option.getD_some, Expr.pos, hl]
  have e1 : ([x, y].eraseDups) = [x, y] := by
    simp [List.eraseDups_cons, Ne.symm hxy]
  simp [e1]
  intro h
  exfalso
  rcases h with h | h
  · cases a <;> first | (cases na; done) | cases h
  · cases b <;> first | (cases nb; done) | cases h
theorem sw3 {x y z : Str} {px py pz pt pv : Pos} {a b c : Expr} {kt kv : Nat} {env : Env} (hs : env.scope = sc) (hk : sc.kind = .function) (hx : sc.names.lookup x = some .local) (hy : sc.names.lookup y = some .local) (hz : sc.names.lookup z = some .local) (hl : (py.line == px.line) = true) (hl2 : (pz.line == px.line) = true) (hxy : x ≠ y) (hxz : x ≠ z) (hyz : y ≠ z)
    (na : notSt a = true) (nb : notSt b = true) (nc : notSt c = true) (h1 : ([a, b, c].all (foldedForSure 8)) = false) (h2 : ([a, b, c].all (constantsAlone 8)) = false) :
    swappedStores [.Tuple [.Name x px, .Name y py, .Name z pz] kt pt] (.Tuple [a, b, c] kv pv) env = pure (some [x, y, z]) := by
  have hb : env.blockKind = .function := by unfold Env.blockKind; rw [hs, hk]; rfl
  have hst : ([a, b, c].any fun | .Starred .. => true | _ => false) = false := by
    rw [List.any_eq_false]
    intro w hw
    have : notSt w = true := by
      rcases List.mem_cons.mp hw with rfl | hw
      · exact na
      · rcases List.mem_cons.mp hw with rfl | hw
        · exact nb
        · rw [List.mem_singleton.mp hw]; exact nc
    cases w <;> first | (cases this; done) | simp
  have k1 : env.kindOf x = some .local := by rw [← hx, ← hs]; rfl
  have k2 : env.kindOf y = some .local := by rw [← hy, ← hs]; rfl
  have k3 : env.kindOf z = some .local := by rw [← hz, ← hs]; rfl
  unfold swappedStores
  simp only [hb, h1, h2, List.filterMap_cons, List.filterMap_nil, k1, k2, k3, List.head?_cons, Option.map_some, Option.getD_some, Expr.pos, hl, hl2]
  have e1 : ([x, y, z].eraseDups) = [x, y, z] := by
    simp [List.eraseDups_cons, Ne.symm hxy, Ne.symm hxz, Ne.symm hyz]
  simp [e1]
  intro h
  exfalso
  rcases h with h | h | h
  · cases a <;> first | (cases na; done) | cases h
  · cases b <;> first | (cases nb; done) | cases h
  · cases c <;> first | (cases nc; done) | cases h
theorem r_par2 {i j : Nat} {D : Ends} {σ : L2.St} {H : Hp} (hl : ∀ fr cs ws c, fl fr cs = .ok ws c → ws.length = 2) (q : tS g Wx b (fun fr cs => onE fr (fl fr cs) fun ws c1 => .nx (setWs fr ([i, j].zip ws)) c1) D σ H) : tPar i j (tA g Wx fl) D σ H := by
  obtain ⟨B, fr, cs, ra, hb, bk, R, Fr, p⟩ := q
  have h2 : PostR g (fun H' a v => rpA g ra H' a v ∧ a.length = 2) (fl fr cs) ra H (fun vs H1 => ∃ v w, vs = [v, w] ∧ D.nx ((σ.set i (some v)).set j (some w)) H1) (fun c d H' => Wx c d σ H') := by
    refine PostR.imp (onE_post (rp := fun H' a v => rpA g ra H' a v ∧ a.length = 2) bk Fr p) ?_
    rintro x H1 ⟨ws, c1, k1, bk1, R1, F1, ⟨r1, hl1⟩, p1⟩
    have r1 : RepWs g (frz H1 ra) ra ws x := r1
    rcases r1 with _ | ⟨a, _ | ⟨b, _ | ⟨_, _⟩⟩⟩ <;> first | (simp at hl1; done) | exact ⟨_, _, rfl, p1 ra H1 _ bk1 R1 ((F1.set a).set b)⟩
  refine ⟨fr, cs, ra, R, Fr, ?_⟩
  cases e : fl fr cs with
  | ok a c => rw [e] at h2; exact fun H' v k' R' r' => h2 H' v k' R' ⟨r', hl _ _ _ _ e⟩
  | exc c x cs => rw [e] at h2; exact h2
  | bad => rw [e] at h2; exact h2
theorem r_par3 {i j m : Nat} {D : Ends} {σ : L2.St} {H : Hp} (hl : ∀ fr cs ws c, fl fr cs = .ok ws c → ws.length = 3) (q : tS g Wx b (fun fr cs => onE fr (fl fr cs) fun ws c1 => .nx (setWs fr ([i, j, m].zip ws)) c1) D σ H) : tPar3 i j m (tA g Wx fl) D σ H := by
  obtain ⟨B, fr, cs, ra, hb, bk, R, Fr, p⟩ := q
  have h2 : PostR g (fun H' a v => rpA g ra H' a v ∧ a.length = 3) (fl fr cs) ra H (fun vs H1 => ∃ u v w, vs = [u, v, w] ∧ D.nx (((σ.set i (some u)).set j (some v)).set m (some w)) H1) (fun c d H' => Wx c d σ H') := by
    refine PostR.imp (onE_post (rp := fun H' a v => rpA g ra H' a v ∧ a.length = 3) bk Fr p) ?_
    rintro x H1 ⟨ws, c1, k1, bk1, R1, F1, ⟨r1, hl1⟩, p1⟩
    have r1 : RepWs g (frz H1 ra) ra ws x := r1
    rcases r1 with _ | ⟨a, _ | ⟨b, _ | ⟨c, _ | ⟨_, _⟩⟩⟩⟩ <;> first | (simp at hl1; done) | exact ⟨_, _, _, rfl, p1 ra H1 _ bk1 R1 (((F1.set a).set b).set c)⟩
  refine ⟨fr, cs, ra, R, Fr, ?_⟩
  cases e : fl fr cs with
  | ok a c => rw [e] at h2; exact fun H' v k' R' r' => h2 H' v k' R' ⟨r', hl _ _ _ _ e⟩
  | exc c x cs => rw [e] at h2; exact h2
  | bad => rw [e] at h2; exact h2
/-! values and located values side by side -/
def tPL (g : G) (Wx : WX) (wd : Wd) : List PL → TA
  | [] => tNil
  | .e e :: r => tCons (tE g Wx (ev wd e)) (tPL g Wx wd r)
  | .l z :: r => tCons (tL g Wx (evL wd z)) (tPL g Wx wd r)
theorem tPL_imp : ∀ {zs : List PL} {σ : L2.St} {H : Hp} {Q Q' : List V → Hp → Prop}, tPL g Wx wd zs σ H Q → (∀ vs H', Q vs H' → Q' vs H') → tPL g Wx wd zs σ H Q'
  | [], σ, H, Q, Q', h, i => i _ _ h
  | .e e :: r, σ, H, Q, Q', h, i => by
    obtain ⟨fr, cs, ra, R, Fr, p⟩ := h
    exact ⟨fr, cs, ra, R, Fr, p.imp fun v H1 q => tPL_imp (zs := r) q fun vs H2 z => i _ _ z⟩
  | .l z :: r, σ, H, Q, Q', h, i => by
    obtain ⟨fr, cs, ra, R, Fr, p⟩ := h
    exact ⟨fr, cs, ra, R, Fr, p.imp fun v H1 q => tPL_imp (zs := r) q fun vs H2 z => i _ _ z⟩
theorem onL_post' {r : R Unit} {f : Unit → Cells → RS} {fr : Fra} {ra : Ra} {H : Hp} {σ : L2.St} (bk : BOk B ra H) (Fr : FrR g H ra fr σ) (h : PostS g Wx B (onE fr r f) D) :
    PostL g r ra H (fun v H1 => ∃ a cs1, v = .ref a ∧ BOk B (ra ++ [some a]) H1 ∧ Rel g (ra ++ [some a]) cs1 H1 ∧ FrR g H1 (ra ++ [some a]) fr σ ∧ Same (frz H ra) (frz H1 (ra ++ [some a])) ∧ PostS g Wx B (f () cs1) D) (fun c d H' => Wx c d σ H') := by
  cases r with
  | ok u cs =>
    intro H1 a k1 hn R1
    have hna : some a ∉ ra := last_new R1
    have sm : Same (frz H ra) (frz H1 (ra ++ [some a])) := fun x o e => by
      have e2 := k1.same x o e
      obtain ⟨n2, e3, t2⟩ := frz_some e2
      refine frz_at e3 (fun z => ?_) t2
      rcases List.mem_append.mp z with z | z
      · exact n2 z
      · have := frz_same _ _ _ _ e
        rw [Option.some.inj (List.mem_singleton.mp z), hn] at this; cases this
    refine ⟨a, cs, rfl, bk.push k1 hn (.inr fun z => ?_), R1, Fr.lift sm fun n x hx => ra_app hx, sm, h⟩
    obtain ⟨_, ext, rfl, _⟩ := bk
    exact hna (List.mem_append_left _ z)
  | exc c x cs => exact fun H1 dd v k1 R1 p q => h ra H1 σ dd v (bk.keep k1) R1 (Fr.mono k1) p q
  | bad => exact h
theorem onE_bind {α β : Type} {r : R α} {k : α → Cells → R β} {fr : Fra} {f : β → Cells → RS} : onE fr (r.bind k) f = onE fr r fun a c => onE fr (k a c) f := by cases r <;> rfl
theorem RepW.grow {F F' : Hp} {ra ra1 : Ra} {w : W} {v : V} (h : RepW g F ra w v) (sm : Same F F') (hn : ∀ (n : Nat) a, ra[n]? = some (some a) → ra1[n]? = some (some a)) : RepW g F' ra1 w v := by
  cases w with
  | d d => exact Rep.mono sm h
  | loc n => obtain ⟨a, h1, h2⟩ := h; exact ⟨a, h1, hn _ _ h2⟩
theorem pl_go : ∀ (zs : List PL) {f : List W → Cells → RS} {fr : Fra} {cs : Cells} {ra : Ra} {H : Hp} {σ : L2.St}, BOk B ra H → Rel g ra cs H → FrR g H ra fr σ → PostS g Wx B (onE fr (evPL wd zs fr cs) f) D →
    tPL g Wx wd zs σ H (fun vs H1 => ∃ ws cs1 ra1, vs.length = zs.length ∧ BOk B ra1 H1 ∧ Rel g ra1 cs1 H1 ∧ FrR g H1 ra1 fr σ ∧ Same (frz H ra) (frz H1 ra1) ∧ (∀ (n : Nat) a, ra[n]? = some (some a) → ra1[n]? = some (some a)) ∧ RepWs g (frz H1 ra1) ra1 ws vs ∧ PostS g Wx B (f ws cs1) D)
  | [], f, fr, cs, ra, H, σ, bk, R, Fr, h => ⟨[], cs, ra, rfl, bk, R, Fr, fun _ _ e => e, fun _ _ e => e, .nil, h⟩
  | .e e :: r, f, fr, cs, ra, H, σ, bk, R, Fr, h => by
    rw [evPL, onE_bind] at h
    refine ⟨fr, cs, ra, R, Fr, PostR.imp (onE_post (rp := rpW g ra) bk Fr h) ?_⟩
    rintro v H1 ⟨w, c1, k1, bk1, R1, F1, r1, p1⟩
    rw [onE_bind] at p1
    refine tPL_imp (pl_go r (f := fun ws c => f (w :: ws) c) bk1 R1 F1 p1) ?_
    rintro vs H2 ⟨ws, c2, ra2, hl, bk2, R2, F2, sm, hn, rs, p2⟩
    exact ⟨w :: ws, c2, ra2, congrArg Nat.succ hl, bk2, R2, F2, fun b o e => sm b o (k1.same b o e), hn, .cons (r1.grow sm hn) rs, p2⟩
  | .l z :: r, f, fr, cs, ra, H, σ, bk, R, Fr, h => by
    rw [evPL, onE_bind] at h
    refine ⟨fr, cs, ra, R, Fr, PostL.imp (onL_post' bk Fr h) ?_⟩
    rintro v H1 ⟨a, c1, rfl, bk1, R1, F1, sm1, p1⟩
    rw [onE_bind] at p1
    refine tPL_imp (pl_go r (f := fun ws c => f (.loc (c1.length - 1) :: ws) c) bk1 R1 F1 p1) ?_
    rintro vs H2 ⟨ws, c2, ra2, hl, bk2, R2, F2, sm, hn, rs, p2⟩
    refine ⟨.loc (c1.length - 1) :: ws, c2, ra2, congrArg Nat.succ hl, bk2, R2, F2, fun b o e => sm b o (sm1 b o e), fun n x hx => hn n x (ra_app hx), .cons ⟨a, rfl, hn _ _ ?_⟩ rs, p2⟩
    have hl1 := R1.len
    rw [List.length_append] at hl1
    have : c1.length - 1 = ra.length := by simp at hl1; omega
    rw [this]
    simp
theorem r_parL2 {i j : Nat} {D : Ends} {σ : L2.St} {H : Hp} {zs : List PL} (hl : zs.length = 2) (q : tS g Wx b (fun fr cs => onE fr (evPL wd zs fr cs) fun ws c1 => .nx (setWs fr ([i, j].zip ws)) c1) D σ H) : tPar i j (tPL g Wx wd zs) D σ H := by
  obtain ⟨B, fr, cs, ra, hb, bk, R, Fr, p⟩ := q
  refine tPL_imp (pl_go zs bk R Fr p) ?_
  rintro vs H1 ⟨ws, c1, ra1, hl1, bk1, R1, F1, _, _, rs, p1⟩
  rw [hl, ← rs.length] at hl1
  rcases rs with _ | ⟨a, _ | ⟨b, _ | ⟨_, _⟩⟩⟩ <;> first | (simp at hl1; done) | exact ⟨_, _, rfl, p1 ra1 H1 _ bk1 R1 ((F1.set a).set b)⟩
theorem r_parL3 {i j m : Nat} {D : Ends} {σ : L2.St} {H : Hp} {zs : List PL} (hl : zs.length = 3) (q : tS g Wx b (fun fr cs => onE fr (evPL wd zs fr cs) fun ws c1 => .nx (setWs fr ([i, j, m].zip ws)) c1) D σ H) : tPar3 i j m (tPL g Wx wd zs) D σ H := by
  obtain ⟨B, fr, cs, ra, hb, bk, R, Fr, p⟩ := q
  refine tPL_imp (pl_go zs bk R Fr p) ?_
  rintro vs H1 ⟨ws, c1, ra1, hl1, bk1, R1, F1, _, _, rs, p1⟩
  rw [hl, ← rs.length] at hl1
  rcases rs with _ | ⟨a, _ | ⟨b, _ | ⟨c, _ | ⟨_, _⟩⟩⟩⟩ <;> first | (simp at hl1; done) | exact ⟨_, _, _, rfl, p1 ra1 H1 _ bk1 R1 (((F1.set a).set b).set c)⟩
theorem pa_PL (F : Fx g wd k) (ok : Okx g N sc ac k X Wx) : ∀ {zs : List PL} {vs : List Expr}, chkPL wd N sc zs vs = true → PA X vs (tPL g Wx wd zs) ∧ (∀ x ∈ vs, notSt x = true) ∧ zs.length = vs.length
  | [], [], _ => ⟨pa_nil, fun x hx => by simp at hx, rfl⟩
  | [], _ :: _, h => by simp [chkPL] at h
  | .e e :: r, [], h => by simp [chkPL] at h
  | .l z :: r, [], h => by simp [chkPL] at h
  | .e e :: r, v :: vs, h => by
    simp only [chkPL, Bool.and_eq_true] at h
    obtain ⟨⟨h1, h2⟩, h3⟩ := h
    obtain ⟨g1, g2, g3⟩ := pa_PL F ok h3
    refine ⟨pa_cons ((snd F e).ex_ ok h2) g1 (star_of h1), fun x hx => ?_, congrArg Nat.succ g3⟩
    rcases List.mem_cons.mp hx with rfl | hx
    · exact h1
    · exact g2 x hx
  | .l z :: r, v :: vs, h => by
    simp only [chkPL, Bool.and_eq_true] at h
    obtain ⟨⟨⟨⟨h0, h1⟩, hc⟩, h2⟩, h3⟩ := h
    obtain ⟨g1, g2, g3⟩ := pa_PL F ok h3
    refine ⟨pa_cons (c_L F ok h2) g1 (star_of h1), fun x hx => ?_, congrArg Nat.succ g3⟩
    rcases List.mem_cons.mp hx with rfl | hx
    · exact h1
    · exact g2 x hx
theorem sw_cell {ts : List Expr} {v : Expr} {kt : Nat} {pt : Pos} {env : Env} (h : cellT env.scope ts = true) : swappedStores [.Tuple ts kt pt] v env = pure none := by
  unfold cellT at h
  split at h
  · rename_i x px y py
    rw [Bool.or_eq_true, decide_eq_true_eq, decide_eq_true_eq] at h
    unfold swappedStores Env.kindOf
    cases v <;> first | rfl | skip
    rcases h with h | h
    all_goals
      simp only [List.filterMap_cons, List.filterMap_nil, h]
      repeat' split
      all_goals first | rfl | simp_all
  · cases h
theorem sw_sub {o j : Expr} {ps : Pos} {x : Str} {px : Pos} {kt : Nat} {pt : Pos} (v : Expr) (env : Env) : swappedStores [.Tuple [.Subscript o j ps, .Name x px] kt pt] v env = pure none := by
  unfold swappedStores
  cases v <;> first | rfl | skip
  simp only [List.filterMap_cons, List.filterMap_nil]
  repeat' split
  all_goals first | rfl | simp_all
theorem parN_cons {line i : Nat} {is : List Nat} {t : Expr} {ts : List Expr} (h : parN N sc line (i :: is) (t :: ts) = true) : ∃ x p, t = .Name x p ∧ N[i]? = some x ∧ sc.names.lookup x = some .local ∧ (p.line == line) = true ∧ parN N sc line is ts = true := by
  cases t <;> first | (simp [parN] at h; done) | skip
  simp only [parN, Bool.and_eq_true, decide_eq_true_eq] at h
  obtain ⟨⟨⟨h1, h2⟩, h3⟩, h4⟩ := h
  exact ⟨_, _, rfl, h1, h2, h3, h4⟩
theorem ps_raiseX {c : Nat} {x : Str} {e : E} {a : Expr} {q pos pp : Pos} (F : Fx g wd k) (ok : Okx g N sc true k X Wx) (h1 : (match wd.exk c with | some (y, _) => decide (y = x) | none => false) = true) (h2 : glB sc x = true) (h3 : nodbg x = true) (h4 : notSt a = true) (ha : PE X a (tE g Wx (ev wd e))) :
    PS X (.Raise (some (.Call (.Name x q) [a] [] pos)) none pp) (tS g Wx b (exS wd n b (.raise c e))) := by
  obtain ⟨p, hx⟩ : ∃ p, wd.exk c = some (x, p) := by
    split at h1
    · rename_i y p e
      cases of_decide_eq_true h1
      exact ⟨p, e⟩
    · cases h1
  obtain ⟨e0, gC, kC, M, tyC, C, noP⟩ := F.exk _ _ _ hx
  subst e0
  have M' : MkX X.prog X.w X.K X.mg (g.ca c) (g.efld c) := by rw [ok.P, ok.w, ok.K, ok.mg]; exact M
  have s1 := star_of (es := []) (env := X.env) h4
  unfold nodbg at h3
  simp only [Bool.and_eq_true, Bool.not_eq_true'] at h3
  refine PS.imp (ps_raise ok.calm ok.tk (pmk_exc M' (by rw [ok.K]; exact kC) (by rw [ok.mg]; exact gC) (by rw [ok.K]; exact C.hs) (by rw [ok.K]; exact tyC) ok.hr (pa_cons ha pa_nil s1) (gl_of ok h2) h3.1 s1 (by rfl))) fun D σ H q => ?_
  obtain ⟨B, fr, cs, ra, hb, bk, R, Fr, p⟩ := q
  rw [exS] at p
  refine ⟨fr, cs, ra, R, Fr, PostR.imp (onE_post (rp := rpW g ra) bk Fr p) ?_⟩
  rintro v H1 ⟨w, c1, k1, bk1, R1, F1, r1, p1⟩
  refine ⟨v, rfl, fun d hd => ?_⟩
  unfold raiseR at p1
  split at p1
  · rename_i dd _ _
    obtain ⟨k2, R2, f2⟩ := R1.new (o := .xd [(g.efld c, v)]) hd
    exact p1 ra _ σ d v (bk1.keep k2) R2 (F1.mono k2) upd_same (Rep.mono k2.same r1)
  · exact p1.elim
structure SndS (g : G) (wd : Wd) (k n b : Nat) (z : S) : Prop where
  s : ∀ {N sc X Wx}, Okx g N sc true k X Wx → PassesOwn (model X.prog X.w) X.A X.env X.xe → ∀ st, chkS wd N sc z st = true → PS X st (tS g Wx b (exS wd n b z))
  l : ∀ {N sc X Wx}, Okx g N sc true k X Wx → PassesOwn (model X.prog X.w) X.A X.env X.xe → ∀ sts, chkSs wd N sc z sts = true → PSs X sts (tS g Wx b (exS wd n b z))
theorem SndS.of {z : S} (hs : ∀ {N sc X Wx}, Okx g N sc true k X Wx → PassesOwn (model X.prog X.w) X.A X.env X.xe → ∀ st, chkS wd N sc z st = true → PS X st (tS g Wx b (exS wd n b z)))
    (hl : ∀ N sc sts, chkSs wd N sc z sts = false) : SndS g wd k n b z := ⟨hs, fun _ _ _ h => by rw [hl] at h; cases h⟩
theorem tS_eq {f h : Fra → Cells → RS} {D : Ends} {σ : L2.St} {H : Hp} (e : ∀ fr cs, f fr cs = h fr cs) (q : tS g Wx b f D σ H) : tS g Wx b h D σ H := by
  have : f = h := funext fun a => funext fun b => e a b
  rw [← this]
  exact q
theorem sndS (F : Fx g wd k) : ∀ z : S, SndS g wd k n b z := by
  intro z
  induction z with
  | nop =>
    refine SndS.of (fun {N sc X Wx} ok hp st h => ?_) (fun _ _ sts => by cases sts <;> rfl)
    have go : ∀ D σ H, tS g Wx b (exS wd n b .nop) D σ H → tNext D σ H := fun D σ H ⟨B, fr, cs, ra, hb, bk, R, Fr, p⟩ => p ra H σ bk R Fr
    cases st <;> first | exact absurd h Bool.false_ne_true | (simp [chkS] at h; done) | skip
    · rename_i e p
      cases e <;> first | exact absurd h Bool.false_ne_true | (simp [chkS] at h; done) | skip
      rename_i c _ _
      cases c <;> first | exact absurd h Bool.false_ne_true | (simp [chkS] at h; done) | skip
      exact PS.imp ps_doc go
    · exact PS.imp ps_pass go
  | set i e =>
    refine SndS.of (fun {N sc X Wx} ok hp st h => ?_) (fun _ _ sts => by cases sts <;> rfl)
    cases st <;> first | exact absurd h Bool.false_ne_true | (simp [chkS] at h; done) | skip
    rename_i ts v p
    match ts, h with
    | [t], h =>
      simp only [chkS, Bool.and_eq_true, Bool.not_eq_true'] at h
      exact PS.imp (ps_nm ok h.1.1 ((snd F e).ex_ ok h.2) (swap_no h.1.2)) fun D σ H q => r_set (tS_eq (fun fr cs => by rw [exS]) q)
  | setL i z =>
    refine SndS.of (fun {N sc X Wx} ok hp st h => ?_) (fun _ _ sts => by cases sts <;> rfl)
    cases st <;> first | exact absurd h Bool.false_ne_true | (simp [chkS] at h; done) | skip
    rename_i ts v p
    match ts, h with
    | [], h => simp [chkS] at h
    | _ :: _ :: _, h => simp [chkS] at h
    | [t], h =>
      have go : ∀ D σ H, tS g Wx b (exS wd n b (.setL i z)) D σ H → tAsg (tL g Wx (evL wd z)) (gName i) D σ H := fun D σ H q => r_setL (tS_eq (fun fr cs => by rw [exS]) q)
      simp only [chkS, Bool.and_eq_true] at h
      obtain ⟨⟨h1, h2⟩, h3⟩ := h
      cases z with
      | lc elt it conds tg one own =>
        simp only [swL, Option.isSome_iff_exists] at h2
        obtain ⟨bb, h2⟩ := h2
        have hsw := swapB_ok (l := p.line) ok.sc h2
        cases bb with
        | false => exact PS.imp (ps_nm ok h1 (c_L F ok h3) hsw) go
        | true =>
          cases t <;> first | (simp [chkNm] at h1; done) | skip
          rename_i y py
          simp only [chkL, L.e] at h3
          cases v <;> first | (simp [chk] at h3; done) | skip
          rename_i ee gens scope pp
          match gens, h3 with
          | [⟨te, ie, ifs, 0⟩], h3 =>
            simp only [chk, Bool.and_eq_true, decide_eq_true_eq, List.all_eq_true] at h3
            obtain ⟨⟨⟨⟨⟨⟨⟨g1, g2⟩, g3⟩, g4⟩, g5⟩, g6⟩, g7⟩, g8⟩ := h3
            simp only [chkNm, Bool.and_eq_true, decide_eq_true_eq] at h1
            have hyl : sc.names.lookup y = some .local := by
              unfold swapB at h2
              dsimp only at h2
              split at h2
              · have := Option.some.inj h2
                simp only [Bool.and_eq_true, decide_eq_true_eq] at this
                exact this.1.1
              · cases h2
            exact PS.imp (c_setLc (fe := ev wd elt) (ft := fun fr cs => asB (evAnd wd conds fr cs)) ok ((snd F it).i ok g1).1 ((snd F it).i ok g1).2 (by rw [← F.lams]; exact g2) (fun X' ok' => c_tg ok' g7) (fun X' ok' => (snd F conds).ts g4 ok' g6 g3) (fun X' ok' => (snd F elt).ex_ ok' g5) h1.1 hyl hsw (fun i hi => List.contains_iff_mem.mp (g8 i hi))) go
      | lst as =>
        simp only [swL, Bool.not_eq_true'] at h2
        exact PS.imp (ps_nm ok h1 (c_L F ok h3) (swap_no h2)) go
      | ofl a =>
        simp only [swL, Bool.not_eq_true'] at h2
        exact PS.imp (ps_nm ok h1 (c_L F ok h3) (swap_no h2)) go
      | rng a =>
        simp only [swL, Bool.not_eq_true'] at h2
        exact PS.imp (ps_nm ok h1 (c_L F ok h3) (swap_no h2)) go
      | addl a b =>
        simp only [swL, Bool.not_eq_true'] at h2
        exact PS.imp (ps_nm ok h1 (c_L F ok h3) (swap_no h2)) go
      | call f q as ks =>
        simp only [swL, Bool.not_eq_true'] at h2
        exact PS.imp (ps_nm ok h1 (c_L F ok h3) (swap_no h2)) go
  | setT is e =>
    refine SndS.of (fun {N sc X Wx} ok hp st h => ?_) (fun _ _ sts => by cases sts <;> rfl)
    cases st <;> first | exact absurd h Bool.false_ne_true | (simp [chkS] at h; done) | skip
    rename_i ts v p
    obtain ⟨us, kt, pt, rfl⟩ : ∃ us kt pt, ts = [.Tuple us kt pt] := by
      rcases ts with _ | ⟨t, _ | ⟨_, _⟩⟩ <;> first | exact absurd h Bool.false_ne_true | (simp [chkS] at h; done) | skip
      cases t <;> first | exact absurd h Bool.false_ne_true | exact ⟨_, _, _, rfl⟩
    simp only [chkS, Bool.and_eq_true, Bool.not_eq_true'] at h
    obtain ⟨⟨⟨h1, h2⟩, h3⟩, h4⟩ := h
    rw [Bool.or_eq_true, Bool.not_eq_true', ← ok.sc] at h3
    refine PS.imp (ps_asg ((snd F e).ex_ ok h4) (c_tg ok h1) (by show swapsWith v (some (.Tuple us kt pt)) p.line X.env = pure false; exact swap_no h2) ?_ rfl) fun D σ H q => r_setT (tS_eq (fun fr cs => by rw [exS] <;> rfl) q)
    rcases h3 with h3 | h3
    · cases v <;> first | rfl | cases h3
    · exact sw_cell h3
  | par is as =>
    refine SndS.of (fun {N sc X Wx} ok hp st h => ?_) (fun _ _ sts => by cases sts <;> rfl)
    cases st <;> first | exact absurd h Bool.false_ne_true | (simp [chkS] at h; done) | skip
    rename_i ts v p
    obtain ⟨ts, kt, pt, rfl⟩ : ∃ ts' kt pt, ts = [.Tuple ts' kt pt] := by
      rcases ts with _ | ⟨t, _ | ⟨_, _⟩⟩ <;> first | exact absurd h Bool.false_ne_true | (simp [chkS] at h; done) | skip
      cases t <;> first | exact absurd h Bool.false_ne_true | exact ⟨_, _, _, rfl⟩
    obtain ⟨vs, kv, pv, rfl⟩ : ∃ vs kv pv, v = .Tuple vs kv pv := by
      cases v <;> first | exact absurd h Bool.false_ne_true | (simp [chkS] at h; done) | exact ⟨_, _, _, rfl⟩
    simp only [chkS, chkPar, Bool.and_eq_true, Bool.not_eq_true', Bool.or_eq_true, beq_iff_eq, decide_eq_true_eq] at h
    obtain ⟨⟨hlen, ⟨⟨⟨⟨⟨⟨h1, h2⟩, hnd⟩, hpar⟩, hk⟩, hf⟩, hc⟩⟩, hA⟩ := h
    rcases hlen with hlen | hlen
    · obtain ⟨s, t, rfl⟩ := len2 hlen
      obtain ⟨i, j, rfl⟩ := len2 (h1.trans hlen)
      obtain ⟨a, b', rfl⟩ := len2 (h2.symm.trans hlen)
      obtain ⟨x, px, rfl, hi, hx, _, hpar⟩ := parN_cons hpar
      obtain ⟨y, py, rfl, hj, hy, hl, hpar⟩ := parN_cons hpar
      have hij : i ≠ j := by simp at hnd; exact hnd
      obtain ⟨a1, a2, a3⟩ := (snd F as).a ok hA
      exact PS.imp (ps_par ok.calm (by rw [ok.hN]; exact ok.nd) (by rw [ok.hN]; exact hi) (by rw [ok.hN]; exact hj) hij (by rw [ok.sc]; exact hx) (by rw [ok.sc]; exact hy) a1
        (sw2 ok.sc hk hx hy hl (fnN ok.nd hi hj hij) (a2 _ (by simp)) (a2 _ (by simp)) hf hc) rfl) fun D σ H q => r_par2 a3 (tS_eq (fun fr cs => by rw [exS]) q)
    · obtain ⟨s, t, u, rfl⟩ := len3 hlen
      obtain ⟨i, j, m, rfl⟩ := len3 (h1.trans hlen)
      obtain ⟨a, b', c, rfl⟩ := len3 (h2.symm.trans hlen)
      obtain ⟨x, px, rfl, hi, hx, _, hpar⟩ := parN_cons hpar
      obtain ⟨y, py, rfl, hj, hy, hl, hpar⟩ := parN_cons hpar
      obtain ⟨z, pz, rfl, hm, hz, hl2, hpar⟩ := parN_cons hpar
      simp at hnd
      obtain ⟨⟨hij, him⟩, hjm⟩ := hnd
      obtain ⟨a1, a2, a3⟩ := (snd F as).a ok hA
      exact PS.imp (ps_par3 ok.calm (by rw [ok.hN]; exact ok.nd) (by rw [ok.hN]; exact hi) (by rw [ok.hN]; exact hj) (by rw [ok.hN]; exact hm) hij him hjm (by rw [ok.sc]; exact hx) (by rw [ok.sc]; exact hy) (by rw [ok.sc]; exact hz) a1
        (sw3 ok.sc hk hx hy hz hl hl2 (fnN ok.nd hi hj hij) (fnN ok.nd hi hm him) (fnN ok.nd hj hm hjm) (a2 _ (by simp)) (a2 _ (by simp)) (a2 _ (by simp)) hf hc) rfl) fun D σ H q => r_par3 a3 (tS_eq (fun fr cs => by rw [exS]) q)
  | parL is zs =>
    refine SndS.of (fun {N sc X Wx} ok hp st h => ?_) (fun _ _ sts => by cases sts <;> rfl)
    cases st <;> first | exact absurd h Bool.false_ne_true | (simp [chkS] at h; done) | skip
    rename_i ts v p
    obtain ⟨ts, kt, pt, rfl⟩ : ∃ ts' kt pt, ts = [.Tuple ts' kt pt] := by
      rcases ts with _ | ⟨t, _ | ⟨_, _⟩⟩ <;> first | exact absurd h Bool.false_ne_true | (simp [chkS] at h; done) | skip
      cases t <;> first | exact absurd h Bool.false_ne_true | exact ⟨_, _, _, rfl⟩
    obtain ⟨vs, kv, pv, rfl⟩ : ∃ vs kv pv, v = .Tuple vs kv pv := by
      cases v <;> first | exact absurd h Bool.false_ne_true | (simp [chkS] at h; done) | exact ⟨_, _, _, rfl⟩
    simp only [chkS, chkPar, Bool.and_eq_true, Bool.not_eq_true', Bool.or_eq_true, beq_iff_eq, decide_eq_true_eq] at h
    obtain ⟨⟨hlen, ⟨⟨⟨⟨⟨⟨h1, h2⟩, hnd⟩, hpar⟩, hk⟩, hf⟩, hc⟩⟩, hA⟩ := h
    rcases hlen with hlen | hlen
    · obtain ⟨s, t, rfl⟩ := len2 hlen
      obtain ⟨i, j, rfl⟩ := len2 (h1.trans hlen)
      obtain ⟨a, b', rfl⟩ := len2 (h2.symm.trans hlen)
      obtain ⟨x, px, rfl, hi, hx, _, hpar⟩ := parN_cons hpar
      obtain ⟨y, py, rfl, hj, hy, hl, hpar⟩ := parN_cons hpar
      have hij : i ≠ j := by simp at hnd; exact hnd
      obtain ⟨a1, a2, a3⟩ := pa_PL F ok hA
      exact PS.imp (ps_par ok.calm (by rw [ok.hN]; exact ok.nd) (by rw [ok.hN]; exact hi) (by rw [ok.hN]; exact hj) hij (by rw [ok.sc]; exact hx) (by rw [ok.sc]; exact hy) a1
        (sw2 ok.sc hk hx hy hl (fnN ok.nd hi hj hij) (a2 _ (by simp)) (a2 _ (by simp)) hf hc) rfl) fun D σ H q => r_parL2 (a3.trans rfl) (tS_eq (fun fr cs => by rw [exS]) q)
    · obtain ⟨s, t, u, rfl⟩ := len3 hlen
      obtain ⟨i, j, m, rfl⟩ := len3 (h1.trans hlen)
      obtain ⟨a, b', c, rfl⟩ := len3 (h2.symm.trans hlen)
      obtain ⟨x, px, rfl, hi, hx, _, hpar⟩ := parN_cons hpar
      obtain ⟨y, py, rfl, hj, hy, hl, hpar⟩ := parN_cons hpar
      obtain ⟨z, pz, rfl, hm, hz, hl2, hpar⟩ := parN_cons hpar
      simp at hnd
      obtain ⟨⟨hij, him⟩, hjm⟩ := hnd
      obtain ⟨a1, a2, a3⟩ := pa_PL F ok hA
      exact PS.imp (ps_par3 ok.calm (by rw [ok.hN]; exact ok.nd) (by rw [ok.hN]; exact hi) (by rw [ok.hN]; exact hj) (by rw [ok.hN]; exact hm) hij him hjm (by rw [ok.sc]; exact hx) (by rw [ok.sc]; exact hy) (by rw [ok.sc]; exact hz) a1
        (sw3 ok.sc hk hx hy hz hl hl2 (fnN ok.nd hi hj hij) (fnN ok.nd hi hm him) (fnN ok.nd hj hm hjm) (a2 _ (by simp)) (a2 _ (by simp)) (a2 _ (by simp)) hf hc) rfl) fun D σ H q => r_parL3 (a3.trans rfl) (tS_eq (fun fr cs => by rw [exS]) q)
  | put a i e =>
    refine SndS.of (fun {N sc X Wx} ok hp st h => ?_) (fun _ _ sts => by cases sts <;> rfl)
    cases st <;> first | exact absurd h Bool.false_ne_true | (simp [chkS] at h; done) | skip
    rename_i ts v p
    obtain ⟨o, j, ps, rfl⟩ : ∃ o j ps, ts = [.Subscript o j ps] := by
      rcases ts with _ | ⟨t, _ | ⟨_, _⟩⟩ <;> first | exact absurd h Bool.false_ne_true | (simp [chkS] at h; done) | skip
      cases t <;> first | exact absurd h Bool.false_ne_true | exact ⟨_, _, _, rfl⟩
    simp only [chkS, Bool.and_eq_true, Bool.not_eq_true'] at h
    obtain ⟨⟨⟨⟨h1, h2⟩, h3⟩, h4⟩, h5⟩ := h
    refine PS.imp (ps_asg ((snd F e).ex_ ok h3) (pg_sub ((snd F a).ex_ ok h4) ((snd F i).ex_ ok h5) set_list (plain_asub h1)) (by show swapsWith v (some (.Subscript o j ps)) p.line X.env = pure false; exact swap_no h2) ?_ rfl) fun D σ H q => r_put (tS_eq (fun fr cs => by rw [exS]) q)
    cases v <;> rfl
  | putT a i j e =>
    refine SndS.of (fun {N sc X Wx} ok hp st h => ?_) (fun _ _ sts => by cases sts <;> rfl)
    simp only [chkS] at h
    split at h
    rotate_left
    · exact absurd h Bool.false_ne_true
    · rename_i o ix ps x px kt pt v p
      simp only [Bool.and_eq_true, Bool.not_eq_true'] at h
      obtain ⟨⟨⟨⟨⟨h1, hx⟩, h2⟩, h3⟩, h4⟩, h5⟩ := h
      refine PS.imp (ps_asg ((snd F e).ex_ ok h3) (pg_tup ok.calm (pgs_cons (pg_sub ((snd F a).ex_ ok h4) ((snd F i).ex_ ok h5) set_list (plain_asub h1)) (pgs_cons (c_tg ok hx) pgs_nil))) (by show swapsWith v (some (.Tuple [.Subscript o ix ps, .Name x px] kt pt)) p.line X.env = pure false; exact swap_no h2) (sw_sub _ _) rfl) fun D σ H q => r_putT ok.K (tS_eq (fun fr cs => by rw [exS]; first | rfl | skip) q)
  | fld a f e =>
    refine SndS.of (fun {N sc X Wx} ok hp st h => ?_) (fun _ _ sts => by cases sts <;> rfl)
    cases st <;> first | exact absurd h Bool.false_ne_true | (simp [chkS] at h; done) | skip
    rename_i ts v p
    obtain ⟨o, x, ps, rfl⟩ : ∃ o x ps, ts = [.Attribute o x ps] := by
      rcases ts with _ | ⟨t, _ | ⟨_, _⟩⟩ <;> first | exact absurd h Bool.false_ne_true | (simp [chkS] at h; done) | skip
      cases t <;> first | exact absurd h Bool.false_ne_true | exact ⟨_, _, _, rfl⟩
    simp only [chkS, Bool.and_eq_true, Bool.not_eq_true', decide_eq_true_eq] at h
    obtain ⟨⟨⟨rfl, h2⟩, h3⟩, h4⟩ := h
    exact PS.imp (ps_fld ((snd F a).ex_ ok h4) ((snd F e).ex_ ok h3) (swap_no h2)) fun D σ H q => r_fld F ok (tS_eq (fun fr cs => by rw [exS]) q)
  | expr e =>
    refine SndS.of (fun {N sc X Wx} ok hp st h => ?_) (fun _ _ sts => by cases sts <;> rfl)
    cases st <;> first | exact absurd h Bool.false_ne_true | (simp [chkS] at h; done) | skip
    simp only [chkS, Bool.and_eq_true, Bool.not_eq_true'] at h
    exact PS.imp (ps_expr ((snd F e).ex_ ok h.2) (swap_no h.1)) fun D σ H q => r_expr (tS_eq (fun fr cs => by rw [exS]) q)
  | ret e =>
    refine SndS.of (fun {N sc X Wx} ok hp st h => ?_) (fun _ _ sts => by cases sts <;> rfl)
    cases st <;> first | exact absurd h Bool.false_ne_true | (simp [chkS] at h; done) | skip
    rename_i v p
    cases v with
    | none => simp [chkS] at h
    | some v =>
      simp only [chkS] at h
      exact PS.imp (ps_ret ((snd F e).ex_ ok h)) fun D σ H q => r_ret (tS_eq (fun fr cs => by rw [exS]) q)
  | retL z =>
    refine SndS.of (fun {N sc X Wx} ok hp st h => ?_) (fun _ _ sts => by cases sts <;> rfl)
    cases st <;> first | exact absurd h Bool.false_ne_true | (simp [chkS] at h; done) | skip
    rename_i v p
    cases v with
    | none => simp [chkS] at h
    | some v =>
      simp only [chkS] at h
      exact PS.imp (ps_ret (c_L F ok h)) fun D σ H q => r_retL (tS_eq (fun fr cs => by rw [exS]) q)
  | ife c a b' iha ihb =>
    refine SndS.of (fun {N sc X Wx} ok hp st h => ?_) (fun _ _ sts => by cases sts <;> rfl)
    cases st <;> first | exact absurd h Bool.false_ne_true | (simp [chkS] at h; done) | skip
    simp only [chkS, Bool.and_eq_true] at h
    obtain ⟨⟨⟨h1, h2⟩, h3⟩, h4⟩ := h
    exact PS.imp (ps_if ((snd F c).t h1 ok h2) (iha.l ok hp _ h3) (ihb.l ok hp _ h4)) fun D σ H q => r_if (tS_eq (fun fr cs => by rw [exS]) q)
  | loop it tg one s ih =>
    refine SndS.of (fun {N sc X Wx} ok hp st h => ?_) (fun _ _ sts => by cases sts <;> rfl)
    cases st <;> first | exact absurd h Bool.false_ne_true | (simp [chkS] at h; done) | skip
    rename_i t ie body orelse pp
    cases orelse with
    | cons _ _ => simp [chkS] at h
    | nil =>
      simp only [chkS, Bool.and_eq_true] at h
      obtain ⟨⟨h1, h2⟩, h3⟩ := h
      obtain ⟨i1, i2⟩ := (snd F it).i ok h1
      exact PS.imp (ps_for hp ok.calm i1 (c_tg ok h2) (ih.l ok hp _ h3) (fold_of i2)) fun D σ H q => r_for (tS_eq (fun fr cs => by rw [exS]) q)
  | wh c s ih =>
    refine SndS.of (fun {N sc X Wx} ok hp st h => ?_) (fun _ _ sts => by cases sts <;> rfl)
    cases st <;> first | exact absurd h Bool.false_ne_true | (simp [chkS] at h; done) | skip
    rename_i t body orelse pp
    cases orelse with
    | cons _ _ => simp [chkS] at h
    | nil =>
      simp only [chkS, Bool.and_eq_true] at h
      obtain ⟨⟨h1, h2⟩, h3⟩ := h
      exact PS.imp (ps_while hp ((snd F c).t h1 ok h2) (ih.l ok hp _ h3)) fun D σ H q => r_wh (n := n) (tS_eq (fun fr cs => by rw [exS]) q)
  | raise c e =>
    refine SndS.of (fun {N sc X Wx} ok hp st h => ?_) (fun _ _ sts => by cases sts <;> rfl)
    simp only [chkS] at h
    split at h
    · rename_i x a e0
      obtain ⟨q, pos, pp, rfl⟩ := raiseP_some e0
      simp only [Bool.and_eq_true] at h
      obtain ⟨⟨⟨⟨h1, h2⟩, h3⟩, h4⟩, h5⟩ := h
      exact ps_raiseX F ok h1 h2 h3 h4 ((snd F e).ex_ ok h5)
    · cases h
  | frz i => exact SndS.of (fun {N sc X Wx} ok hp st h => by cases st <;> exact absurd h Bool.false_ne_true) (fun _ _ sts => by cases sts <;> rfl)
  | never => exact ⟨fun {N sc X Wx} ok hp st h => PS.imp ps_never fun D σ H ⟨B, fr, cs, ra, hb, bk, R, Fr, p⟩ => p, fun {N sc X Wx} ok hp st h => PSs.imp pss_never fun D σ H ⟨B, fr, cs, ra, hb, bk, R, Fr, p⟩ => p⟩
  | nil =>
    refine ⟨fun {N sc X Wx} ok hp st h => by cases st <;> exact absurd h Bool.false_ne_true, fun {N sc X Wx} ok hp sts h => ?_⟩
    cases sts with
    | cons _ _ => simp [chkSs] at h
    | nil => exact PSs.imp pss_nil fun D σ H ⟨B, fr, cs, ra, hb, bk, R, Fr, p⟩ => p ra H σ bk R Fr
  | cons s r ihs ihr =>
    refine ⟨fun {N sc X Wx} ok hp st h => by cases st <;> exact absurd h Bool.false_ne_true, fun {N sc X Wx} ok hp sts h => ?_⟩
    by_cases hf : ∃ i, s = .frz i
    · obtain ⟨i, rfl⟩ := hf
      have h' : chkSs wd N sc r sts = true := by cases sts <;> simpa [chkSs] using h
      exact PSs.imp (ihr.l ok hp _ h') fun D σ H q => r_frz (tS_eq (fun fr cs => by rw [exS, exS]) q)
    · cases sts with
      | nil => cases s <;> first | (simp [chkSs] at h; done) | exact absurd ⟨_, rfl⟩ hf
      | cons st ss =>
        have h' : chkS wd N sc s st = true ∧ chkSs wd N sc r ss = true := by
          cases s <;> first | (exact absurd ⟨_, rfl⟩ hf) | (simpa [chkSs] using h)
        exact PSs.imp (pss_cons (ihs.s ok hp _ h'.1) (ihr.l ok hp _ h'.2)) fun D σ H q => tS_seq (tS_eq (fun fr cs => by rw [exS]) q)
end
end BV
namespace BV
open PySem L2
/-! ### defs -/
def retD (b : Nat) (w : W) (cs : Cells) : R D := match w with
  | .d d => .ok d (cs.take b)
  | .loc n => if b ≤ n then match cs[n]? with
    | some (some (.lst xs)) => .ok (.lst xs) (cs.take b)
    | some (some (.ins c fs)) => .ok (.ins c fs) (cs.take b)
    | _ => .bad
    else .bad
def retL (b : Nat) (w : W) (cs : Cells) : R Unit := match w with
  | .d _ => .bad
  | .loc n => if b ≤ n then match cs[n]? with
    | some (some (.lst xs)) => .ok () (cs.take b ++ [some (.lst xs)])
    | _ => .bad
    else .bad
def startF (nl : Nat) (ws : List W) : Fra := ws.map some ++ List.replicate (nl - ws.length) none
def endD (b : Nat) (r : RS) : R D := match r with
  | .rt w cs => retD b w cs
  | .nx _ cs => .ok .non (cs.take b)
  | .ex c x _ cs => .exc c x (cs.take b)
  | _ => .bad
def endL (b : Nat) (r : RS) : R Unit := match r with
  | .rt w cs => retL b w cs
  | .ex c x _ cs => .exc c x (cs.take b)
  | _ => .bad
def fnRun (wd : Wd) (n : Nat) (s : S) (nl : Nat) (ws : List W) (cs : Cells) : R D := endD cs.length (exS wd n cs.length s (startF nl ws) cs)
def fnRunL (wd : Wd) (n : Nat) (s : S) (nl : Nat) (ws : List W) (cs : Cells) : R Unit := endL cs.length (exS wd n cs.length s (startF nl ws) cs)
section
variable {g : G} {B : Bs} {ra : Ra} {cs : Cells} {H : Hp} {b : Nat}
theorem same_base {ra0 ext : Ra} {H : Hp} : Same (frz H (ra0 ++ ext)) (frz H ra0) := frz_sub fun x z => List.mem_append_left _ z
theorem Rel.base {ra0 ext : Ra} (R : Rel g (ra0 ++ ext) cs H) (hb : ra0.length = b) : Rel g ra0 (cs.take b) H := by
  subst hb
  have hl := R.len
  rw [List.length_append] at hl
  have lt : ∀ {n : Nat} {c : Option Cell}, (cs.take ra0.length)[n]? = some c → n < ra0.length ∧ cs[n]? = some c := fun {n c} e => by
    have h1 : n < ra0.length := by
      have := (List.getElem?_eq_some_iff.mp e).1
      rw [List.length_take] at this
      omega
    rw [List.getElem?_take_of_lt h1] at e
    exact ⟨h1, e⟩
  refine ⟨by rw [List.length_take]; omega, fun n c e => ?_, fun n e => ?_, fun n m a h1 h2 => R.inj n m a ?_ ?_, R.tabs⟩
  · obtain ⟨h1, e⟩ := lt e
    obtain ⟨a, ha, hc⟩ := R.cell n c e
    rw [List.getElem?_append_left h1] at ha
    exact ⟨a, ha, hc.mono same_base rfl⟩
  · obtain ⟨h1, e⟩ := lt e
    have := R.dead n e
    rwa [List.getElem?_append_left h1] at this
  · rw [List.getElem?_append_left (List.getElem?_eq_some_iff.mp h1).1]; exact h1
  · rw [List.getElem?_append_left (List.getElem?_eq_some_iff.mp h2).1]; exact h2
def bs0 (ra : Ra) (H : Hp) : Bs := ⟨ra, H, frz H ra⟩
theorem bs0_ok (ra : Ra) (H : Hp) : BOk (bs0 ra H) ra H := ⟨fun _ _ e => e, [], (List.append_nil _).symm, Keep.refl _ _, fun a h => by cases h⟩
theorem start_ok {N : List Str} {nl : Nat} {ws : List W} {vs : List V} (r : RepWs g (frz H ra) ra ws vs) (hn : N.length = nl) : FrR g H ra (startF nl ws) (start N vs) := by
  have hl := r.length
  refine ⟨?_, fun i w e => ?_⟩
  · unfold startF L2.start
    rw [List.length_append, List.length_append, List.length_map, List.length_map, List.length_replicate, List.length_replicate, hl, hn]
  · unfold startF at e
    by_cases hi : i < ws.length
    · rw [List.getElem?_append_left (by rw [List.length_map]; exact hi), List.getElem?_map] at e
      have e1 : ws[i]? = some w := by
        cases q : ws[i]? with
        | none => rw [q] at e; cases e
        | some w' => rw [q] at e; cases e; rfl
      obtain ⟨v, hv, hr⟩ : ∃ v, vs[i]? = some v ∧ RepW g (frz H ra) ra w v := by
        clear e hl hi
        induction r generalizing i with
        | nil => simp at e1
        | @cons w0 v0 ws vs h t ih =>
          cases i with
          | zero => simp at e1; subst e1; exact ⟨v0, rfl, h⟩
          | succ i => simp at e1; obtain ⟨v, h1, h2⟩ := ih i e1; exact ⟨v, by simpa using h1, h2⟩
      refine ⟨v, ?_, hr⟩
      unfold L2.start
      have hv' : i < vs.length := (List.getElem?_eq_some_iff.mp hv).1
      rw [List.getElem?_append_left (by rw [List.length_map]; exact hv'), List.getElem?_map, hv]
      rfl
    · rw [List.getElem?_append_right (by rw [List.length_map]; omega)] at e
      have := List.mem_of_getElem? e
      rw [List.mem_replicate] at this
      exact absurd this.2 (by simp)
/-- a def's end -/
theorem end_post {r : RS} {Q : VK} {E : XK} {cs : Cells} (R : Rel g ra cs H) (h : PostR g (fun H' d v => Rep g (frz H' ra) d v) (endD cs.length r) ra H Q E) : PostS g (fun c d _ H' => E c d H') (bs0 ra H) r { nx := fun _ H' => Q .non H', rt := Q } := by
  have hb := R.len
  cases r with
  | nx fr c =>
    rintro ra' H' σ ⟨_, ext, rfl, h2, _⟩ R' _
    exact h H' .non h2 (R'.base hb) .non
  | rt w c =>
    rintro ra' H' v ⟨_, ext, rfl, h2, _⟩ R' r'
    change PostR g _ (retD cs.length w c) ra H Q E at h
    unfold retD at h
    split at h
    · exact h H' v h2 (R'.base hb) (Rep.mono same_base r')
    · rename_i n
      obtain ⟨a, rfl, ha⟩ := r'
      split at h
      · rename_i hle
        have hna : ∀ {H : Hp}, some a ∉ ra := fun {_} z => by
          obtain ⟨m, hm⟩ := mem_ra z
          have hml : m < ra.length := (List.getElem?_eq_some_iff.mp hm).1
          have := R'.inj n m a ha (by rw [show (bs0 ra H).ra0 = ra from rfl, List.getElem?_append_left hml]; exact hm)
          omega
        split at h
        · rename_i xs hc
          obtain ⟨a', ha', vs, h3, h4⟩ := R'.cell _ _ hc
          rw [ha] at ha'; cases ha'
          exact h H' _ h2 (R'.base hb) (.lst (frz_at h3 (hna (H := H))) (h4.mono same_base))
        · rename_i c' fs hc
          obtain ⟨a', ha', dx, vs, h3, h4⟩ := R'.cell _ _ hc
          rw [ha] at ha'; cases ha'
          exact h H' _ h2 (R'.base hb) (.ins (frz_at h3 (hna (H := H))) (h4.mono same_base))
        · exact h.elim
      · exact h.elim
  | ex c x fr c2 =>
    rintro ra' H' σ dd v ⟨_, ext, rfl, h2, _⟩ R' _ e r'
    exact h H' dd v h2 (R'.base hb) e (Rep.mono same_base r')
  | bk fr c => exact h.elim
  | ct fr c => exact h.elim
  | bad => exact h.elim
theorem endL_post {r : RS} {Q : VK} {E : XK} {cs : Cells} (R : Rel g ra cs H) (h : PostL g (endL cs.length r) ra H Q E) : PostS g (fun c d _ H' => E c d H') (bs0 ra H) r { nx := fun _ H' => Q .non H', rt := Q } := by
  have hb := R.len
  cases r with
  | nx fr c => exact h.elim
  | rt w c =>
    rintro ra' H' v ⟨_, ext, rfl, h2, h3⟩ R' r'
    change PostL g (retL cs.length w c) ra H Q E at h
    unfold retL at h
    split at h
    · exact h.elim
    · rename_i n
      obtain ⟨a, rfl, ha⟩ := r'
      split at h
      · rename_i hle
        have hna : some a ∉ ra := fun z => by
          obtain ⟨m, hm⟩ := mem_ra z
          have hml : m < ra.length := (List.getElem?_eq_some_iff.mp hm).1
          have := R'.inj n m a ha (by rw [show (bs0 ra H).ra0 = ra from rfl, List.getElem?_append_left hml]; exact hm)
          omega
        split at h
        · rename_i xs hc
          obtain ⟨a', ha', vs, h5, h6⟩ := R'.cell _ _ hc
          rw [ha] at ha'; cases ha'
          have hext : some a ∈ ext := by
            have : some a ∈ ra ++ ext := ra_mem ha
            rcases List.mem_append.mp this with z | z
            · exact absurd z hna
            · exact z
          have hs : Same (frz H' (ra ++ ext)) (frz H' (ra ++ [some a])) := frz_sub fun x z => by
            rcases List.mem_append.mp z with z | z
            · exact List.mem_append_left _ z
            · rw [List.mem_singleton.mp z]; exact List.mem_append_right _ hext
          have Rb : Rel g ra (c.take cs.length) H' := R'.base hb
          refine h H' a h2 (h3 a hext) ⟨by rw [List.length_append, List.length_append, Rb.len]; rfl, fun m c2 e => ?_, fun m e => ?_, fun m1 m2 x e1 e2 => ?_, R'.tabs⟩
          · by_cases hm : m < (c.take cs.length).length
            · rw [List.getElem?_append_left hm] at e
              have hm' : m < ra.length := by rw [Rb.len]; exact hm
              have hlt2 : m < cs.length := by rw [← hb]; exact hm'
              rw [List.getElem?_take_of_lt hlt2] at e
              obtain ⟨x, hx, hcx⟩ := R'.cell _ _ e
              rw [show (bs0 ra H).ra0 = ra from rfl, List.getElem?_append_left hm'] at hx
              exact ⟨x, by rw [List.getElem?_append_left hm']; exact hx, hcx.mono hs rfl⟩
            · rw [List.getElem?_append_right (by omega)] at e
              have hm0 : m - (c.take cs.length).length = 0 := by
                have := (List.getElem?_eq_some_iff.mp e).1
                simp at this
                simp
                omega
              rw [hm0] at e
              cases e
              refine ⟨a, ?_, vs, h5, h6.mono hs⟩
              have hme : m = ra.length := by rw [Rb.len]; omega
              rw [hme]; simp
          · by_cases hm : m < (c.take cs.length).length
            · rw [List.getElem?_append_left hm] at e
              have hm' : m < ra.length := by rw [Rb.len]; exact hm
              rw [List.getElem?_append_left hm']
              exact Rb.dead _ e
            · rw [List.getElem?_append_right (by omega)] at e
              have hm0 : m - (c.take cs.length).length = 0 := by
                have := (List.getElem?_eq_some_iff.mp e).1
                simp at this
                simp
                omega
              rw [hm0] at e
              cases e
          · have g1 : ∀ {m : Nat}, (ra ++ [some a])[m]? = some (some x) → (m < ra.length ∧ ra[m]? = some (some x)) ∨ (m = ra.length ∧ x = a) := fun {m} q => by
              by_cases hm : m < ra.length
              · rw [List.getElem?_append_left hm] at q; exact .inl ⟨hm, q⟩
              · rw [List.getElem?_append_right (by omega)] at q
                have hl := (List.getElem?_eq_some_iff.mp q).1
                simp at hl
                have : m - ra.length = 0 := by omega
                rw [this] at q
                cases q
                exact .inr ⟨by omega, rfl⟩
            rcases g1 e1 with ⟨l1, q1⟩ | ⟨l1, q1⟩ <;> rcases g1 e2 with ⟨l2, q2⟩ | ⟨l2, q2⟩
            · exact Rb.inj _ _ _ q1 q2
            · exact absurd (q2 ▸ ra_mem q1) hna
            · exact absurd (q1 ▸ ra_mem q2) hna
            · omega
        · exact h.elim
      · exact h.elim
  | ex c x fr c2 =>
    rintro ra' H' σ dd v ⟨_, ext, rfl, h2, _⟩ R' _ e r'
    exact h H' dd v h2 (R'.base hb) e (Rep.mono same_base r')
  | bk fr c => exact h.elim
  | ct fr c => exact h.elim
  | bad => exact h.elim
end
/-- a def that is handed a lambda: pre, the slots set to None; tgt, the slot of the lambda's answer; ks, the classes caught; i, the slot of the caught name; j, the slot that keeps it; what follows -/
structure DeedD where
  pre : List Nat
  tgt : Option Nat
  ks : List Nat
  i : Nat
  j : Nat
  rest : S
  nl : Nat
def deedR (tgt : Option Nat) (fr : Fra) : R D → RS
  | .ok d cs => match tgt with
    | some i => .nx (fr.set i (some (.d d))) cs
    | none => .nx fr cs
  | .exc c x cs => .ex c x fr cs
  | .bad => .bad
def preF (nl : Nat) (pre : List Nat) : Fra := pre.foldl (fun fr i => fr.set i (some (.d .non))) (List.replicate nl none)
def fnRunD (wd : Wd) (n : Nat) (d : DeedD) (th : Cells → R D) (cs : Cells) : R D :=
  endD cs.length ((holdR wd d.ks d.i d.j (deedR d.tgt (preF d.nl d.pre) (th cs))).bind fun fr c1 => exS wd n cs.length d.rest fr c1)
def toD (r : R W) : R D := r.bind fun w cs => match w with
  | .d d => .ok d cs
  | _ => .bad
/-! ### a table of defs -/
structure Tab where
  st : Ws
  fn : Nat → Option (S × Nat)
  dn : Nat → Option DeedD
def Tab.wd0 (T : Tab) : Wd := { toWs := T.st, phi := fun _ _ _ => .bad, phl := fun _ _ _ => .bad, phd := fun _ _ _ => .bad, phc := fun _ _ _ => .bad }
def Tab.step (T : Tab) (n : Nat) (wd : Wd) : Wd :=
  { toWs := T.st
    phi := fun f ws cs => match T.fn f with
      | some (s, nl) => fnRun wd n s nl ws cs
      | none => .bad
    phl := fun f ws cs => match T.fn f with
      | some (s, nl) => fnRunL wd n s nl ws cs
      | none => .bad
    phd := fun f th cs => match T.dn f with
      | some d => fnRunD wd n d th cs
      | none => .bad
    phc := fun t fr cs => toD (ev wd t fr cs) }
def Tab.at (T : Tab) (n : Nat) : Nat → Wd
  | 0 => T.wd0
  | j + 1 => T.step n (T.at n j)
theorem Tab.at_st (T : Tab) (n : Nat) : ∀ j, (T.at n j).toWs = T.st
  | 0 => rfl
  | _ + 1 => rfl
/-- what defs do, calls j deep -/
def Tab.phs (T : Tab) (n j : Nat) : (Nat → List W → Cells → R D) × (Nat → List W → Cells → R Unit) := ((T.at n j).phi, (T.at n j).phl)
/-- what is said of the written part, the defs' promises apart -/
structure Fst (g : G) (wd : Ws) : Prop where
  nm : ∀ f x, wd.fnm f = some x → g.mg x = some (.ref (g.fa f)) ∧ PySem.W.keepIn g.K (.ref (g.fa f)) = true
  pat : ∀ f p n ks pm, wd.pat f p = some (n, ks, pm) → (∀ x, Src.d x ∈ pm → (flatV? x).isSome = true) ∧ pm.length = (g.ps f).length ∧ ∃ gg, KBn g.K (g.fd f) (g.ps f) n ks gg fun vs zs => srcV vs zs pm
  npar : ∀ f, wd.npar f = (g.ps f).length
  gd : ∀ x d, wd.gd x = some d → ∃ u v, g.mg x = some u ∧ RelV v u ∧ ∀ F, Rep g F d v
  bi : ∀ b : Bi, g.mg b.name = none
  bx : g.mg "range" = none ∧ g.mg "enumerate" = none ∧ g.mg "zip" = none ∧ g.mg "isinstance" = none
  br : g.mg "repr" = none
  bt : g.mg "int" = none ∧ g.mg "str" = none ∧ g.mg "bool" = none ∧ g.mg "tuple" = none ∧ g.mg "list" = none
  cnm : ∀ c x, wd.cnm c = some x → g.mg x = some (.ref (g.ca c))
  mk_ : ∀ c f, wd.init c = some f → Mk g.K (g.ca c) (g.fa f)
  fld : ∀ c f, wd.fldk c f = true → Cls g.K (g.ca c) ∧ NoAttr g.K (g.ca c) f
  meth : ∀ c m f, wd.meth c m = some f → Cls g.K (g.ca c) ∧ Meth g.K (g.ca c) m (g.fa f) ∧ Binds g.K (g.fd f) (g.ps f) []
  sup : ∀ d c m f, wd.sup d c m = some f → PySem.W.mroIn g.K (g.ca c) (.ref (g.ca d)) = some true ∧ PySem.W.ks_superIn g.K (g.ca c) (g.ca d) m = some (some (.ref (g.fa f))) ∧ PySem.W.typeIn g.K (.ref (g.fa f)) = some (.type "function") ∧ PySem.W.fnIn g.K (g.fa f) = true ∧ Binds g.K (g.fd f) (g.ps f) []
  prop : ∀ c m f, wd.prop c m = some f → Cls g.K (g.ca c) ∧ (∃ p, PropOf g.K (g.ca c) m p (g.fa f)) ∧ (g.ps f).length = 1 ∧ Binds g.K (g.fd f) (g.ps f) []
  kit : ∀ t u b, wd.kit t u = some b → PySem.W.kitOne g.K (tyVal g t) (tyVal g u) = some b
  kitc : ∀ c u b, wd.kit (.c c) u = some b → Cls g.K (g.ca c) ∧ PySem.W.findIn g.K (.ref (g.ca c)) "__class__" = some (some (.builtin "object.__class__")) ∧
    PySem.W.specialIn g.K (.builtin "object.__class__") "__get__" = some (some (.builtin "getset_descriptor.__get__")) ∧ PySem.W.takesIn g.K (.builtin "object.__class__") = some true ∧ PySem.W.mroIn g.K (g.ca c) (.type "object") = some true
  kitx : ∀ c u b, wd.kit (.x c) u = some b → ExcC g.K (g.ca c)
  exk : ∀ c x p, wd.exk c = some (x, p) → p = g.efld c ∧ g.mg x = some (.ref (g.ca c)) ∧ PySem.W.keepIn g.K (.ref (g.ca c)) = true ∧ MkX g.P g.w g.K g.mg (g.ca c) p ∧ PySem.W.typeIn g.K (.ref (g.ca c)) = some (.type "type") ∧ ExcC g.K (g.ca c) ∧ PySem.W.findIn g.K (.ref (g.ca c)) p = some none
  lams : wd.lams = g.lams
  oeq : ∀ c t f, wd.oeq c t = some f → PySem.W.findIn g.K (.ref (g.ca c)) "__eq__" = some (some (.ref (g.fa f))) ∧ PySem.W.isFn g.K (.ref (g.fa f)) = true ∧ Binds g.K (g.fd f) (g.ps f) [] ∧ (g.ps f).length = 2 ∧ PySem.W.notFirst g.K (g.ca c) (tyVal g t) = true
  one : ∀ c t f, wd.one c t = some f → (PySem.W.findIn g.K (.ref (g.ca c)) "__eq__" = some (some (.ref (g.fa f))) ∧ PySem.W.isFn g.K (.ref (g.fa f)) = true ∧ Binds g.K (g.fd f) (g.ps f) [] ∧ (g.ps f).length = 2 ∧ PySem.W.notFirst g.K (g.ca c) (tyVal g t) = true) ∧ PySem.W.findIn g.K (.ref (g.ca c)) "__ne__" = some (some (.builtin "object.__ne__")) ∧ PySem.W.subIn g.K (.ref (g.ca c)) (.type "object") = some true
  cmt : ∀ c m f, wd.cmt c m = some f → ∃ mc p, ClX.CRead g.K (g.ca c) mc ∧ ClX.CMet g.K (g.ca c) mc m p (g.fa f)
  patv : ∀ f p n ks pm, wd.patv f p = some (n, ks, pm) → (∀ x, Src.d x ∈ pm → (flatV? x).isSome = true) ∧ pm.length = (g.ps f).length ∧ ∃ gg, KBv g.K (g.fd f) (g.ps f) n ks gg fun vs zs => srcV vs zs pm
  oin : ∀ c f, wd.oin c = some f → PySem.W.findIn g.K (.ref (g.ca c)) "__contains__" = some (some (.ref (g.fa f))) ∧ PySem.W.isFn g.K (.ref (g.fa f)) = true ∧ Binds g.K (g.fd f) (g.ps f) [] ∧ (g.ps f).length = 2
  exm : ∀ ks c b, wd.exm ks c = some b → PySem.W.exmAny g.K (.ref (g.ca c)) (ks.map fun k => .ref (g.ca k)) = some b
/-- what is said of each def's text -/
structure FnT (g : G) (T : Tab) (f : Nat) (s : S) (nl : Nat) : Prop where
  ex : ∃ (N : List Str) (x qual : Str) (params : Arguments) (body : List Stmt) (scope : Scope) (dvs : List V) (kws : List (Str × V)), FunD g.K x qual params body scope dvs kws (g.fa f) (g.fd f) ∧ FnScope N (g.ps f) scope ∧ N.length = nl ∧
    chkSs T.st N scope s body = true ∧ (scope ∈ g.lams → ∃ c P, (g.fd f).code = .ref c ∧ LamX.TabB g.base g.mg c P ∧ (P, (qual ++ ".<locals>.") ++ "<lambda>") ∈ g.T ∧ ∀ p ∈ g.T, p.1 = P → p.2 = (qual ++ ".<locals>.") ++ "<lambda>")
theorem Fst.fx {g : G} {wd : Wd} {st : Ws} {k : Nat} (F : Fst g st) (e : wd.toWs = st)
    (h1 : ∀ f, FnG g.P g.w g.K g.mg g.base (L2.CX g.P g.w) k (g.fa f) (g.fd f) (g.ps f) (spOf g (g.ps f).length (wd.phi f)))
    (h2 : ∀ f, FnG g.P g.w g.K g.mg g.base (L2.CX g.P g.w) k (g.fa f) (g.fd f) (g.ps f) (spOfL g (g.ps f).length (wd.phl f)))
    (h3 : ∀ f, FnD g g.P g.w g.K g.mg g.base (k + 1) f (wd.phd f)) (h4 : (∃ kk, kk + 3 = k) ∨ ∀ f th cs, wd.phd f th cs = .bad)
    (h5 : ∀ {t : E} {N : List Str} {scope : Scope} {body : Expr} {X : Cx} {Wx : WX} {kk : Nat}, kk + 3 = k → chk wd N scope t body = true → Okx g N scope false kk X Wx → PE X body (tE g Wx fun fr cs => (wd.phc t fr cs).map W.d)) : Fx g wd k := by
  subst e
  exact ⟨h1, h2, F.nm, F.pat, F.npar, F.gd, F.bi, F.bx, F.br, F.bt, F.cnm, F.mk_, F.fld, F.meth, F.sup, F.prop, F.kit, F.kitc, F.kitx, F.exk, F.lams, F.oeq, F.one, F.cmt, F.patv, F.oin, F.exm, h3, h4, h5⟩
theorem ok_none {g : G} {k f : Nat} {sp : Sp} (h : ∀ vs H Q E, ¬ sp vs H Q E) : FnG g.P g.w g.K g.mg g.base (L2.CX g.P g.w) k (g.fa f) (g.fd f) (g.ps f) sp :=
  ⟨fun vs H Q E q => absurd q (h _ _ _ _), fun A outer s H args Q E hr hgd e0 ⟨_, _, hs⟩ _ => absurd hs (h _ _ _ _)⟩
/-- a def by its body -/
theorem okG {CX : CXT} {P : Program} {w : World} {K : PySem.W.Frag} {mg : Str → Option Value} {base : Heap} {N ps : List Str} {x qual : Str} {params : Arguments} {body : List Stmt} {scope : Scope} {dvs : List V} {kws : List (Str × V)} {f : Addr} {fd : FuncData} {k : Nat} {sp : Sp}
    (F : FunD K x qual params body scope dvs kws f fd) (Sc : FnScope N ps scope) (len : ∀ vs H Q E, sp vs H Q E → vs.length = ps.length)
    (hbody : ∀ (cdv : Value), fd.code = cdv → ∀ (A : Around) (outer : List Env) (s : Shared) (H : Hp) (vs : List V) (Q : VK) (E : XK), Room k (A.deeper (PyProof.Rows.envOfC qual scope s.heap.objs.size f cdv)) → (A.deeper (PyProof.Rows.envOfC qual scope s.heap.objs.size f cdv)).guards = some [] → sp vs H Q E →
      ∃ t, PSs (cxOf CX P w K mg base N qual scope f cdv A outer s H E) body t ∧ t { nx := fun _ H' => Q .non H', rt := Q } (L2.start N vs) H) : FnG P w K mg base CX (k + 1) f fd ps sp := by
  obtain ⟨oc, od, dV, kV, doc, pm, an, cdv, ct, osl, rfl, lk, hcd, _, _⟩ := F.ex
  refine ⟨len, fun A outer s H args Q E hr hgd e0 _ hb => ?_⟩
  have KX : K.In s.heap := e0.mod.kin.keeps fun b o e => (e0.bs b o e).1
  refine codeAny_call_function hr.depth (KX _ _ lk) rfl Sc.co Sc.gen rfl (PySem.W.codeRec_of KX hcd) ?_
  refine hb _ _ _ fun s2 H2 vs us e2 un ho hx r hl hsp => ?_
  have lim : s2.heap.NoLimit := e0.mod.nolimit.keeps fun b o e => (e2.bs b o e).1
  have hkind : ∀ y ∈ ps.zip us, scope.names.lookup y.1 = some .local ∨ (scope.names.lookup y.1 = some .cell ∧ ((cellsFrom (s2.heap.objs.size + 1) scope.names []).lookup y.1).isSome = true) := fun ⟨n, v⟩ hy => by
    rcases Sc.par n (List.of_mem_zip hy).1 with q | q
    · exact .inl q
    · exact .inr ⟨q, PySem.W.cellsFrom_some _ _ _ (.inl q)⟩
  refine wpAny_newFunctionEnv_cells (s := s2) Sc.kind hkind fun env he s1 x => ?_
  subst he
  refine ⟨lim.keeps x.toInCall.keep, codeAny_func ?_⟩
  obtain ⟨t, ht, hq⟩ := hbody cdv rfl A outer s2 H2 vs Q E (hr.deeper _) hgd hsp
  have I : Inv (cxOf CX P w K mg base N qual scope f cdv A outer s2 H2 E) [] (L2.start N vs) H2 s1 := inv_start Sc hr.hd e2 hl r x
  refine wpAny_mono (ht.run [] s1 (L2.start N vs) H2 _ I hq) (fun fl s' hs => ?_) fun e s' hs => ?_
  · have fin : ∀ {σ' : L2.St} {H' : Hp} {v : V} {u : Value}, Inv (cxOf CX P w K mg base N qual scope f cdv A outer s2 H2 E) [] σ' H' s' → RelV v u → Q v H' → CE outer P w H s Q u s' :=
      fun {σ' H' v u} J rv q => ⟨v, H', J.os.trans ho, J.bare, un.trans J.base, J.hok, rv, q⟩
    cases fl with
    | ret u =>
      obtain ⟨v, σ', H', J, rv, q⟩ := hs
      exact fin J rv q
    | next =>
      obtain ⟨σ', H', J, q⟩ := hs
      exact fin (v := V.non) (u := Value.none) J rfl q
    | brk =>
      obtain ⟨_, _, _, q⟩ := hs
      exact False.elim q
    | cont =>
      obtain ⟨_, _, _, q⟩ := hs
      exact False.elim q
  · exact wpAny_mono hs (fun _ s'' z => hx e s'' z) fun e' s'' z => hx e' s'' z
theorem ok_fn {g : G} {T : Tab} {k n f nl : Nat} {s : S} {wd : Wd} (F : Fx g wd k) (est : wd.toWs = T.st) (t : FnT g T f s nl) :
    FnG g.P g.w g.K g.mg g.base (L2.CX g.P g.w) (k + 3) (g.fa f) (g.fd f) (g.ps f) (spOf g (g.ps f).length (fnRun wd n s nl)) := by
  obtain ⟨N, x, qual, params, body, scope, dvs, kws, D, Sc, hN, hc, hlam⟩ := t.ex
  refine okG D (k := k + 2) Sc (fun vs H Q E h => ?_) (fun cdv hcd A outer s' H vs Q E hr hgd h => ?_)
  · obtain ⟨ws, cs, ra, R, r, hl, _⟩ := h
    rw [← r.length]; exact hl
  · obtain ⟨ws, cs, ra, R, r, hl, post⟩ := h
    have ok : Okx g N scope true k (cxOf (L2.CX g.P g.w) g.P g.w g.K g.mg g.base N qual scope (g.fa f) cdv A outer s' H E) (fun c d _ H' => E c d H') :=
      ⟨rfl, rfl, rfl, rfl, rfl, rfl, Sc.nd, rfl, rfl, fun _ _ _ => rfl, hr, takes_of rfl rfl rfl rfl, hgd, fun h => by
        obtain ⟨c, P, e1, e2⟩ := hlam h
        exact ⟨c, P, by rw [← e1, hcd]; rfl, e2⟩, fun _ => ⟨rfl, rfl, rfl⟩⟩
    refine ⟨_, (sndS F s).l (n := n) (b := cs.length) ok (passes_of rfl) body (by rw [est]; exact hc), ?_⟩
    exact ⟨bs0 ra H, _, cs, ra, R.len, bs0_ok ra H, R, start_ok r hN, end_post R post⟩
theorem ok_fnL {g : G} {T : Tab} {k n f nl : Nat} {s : S} {wd : Wd} (F : Fx g wd k) (est : wd.toWs = T.st) (t : FnT g T f s nl) :
    FnG g.P g.w g.K g.mg g.base (L2.CX g.P g.w) (k + 3) (g.fa f) (g.fd f) (g.ps f) (spOfL g (g.ps f).length (fnRunL wd n s nl)) := by
  obtain ⟨N, x, qual, params, body, scope, dvs, kws, D, Sc, hN, hc, hlam⟩ := t.ex
  refine okG D (k := k + 2) Sc (fun vs H Q E h => ?_) (fun cdv hcd A outer s' H vs Q E hr hgd h => ?_)
  · obtain ⟨ws, cs, ra, R, r, hl, _⟩ := h
    rw [← r.length]; exact hl
  · obtain ⟨ws, cs, ra, R, r, hl, post⟩ := h
    have ok : Okx g N scope true k (cxOf (L2.CX g.P g.w) g.P g.w g.K g.mg g.base N qual scope (g.fa f) cdv A outer s' H E) (fun c d _ H' => E c d H') :=
      ⟨rfl, rfl, rfl, rfl, rfl, rfl, Sc.nd, rfl, rfl, fun _ _ _ => rfl, hr, takes_of rfl rfl rfl rfl, hgd, fun h => by
        obtain ⟨c, P, e1, e2⟩ := hlam h
        exact ⟨c, P, by rw [← e1, hcd]; rfl, e2⟩, fun _ => ⟨rfl, rfl, rfl⟩⟩
    refine ⟨_, (sndS F s).l (n := n) (b := cs.length) ok (passes_of rfl) body (by rw [est]; exact hc), ?_⟩
    exact ⟨bs0 ra H, _, cs, ra, R.len, bs0_ok ra H, R, start_ok r hN, endL_post R post⟩
end BV
namespace BV
open PySem L2
/-! ### super().m(..) in the first statement of a method -/
def PEa (X : Cx) (body : List Stmt) (e : Expr) (t : TE) : Prop := ∀ (pins : List (Addr × Obj)) (s : Shared) (σ : L2.St) (H : Hp) (Q : VK), Inv X pins σ H s → t σ H Q →
  PySem.wpAt (model X.prog X.w) X.A (.func body X.env) (eval e X.env) (EP X pins σ Q) X.xe s
/-- what is true of such a method's context: d its class -/
structure SupX (X : Cx) (D : Addr) : Prop where
  k1 : X.env.kindOf "super" = some .globalImplicit
  k2 : X.env.kindOf "__class__" = some .free
  nm : X.mg "super" = none
  top : (X.prog.main.scope.names.lookup ("super" : Str)).isSome = false
  cls : ∃ cd, PySem.W.clsIn X.K D = some cd
  cell : ∃ cc cl cld csl, X.env.cells.lookup ("__class__" : Str) = some cc ∧ X.K.lookup cc = some ⟨cl, cld, .cell (some (.ref D)), csl⟩
  code : ∃ cda oc vs file tf, X.env.code = .ref cda ∧ X.K.lookup cda = some oc ∧ oc.data = .fields vs ∧ vs[2]? = some (.str file tf) ∧ ((X.prog.main.file : Str) == file) = true
  fn : ∃ f of fd ar, X.env.func = some f ∧ X.K.lookup f = some of ∧ of.data = .func fd ∧ (fd.params.posonlyargs ++ fd.params.args).head? = some ar ∧ X.N[0]? = some ar.arg ∧ X.env.kindOf ar.arg = some .local
  opq : PySem.W.nsIn X.K cStatics "thirdparty.any" = some none
section
variable {g : G} {wd : Wd} {N : List Str} {sc : Scope} {ac : Bool} {k n b : Nat} {X : Cx} {Wx : WX} {fa fb : Fra → Cells → R W} {fl : Fra → Cells → R (List W)} {l r e : Expr} {es : List Expr} {p : Pos} {body : List Stmt}
theorem PEa.of {t : TE} (h : PE X e t) : PEa X body e t := fun pins s σ H Q I q => PySem.wpAt_of_wpAny (h.run pins s σ H Q I q)
theorem PEa.imp {t t' : TE} (h : PEa X body e t) (i : ∀ σ H Q, t' σ H Q → t σ H Q) : PEa X body e t' := fun pins s σ H Q I q => h pins s σ H Q I (i σ H Q q)
theorem PEa.eqf {f f' : Fra → Cells → R W} (h : PEa X body e (tE g Wx f)) (q : ∀ fr cs, f fr cs = f' fr cs) : PEa X body e (tE g Wx f') := by
  have : f = f' := funext fun a => funext fun b => q a b
  rw [← this]; exact h
def PSa (X : Cx) (body : List Stmt) (st : Stmt) (t : TS) : Prop := ∀ (pins : List (Addr × Obj)) (s : Shared) (σ : L2.St) (H : Hp) (D : Ends), Inv X pins σ H s → t D σ H →
  PySem.wpAt (model X.prog X.w) X.A (.func body X.env) (exec st X.env) (SP X pins D) X.xe s
theorem PSa.imp {st : Stmt} {t t' : TS} (h : PSa X body st t) (i : ∀ D σ H, t' D σ H → t D σ H) : PSa X body st t' := fun pins s σ H D I q => h pins s σ H D I (i D σ H q)
theorem psa_expr {te : TE} (he : PEa X body e te) (hs : isComp e = false) : PSa X body (.Expr e p) (tDrop te) := fun pins s σ H D I h =>
  PySem.ks_wpAt_Expr_any (PySem.wpAt_mono (he pins s σ H _ I h) (fun v s1 ⟨x, H1, I1, r1, q1⟩ => ⟨σ, H1, I1, q1⟩) fun _ _ z => z) I.quiet (swap_no hs)
theorem psa_ret {te : TE} (he : PEa X body e te) : PSa X body (.Return (some e) p) (tRet te) := fun pins s σ H D I h =>
  PySem.ks_wpAt_Return_some (PySem.wpAt_mono (he pins s σ H _ I h) (fun v s1 ⟨x, H1, I1, r1, q1⟩ => ⟨x, σ, H1, I1, r1, q1⟩) fun _ _ z => z)
theorem psa_set {i : Nat} {t : Expr} {te : TE} (ok : Okx g N sc true k X Wx) (h : chkNm N sc true i t = true) (he : PEa X body e te) (hs : isComp e = false) : PSa X body (.Assign [t] e p) (tAsg te (gName i)) := by
  cases t <;> first | (simp [chkNm] at h; done) | skip
  rename_i x px
  simp only [chkNm, Bool.and_eq_true, decide_eq_true_eq] at h
  obtain ⟨h3, h4⟩ := loc_of ok h.2
  intro pins s σ H D I q
  refine PySem.ks_wpAt_Assign_Name (PySem.wpAt_mono (he pins s σ H _ I q) (fun v s1 ⟨y, H1, I1, r1, q1⟩ => ?_) fun _ _ z => z) (swap_no hs)
  exact store_ok I1 (by rw [ok.hN]; exact ok.nd) (by rw [ok.hN]; exact h.1) h3 r1 (fun s2 I2 => ⟨_, H1, I2, q1⟩) h4
theorem pssa_cons {st : Stmt} {rest : List Stmt} {t u : TS} (h1 : PSa X body st t) (h2 : PSs X rest u) : ∀ (pins : List (Addr × Obj)) (s : Shared) (σ : L2.St) (H : Hp) (D : Ends), Inv X pins σ H s → tSeq t u D σ H →
    PySem.wpAt (model X.prog X.w) X.A (.func body X.env) (execs (st :: rest) X.env) (SP X pins D) X.xe s := fun pins s σ H D I h => by
  refine PySem.ks_wpAt_execs_cons (PySem.wpAt_mono (h1 pins s σ H { D with nx := u D } I h) (fun f s1 q => ?_) fun _ _ z => z)
  cases f with
  | next =>
    obtain ⟨σ', H', I', q⟩ := q
    exact PySem.wpAt_of_wpAny (h2.run pins s1 σ' H' D I' q)
  | ret v => exact q
  | brk => exact q
  | cont => exact q
theorem pea_op {o : Operator} (ok : Okx g N sc ac k X Wx) (ha : PEa X body l (tE g Wx fa)) (hb : PEa X body r (tE g Wx fb)) : PEa X body (.BinOp l o r p) (tE g Wx fun fr cs => (fa fr cs).bind fun w1 c1 => (fb fr c1).bind fun w2 c2 => wOp o w1 w2 c2) := by
  rintro pins s σ H Q I ⟨fr, cs, ra, R, Fr, q⟩
  refine PySem.ks_wpAt_BinOp2 (PySem.wpAt_mono (ha pins s σ H _ I ⟨fr, cs, ra, R, Fr, PostR.bind (rp := rpW g ra) q⟩) (fun v s1 ⟨x, H1, I1, r1, w1, c1, k1, R1, rw1, p1⟩ => ?_) fun _ _ z => z)
  refine PySem.wpAt_mono (hb pins s1 σ H1 _ I1 ⟨fr, c1, ra, R1, Fr.mono k1, PostR.bind (rp := rpW g ra) p1⟩) (fun u s2 ⟨y, H2, I2, r2, w2, c2, k2, R2, rw2, p2⟩ => ?_) fun _ _ z => z
  exact op_all o pins s2 σ H2 x y v u Q I2 r1 r2 (by rw [ok.K]; exact wOp_ok R2 (rw1.mono k2.same) rw2 p2)
def chkAt (wd : Ws) (N : List Str) (sc : Scope) (d : Nat) : E → Expr → Bool
  | .op o a b, ex => match ex with
    | .BinOp l o' r _ => decide (o = o') && (chkAt wd N sc d a l || chk wd N sc a l) && (chkAt wd N sc d b r || chk wd N sc b r)
    | _ => false
  | .var .., _ => false
  | .cst .., _ => false
  | .gv .., _ => false
  | .cmp .., _ => false
  | .chain .., _ => false
  | .and .., _ => false
  | .or .., _ => false
  | .not .., _ => false
  | .ife .., _ => false
  | .nil .., _ => false
  | .cons .., _ => false
  | .tup .., _ => false
  | .lst .., _ => false
  | .ix .., _ => false
  | .sl .., _ => false
  | .bi .., _ => false
  | .isi .., _ => false
  | .bm .., _ => false
  | .call .., _ => false
  | .make .., _ => false
  | .fld .., _ => false
  | .meth .., _ => false
  | .lc .., _ => false
  | .neg .., _ => false
  | .rep .., _ => false
  | .rng1 .., _ => false
  | .itl .., _ => false
  | .itt .., _ => false
  | .zip .., _ => false
  | .lam .., _ => false
  | .dct0 .., _ => false
  | .dct4 .., _ => false
  | .dix .., _ => false
  | .callv .., _ => false
  | .lrng .., _ => false
def chkS1 (wd : Ws) (N : List Str) (sc : Scope) (d : Nat) : S → Stmt → Bool
  | .expr e, .Expr v _ => !isComp v && chkAt wd N sc d e v
  | .set i e, .Assign [t] v _ => chkNm N sc true i t && !isComp v && chkAt wd N sc d e v
  | .ret e, .Return (some v) _ => chkAt wd N sc d e v
  | _, _ => false
def chkFS (wd : Ws) (N : List Str) (sc : Scope) (d : Nat) : S → List Stmt → Bool
  | .cons s r, st :: ss => chkS1 wd N sc d s st && chkSs wd N sc r ss
  | _, _ => false
theorem sndAt (F : Fx g wd k) {d : Nat} (ok : Okx g N sc ac k X Wx) (S : SupX X (g.ca d)) : ∀ (z : E) (ex : Expr), chkAt wd N sc d z ex = true → PEa X body ex (tE g Wx (ev wd z)) := by
  intro z
  induction z with
  | op o a b iha ihb =>
    intro ex h
    cases ex <;> first | exact absurd h Bool.false_ne_true | (simp [chkAt] at h; done) | skip
    simp only [chkAt, Bool.and_eq_true, Bool.or_eq_true, decide_eq_true_eq] at h
    obtain ⟨⟨rfl, h1⟩, h2⟩ := h
    have ha := h1.elim (iha _) fun z => PEa.of (body := body) ((snd F a).ex_ ok z)
    have hb := h2.elim (ihb _) fun z => PEa.of (body := body) ((snd F b).ex_ ok z)
    exact (pea_op ok ha hb).eqf fun fr cs => by rw [ev]
  | _ => intro ex h; exact absurd h Bool.false_ne_true
theorem sndS1 (F : Fx g wd k) {d : Nat} (ok : Okx g N sc true k X Wx) (S : SupX X (g.ca d)) (z : BV.S) (st : Stmt) (h : chkS1 wd N sc d z st = true) : PSa X body st (tS g Wx b (exS wd n b z)) := by
  cases z <;> first | (cases st <;> exact absurd h Bool.false_ne_true; done) | (cases st <;> simp [chkS1] at h; done) | skip
  · rename_i i e
    cases st <;> first | exact absurd h Bool.false_ne_true | (simp [chkS1] at h; done) | skip
    rename_i ts v p
    match ts, h with
    | [t], h =>
      simp only [chkS1, Bool.and_eq_true, Bool.not_eq_true'] at h
      exact PSa.imp (psa_set ok h.1.1 (sndAt F ok S e v h.2) h.1.2) fun D σ H q => r_set (tS_eq (fun fr cs => by rw [exS]) q)
  · rename_i e
    cases st <;> first | exact absurd h Bool.false_ne_true | (simp [chkS1] at h; done) | skip
    simp only [chkS1, Bool.and_eq_true, Bool.not_eq_true'] at h
    exact PSa.imp (psa_expr (sndAt F ok S e _ h.2) h.1) fun D σ H q => r_expr (tS_eq (fun fr cs => by rw [exS]) q)
  · rename_i e
    cases st <;> first | exact absurd h Bool.false_ne_true | (simp [chkS1] at h; done) | skip
    rename_i v p
    cases v with
    | none => simp [chkS1] at h
    | some v =>
      simp only [chkS1] at h
      exact PSa.imp (psa_ret (sndAt F ok S e v h)) fun D σ H q => r_ret (tS_eq (fun fr cs => by rw [exS]) q)
end
/-! ### a def that closes over its class -/
structure FnScopeS (N P : List Str) (sc : Scope) : Prop where
  kind : sc.kind = .function
  co : sc.isCoroutine = false
  gen : sc.isGenerator = false
  nd : N.Nodup
  pre : N.take P.length = P
  par : ∀ x ∈ P, sc.names.lookup x = some .local
  nocell : ∀ y ∈ sc.names, y.2 ≠ .cell
  free : ∀ y ∈ sc.names, y.2 = .free → y.1 = ("__class__" : Str)
def cxS (CX : CXT) (P : Program) (w : World) (K : PySem.W.Frag) (mg : Str → Option Value) (base : Heap) (N : List Str) (qual : Str) (scope : Scope) (f : Addr) (cd : Value) (cc : Addr) (A : Around) (outer : List Env) (s : Shared) (H : Hp) (E : XK) : Cx where
  prog := P
  w := w
  K := K
  mg := mg
  base := base
  A := A.deeper (PySem.W.ksEnv qual scope s.heap.objs.size f cd cc)
  N := N
  s_0 := s
  H_0 := H
  env := PySem.W.ksEnv qual scope s.heap.objs.size f cd cc
  outer := outer
  stack := PySem.W.ksEnv qual scope s.heap.objs.size f cd cc :: outer
  ex := []
  fn := fun x => decide (x ≠ ("__class__" : Str))
  calm := true
  pn := []
  xe := fun e s' => wpAny (model P w) (A.deeper (PySem.W.ksEnv qual scope s.heap.objs.size f cd cc)) (leaving (PySem.W.ksEnv qual scope s.heap.objs.size f cd cc) e) (fun _ s'' => CX outer H s E e s'') (fun e' s'' => CX outer H s E e' s'') s'
theorem lookup_mem {α : Type} {k : Str} {v : α} : ∀ {l : List (Str × α)}, (l.map (·.1)).Nodup → (k, v) ∈ l → l.lookup k = some v
  | (k', v') :: l, nd, h => by
    rw [List.map_cons, List.nodup_cons] at nd
    rcases List.mem_cons.mp h with e | h
    · cases e; simp [List.lookup]
    · have hne : k ≠ k' := fun e => nd.1 (by rw [← e]; exact List.mem_map_of_mem (f := (·.1)) h)
      have : (k == k') = false := by simpa using hne
      rw [List.lookup, this]
      exact lookup_mem nd.2 h
theorem one_cell {cc c : Addr} {x : Str} (h : List.lookup x [(("__class__" : Str), cc)] = some c) : x = ("__class__" : Str) ∧ c = cc := by
  by_cases e : x = ("__class__" : Str)
  · subst e
    simp [List.lookup] at h
    exact ⟨rfl, h.symm⟩
  · have : (x == ("__class__" : Str)) = false := by simpa using e
    simp [List.lookup, this] at h
theorem inv_startS {CX : CXT} {P : Program} {w : World} {K : PySem.W.Frag} {mg : Str → Option Value} {base : Heap} {N ps : List Str} {qual : Str} {scope : Scope} {f cc D : Addr} {cd : Value} {A : Around} {outer : List Env} {s : Shared} {H : Hp} {E : XK} {us : List Value} {vs : List V} {cl : Value} {cld : Option Addr} {csl : Array (Option Value)}
    (S : FnScopeS N ps scope) (hd : A.handled = none) (e0 : Env0 P w K mg base A outer s H) (hl : vs.length = ps.length) (r : Vals vs us) (lcc : K.lookup cc = some ⟨cl, cld, .cell (some (.ref D)), csl⟩)
    {h1 : Heap} {tk : Nat} (hns : h1.Ns s.heap.objs.size (fun x => (ps.zip us).reverse.lookup x)) (hk : ∀ b o, s.heap.get? b = some o → h1.get? b = some o) :
    Inv (cxS CX P w K mg base N qual scope f cd cc A outer s H E) [] (L2.start N vs) H { s with heap := h1, toks := tk } := by
  have hpl : ps.length ≤ N.length := by have := congrArg List.length S.pre; rw [List.length_take] at this; omega
  have noA : ∀ b : Addr, b ∉ (cxS CX P w K mg base N qual scope f cd cc A outer s H E).ex := fun b z => absurd (show b ∈ ([] : List Addr) from z) (by simp)
  have hccb := e0.mod.kin _ _ lcc
  refine ⟨⟨e0.mod, S.kind, rfl, rfl, Nat.le_refl _, fun y z c h1 h2 => ?_, fun y hy => ?_, fun y c hy h => ?_, fun _ => hd, Around.frames_deeper e0.frames, .inr ⟨rfl, rfl⟩, fun b z => absurd z (noA b), e0.bs, e0.bsz, fun b _ _ => noA b, fun b z => absurd z (noA b), e0.funs, e0.frf⟩,
    rfl, e0.bare, Un.kept hk, ⟨_, hns, fun i y v h1 h2 h3 => ?_⟩, fun y c h => ?_, e0.hok.fresh (Nat.le_refl _), fun y c h => ?_, fun p hp => absurd (show p ∈ ([] : List (Addr × Obj)) from hp) (by simp), e0.hok.kept hk, ?_⟩
  · rw [(one_cell h1).1, (one_cell h2).1]
  · have hy : scope.names.lookup y = some .cell ∨ scope.names.lookup y = some .free := hy
    rcases hy with hy | hy
    · exact absurd rfl (S.nocell _ (PySem.mem_of_lookup hy))
    · have := S.free _ (PySem.mem_of_lookup hy) rfl
      exact ⟨cc, by rw [show y = ("__class__" : Str) from this]; show List.lookup ("__class__" : Str) [(("__class__" : Str), cc)] = some cc; simp [List.lookup]⟩
  · exact absurd (one_cell h).1 (of_decide_eq_true hy)
  · have hi : i < vs.length := by
      unfold L2.start at h2
      by_cases hi : i < vs.length
      · exact hi
      · rw [List.getElem?_append_right (by simpa using hi)] at h2
        rw [List.getElem?_replicate] at h2
        split at h2 <;> cases h2
    have ha : vs[i]? = some v := by
      unfold L2.start at h2
      rw [List.getElem?_append_left (by simpa using hi), List.getElem?_map] at h2
      cases e : vs[i]? with
      | none => rw [e] at h2; cases h2
      | some a => rw [e] at h2; cases h2; rfl
    obtain ⟨u, hu, rv⟩ := r.get ha
    have hp : ps[i]? = some y := by
      rw [← S.pre, List.getElem?_take_of_lt (by omega)]; exact h1
    have ndP : ps.Nodup := by rw [← S.pre]; exact S.nd.sublist (List.take_sublist _ _)
    refine ⟨u, rv, .inl ⟨S.par y (List.mem_of_getElem? hp), ?_⟩⟩
    refine lookup_mem ?_ (List.mem_reverse.mpr ?_)
    · rw [List.map_reverse, List.map_fst_zip (by rw [← r.length, hl]; exact Nat.le_refl _)]
      exact (List.reverse_perm _).nodup_iff.mpr ndP
    · have : (ps.zip us)[i]? = some (y, u) := List.getElem?_zip_eq_some.mpr ⟨hp, hu⟩
      exact List.mem_of_getElem? this
  · rw [(one_cell h).2]
    exact ⟨_, _, hk _ _ (e0.bs _ _ hccb).1, rfl⟩
  · rw [(one_cell h).2]
    exact (e0.bs _ _ hccb).2
  · unfold L2.start
    show _ = N.length
    rw [List.length_append, List.length_map, List.length_replicate]
    omega
/-- what is said of such a def's text -/
structure FnTS (g : G) (T : Tab) (f : Nat) (s : S) (nl : Nat) : Prop where
  ex : ∃ (N : List Str) (x qual : Str) (params : Arguments) (body : List Stmt) (scope : Scope) (cc cda : Addr) (d : Nat) (oc : Value) (od : Option Addr) (dV kV doc pm : Value) (an : Option Addr) (ct : Value) (osl : Array (Option Value)),
    g.fd f = PySem.W.ksFn x qual params body scope dV kV doc pm an (.ref cda) ct cc ∧ g.K.lookup (g.fa f) = some ⟨oc, od, .func (g.fd f), osl⟩ ∧ PySem.W.codeIn g.K (.ref cda) qual = true ∧ FnScopeS N (g.ps f) scope ∧ N.length = nl ∧
    chkFS T.st N scope d s body = true ∧ scope ∉ g.lams ∧ scope.names.lookup ("super" : Str) = some .globalImplicit ∧ scope.names.lookup ("__class__" : Str) = some .free ∧ g.mg "super" = none ∧ (g.P.main.scope.names.lookup ("super" : Str)).isSome = false ∧
    (∃ cd, PySem.W.clsIn g.K (g.ca d) = some cd) ∧ (∃ cl cld csl, g.K.lookup cc = some ⟨cl, cld, .cell (some (.ref (g.ca d))), csl⟩) ∧
    (∃ oc vs file tf, g.K.lookup cda = some oc ∧ oc.data = .fields vs ∧ vs[2]? = some (.str file tf) ∧ ((g.P.main.file : Str) == file) = true) ∧
    (∃ ar, (params.posonlyargs ++ params.args).head? = some ar ∧ N[0]? = some ar.arg ∧ scope.names.lookup ar.arg = some .local) ∧ PySem.W.nsIn g.K cStatics "thirdparty.any" = some none
theorem ok_fnS {g : G} {T : Tab} {k f nl : Nat} {s : S} {wd : Wd} {sp : Sp} {pure_ : Fra → Cells → Nat → RS} (F : Fx g wd k) (est : wd.toWs = T.st) (t : FnTS g T f s nl) {n : Nat} (len : ∀ vs H Q E, sp vs H Q E → vs.length = (g.ps f).length)
    (hsp : ∀ {N : List Str} {vs : List V} {H : Hp} {Q : VK} {E : XK}, N.length = nl → sp vs H Q E → ∃ b, tS g (fun c d _ H' => E c d H') b (exS wd n b s) { nx := fun _ H' => Q .non H', rt := Q } (L2.start N vs) H) :
    FnG g.P g.w g.K g.mg g.base (L2.CX g.P g.w) (k + 3) (g.fa f) (g.fd f) (g.ps f) sp := by
  obtain ⟨N, x, qual, params, body, scope, cc, cda, d, oc, od, dV, kV, doc, pm, an, ct, osl, hfd, lk, hcode, Sc, hN, hc, hnl, hks, hkc, hms, htop, hcls, ⟨cl, cld, csl, lcc⟩, ⟨oc2, vs2, file, tf, lcd, hod, hvs, hfile⟩, ⟨ar, har, hN0, hka⟩, hopq⟩ := t.ex
  refine ⟨len, fun A outer sA HA args Q E hr hgd eA _ hb => ?_⟩
  have KX : g.K.In sA.heap := eA.mod.kin.keeps fun b o e => (eA.bs b o e).1
  refine codeAny_call_function hr.depth (KX _ _ lk) rfl (by rw [hfd]; exact Sc.co) (by rw [hfd]; exact Sc.gen) (body := body) (by rw [hfd]) (by rw [hfd]; exact PySem.W.codeRec_of KX hcode) ?_
  refine hb _ _ _ fun s0 H vs us e0 un ho hx r hl h => ?_
  have lim : s0.heap.NoLimit := e0.mod.nolimit.keeps fun b o e => (e0.bs b o e).1
  have hl2 : (g.ps f).length = us.length := by rw [← hl, r.length]
  refine wpAny_newFunctionEnv (by rw [hfd]; exact Sc.nocell) (fun y hy => by rw [hfd]; exact Sc.par _ (List.of_mem_zip hy).1) (fun h₀ hns hsb₀ => ⟨lim.fresh _ hsb₀, PySem.ks_codeAny_funcAt ?_⟩) (by rw [hfd]; exact Sc.kind)
  have hk₁ : ∀ b o, s0.heap.get? b = some o → h₀.get? b = some o := fun b o e => hsb₀.extBut b o (Nat.ne_of_lt (Heap.lt_size e)) (Heap.get?_push_of_some _ e)
  have henv : callEnv (g.fd f) s0.heap.objs.size (g.fa f) = PySem.W.ksEnv qual scope s0.heap.objs.size (g.fa f) (.ref cda) cc := by rw [hfd]; rfl
  show PySem.wpAt (model g.P g.w) (A.deeper (callEnv (g.fd f) s0.heap.objs.size (g.fa f))) (.func body (callEnv (g.fd f) s0.heap.objs.size (g.fa f))) (execs body (callEnv (g.fd f) s0.heap.objs.size (g.fa f))) _ (fun e s' => wpAny (model g.P g.w) (A.deeper (callEnv (g.fd f) s0.heap.objs.size (g.fa f))) (leaving (callEnv (g.fd f) s0.heap.objs.size (g.fa f)) e) _ _ s') _
  rw [henv]
  have ok : Okx g N scope true k (cxS (L2.CX g.P g.w) g.P g.w g.K g.mg g.base N qual scope (g.fa f) (.ref cda) cc A outer s0 H E) (fun c d _ H' => E c d H') :=
    ⟨rfl, rfl, rfl, rfl, rfl, rfl, Sc.nd, rfl, rfl, fun _ x hx => absurd rfl (Sc.nocell _ (PySem.mem_of_lookup hx)), hr.deeper _, takes_of rfl rfl rfl rfl, hgd, fun h => absurd h hnl, fun _ => ⟨rfl, rfl, rfl⟩⟩
  have SX : SupX (cxS (L2.CX g.P g.w) g.P g.w g.K g.mg g.base N qual scope (g.fa f) (.ref cda) cc A outer s0 H E) (g.ca d) :=
    ⟨hks, hkc, hms, htop, hcls, ⟨cc, cl, cld, csl, by simp [cxS, List.lookup], lcc⟩, ⟨cda, oc2, vs2, file, tf, rfl, lcd, hod, hvs, hfile⟩, ⟨g.fa f, _, _, ar, rfl, lk, rfl, by rw [hfd]; exact har, hN0, hka⟩, hopq⟩
  have I := inv_startS (CX := L2.CX g.P g.w) (qual := qual) (f := g.fa f) (cd := .ref cda) (E := E) (tk := s0.toks + ((g.ps f).zip us).length) Sc hr.hd e0 hl r lcc hns hk₁
  obtain ⟨b, hq⟩ := hsp hN h
  cases s <;> first | (simp [chkFS] at hc; done) | skip
  rename_i s1 sr
  cases body with
  | nil => simp [chkFS] at hc
  | cons st ss =>
    have hcc := hc
    rw [← est] at hcc
    simp only [chkFS, Bool.and_eq_true] at hcc
    have run := pssa_cons (sndS1 (n := n) (b := b) (body := st :: ss) F ok SX s1 st hcc.1) ((sndS F sr).l (n := n) (b := b) ok (passes_of rfl) ss hcc.2) [] _ _ H _ I (tS_seq (tS_eq (fun fr cs => by rw [exS]) hq))
    refine PySem.wpAt_mono run (fun fl s' hs => ?_) fun e s' hs => ?_
    · have fin : ∀ {σ' : L2.St} {H' : Hp} {v : V} {u : Value}, Inv (cxS (L2.CX g.P g.w) g.P g.w g.K g.mg g.base N qual scope (g.fa f) (.ref cda) cc A outer s0 H E) [] σ' H' s' → RelV v u → Q v H' → CE outer g.P g.w HA sA Q u s' :=
        fun {σ' H' v u} J rv q => ⟨v, H', J.os.trans ho, J.bare, un.trans J.base, J.hok, rv, q⟩
      cases fl with
      | ret u =>
        obtain ⟨v, σ', H', J, rv, q⟩ := hs
        exact fin J rv q
      | next =>
        obtain ⟨σ', H', J, q⟩ := hs
        exact fin (v := .non) J rfl q
      | brk => obtain ⟨σ', H', J, q⟩ := hs; exact q.elim
      | cont => obtain ⟨σ', H', J, q⟩ := hs; exact q.elim
    · exact wpAny_mono hs (fun _ s'' z => hx e s'' z) fun e' s'' z => hx e' s'' z
theorem toD_post {g : G} {ra : Ra} {H : Hp} {Q : VK} {E : XK} {r : R W} (h : PostR g (rpW g ra) ((toD r).map W.d) ra H Q E) : PostR g (rpW g ra) r ra H Q E := by
  cases r with
  | ok w c =>
    cases w with
    | d d => exact h
    | loc n => exact h.elim
  | exc c x cc => exact h
  | bad => exact h
theorem Tab.fx {g : G} {T : Tab} {n : Nat} (F : Fst g T.st) (t : ∀ f s nl, T.fn f = some (s, nl) → FnT g T f s nl ∨ FnTS g T f s nl)
    (td : ∀ (wd : Wd) (k f : Nat) (d : DeedD), Fx g wd k → wd.toWs = T.st → T.dn f = some d → FnD g g.P g.w g.K g.mg g.base (k + 4) f (fnRunD wd n d)) : ∀ j, Fx g (T.at n j) (3 * j)
  | 0 => F.fx rfl (fun f => ok_none fun vs H Q E ⟨_, _, _, _, _, _, p⟩ => p) (fun f => ok_none fun vs H Q E ⟨_, _, _, _, _, _, p⟩ => p) (fun f => ⟨fun A outer s H u th ra cs Q E _ _ _ _ _ _ _ _ p => p.elim⟩) (.inr fun _ _ _ => rfl) (fun h _ _ => by omega)
  | j + 1 => by
    have ih := Tab.fx (n := n) F t td j
    have est := T.at_st n j
    refine F.fx (wd := T.step n (T.at n j)) rfl (fun f => ?_) (fun f => ?_) (fun f => ?_) (.inl ⟨3 * j, by omega⟩) (fun {z N scope body X Wx kk} hk hc ok => ?_)
    · show FnG _ _ _ _ _ _ _ _ _ _ (spOf g _ fun ws cs => match T.fn f with | some (s, nl) => fnRun (T.at n j) n s nl ws cs | none => .bad)
      cases e : T.fn f with
      | none => exact ok_none fun vs H Q E ⟨_, _, _, _, _, _, p⟩ => p
      | some x =>
        obtain ⟨s, nl⟩ := x
        rcases t f s nl e with t | t
        · exact ok_fn ih est t
        · refine ok_fnS ih est t (n := n) (pure_ := fun _ _ _ => .bad) (fun vs H Q E ⟨ws, cs, ra, R, r, hl, _⟩ => by rw [← r.length]; exact hl) fun {N vs H Q E} hN ⟨ws, cs, ra, R, r, hl, post⟩ => ?_
          exact ⟨cs.length, bs0 ra H, _, cs, ra, R.len, bs0_ok ra H, R, start_ok r hN, end_post R post⟩
    · show FnG _ _ _ _ _ _ _ _ _ _ (spOfL g _ fun ws cs => match T.fn f with | some (s, nl) => fnRunL (T.at n j) n s nl ws cs | none => .bad)
      cases e : T.fn f with
      | none => exact ok_none fun vs H Q E ⟨_, _, _, _, _, _, p⟩ => p
      | some x =>
        obtain ⟨s, nl⟩ := x
        rcases t f s nl e with t | t
        · exact ok_fnL ih est t
        · refine ok_fnS ih est t (n := n) (pure_ := fun _ _ _ => .bad) (fun vs H Q E ⟨ws, cs, ra, R, r, hl, _⟩ => by rw [← r.length]; exact hl) fun {N vs H Q E} hN ⟨ws, cs, ra, R, r, hl, post⟩ => ?_
          exact ⟨cs.length, bs0 ra H, _, cs, ra, R.len, bs0_ok ra H, R, start_ok r hN, endL_post R post⟩
    · show FnD _ _ _ _ _ _ _ _ (fun th cs => match T.dn f with | some d => fnRunD (T.at n j) n d th cs | none => .bad)
      cases e : T.dn f with
      | none => exact ⟨fun A outer s H u th ra cs Q E _ _ _ _ _ _ _ _ p => p.elim⟩
      | some d => exact td _ _ f d ih est e
    · have hkk : kk = 3 * j := by omega
      subst hkk
      refine PE.imp ((snd ih z).ex_ ok (by rw [est]; exact hc)) fun σ H Q ⟨fr, cs, ra, R, Fr, q⟩ => ⟨fr, cs, ra, R, Fr, toD_post q⟩
end BV
namespace BV
open PySem L2
/-! ### the end: the law's call -/
/-- the end: what the law's def promises, of any script; T: the tables of code objects with the lambdas' names -/
def spLaw (K : PySem.W.Frag) (T : List (Addr × Str)) : Sp := fun vs H Q _ => ∃ (a : Addr) (ns : List Int), vs = [.ref a] ∧ SqL K H a (ns.map V.int) ∧ ns.length ≤ 63 ∧ LamX.Tabs T H ∧ ∀ H', Q (.bl true) H'
abbrev tab0 : Obj := { cls := .none, data := .fields #[] }
/-- what is known of the code objects that make lambdas and of their tables -/
structure Cods (K : PySem.W.Frag) (h : Heap) (cs : List (Addr × Addr)) : Prop where
  hd : ∀ p ∈ cs, PySem.W.CodeHd h p.1 p.2
  emp : ∀ p ∈ cs, h.get? p.2 = some tab0
  off : ∀ p ∈ cs, K.lookup p.2 = none
abbrev BmAt (mg : Str → Option Value) (h : Heap) : Prop := ∃ (bm : Addr) (ob : Obj), mg "__builtins__" = some (.ref bm) ∧ bm ≠ builtinsNs ∧ h.get? bm = some ob ∧ ob.cls = .type "module" ∧ ob.dict = some builtinsNs ∧ ob.data = .plain
/-- from an abstract heap H that tracks at most the script and the tables -/
theorem lawG_core {P : Program} {w : World} {K : PySem.W.Frag} {mg mb : Str → Option Value} {k : Nat} {fa a : Addr} {fd : FuncData} {x : Str} {sp : Sp} {s : Shared} {vs : List Value} {cs : List (Addr × Addr)}
    (KX : K.In s.heap) (hns : s.heap.Ns mainGlobals mg) (hb : s.heap.Ns builtinsNs mb) (hbb : ∀ x : Str, x ≠ "__name__" → mb x = bootBuiltins x) (hlim : s.heap.NoLimit) (hg : s.gens = #[])
    (C : Cods K s.heap cs) (hbm : BmAt mg s.heap)
    (ha : s.heap.get? a = some { cls := .type "list", data := .seq vs.toArray }) (hr : Room k callerA)
    (F : ∀ base : Heap, K.In base → base.Ns mainGlobals mg → (∀ p ∈ cs, LamX.TabB base mg p.1 p.2) → FnG P w K mg base (L2.CX P w) k fa fd [x] sp) (hbind : ∀ (s : Shared) (u : Value), BindsTo s fd ⟨[u], []⟩ [(x, u)])
    {H : Hp} (hO : ∀ b, H b = none ∨ (∃ p ∈ cs, p.2 = b) ∨ ∃ ob xs, H b = some (.frz ob (.lst xs))) (hT : ∀ p ∈ cs, H p.2 = some (.tbl #[])) (hok : HOk P w H s.heap) (hA : ∀ b, H b ≠ none → b = a ∨ ∃ p ∈ cs, p.2 = b) (hK : H a ≠ none → K.lookup a = none) (hsp : sp [.ref a] H (fun v _ => v = .bl true) fun _ _ _ => False) :
    codeAny (model P w) callerA (.call (.ref fa) ⟨[.ref a], []⟩) (fun r s' => r = .ok (.ret (.bool true)) ∧ OldK s.heap s'.heap ∧ s'.os = s.os ∧ PyProof.Rows.AllBare s'.gens) s := by
  have noH : ∀ {b : Addr} {o : Obj}, s.heap.get? b = some o → (b = a → H a = none) → (∀ p ∈ cs, p.2 ≠ b) → H b = none := fun {b o} e n1 n2 => by
    cases q : H b with
    | none => rfl
    | some u =>
      rcases hA b (by rw [q]; simp) with e' | ⟨p, hp, e'⟩
      · subst e'; rw [n1 rfl] at q; cases q
      · exact absurd e' (n2 p hp)
  have vis : ∀ {b : Addr} {o : Obj}, s.heap.get? b = some o → (∀ ws n, o.data ≠ .seq ws n) → o.data ≠ .fields #[] → (hidT s.heap H).get? b = some o := fun {b o} e n1 n2 => hidT_get e (noH e (fun e' => by
    subst e'
    rw [ha] at e
    cases e
    exact absurd rfl (n1 _ _)) fun p hp e' => by
      subst e'
      rw [C.emp p hp] at e
      cases e
      exact absurd rfl n2)
  have nsK : ∀ {b : Addr} {m : Str → Option Value}, s.heap.Ns b m → (hidT s.heap H).Ns b m := fun {b m} ⟨o, es, ep, e, d, r⟩ => ⟨o, es, ep, vis e (fun ws n z => by rw [d] at z; cases z) (fun z => by rw [d] at z; cases z), d, r⟩
  have hKb : K.In (hidT s.heap H) := fun b o e => hidT_get (KX b o e) (noH (KX b o e) (fun e' => by
    cases q : H a with
    | none => rfl
    | some u =>
      have z := hK (by rw [q]; simp)
      rw [e', z] at e
      cases e) fun p hp e' => by
      have z := C.off p hp
      rw [e', e] at z
      cases z)
  have hTB : ∀ p ∈ cs, LamX.TabB (hidT s.heap H) mg p.1 p.2 := fun p hp => by
    have hp0 := C.emp p hp
    obtain ⟨ob0, es0, ep0, eG, dG, _⟩ := hns
    refine ⟨?_, ?_, fun z => ?_⟩
    · obtain ⟨o, us, f, tf, fl, tg, iF, tx, tt, e1, r⟩ := C.hd p hp
      have d1 := r.2.1
      have d2 := r.2.2.1
      refine ⟨o, us, f, tf, fl, tg, iF, tx, tt, vis e1 (fun ws n z => by rw [d1] at z; cases z) (fun z => ?_), r⟩
      rw [d1] at z
      cases z
      simp at d2
    · obtain ⟨bm, ob, m1, m2, m3, m4, m5, m6⟩ := hbm
      refine ⟨bm, ob, m1, m2, fun q => ?_, fun q => ?_, vis m3 (fun ws n z => by rw [m6] at z; cases z) (fun z => by rw [m6] at z; cases z), m4, m5, m6⟩
      · rw [q, eG] at m3
        cases m3
        rw [dG] at m6
        cases m6
      · rw [q, hp0] at m3
        cases m3
        cases m6
    · rw [z, hp0] at eG
      cases eG
      cases dG
  have e0 : Env0 P w K mg (hidT s.heap H) callerA [] s H :=
    ⟨rfl, ⟨hKb, nsK hns, ⟨mb, nsK hb, hbb⟩, let ⟨mc, h1, h2⟩ := hlim; ⟨mc, nsK h1, h2⟩⟩, fun b o e => of_hidT e, Nat.le_of_eq (hidT_size _ _), trivial, fun b hb => absurd (show b ∈ ([] : List Addr) from hb) (by simp), hok, .of_eq hg⟩
  refine codeAny_mono ((F _ hKb (nsK hns) hTB).run callerA [] s H ⟨[.ref a], []⟩ [.ref a] [.ref a] _ _ hr rfl e0 (hbind s (.ref a)) (.cons rfl .nil) hsp) fun r s' h => ?_
  match r, h with
  | .ok (.ret u), h =>
    obtain ⟨v, H', os, bare, un, hok', r', q⟩ := h
    obtain rfl : v = .bl true := q
    obtain rfl : u = Value.bool true := r'
    have old : ∀ b o, s.heap.get? b = some o → (∀ p ∈ cs, p.2 ≠ b) → s'.heap.get? b = some o := fun b o e nt => by
      rcases hO b with q | ⟨p, hp, q⟩ | ⟨ob, xs, q⟩
      · exact un.keep b o e q (by intro z; exact absurd (show b ∈ ([] : List Addr) from z) (by simp)) (by simp)
      · exact absurd q (nt p hp)
      · obtain ⟨e1, _⟩ := hok b _ q
        obtain ⟨e2, _⟩ := hok' b _ (un.frzs b ob _ q)
        rw [e] at e1
        cases e1
        exact e2
    have grow : ∀ p ∈ cs, ∃ ps : Array Value, s'.heap.get? p.2 = some { cls := .none, data := .fields ps } := fun p hp => by
      obtain ⟨ms, z⟩ := un.tbls p.2 #[] (hT p hp)
      exact ⟨_, hok' p.2 _ z⟩
    refine ⟨rfl, ⟨fun b o e => ?_, fun b o e => ?_⟩, os, bare⟩
    · by_cases hb : ∃ p ∈ cs, p.2 = b
      · obtain ⟨p, hp, rfl⟩ := hb
        obtain ⟨ps, hm⟩ := grow p hp
        rw [C.emp p hp] at e
        cases e
        refine .inr (.inl ⟨((C.hd p hp).tab (C.emp p hp)).isCodeTable, rfl, #[], ps, rfl, ?_⟩)
        rw [Array.empty_append]
        exact hm
      · exact .inl (old b o e fun p hp z => hb ⟨p, hp, z⟩)
    · by_cases hb : ∃ p ∈ cs, p.2 = b
      · obtain ⟨p, hp, rfl⟩ := hb
        obtain ⟨ps, hm⟩ := grow p hp
        exact ⟨_, hm⟩
      · exact ⟨o, old b o e fun p hp z => hb ⟨p, hp, z⟩⟩
  | .ok .next, h => exact False.elim h
  | .ok .brk, h => exact False.elim h
  | .ok .cont, h => exact False.elim h
  | .error e, h =>
    obtain ⟨_, _, _, _, _, _, _, _, _, _, _, _, z⟩ := h
    exact z.elim
theorem lawG {P : Program} {w : World} {K : PySem.W.Frag} {mg mb : Str → Option Value} {k : Nat} {fa a : Addr} {fd : FuncData} {x : Str} {T : List (Addr × Str)} {s : Shared} {vs : List Value} {ns : List Int} {cs : List (Addr × Addr)}
    (KX : K.In s.heap) (hns : s.heap.Ns mainGlobals mg) (hb : s.heap.Ns builtinsNs mb) (hbb : ∀ x : Str, x ≠ "__name__" → mb x = bootBuiltins x) (hlim : s.heap.NoLimit) (hg : s.gens = #[])
    (C : Cods K s.heap cs) (hbm : BmAt mg s.heap) (hTc : ∀ q ∈ T, ∃ c, (c, q.1) ∈ cs)
    (ha : s.heap.get? a = some { cls := .type "list", data := .seq vs.toArray }) (hi : PyProof.Rows.IntsAre vs ns) (hl : ns.length ≤ 63) (hr : Room k callerA)
    (F : ∀ base : Heap, K.In base → base.Ns mainGlobals mg → (∀ p ∈ cs, LamX.TabB base mg p.1 p.2) → FnG P w K mg base (L2.CX P w) k fa fd [x] (spLaw K T)) (hbind : ∀ (s : Shared) (u : Value), BindsTo s fd ⟨[u], []⟩ [(x, u)]) :
    codeAny (model P w) callerA (.call (.ref fa) ⟨[.ref a], []⟩) (fun r s' => r = .ok (.ret (.bool true)) ∧ OldK s.heap s'.heap ∧ s'.os = s.os ∧ PyProof.Rows.AllBare s'.gens) s := by
  classical
  have rv := vals_ints hi
  have lenV := hi.length
  have hz : (63 : Nat) ≤ sizeLine := by rw [sizeLine_eq]; decide
  have hl2 : ns.length ≤ sizeLine := Nat.le_trans hl hz
  have aT : ∀ p ∈ cs, p.2 ≠ a := fun p hp z => by
    have q := C.emp p hp
    rw [z, ha] at q
    cases q
  have sp_of : ∀ H : Hp, SqL K H a (ns.map V.int) → (∀ p ∈ cs, H p.2 = some (.tbl #[])) → spLaw K T [.ref a] H (fun v _ => v = .bl true) fun _ _ _ => False := fun H hS hT => ⟨a, ns, rfl, hS, hl, fun q hq => by
    obtain ⟨c, hc⟩ := hTc q hq
    exact LamX.TabS.nil (hT _ hc), fun _ => rfl⟩
  let tabsH : Hp := fun b => if ∃ p ∈ cs, p.2 = b then some (.tbl #[]) else none
  have tT : ∀ p ∈ cs, tabsH p.2 = some (.tbl #[]) := fun p hp => if_pos ⟨p, hp, rfl⟩
  have tok : ∀ b u, tabsH b = some u → ObjOk P w tabsH s.heap b u ∧ (∃ p ∈ cs, p.2 = b) ∧ u = .tbl #[] := fun b u z => by
    by_cases hb : ∃ p ∈ cs, p.2 = b
    · have z' := (if_pos hb).symm.trans z
      cases z'
      obtain ⟨p, hp, rfl⟩ := hb
      exact ⟨C.emp p hp, ⟨p, hp, rfl⟩, rfl⟩
    · have z' := (if_neg hb).symm.trans z
      cases z'
  cases hk : K.lookup a with
  | some o =>
    have e := KX a o hk
    rw [ha] at e
    cases e
    have na : tabsH a = none := if_neg fun ⟨p, hp, z⟩ => aT p hp z
    refine lawG_core KX hns hb hbb hlim hg C hbm ha hr F hbind (H := tabsH) (fun b => ?_) tT (fun b u z => (tok b u z).1) (fun b z => ?_) (fun z => absurd na z) (sp_of _ (.inr ⟨_, vs.toArray, _, hk, rfl, rfl, rfl, by rw [List.size_toArray, lenV]; exact hl2, by simpa using rv⟩) tT)
    · by_cases hb : ∃ p ∈ cs, p.2 = b
      · exact .inr (.inl hb)
      · exact .inl (if_neg hb)
    · cases q : tabsH b with
      | none => exact absurd q z
      | some u => exact .inr (tok b u q).2.1
  | none =>
    let H : Hp := upd tabsH a (.frz { cls := .type "list", data := .seq vs.toArray } (.lst (ns.map V.int)))
    have at_ : H a = some (.frz { cls := .type "list", data := .seq vs.toArray } (.lst (ns.map V.int))) := upd_same
    have off : ∀ b, b ≠ a → H b = tabsH b := fun b h => upd_ne h
    have hT : ∀ p ∈ cs, H p.2 = some (.tbl #[]) := fun p hp => by rw [off _ (aT p hp)]; exact tT p hp
    refine lawG_core KX hns hb hbb hlim hg C hbm ha hr F hbind (H := H) (fun b => ?_) hT (fun b u z => ?_) (fun b z => ?_) (fun _ => hk) (sp_of H (.inl (.inr ⟨_, at_⟩)) hT)
    · by_cases e : b = a
      · exact .inr (.inr ⟨_, _, by rw [e]; exact at_⟩)
      · rw [off b e]
        by_cases hb : ∃ p ∈ cs, p.2 = b
        · exact .inr (.inl hb)
        · exact .inl (if_neg hb)
    · by_cases e : b = a
      · subst e
        rw [at_] at z
        cases z
        exact ⟨ha, by rw [List.length_map]; exact hl2, vs, _, rv, ha⟩
      · rw [off b e] at z
        obtain ⟨h1, h2, rfl⟩ := tok b u z
        exact h1
    · by_cases e : b = a
      · exact .inl e
      · rw [off b e] at z
        cases q : tabsH b with
        | none => exact absurd q z
        | some u => exact .inr (tok b u q).2.1
/-- the goal that k_head leaves, from the promise of the law's def -/
theorem walkG {l : PySem.W.OpenLaw} {k : Nat} {q : Program} {loose : List Str} {XP : (Str → Option Value) → Heap → Prop} {YP : World → Heap → Prop} {d : DefRec} {K : Params → PySem.W.Frag} {x : Str}
    (hn : l.most = some 63) (hdf : d.params.defaults = []) (hr : Room k callerA) (hY : ∀ (w : World) (h : Heap), YP w h → (K w.params).In h)
    (F : ∀ (w : World) (mg : Str → Option Value) (fa : Addr) (h : Heap), (K w.params).In h → h.Ns mainGlobals mg → mg d.name = some (.ref fa) →
      YP w h →
      ∃ (fd : FuncData) (cs : List (Addr × Addr)) (T : List (Addr × Str)), Cods (K w.params) h cs ∧ (∀ q ∈ T, ∃ c, (c, q.1) ∈ cs) ∧ (∀ (s : Shared) (u : Value), BindsTo s fd ⟨[u], []⟩ [(x, u)]) ∧
        ∀ base : Heap, (K w.params).In base → base.Ns mainGlobals mg → (∀ p ∈ cs, LamX.TabB base mg p.1 p.2) → FnG l.prog w (K w.params) mg base (L2.CX l.prog w) k fa fd [x] (spLaw (K w.params) T)) :
    PySem.W.WalkO q loose XP YP l.row.toRowW d [] (fun f vs => PySem.call f vs) := by
  refine Att.attach_call hn hdf fun w s₀ s₁ mg mb fa o pm cd doc a vs ns G Y ho hd hcd hmg hobj hints hlen hg => ?_
  have KX := hY w _ Y
  obtain ⟨fd, cs, T, C, hTc, hb, hF⟩ := F w mg fa _ KX G.T.g hmg Y
  exact lawG KX G.T.g G.T.b G.T.builtins G.T.nolimit hg C G.T.bmain hTc hobj hints hlen hr hF hb
end BV
namespace BV
open PySem L2
/-! ### own exceptions whose __init__ says super().__init__(p) and self.p = p -/
/-- a built-in base of exceptions -/
structure XBase (B newId initId : String) (bmB : List Value) : Prop where
  fb : ExcBaseFacts B newId initId bmB
  kf : PySem.W.KxsFacts B initId
  sf : StoreFacts B bmB "object.__setattr__" "object"
  qi : initId.startsWith "lifetime." = false
  ob : bmB.contains (.type "object") = true
def excBody (p : Str) : List Stmt → Bool
  | [.Expr (.Call (.Attribute (.Call (.Name s _) [] [] _) m ap) [.Name x _] [] cp) _, .Assign [.Attribute (.Name y _) a _] (.Name z _) _] => decide (s = "super") && decide (m = "__init__") && decide (x = p) && decide (y = "self") && decide (a = p) && decide (z = p) && (ap.endLine == cp.line)
  | _ => false
/-- what the written part says of such a class, at C, of its family, at Fam, and of its __init__, at fI -/
structure ExT (P : Program) (K : PySem.W.Frag) (mg : Str → Option Value) (B newId initId : String) (bmB : List Value) (C Fam fI : Addr) (p : Str) : Prop where
  obj : ∃ nm q N bs sn sub ab col dd k0 k1 k2 k3 k5, K.lookup C = some (excClassObj nm q C N bs (.ref Fam :: bmB) true sn sub ab col dd k0 k1 k2 k3 k5 newId)
  sa : PySem.W.findIn K (.ref C) "__setattr__" = some (some (.builtin "object.__setattr__"))
  noP : PySem.W.findIn K (.ref C) p = some none
  iC : PySem.W.findIn K (.ref C) "__init__" = some (some (.ref fI))
  tI : PySem.W.typeIn K (.ref fI) = some (.type "function")
  kC : PySem.W.keepIn K (.ref C) = true
  exC : PySem.W.subIn K (.ref C) (.type "BaseException") = some true
  tyC : PySem.W.typeIn K (.ref C) = some (.type "type")
  sup : PySem.W.ks_superIn K C C "__init__" = some (some (.builtin initId))
  subB : PySem.W.subIn K (.ref C) (.type B) = some true
  opq : PySem.W.nsIn K cStatics "thirdparty.any" = some none
  nsup : mg "super" = none
  top : (P.main.scope.names.lookup ("super" : Str)).isSome = false
  db : (p == ("__debug__" : Str)) = false
  fn : ∃ (qual : Str) (params : Arguments) (body : List Stmt) (scope : Scope) (cc cda : Addr) (oc : Value) (od : Option Addr) (dV kV doc pm : Value) (an : Option Addr) (ct : Value) (osl : Array (Option Value)),
    K.lookup fI = some ⟨oc, od, .func (PySem.W.ksFn "__init__" qual params body scope dV kV doc pm an (.ref cda) ct cc), osl⟩ ∧ PySem.W.codeIn K (.ref cda) qual = true ∧ excBody p body = true ∧ FnScopeS ["self", p] ["self", p] scope ∧
    scope.names.lookup ("super" : Str) = some .globalImplicit ∧ scope.names.lookup ("__class__" : Str) = some .free ∧
    (∀ us : List Value, us.length = 2 → bindArgs (PySem.W.ksFn "__init__" qual params body scope dV kV doc pm an (.ref cda) ct cc) ⟨us, []⟩ = pure ((["self", p] : List Str).zip us)) ∧
    (∃ cl cld csl, K.lookup cc = some ⟨cl, cld, .cell (some (.ref C)), csl⟩) ∧
    (∃ oc vs file tf, K.lookup cda = some oc ∧ oc.data = .fields vs ∧ vs[2]? = some (.str file tf) ∧ ((P.main.file : Str) == file) = true) ∧
    (∃ ar, (params.posonlyargs ++ params.args).head? = some ar ∧ ar.arg = ("self" : Str))
section
variable {prog : Program} {w : World} {M : Model} {A : Around} {E : Value → Shared → Prop} {h : Heap} {g : Array GenState} {d : Drawn} {t : Nat} {os : OsState}
variable {nm q : Str} {C N : Addr} {bs bm bmB : List Value} {hdct : Bool} {sn : List Str} {sub : List Value} {ab : Bool} {col : Option Bool} {dd : Option Addr} {k0 k1 k2 k3 k5 : Option Value} {B newId initId : String}
/-- the bound __init__ of the built-in base is called -/
theorem call_mw (F : ExcBaseFacts B newId initId bmB) (hqi : initId.startsWith "lifetime." = false) {u e t0 : Addr} {rest : List Value} {Q : Value → Shared → Prop}
    (hC : h.get? C = some (excClassObj nm q C N bs bm hdct sn sub ab col dd k0 k1 k2 k3 k5 newId)) (he : h.get? e = some (HandSPX.excO C t0)) (hu : h.get? u = some (PySem.W.kxs_mw initId e)) (hrest : rest.length ≤ sizeLine)
    (hq : ∀ h' t1, (∀ b o, b ≠ e → h.get? b = some o → h'.get? b = some o) → h'.get? e = some (HandSPX.excO C t1) → Q .none ⟨h', g, d, t, os⟩) :
    wpAny (model prog w) A (call (.ref u) rest) Q E ⟨h, g, d, t, os⟩ := by
  refine wpAny_call (codeAny_of_tree ?_)
  show wpAny _ A.in1 (callAny (.ref u) ⟨rest, []⟩) _ _ _
  simp only [callAny]
  refine wpAny_bind (wpAny_load hu ?_)
  simp only [PySem.W.kxs_mw, show (Value.type "method-wrapper" == Value.type "method" || Value.type "method-wrapper" == Value.type "builtin_function_or_method" || Value.type "method-wrapper" == Value.type "method-wrapper") = true by decide, if_true]
  refine PySem.W.KFB.if_so (by decide) ?_
  refine wpAny_bind (PySem.W.check_bound_init F.toExcCallFacts hC he rfl ?_)
  refine wpAny_bind (wpAny_pure (wpAny_pure ?_))
  refine ⟨Code.quiet_builtin _ hqi, codeAny_builtin F.initEntry ?_⟩
  rw [Around.under_plainId F.init.plain _]
  refine PySem.W.exc_init_tree (cls := .ref C) (t0 := t0) (dv := none) (c2 := .none) (c3 := .none) (b4 := .bool false) he hrest fun h' k1 e1 t1 => ?_
  exact hq h' _ k1 e1
/-- self.name = v on an exception that has no dict yet -/
theorem exc_osaX {K : PySem.W.Frag} {name : Str} {tk : Tok} {v : Value} {x Fam : Addr} {fv : Array Value} {cd : ClassData} {R : Result → Shared → Prop} (XB : XBase B newId initId bmB)
    (X : K.In h) (hx : h.get? x = some { cls := .ref C, data := .fields fv }) (hcd : PySem.W.clsIn K C = some cd) (hm : cd.mro = .ref C :: .ref Fam :: bmB) (hh : cd.hasDict = true) (ha : PySem.W.findIn K (.ref C) name = some none)
    (hq : ∀ h' tk' dx, (∀ b o, b ≠ x → h.get? b = some o → h'.get? b = some o) → h.objs.size ≤ dx → dx ≠ x → h'.get? x = some { cls := .ref C, dict := some dx, data := .fields fv } →
      h'.Ns1 dx (fun y => if y = name then some v else none) → R (.ok (.ret .none)) ⟨h', g, d, tk', os⟩) :
    codeAny (model prog w) A (.call (.builtin "object.__setattr__") ⟨[.ref x, .str name tk, v], []⟩) R ⟨h, g, d, t, os⟩ := by
  have I : PySem.W.InstAt h x { cls := .ref C, data := .fields fv } C none := ⟨hx, rfl, rfl, trivial⟩
  have SF := F.store_object
  have ne : cd.mro.isEmpty = false := by rw [hm]; rfl
  have hob : cd.mro.contains (.type "object") = true := by rw [hm, List.contains_cons, List.contains_cons, XB.ob]; simp
  have hxs : x ≠ h.objs.size := Nat.ne_of_lt (Heap.lt_size hx)
  have sub : PySem.W.Looks (model prog w) h (isInstance (.ref x) (.type "object")) true := I.type.andThen (PySem.W.looks_mroIn X (by unfold PySem.W.mroIn; rw [hcd, Option.bind_some, if_neg (by rw [ne]; decide), hob]))
  refine codeAny_call_builtin SF.slot.plain SF.entry (@PySem.W.check_slot (model prog w) _ _ ⟨h, g, d, t, os⟩ "object.__setattr__" "object" "__setattr__" (.ref x) [.str name tk, v] [] _ SF.kind SF.split sub (SF.args (.ref x) (.str name tk) v) ?_)
  have hmr : PySem.W.Looks (model prog w) h (mroOf (.ref C)) cd.mro := (PySem.W.looks_clsIn X hcd).andThen .now
  have L3 : PySem.W.Looks (model prog w) h (Builtin.ObjectAttr.storeTaker? none) none := .now
  have hcls : PySem.W.Looks (model prog w) h (classData C) cd := PySem.W.looks_clsIn X hcd
  have hpass : refuseLoop (.ref x) "__setattr__" cd.mro = pure () := by
    rw [hm, refuseLoop_ref, refuseLoop_ref]
    exact XB.sf.passes _
  rw [PySem.W.osa_eq, refuse_eq]
  refine wpAny_bind (wpAny_bind (I.type.at (wpAny_bind (hmr.at ?_))))
  rw [hpass]
  refine wpAny_pure (wpAny_bind (I.type.at (wpAny_bind ((PySem.W.looks_findIn X ha).at (wpAny_bind (L3.at ?_))))))
  show wpAny _ _ (Builtin.ObjectAttr.storeInOwnDict (.ref x) (.ref C) (.str name tk) name v false) _ _ _
  obtain ⟨nm, bs, mro, ns, qn, hd, sn, sb, ab, col, del⟩ := cd
  dsimp only at hh
  subst hh
  unfold Builtin.ObjectAttr.storeInOwnDict Builtin.ObjectAttr.ownDictForStores
  repeat (first | with_reducible refine HandSPX.store_in_new ?_ ?_ | with_reducible refine wpAny_loadPart_at hx ?_ | with_reducible refine hcls.at ?_ | wp_step)
  · exact ⟨_, #[], _, (Heap.get?_update_ne _ _ _ _ hxs.symm).trans (Heap.get?_push_at rfl rfl), rfl, fun e he => absurd he (by simp), fun _ => rfl⟩
  · intro h' tk' hn' hs
    have hx₁ : (h.push { cls := .type "dict", data := .dict #[] }).get? x = some { cls := .ref C, data := .fields fv } := Heap.get?_push_of_some _ hx
    refine hq h' tk' h.objs.size (fun b o hb ho => ?_) (Nat.le_refl _) hxs.symm ?_ hn'
    · exact (hs.2 b (Nat.ne_of_lt (Heap.lt_size ho))).trans ((Heap.get?_update_ne _ _ _ _ hb).trans (Heap.get?_push_of_some _ ho))
    · exact (hs.2 x hxs).trans (Heap.get?_update_self _ hx₁ rfl)
end
theorem kept_but {K : PySem.W.Frag} {h h' : Heap} {x : Addr} (X : K.In h) (hx : K.lookup x = none) (k : ∀ b o, b ≠ x → h.get? b = some o → h'.get? b = some o) : K.In h' := fun a o e =>
  k a o (fun z => by rw [z, hx] at e; cases e) (X a o e)
theorem sup_ruleX {prog : Program} {w : World} {A : Around} {env : Env} {body : List Stmt} {l : Expr} {es : List Expr} {p : Pos} {Q : Value → Shared → Prop} {E : Value → Shared → Prop} {m : Str} {apos : Pos} {s : Shared} (hline : (apos.endLine == p.line) = true) (hlen : es.length < 20) (hs : ∀ x ∈ es, notSt x = true)
    (h : PySem.wpAt (model prog w) A (.func body env) (attributeBase l m env (eval l env)) (fun ov s₁ => wpAny (model prog w) A (getMethod ov m (do return (← importBound l env).getD true)) (fun fx s2 => wpAny (model prog w) A (callWith p fx.1 fx.2 (backTo p (starEach es env)) []) Q E s2) E s₁) E s) :
    PySem.wpAt (model prog w) A (.func body env) (eval (.Call (.Attribute l m apos) es [] p) env) Q E s := by
  rw [PySem.arm_eval_Call]
  have hal := (nostar_any (env := env) (pos := p) hs).2
  have hform : methodCallForm (es.length + ([] : List Keyword).length) (backTo p (starEach es env)) (backToKw p (keywordEach [] env)) = true := by
    unfold methodCallForm
    rw [hal]
    have : es.length + 0 + 0 < 30 := by omega
    show (true && true && decide (es.length + 0 + 0 < 30)) = true
    rw [decide_eq_true this]
    rfl
  have hpos : methodCallPos true l env apos p = pure p := by unfold methodCallPos; simp [hline]
  refine PySem.wpAt_bind (PySem.wpAt_mono h (fun ov s1 h1 => PySem.wpAt_of_wpAny ?_) fun _ _ z => z)
  refine wpAny_bind (wpAny_standAt ?_)
  unfold methodCall
  rw [hform]
  refine wpAny_bind (wpAny_holding (thn (show wpAny _ _ (getMethod ov m _) _ _ _ from h1) fun fx s2 h2 => ?_))
  exact wpAny_bind (wpAny_of_eq hpos h2)
section
variable {P : Program} {w : World} {A : Around} {R : Result → Shared → Prop} {s : Shared} {K : PySem.W.Frag} {mg mb : Str → Option Value} {B newId initId : String} {bmB : List Value} {C Fam fI : Addr} {p : Str}
theorem exc_init (XB : XBase B newId initId bmB) (T : ExT P K mg B newId initId bmB C Fam fI p) {x t0 : Addr} {v : Value} (X : K.In s.heap) (GN : s.heap.Ns mainGlobals mg) (BN : s.heap.Ns builtinsNs mb) (hsb : mb "super" = some (.type "super")) (hlim : s.heap.NoLimit)
    (hx : s.heap.get? x = some (HandSPX.excO C t0)) (hnx : K.lookup x = none) (hroom : A.depth < recursionLimit)
    (hq : ∀ h' tk dx t1, (∀ b o, b ≠ x → s.heap.get? b = some o → h'.get? b = some o) → h'.get? x = some { cls := .ref C, dict := some dx, data := .fields #[.ref t1, .none, .none, .none, .bool false, .none] } → s.heap.objs.size ≤ dx → dx ≠ x →
      h'.Ns1 dx (fun y => if y = p then some v else none) → R (.ok (.ret .none)) { s with heap := h', toks := tk }) :
    codeAny (model P w) A (.call (.ref fI) ⟨[.ref x, v], []⟩) R s := by
  obtain ⟨qual, params, body, scope, cc, cda, oc, od, dV, kV, doc, pm, an, ct, osl, lk, hcode, hbody, Sc, hks, hkc, hbind, ⟨cl, cld, csl, lcc⟩, ⟨oc2, vs2, file, tf, lcd, hod, hvs, hfile⟩, ⟨ar, har, hself⟩⟩ := T.fn
  obtain ⟨nm, q, N, bs, sn, sub, ab, col, dd, k0, k1, k2, k3, k5, lC⟩ := T.obj
  have hcl : PySem.W.clsIn K C = some { name := nm, bases := bs, mro := .ref C :: .ref Fam :: bmB, ns := N, qualname := q, hasDict := true, slotNames := sn, subclasses := sub, abstract := ab, collection := col, hasDel := false } := by unfold PySem.W.clsIn; rw [lC] <;> rfl
  refine PySem.ks_codeAny_call_defAt (binds := [("self", .ref x), (p, v)]) hroom (X _ _ lk) rfl hlim (PySem.W.codeRec_of X hcode) rfl (.of_eq (hbind [.ref x, v] rfl)) Sc.nocell (fun y hy => ?_) (fun h₁ hns hk₁ => ?_) Sc.co Sc.gen Sc.kind
  · simp only [List.mem_cons, List.not_mem_nil, or_false] at hy
    rcases hy with rfl | rfl
    · exact Sc.par _ (List.mem_cons_self ..)
    · exact Sc.par _ (by simp)
  unfold excBody at hbody
  split at hbody
  · rename_i s0 p0 p1 m ap x1 pn cp ep y q1 a q2 z q3 q4
    simp only [Bool.and_eq_true, decide_eq_true_eq] at hbody
    obtain ⟨⟨⟨⟨⟨⟨e1, e2⟩, e3⟩, e4⟩, e5⟩, e6⟩, hline⟩ := hbody
    have e3 := e3.symm
    have e5 := e5.symm
    have e6 := e6.symm
    subst e1 e2 e4
    subst e3
    subst e5
    subst e6
    have henv : callEnv (PySem.W.ksFn "__init__" qual params [.Expr (.Call (.Attribute (.Call (.Name "super" p0) [] [] p1) "__init__" ap) [.Name p pn] [] cp) ep, .Assign [.Attribute (.Name "self" q1) p q2] (.Name p q3) q4] scope dV kV doc pm an (.ref cda) ct cc) s.heap.objs.size fI = PySem.W.ksEnv qual scope s.heap.objs.size fI (.ref cda) cc := rfl
    rw [henv]
    have hk : (PySem.W.ksEnv qual scope s.heap.objs.size fI (.ref cda) cc).scope.kind = .function := Sc.kind
    have hxL : s.heap.objs.size ≠ x := Nat.ne_of_gt (Heap.lt_size hx)
    have X1 : K.In h₁ := X.keeps hk₁
    have hx1 := hk₁ _ _ hx
    have locP : scope.names.lookup p = some .local := Sc.par _ (by simp)
    have locS : scope.names.lookup ("self" : Str) = some .local := Sc.par _ (List.mem_cons_self ..)
    have ndN := Sc.nd
    have hps : ¬ (("self" : Str) = p) := by
      intro e
      rw [List.nodup_cons] at ndN
      exact ndN.1 (by rw [e]; simp)
    have lS : (fun y => ([("self", Value.ref x), (p, v)] : List (Str × Value)).reverse.lookup y) ("self" : Str) = some (.ref x) := by
      show List.lookup ("self" : Str) [(p, v), (("self" : Str), Value.ref x)] = _
      have : (("self" : Str) == p) = false := by simpa using hps
      rw [List.lookup_cons, this]
      simp [List.lookup]
    have lP : (fun y => ([("self", Value.ref x), (p, v)] : List (Str × Value)).reverse.lookup y) p = some v := by
      show List.lookup p [(p, v), (("self" : Str), Value.ref x)] = _
      simp [List.lookup]
    refine PySem.ks_wpAt_execs_cons (PySem.ks_wpAt_Expr_any ?_ (by show interactive _ = false; simp [interactive, PySem.W.envX, newEnv, Sc.kind]) rfl)
    have hkS : (PySem.W.ksEnv qual scope s.heap.objs.size fI (.ref cda) cc).kindOf "super" = some .globalImplicit := hks
    have hkC : (PySem.W.ksEnv qual scope s.heap.objs.size fI (.ref cda) cc).kindOf "__class__" = some .free := hkc
    have hcells : (PySem.W.ksEnv qual scope s.heap.objs.size fI (.ref cda) cc).cells.lookup ("__class__" : Str) = some cc := by show List.lookup ("__class__" : Str) [(("__class__" : Str), cc)] = some cc; simp [List.lookup]
    have hg1 : h₁.Ns mainGlobals mg := GN.keeps hk₁
    have hb1 : h₁.Ns builtinsNs mb := BN.keeps hk₁
    refine sup_ruleX hline (by simp) (fun e he => by rw [List.mem_singleton.mp he]; rfl) (PySem.ks_wpAt_super_base hkS hkC (by decide +kernel) rfl (X1 _ _ lk) rfl har rfl (X1 _ _ lcd) hod hvs hfile T.top ?_)
    refine PySem.W.ks_loadName_global hk hkS ?_
    refine Calls.loadGlobal_builtin hg1 T.nsup hb1 hsb ⟨rfl, ?_⟩
    refine wpAny_loadName_free hk hkC hcells ⟨_, X1 _ _ lcc, rfl⟩ ?_
    rw [hself]
    refine wpAny_loadName_local hk locS hns lS ?_
    have hC1 := X1 _ _ lC
    refine PySem.ks_wpAny_isType_cls hC1 rfl ⟨rfl, ?_⟩
    have hmC : PySem.W.mroIn K C (.ref C) = some true := by unfold PySem.W.mroIn; rw [hcl, Option.bind_some, if_neg (by simp)]; simp
    refine PySem.ks_wpAny_call_super hC1 rfl hx1 rfl (fun c e => by cases e) (PySem.W.looks_mroIn X1 hmC) (fun h2 e2 k2 => ?_)
    have X2 : K.In h2 := X1.keeps k2
    have hx2 := k2 _ _ hx1
    have hsub : PySem.W.Looks (model P w) h2 (isInstance (.ref x) (.type B)) true := (PySem.W.InstAt.type (ox := HandSPX.excO C t0) (od := none) ⟨hx2, rfl, rfl, trivial⟩).andThen (PySem.W.looks_subIn X2 T.subB)
    have hsupI := T.sup
    unfold PySem.W.ks_superIn at hsupI
    rw [hcl, Option.bind_some] at hsupI
    have hne : x ≠ C := fun z => by
      rw [z] at hnx
      rw [lC] at hnx
      cases hnx
    refine PySem.W.kxs_getMethod XB.kf e2 (PySem.W.looks_opaque X2 T.opq) (l₀ := .ref C :: .ref Fam :: bmB) (fun A Q E s k q => wpAny_bind ((PySem.W.looks_clsIn X2 hcl) A _ E s k (wpAny_pure q))) rfl X2 hsupI hsub hne (by decide +kernel) ?_
    have k3 : ∀ b o, h2.get? b = some o → (h2.push (PySem.W.kxs_mw initId x)).get? b = some o := fun b o e => Heap.get?_push_of_some _ e
    have hmw : (h2.push (PySem.W.kxs_mw initId x)).get? h2.objs.size = some (PySem.W.kxs_mw initId x) := Heap.get?_push_size _ rfl
    refine PySem.W.kxs_callWith (i := initId) (x := x) (by rfl) (PySem.Calls.evalArgs_plain ?_)
    have hns3 : (h2.push (PySem.W.kxs_mw initId x)).Ns s.heap.objs.size (fun y => ([("self", Value.ref x), (p, v)] : List (Str × Value)).reverse.lookup y) := (hns.keeps k2).keeps k3
    show wpAny _ _ (spliced ((false, eval (.Name p pn) (PySem.W.ksEnv qual scope s.heap.objs.size fI (.ref cda) cc)) :: backTo cp (starEach [] (PySem.W.ksEnv qual scope s.heap.objs.size fI (.ref cda) cc)))) _ _ _
    refine Calls.spliced_cons (wpAny_Name (wpAny_loadName_local hk locP hns3 lP ?_) T.db)
    refine Calls.spliced_nil ⟨hmw, ?_⟩
    have X3 : K.In (h2.push (PySem.W.kxs_mw initId x)) := X2.keeps k3
    refine call_mw XB.fb XB.qi (X3 _ _ lC) (k3 _ _ hx2) hmw (by show 1 ≤ sizeLine; rw [sizeLine_eq]; decide) (fun h4 t1 k4 hx4 => ?_)
    have X4 : K.In h4 := kept_but X3 hnx k4
    have hns4 : h4.Ns s.heap.objs.size (fun y => ([("self", Value.ref x), (p, v)] : List (Str × Value)).reverse.lookup y) := by
      obtain ⟨o, es, ep, ho, r⟩ := hns3
      exact ⟨o, es, ep, k4 _ _ hxL ho, r⟩
    refine PySem.wpAt_of_wpAny (wpAny_execs_cons (plainObj_wpAny_Assign_Attribute ?_))
    refine wpAny_Name (wpAny_loadName_local hk locP hns4 lP ?_) T.db
    refine wpAny_Name (wpAny_loadName_local hk locS hns4 lS ?_)
    refine PySem.W.set_plain X4 (ox := HandSPX.excO C t1) (od := none) ⟨hx4, rfl, rfl, trivial⟩ T.sa ?_
    refine exc_osaX XB X4 hx4 hcl rfl rfl T.noP (fun h5 tk5 dx k5' dn dne hx5 hn5 => ?_)
    show wpAny _ _ (execs [] _) _ _ _
    exact wpAny_execs_nil (hq h5 tk5 dx t1 (fun b o hb e => k5' b o hb (k4 b o hb (k3 b o (k2 b o (hk₁ b o e))))) hx5 (Nat.le_of_lt (Nat.lt_of_lt_of_le hns4.lt dn)) dne hn5)
  · cases hbody
theorem exc_made (XB : XBase B newId initId bmB) (T : ExT P K mg B newId initId bmB C Fam fI p) {v : Value} (X : K.In s.heap) (GN : s.heap.Ns mainGlobals mg) (BN : s.heap.Ns builtinsNs mb) (hsb : mb "super" = some (.type "super")) (hlim : s.heap.NoLimit) (hroom : A.depth + 1 < recursionLimit)
    (hq : ∀ h' tk e d, XMade s.heap h' e C d p v → R (.ok (.ret (.ref e))) { s with heap := h', toks := tk }) :
    codeAny (model P w) A (.call (.ref C) ⟨[v], []⟩) R s := by
  obtain ⟨nm, q, N, bs, sn, sub, ab, col, dd, k0, k1, k2, k3, k5, lC⟩ := T.obj
  obtain ⟨hp, g, dr, tk, os⟩ := s
  have k : ∀ b o, hp.get? b = some o → ((hp.push (PySem.W.kdv_tup [v])).push (HandSPX.excO C hp.objs.size)).get? b = some o := fun b o e => Heap.get?_push_of_some _ (Heap.get?_push_of_some _ e)
  have hget : ((hp.push (PySem.W.kdv_tup [v])).push (HandSPX.excO C hp.objs.size)).get? (hp.objs.size + 1) = some (HandSPX.excO C hp.objs.size) := by heap_get
  have hnx : K.lookup (hp.objs.size + 1) = none := by
    cases e : K.lookup (hp.objs.size + 1) with
    | none => rfl
    | some o =>
      have z : hp.get? (hp.objs.size + 1) = some o := X _ _ e
      exact absurd (Nat.lt_of_succ_lt (Heap.lt_size z)) (Nat.lt_irrefl _)
  refine HandSPX.call_own XB.fb (fun X => by rw [List.contains_cons]; simp) (X _ _ lC) (PySem.W.looks_findIn X T.iC) (fun self => PySem.W.bind_fn X self T.tI) (by show 1 ≤ sizeLine; rw [sizeLine_eq]; decide) ?_
  refine exc_init (s := ⟨(hp.push (PySem.W.kdv_tup [v])).push (HandSPX.excO C hp.objs.size), g, dr, tk, os⟩) XB T (X.keeps k) (GN.keeps k) (BN.keeps k) hsb (hlim.keeps k) hget hnx ?_ fun h' tk' dx t1 k' hx dn dne hns => ?_
  · show A.depth + 1 < recursionLimit
    exact hroom
  · have old : ∀ b o, hp.get? b = some o → h'.get? b = some o := fun b o e => k' b o (Nat.ne_of_lt (Nat.lt_succ_of_lt (Heap.lt_size e))) (k b o e)
    have z : hp.objs.size + 1 + 1 ≤ dx := by
      first
        | (simpa only [Heap.size_push] using dn)
        | exact dn
        | (have q := dn; rw [Heap.size_push, Heap.size_push] at q; exact q)
    exact ⟨rfl, hq h' tk' (hp.objs.size + 1) dx ⟨old, Nat.le_succ _, ⟨t1, hx⟩, Nat.le_trans (Nat.le_trans (Nat.le_succ _) (Nat.le_succ _)) z, dne, hns⟩⟩
theorem mkx_of (XB : XBase B newId initId bmB) (T : ExT P K mg B newId initId bmB C Fam fI p) : MkX P w K mg C p := fun X GN BN hsb hlim hroom hq => exc_made XB T X GN BN hsb hlim hroom hq
end
end BV
namespace BV
open PySem L2
/-! ### facts of the written part, from tables -/
theorem vals_getD : ∀ {vs : List V} {us : List Value}, Vals vs us → ∀ i : Nat, RelV (vs.getD i .non) (us.getD i .none)
  | _, _, .nil, i => rfl
  | _, _, .cons r t, 0 => r
  | _, _, .cons r t, i + 1 => vals_getD t i
inductive Sr2 where
  | p (i : Nat) | k (i : Nat) | d (i : Nat) | m (i : Nat)
def src2 {α : Type} (z : α) (vs ds ms zs : List α) : List Sr2 → List α
  | [] => []
  | .p i :: r => vs.getD i z :: src2 z vs ds ms zs r
  | .k i :: r => zs.getD i z :: src2 z vs ds ms zs r
  | .d i :: r => ds.getD i z :: src2 z vs ds ms zs r
  | .m i :: r => ms.getD i z :: src2 z vs ds ms zs r
theorem vals_src2 {vs ds ms zs : List V} {us its mv ws : List Value} (r1 : Vals vs us) (r2 : Vals ds its) (r3 : Vals ms mv) (r4 : Vals zs ws) : ∀ l : List Sr2, Vals (src2 .non vs ds ms zs l) (src2 .none us its mv ws l)
  | [] => .nil
  | .p i :: r => .cons (vals_getD r1 i) (vals_src2 r1 r2 r3 r4 r)
  | .k i :: r => .cons (vals_getD r4 i) (vals_src2 r1 r2 r3 r4 r)
  | .d i :: r => .cons (vals_getD r2 i) (vals_src2 r1 r2 r3 r4 r)
  | .m i :: r => .cons (vals_getD r3 i) (vals_src2 r1 r2 r3 r4 r)
/-- a def of the written part; cl: what it closes over -/
structure DF (K : PySem.W.Frag) (x qual : Str) (nd : Stmt) (cl : List (Str × Addr)) (dvs : List V) (kws : List (Str × V)) (f : Addr) (fd : FuncData) : Prop where
  ex : ∃ (oc : Value) (od : Option Addr) (dV kV doc pm : Value) (an : Option Addr) (cda : Addr) (ct : Value) (osl : Array (Option Value)),
    fd = PySem.W.fnX x qual (defArgs nd) (defBody nd) (defScope nd) cl dV kV doc pm an (.ref cda) ct ∧ K.lookup f = some ⟨oc, od, .func fd, osl⟩ ∧ PySem.W.codeIn K (.ref cda) qual = true ∧ DflV K dV dvs ∧ KwdV K kV kws
  kp : PySem.W.keepIn K (.ref f) = true
section
variable {K : PySem.W.Frag} {x qual : Str} {nd : Stmt} {cl : List (Str × Addr)} {dvs : List V} {kws : List (Str × V)} {f : Addr} {fd : FuncData} {ps : List Str}
theorem DF.funD (F : DF K x qual nd [] dvs kws f fd) : FunD K x qual (defArgs nd) (defBody nd) (defScope nd) dvs kws f fd := by
  obtain ⟨oc, od, dV, kV, doc, pm, an, cda, ct, osl, rfl, h1, h2, h3, h4⟩ := F.ex
  exact ⟨⟨oc, od, dV, kV, doc, pm, an, _, ct, osl, rfl, h1, h2, h3, h4⟩, F.kp⟩
theorem DF.kbnN (F : DF K x qual nd cl [] kws f fd) (n : Nat) (ks : List Str) (pm : List Src) (l : List Sr2)
    (h : ∀ (kV doc pm : Value) (an : Option Addr) (cdv ct : Value) (us ws : List Value), us.length = n → ws.length = ks.length → bindArgs (PySem.W.fnX x qual (defArgs nd) (defBody nd) (defScope nd) cl .none kV doc pm an cdv ct) ⟨us, ks.zip ws⟩ = pure (ps.zip (src2 .none us [] [] ws l)))
    (e : ∀ vs zs, src2 V.non vs [] [] zs l = srcV vs zs pm) : ∃ gg, KBn K fd ps n ks gg fun vs zs => srcV vs zs pm := by
  obtain ⟨oc, od, dV, kV, doc, pm', an, cda, ct, osl, rfl, lk, hcd, hD, hK⟩ := F.ex
  rcases hD with ⟨_, rfl⟩ | ⟨e, _⟩
  · exact ⟨fun us ws => src2 .none us [] [] ws l, ⟨fun s us ws X l1 l2 => .of_eq (h kV doc pm' an (.ref cda) ct us ws l1 l2), fun r1 r2 => by rw [← e]; exact vals_src2 r1 .nil .nil r2 l⟩⟩
  · exact absurd rfl e
theorem DF.binds (F : DF K x qual nd cl [] kws f fd)
    (h : ∀ (kV doc pm : Value) (an : Option Addr) (cdv ct : Value) (us : List Value), us.length = ps.length → bindArgs (PySem.W.fnX x qual (defArgs nd) (defBody nd) (defScope nd) cl .none kV doc pm an cdv ct) ⟨us, []⟩ = pure (ps.zip us)) : Binds K fd ps [] := by
  obtain ⟨oc, od, dV, kV, doc, pm', an, cda, ct, osl, rfl, lk, hcd, hD, hK⟩ := F.ex
  rcases hD with ⟨_, rfl⟩ | ⟨e, _⟩
  · exact .all (h kV doc pm' an (.ref cda) ct)
  · exact absurd rfl e
theorem DF.bindsA (F : DF K x qual nd cl [] kws f fd)
    (h : ∀ (kV doc pm : Value) (an : Option Addr) (cdv ct : Value) (us : List Value), us.length = ps.length → bindArgs (PySem.W.fnX x qual (defArgs nd) (defBody nd) (defScope nd) cl .none kV doc pm an cdv ct) ⟨us, []⟩ = pure (ps.zip us)) (s : Shared) (us : List Value) (hl : us.length = ps.length) : BindsTo s fd ⟨us, []⟩ (ps.zip us) := by
  obtain ⟨oc, od, dV, kV, doc, pm, an, cdv, ct, osl, rfl, lk, hcd, hD, hK⟩ := F.ex
  rcases hD with ⟨_, rfl⟩ | ⟨e, _⟩
  · exact .of_eq (h kV doc pm an (.ref cdv) ct us hl)
  · exact absurd rfl e
end
/-! tables: what holds of each entry -/
def AllO {α : Type} (P : Nat → α → Prop) : Nat → List (Option α) → Prop
  | _, [] => True
  | i, some x :: l => P i x ∧ AllO P (i + 1) l
  | i, none :: l => AllO P (i + 1) l
theorem AllO.get {α : Type} {P : Nat → α → Prop} : ∀ {l : List (Option α)} {i : Nat}, AllO P i l → ∀ (f : Nat) (x : α), l.getD f none = some x → P (i + f) x
  | [], _, _, f, x, e => by simp at e
  | some y :: l, i, h, 0, x, e => by cases e; exact h.1
  | some y :: l, i, h, f + 1, x, e => by
    have := AllO.get h.2 f x (by simpa using e)
    rw [show i + (f + 1) = i + 1 + f by omega]; exact this
  | none :: l, i, h, 0, x, e => by cases e
  | none :: l, i, h, f + 1, x, e => by
    have := AllO.get (l := l) (i := i + 1) h f x (by simpa using e)
    rw [show i + (f + 1) = i + 1 + f by omega]; exact this
def AllP {κ α : Type} (P : κ → α → Prop) : List (κ × α) → Prop
  | [] => True
  | p :: l => P p.1 p.2 ∧ AllP P l
theorem AllP.get {κ α : Type} [BEq κ] [LawfulBEq κ] {P : κ → α → Prop} : ∀ {l : List (κ × α)}, AllP P l → ∀ (k : κ) (x : α), l.lookup k = some x → P k x
  | [], _, k, x, e => by simp [List.lookup] at e
  | (k', y) :: l, h, k, x, e => by
    rw [List.lookup_cons] at e
    split at e
    · rename_i q
      cases e
      rw [eq_of_beq q]; exact h.1
    · exact AllP.get h.2 k x e
theorem getD_imp {α : Type} {P : Nat → α → Prop} {l : List (Option α)} (h : AllO P 0 l) (f : Nat) (x : α) (e : l.getD f none = some x) : P f x := by
  have := h.get f x e
  rwa [Nat.zero_add] at this
theorem sqL_frz {K : PySem.W.Frag} {H : Hp} {a : Addr} {vs : List V} (h : SqL K H a vs) : SqL K (frz H []) a vs := by
  rcases h with (h | ⟨o, h⟩) | h
  · exact .inl (.inl (frz_at h (by simp)))
  · exact .inl (.inr ⟨o, frz_at h (by simp)⟩)
  · exact .inr h
theorem repL_ints {g : G} {F : Hp} : ∀ ns : List Int, RepL g F (ns.map D.int) (ns.map V.int)
  | [] => .nil
  | n :: ns => .cons (.int n) (repL_ints ns)
theorem fnG_imp {P : Program} {w : World} {K : PySem.W.Frag} {mg : Str → Option Value} {base : Heap} {CX : CXT} {k : Nat} {f : Addr} {fd : FuncData} {ps : List Str} {sp sp' : Sp} (F : FnG P w K mg base CX k f fd ps sp) (h : ∀ vs H Q E, sp' vs H Q E → sp vs H Q E) : FnG P w K mg base CX k f fd ps sp' :=
  ⟨fun vs H Q E q => F.len vs H Q E (h _ _ _ _ q), fun A outer s H args Q E hr hg e0 ⟨vs, H2, q⟩ hb => F.runB A outer s H args Q E hr hg e0 ⟨vs, H2, h _ _ _ _ q⟩ fun A' Ex Q' z => hb A' Ex Q' fun s2 H2 vs us e2 un ho hx r hl g => z s2 H2 vs us e2 un ho hx r hl (h _ _ _ _ g)⟩
/-- from the run of the table to the law's promise -/
theorem law_end {g : G} {T : Tab} {n j : Nat} (F : Fx g (T.at n j) (3 * j)) (hps : (g.ps 0).length = 1) (law : ∀ ns : List Int, ns.length ≤ 63 → ∃ cs, (T.phs n j).1 0 [.d (.flst (ns.map D.int))] [] = .ok (.bl true) cs) :
    FnG g.P g.w g.K g.mg g.base (L2.CX g.P g.w) (3 * j) (g.fa 0) (g.fd 0) (g.ps 0) (spLaw g.K g.T) := by
  refine fnG_imp (F.fn 0) fun vs H Q E ⟨a, ns, ev, hS, hl, hT, q⟩ => ?_
  subst ev
  obtain ⟨cs, e⟩ := law ns hl
  refine ⟨[.d (.flst (ns.map D.int))], [], [], ⟨rfl, fun n c e => by simp at e, fun n e => by simp at e, fun n m a e => by simp at e, hT⟩, .cons ?_ .nil, by rw [hps]; rfl, ?_⟩
  · show Rep g (frz H []) _ _
    exact .flst (sqL_frz hS) (repL_ints ns)
  · rw [show (T.at n j).phi = (T.phs n j).1 from rfl, e]
    intro H' v _ _ r
    cases r
    exact q H'
end BV
namespace BV
open PySem L2 PySem.Spec PyProof.Rows
/-! ### defs that are handed a lambda -/
/-- one such def: name = None; try: deed() except ks as e: name = e; rest -/
structure FnTD (g : G) (T : Tab) (f : Nat) (d : DeedD) : Prop where
  ex : ∃ (N : List Str) (x qual : Str) (params : Arguments) (scope : Scope) (dvs : List V) (kws : List (Str × V)) (a v n' : Str) (te : Expr) (rest : List Stmt) (pv cp ap p1 p2 p3 pv2 pm pa ph pp : Pos) (cj : Nat),
    FunD g.K x qual params (.Assign [.Name v pv] (.Constant .none cj cp) ap :: .Try [.Expr (.Call (.Name a p1) [] [] p2) p3] [.ExceptHandler (some te) (some n') [.Assign [.Name v pv2] (.Name n' pm) pa] ph] [] [] pp :: rest) scope dvs kws (g.fa f) (g.fd f) ∧ FnScope N [a] scope ∧ N.length = d.nl ∧
    Binds g.K (g.fd f) [a] [] ∧ d.pre = [d.j] ∧ d.tgt = none ∧ d.i ≠ d.j ∧ d.j ≠ 0 ∧ N[0]? = some a ∧ N[d.i]? = some n' ∧ N[d.j]? = some v ∧ scope.names.lookup n' = some .local ∧ scope.names.lookup v = some .local ∧ visB scope a = true ∧ nodbg a = true ∧ nodbg n' = true ∧
    chkTe T.st scope d.ks te = true ∧ chkSs T.st N scope d.rest rest = true ∧ scope ∉ g.lams
end BV
namespace BV
open PySem L2 PySem.Spec PyProof.Rows
section
variable {g : G} {X : Cx} {Wx : WX} {N : List Str}
def tDeed (g : G) (W : WX) (th : Cells → R D) (u : Addr) (ra : Ra) (H0 : Hp) : TS := fun D σ H => σ[0]? = some (some (V.ref u)) ∧ ∃ cs, Keep ra H0 H ∧ Rel g ra cs H ∧ PostR g (fun H' d v => Rep g (frz H' ra) d v) (th cs) ra H (fun _ H' => D.nx σ H') (fun c dd H' => W c dd σ H')
def tDeed2 (g : G) (W : WX) (th : Cells → R D) (u : Addr) (ra : Ra) (H0 : Hp) (t : Nat) : TS := fun D σ H => σ[0]? = some (some (V.ref u)) ∧ ∃ cs, Keep ra H0 H ∧ Rel g ra cs H ∧ PostR g (fun H' d v => Rep g (frz H' ra) d v) (th cs) ra H (fun v H' => D.nx (σ.set t (some v)) H') (fun c dd H' => W c dd σ H')
theorem pe_deed {W : WX} {th : Cells → R D} {u : Addr} {ra : Ra} {H0 : Hp} {s0 : Shared} {outer : List Env} {a : Str} {p1 p2 : Pos} {k : Nat} (hX : X.s_0 = s0 ∧ X.H_0 = H0 ∧ X.fs = frs outer ∧ X.ex = [] ∧ X.stack = X.env :: outer) (hr : Room k X.A) (hgd : X.A.guards = some []) (tk : Takes X W) (hN : X.N[0]? = some a) (hv : Vis X.env.scope a) (hd : (a == ("__debug__" : Str)) = false) (hcd : (a == ("__classdict__" : Str)) = false)
    (fn : PySem.W.FnAt u s0.heap) (hu : H0 u = none) (hfr : u ∉ frs outer) (deed : DeedRun g X.prog X.w X.K X.mg X.base k (frs outer) (.ref u) th ra s0 H0) :
    PE X (.Call (.Name a p1) [] [] p2) (fun σ H Q => σ[0]? = some (some (V.ref u)) ∧ ∃ cs, Keep ra H0 H ∧ Rel g ra cs H ∧ PostR g (fun H' d v => Rep g (frz H' ra) d v) (th cs) ra H Q (fun c dd H' => W c dd σ H')) := by
  obtain ⟨e1, e2, e3, e4, e5⟩ := hX
  refine ⟨fun pins s σ H Q I h => ?_⟩
  obtain ⟨hs, cs, kp, R, post⟩ := h
  refine wpAny_Call_Name_kw (thn ((pe_var (pos := p1) (i := 0) hN hv hd hcd).run pins s σ H (fun v H1 => v = .ref u ∧ H1 = H) I ⟨.ref u, hs, rfl, rfl⟩) fun uu s1 ⟨v, H1, I1, r1, q1⟩ => ?_)
  obtain ⟨ev, eH⟩ := q1
  subst ev
  subst eH
  obtain rfl : uu = Value.ref u := r1
  have un : Un (frs outer) [] H0 H1 s0.heap s1.heap := by
    have := I1.base
    rw [e1, e2, e3, e4] at this
    exact this
  obtain ⟨c1, d1, f1, sl, hf⟩ := fn
  have of1 := un.keep u _ hf hu hfr (fun z => nomatch (show u ∈ ([] : List Addr) from z))
  refine PySem.W.callWith_F0 ⟨_, _, _, _, of1⟩ ?_
  have rc := deed X.A X.stack s1 H1 cs Q (fun c dd H' => W c dd σ H') hr hgd I1.env0 un kp R post
  refine wpAny_call (codeAny_mono rc fun r s2 hq => ?_)
  cases r with
  | error e => exact tk e s2 (XE.of_call I1 (fun cls d H' z => z) hq)
  | ok fl =>
    cases fl with
    | ret w => exact I1.after hq
    | next => exact False.elim hq
    | brk => exact False.elim hq
    | cont => exact False.elim hq
theorem ps_deed {W : WX} {th : Cells → R D} {u : Addr} {ra : Ra} {H0 : Hp} {s0 : Shared} {outer : List Env} {a : Str} {p1 p2 p3 : Pos} {k : Nat} (hX : X.s_0 = s0 ∧ X.H_0 = H0 ∧ X.fs = frs outer ∧ X.ex = [] ∧ X.stack = X.env :: outer) (hr : Room k X.A) (hgd : X.A.guards = some []) (tk : Takes X W) (hN : X.N[0]? = some a) (hv : Vis X.env.scope a) (hd : (a == ("__debug__" : Str)) = false) (hcd : (a == ("__classdict__" : Str)) = false)
    (fn : PySem.W.FnAt u s0.heap) (hu : H0 u = none) (hfr : u ∉ frs outer) (deed : DeedRun g X.prog X.w X.K X.mg X.base k (frs outer) (.ref u) th ra s0 H0) :
    PS X (.Expr (.Call (.Name a p1) [] [] p2) p3) (tDeed g W th u ra H0) :=
  PS.imp (ps_expr (pe_deed hX hr hgd tk hN hv hd hcd fn hu hfr deed) rfl) fun D σ H q => q
/-- name = deed() -/
theorem ps_deed2 {W : WX} {th : Cells → R D} {u : Addr} {ra : Ra} {H0 : Hp} {s0 : Shared} {outer : List Env} {a : Str} {p1 p2 p3 : Pos} {k t : Nat} {v2 : Str} {pr : Pos} (hX : X.s_0 = s0 ∧ X.H_0 = H0 ∧ X.fs = frs outer ∧ X.ex = [] ∧ X.stack = X.env :: outer) (hr : Room k X.A) (hgd : X.A.guards = some []) (tk : Takes X W) (hN : X.N[0]? = some a) (hv : Vis X.env.scope a) (hd : (a == ("__debug__" : Str)) = false) (hcd : (a == ("__classdict__" : Str)) = false)
    (fn : PySem.W.FnAt u s0.heap) (hu : H0 u = none) (hfr : u ∉ frs outer) (deed : DeedRun g X.prog X.w X.K X.mg X.base k (frs outer) (.ref u) th ra s0 H0) (hnd : X.N.Nodup) (ht : X.N[t]? = some v2) (hl : X.env.scope.names.lookup v2 = some .local) :
    PS X (.Assign [.Name v2 pr] (.Call (.Name a p1) [] [] p2) p3) (tDeed2 g W th u ra H0 t) :=
  PS.imp (ps_asg (pe_deed hX hr hgd tk hN hv hd hcd fn hu hfr deed) (pg_name (i := t) hnd ht (.inl hl) (.inr hl)) rfl rfl rfl) fun D σ H q => q
end
end BV
namespace BV
open PySem L2 PySem.Spec PyProof.Rows
theorem pre_ok {g : G} {H : Hp} {ra : Ra} {u : Addr} {N : List Str} {nl j : Nat} (hN : N.length = nl) (hj : j ≠ 0) (hn : 0 < nl) : FrR g H ra (preF nl [j]) ((L2.start N [V.ref u]).set j (some .non)) := by
  have len : (L2.start N [V.ref u]).length = nl := by
    unfold L2.start
    simp
    omega
  refine ⟨by unfold preF; simp [len], fun m w e => ?_⟩
  unfold preF at e
  simp only [List.foldl] at e
  by_cases hm : m = j
  · subst hm
    have hlt : m < nl := by
      have := (List.getElem?_eq_some_iff.mp e).1
      simpa using this
    rw [List.getElem?_set_self (by simpa using hlt)] at e
    cases e
    exact ⟨.non, List.getElem?_set_self (by rw [len]; exact hlt), .non⟩
  · rw [List.getElem?_set_ne (Ne.symm hm)] at e
    have := List.mem_of_getElem? e
    rw [List.mem_replicate] at this
    exact absurd this.2 (by simp)
theorem hold_fr {g : G} {H : Hp} {ra : Ra} {fr : Fra} {σ : L2.St} {i j : Nat} {b : Addr} {dx : D} (hij : i ≠ j) (F2 : FrR g H ra fr σ) (r : Rep g (frz H ra) dx (.ref b)) : FrR g H ra ((fr.set i none).set j (some (.d dx))) (((σ.set i (some (.ref b))).set j (some (.ref b))).set i none) := by
  refine ⟨by rw [List.length_set, List.length_set, List.length_set, List.length_set, List.length_set]; exact F2.1, fun m w hm => ?_⟩
  by_cases hmj : m = j
  · subst hmj
    have hlt : m < (fr.set i none).length := by
      have := (List.getElem?_eq_some_iff.mp hm).1
      rwa [List.length_set] at this
    rw [List.getElem?_set_self hlt] at hm
    cases hm
    rw [List.length_set, F2.1] at hlt
    refine ⟨.ref b, ?_, r⟩
    rw [List.getElem?_set_ne hij, List.getElem?_set_self (by rw [List.length_set]; exact hlt)]
  · rw [List.getElem?_set_ne (Ne.symm hmj)] at hm
    by_cases hmi : m = i
    · subst hmi
      rw [List.getElem?_set] at hm
      simp at hm
    · rw [List.getElem?_set_ne (Ne.symm hmi)] at hm
      obtain ⟨v2, q1, q2⟩ := F2.2 m w hm
      refine ⟨v2, ?_, q2⟩
      rw [List.getElem?_set_ne (Ne.symm hmi), List.getElem?_set_ne (Ne.symm hmj), List.getElem?_set_ne (Ne.symm hmi)]
      exact q1
theorem ok_fnD {g : G} {T : Tab} {k f n : Nat} {d : DeedD} {wd : Wd} (F : Fx g wd k) (est : wd.toWs = T.st) (t : FnTD g T f d) : FnD g g.P g.w g.K g.mg g.base (k + 4) f (fnRunD wd n d) := by
  obtain ⟨N, x, qual, params, scope, dvs, kws, a, v, n', te, rest, pv, cp, ap, p1, p2, p3, pv2, pm, pa, ph, pp, cj, D, Sc, hNl, hB, hpre, htgt, hij, hj0, h0, hi, hj, hln, hlv, hva, hda, hdn, hte, hrest, hnl⟩ := t.ex
  obtain ⟨oc, od, dV, kV, doc, pm', an, cdv, ct, osl, efd, lk, hcd, _, _⟩ := D.ex
  unfold nodbg at hda hdn
  simp only [Bool.and_eq_true, Bool.not_eq_true'] at hda hdn
  refine ⟨fun A outer s H u th ra cs Q E hr hgd e0 hfn hHu hfr deed R post => ?_⟩
  have KX : g.K.In s.heap := e0.mod.kin.keeps fun b o e => (e0.bs b o e).1
  have hb := hB s [.ref u] KX rfl
  rw [efd] at lk hb
  refine LamX.run_ofS (CX := L2.CX g.P g.w) (N := N) (ps := [a]) (us := [.ref u]) (vs := [.ref u]) (k := k + 4) lk hcd Sc hr e0 hb (.cons rfl .nil) rfl fun hr' => ?_
  have ok : Okx g N scope true k (cxOf (L2.CX g.P g.w) g.P g.w g.K g.mg g.base N qual scope (g.fa f) cdv A outer s H E) (fun c d _ H' => E c d H') :=
    ⟨rfl, rfl, rfl, rfl, rfl, rfl, Sc.nd, rfl, rfl, fun _ _ _ => rfl, hr'.mono (by omega), takes_of rfl rfl rfl rfl, hgd, fun h => absurd h hnl, fun _ => ⟨rfl, rfl, rfl⟩⟩
  have S1 := ps_asg (X := cxOf (L2.CX g.P g.w) g.P g.w g.K g.mg g.base N qual scope (g.fa f) cdv A outer s H E) (pos := ap) (pe_non (j := cj) (pos := cp)) (pg_name (pos := pv) (i := d.j) Sc.nd hj (.inl hlv) (.inr hlv)) rfl rfl rfl
  have S2 := ps_try_hold (X := cxOf (L2.CX g.P g.w) g.P g.w g.K g.mg g.base N qual scope (g.fa f) cdv A outer s H E) (pos := pp) (pos' := ph) (body := [.Expr (.Call (.Name a p1) [] [] p2) p3]) (b₀ := .Assign [.Name v pv2] (.Name n' pm) pa) (suite := []) (tb := fun W => tDeed g W th u ra H) (i := d.i) (j := d.j) (Wout := fun c d _ H' => E c d H') rfl rfl Sc.nd hi hln (testOk F ok (by rw [est]; exact hte)) ok.tk
    (fun W pn xe tk po => PSs.imp (pss_one (ps_deed (k := k + 4) (s0 := s) (outer := outer) ⟨rfl, rfl, rfl, rfl, rfl⟩ hr' hgd tk h0 (vis_of hva) hda.1 hda.2 hfn hHu hfr deed)) fun D σ H q => q)
    (fun b pn => PSs.imp (pss_one (ps_asg (pe_var (i := d.i) hi (.inl hln) hdn.1 hdn.2) (pg_name (i := d.j) Sc.nd hj (.inl hlv) (.inr hlv)) rfl rfl rfl)) fun D σ H q => q) rfl
  have S3 := (sndS F d.rest).l (n := n) (b := cs.length) ok (passes_of rfl) rest (by rw [est]; exact hrest)
  refine ⟨_, pss_cons S1 (pss_cons S2 S3), ?_⟩
  have hpos : 0 < d.nl := by
    rw [← hNl]
    exact (List.getElem?_eq_some_iff.mp h0).1
  show tDeed g _ th u ra H _ ((L2.start N [V.ref u]).set d.j (some .non)) H
  refine ⟨by rw [List.getElem?_set_ne hj0]; simp [L2.start], cs, Keep.refl _ _, R, ?_⟩
  unfold fnRunD at post
  rw [hpre, htgt] at post
  cases e : th cs with
  | bad => rw [e] at post; exact post.elim
  | ok dd c1 =>
    rw [e] at post
    intro H' v k' R' r'
    exact ⟨bs0 ra H, preF d.nl [d.j], c1, ra, R.len, (bs0_ok ra H).keep k', R', pre_ok hNl hj0 hpos, end_post R post⟩
  | exc c x c1 =>
    rw [e] at post
    intro H' dd v k' R' hx rx
    simp only [deedR, holdR] at post
    split at post
    · rename_i em
      refine ⟨true, F.exm _ _ _ em, fun _ b hb => ?_, fun z => by cases z⟩
      have nt : noTbl (ExcV (.ref (g.ca c)) (some dd) b) := fun _ z => by unfold ExcV at z; cases z
      obtain ⟨k2, R2, f2⟩ := R'.new (o := ExcV (.ref (g.ca c)) (some dd) b) hb nt
      have F2 : FrR g (upd H' b (ExcV (.ref (g.ca c)) (some dd) b)) ra (preF d.nl [d.j]) ((L2.start N [V.ref u]).set d.j (some .non)) := pre_ok hNl hj0 hpos
      have hdd : frz (upd H' b (ExcV (.ref (g.ca c)) (some dd) b)) ra dd = some (.xd [(g.efld c, v)]) := by
        refine frz_at (k2.at hx ?_) ?_
        all_goals
          intro z
          obtain ⟨m, hm⟩ := mem_ra z
          obtain ⟨c0, _, q⟩ := R'.back hm
          rcases q.kind with ⟨vs, q⟩ | ⟨c0, dx, vs, q⟩ | ⟨vs, q⟩ <;> rw [hx] at q <;> cases q
      exact ⟨bs0 ra H, _, c1, ra, R.len, ((bs0_ok ra H).keep k').keep k2, R2, hold_fr hij F2 (.exc f2 hdd (Rep.mono k2.same rx)), end_post R post⟩
    · rename_i em
      exact ⟨false, F.exm _ _ _ em, fun z _ _ => Bool.noConfusion z, fun _ => post H' dd v k' (by rw [List.take_of_length_le (by rw [← R.len, R'.len]; exact Nat.le_refl _)]; exact R') hx rx⟩
    · exact post.elim
end BV
namespace BV
open PySem L2
theorem xbV : XBase "ValueError" "ValueError.__new__" "ValueError.__init__" [.type "ValueError", .type "Exception", .type "BaseException", .type "object"] := ⟨PySem.F.excBase_ValueError, PySem.W.kxs_ValueError, PySem.F.store_ValueError, by decide +kernel, by decide +kernel⟩
end BV
namespace BV
open PySem L2 PySem.Spec PyProof.Rows
/-- a def that is handed a lambda: v, v2 = (None, None); try: v2 = deed() except ks as e: v = e; rest -/
structure FnTD2 (g : G) (T : Tab) (f : Nat) (d : DeedD) : Prop where
  ex : ∃ (N : List Str) (x qual : Str) (params : Arguments) (scope : Scope) (dvs : List V) (kws : List (Str × V)) (a v v2 n' : Str) (t : Nat) (te : Expr) (rest : List Stmt) (pv pw ptt cp cq ptv ap pr p1 p2 p3 pv2 pm pa ph pp : Pos) (kt kv cj ck : Nat),
    FunD g.K x qual params (.Assign [.Tuple [.Name v pv, .Name v2 pw] kt ptt] (.Tuple [.Constant .none cj cp, .Constant .none ck cq] kv ptv) ap :: .Try [.Assign [.Name v2 pr] (.Call (.Name a p1) [] [] p2) p3] [.ExceptHandler (some te) (some n') [.Assign [.Name v pv2] (.Name n' pm) pa] ph] [] [] pp :: rest) scope dvs kws (g.fa f) (g.fd f) ∧ FnScope N [a] scope ∧ N.length = d.nl ∧
    Binds g.K (g.fd f) [a] [] ∧ d.pre = [d.j, t] ∧ d.tgt = some t ∧ (d.i ≠ d.j ∧ d.i ≠ t ∧ t ≠ d.j ∧ d.j ≠ 0 ∧ t ≠ 0) ∧ N[0]? = some a ∧ N[d.i]? = some n' ∧ N[d.j]? = some v ∧ N[t]? = some v2 ∧ scope.names.lookup n' = some .local ∧ scope.names.lookup v = some .local ∧ scope.names.lookup v2 = some .local ∧ visB scope a = true ∧ nodbg a = true ∧ nodbg n' = true ∧
    chkTe T.st scope d.ks te = true ∧ chkSs T.st N scope d.rest rest = true ∧ scope ∉ g.lams
theorem sw0 {x y : Str} {px py pt pv cp cq : Pos} {kt kv cj ck : Nat} {env : Env} : swappedStores [.Tuple [.Name x px, .Name y py] kt pt] (.Tuple [.Constant .none cj cp, .Constant .none ck cq] kv pv) env = pure none := by
  unfold swappedStores
  simp only [foldedForSure, List.all_cons, List.all_nil, Bool.and_true, if_true]
  repeat' split
  all_goals first | rfl | simp_all
theorem pre_ok2 {g : G} {H : Hp} {ra : Ra} {u : Addr} {N : List Str} {nl j t : Nat} (hN : N.length = nl) (hj : j ≠ 0) (hn : 0 < nl) : FrR g H ra (preF nl [j, t]) (((L2.start N [V.ref u]).set j (some .non)).set t (some .non)) :=
  FrR.set (w := .d .non) (pre_ok hN hj hn) .non
theorem ok_fnD2 {g : G} {T : Tab} {k f n : Nat} {d : DeedD} {wd : Wd} (F : Fx g wd k) (est : wd.toWs = T.st) (t : FnTD2 g T f d) : FnD g g.P g.w g.K g.mg g.base (k + 4) f (fnRunD wd n d) := by
  obtain ⟨N, x, qual, params, scope, dvs, kws, a, v, v2, n', t2, te, rest, pv, pw, ptt, cp, cq, ptv, ap, pr, p1, p2, p3, pv2, pm, pa, ph, pp, kt, kv, cj, ck, D, Sc, hNl, hB, hpre, htgt, ⟨hij, hit, htj, hj0, ht0⟩, h0, hi, hj, ht, hln, hlv, hlv2, hva, hda, hdn, hte, hrest, hnl⟩ := t.ex
  obtain ⟨oc, od, dV, kV, doc, pm', an, cdv, ct, osl, efd, lk, hcd, _, _⟩ := D.ex
  unfold nodbg at hda hdn
  simp only [Bool.and_eq_true, Bool.not_eq_true'] at hda hdn
  refine ⟨fun A outer s H u th ra cs Q E hr hgd e0 hfn hHu hfr deed R post => ?_⟩
  have KX : g.K.In s.heap := e0.mod.kin.keeps fun b o e => (e0.bs b o e).1
  have hb := hB s [.ref u] KX rfl
  rw [efd] at lk hb
  refine LamX.run_ofS (CX := L2.CX g.P g.w) (N := N) (ps := [a]) (us := [.ref u]) (vs := [.ref u]) (k := k + 4) lk hcd Sc hr e0 hb (.cons rfl .nil) rfl fun hr' => ?_
  have ok : Okx g N scope true k (cxOf (L2.CX g.P g.w) g.P g.w g.K g.mg g.base N qual scope (g.fa f) cdv A outer s H E) (fun c d _ H' => E c d H') :=
    ⟨rfl, rfl, rfl, rfl, rfl, rfl, Sc.nd, rfl, rfl, fun _ _ _ => rfl, hr'.mono (by omega), takes_of rfl rfl rfl rfl, hgd, fun h => absurd h hnl, fun _ => ⟨rfl, rfl, rfl⟩⟩
  have S1 := ps_asg (X := cxOf (L2.CX g.P g.w) g.P g.w g.K g.mg g.base N qual scope (g.fa f) cdv A outer s H E) (pos := ap) (pe_tup (x1 := kv) (pos := ptv) (pa_cons (pe_non (j := cj) (pos := cp)) (pa_cons (pe_non (j := ck) (pos := cq)) pa_nil rfl) rfl))
    (pg_tup (n := 2) (k := kt) (pos := ptt) ok.calm (pgs_cons (pg_name (pos := pv) (i := d.j) Sc.nd hj (.inl hlv) (.inr hlv)) (pgs_cons (pg_name (pos := pw) (i := t2) Sc.nd ht (.inl hlv2) (.inr hlv2)) pgs_nil rfl) rfl)) rfl sw0 rfl
  have S2 := ps_try_hold (X := cxOf (L2.CX g.P g.w) g.P g.w g.K g.mg g.base N qual scope (g.fa f) cdv A outer s H E) (pos := pp) (pos' := ph) (body := [.Assign [.Name v2 pr] (.Call (.Name a p1) [] [] p2) p3]) (b₀ := .Assign [.Name v pv2] (.Name n' pm) pa) (suite := []) (tb := fun W => tDeed2 g W th u ra H t2) (i := d.i) (j := d.j) (Wout := fun c d _ H' => E c d H') rfl rfl Sc.nd hi hln (testOk F ok (by rw [est]; exact hte)) ok.tk
    (fun W pn xe tk po => PSs.imp (pss_one (ps_deed2 (k := k + 4) (s0 := s) (outer := outer) ⟨rfl, rfl, rfl, rfl, rfl⟩ hr' hgd tk h0 (vis_of hva) hda.1 hda.2 hfn hHu hfr deed Sc.nd ht hlv2)) fun D σ H q => q)
    (fun b pn => PSs.imp (pss_one (ps_asg (pe_var (i := d.i) hi (.inl hln) hdn.1 hdn.2) (pg_name (i := d.j) Sc.nd hj (.inl hlv) (.inr hlv)) rfl rfl rfl)) fun D σ H q => q) rfl
  have S3 := (sndS F d.rest).l (n := n) (b := cs.length) ok (passes_of rfl) rest (by rw [est]; exact hrest)
  refine ⟨_, pss_cons S1 (pss_cons S2 S3), ?_⟩
  have hpos : 0 < d.nl := by
    rw [← hNl]
    exact (List.getElem?_eq_some_iff.mp h0).1
  refine ⟨by decide, fun p hp => ?_⟩
  obtain ⟨kp, Rp, _⟩ := R.new (o := HO.tup [V.non, V.non]) hp
  refine ⟨p, [V.non, V.non], rfl, SqT.of upd_same, rfl, .non, [.non], rfl, .non, [], rfl, rfl, ?_⟩
  show tDeed2 g _ th u ra H t2 _ (((L2.start N [V.ref u]).set d.j (some .non)).set t2 (some .non)) (upd H p (HO.tup [V.non, V.non]))
  refine ⟨by rw [List.getElem?_set_ne ht0, List.getElem?_set_ne hj0]; simp [L2.start], cs, kp, Rp, ?_⟩
  unfold fnRunD at post
  rw [hpre, htgt] at post
  cases e : th cs with
  | bad => rw [e] at post; exact post.elim
  | ok dd c1 =>
    rw [e] at post
    intro H' v k' R' r'
    refine ⟨bs0 ra H, (preF d.nl [d.j, t2]).set t2 (some (.d dd)), c1, ra, R.len, ((bs0_ok ra H).keep kp).keep k', R', FrR.set (w := .d dd) (pre_ok2 hNl hj0 hpos) r', ?_⟩
    exact end_post R post
  | exc c x c1 =>
    rw [e] at post
    intro H' dd v k' R' hx rx
    simp only [deedR, holdR] at post
    split at post
    · rename_i em
      refine ⟨true, F.exm _ _ _ em, fun _ b hb => ?_, fun z => by cases z⟩
      have nt : noTbl (ExcV (.ref (g.ca c)) (some dd) b) := fun _ z => by unfold ExcV at z; cases z
      obtain ⟨k2, R2, f2⟩ := R'.new (o := ExcV (.ref (g.ca c)) (some dd) b) hb nt
      have F2 : FrR g (upd H' b (ExcV (.ref (g.ca c)) (some dd) b)) ra (preF d.nl [d.j, t2]) (((L2.start N [V.ref u]).set d.j (some .non)).set t2 (some .non)) := pre_ok2 hNl hj0 hpos
      have hdd : frz (upd H' b (ExcV (.ref (g.ca c)) (some dd) b)) ra dd = some (.xd [(g.efld c, v)]) := by
        refine frz_at (k2.at hx ?_) ?_
        all_goals
          intro z
          obtain ⟨m, hm⟩ := mem_ra z
          obtain ⟨c0, _, q⟩ := R'.back hm
          rcases q.kind with ⟨vs, q⟩ | ⟨c0, dx, vs, q⟩ | ⟨vs, q⟩ <;> rw [hx] at q <;> cases q
      exact ⟨bs0 ra H, _, c1, ra, R.len, (((bs0_ok ra H).keep kp).keep k').keep k2, R2, hold_fr hij F2 (.exc f2 hdd (Rep.mono k2.same rx)), end_post R post⟩
    · rename_i em
      exact ⟨false, F.exm _ _ _ em, fun z _ _ => Bool.noConfusion z, fun _ => post H' dd v (kp.trans k') (by rw [List.take_of_length_le (by rw [← R.len, R'.len]; exact Nat.le_refl _)]; exact R') hx rx⟩
    · exact post.elim
end BV
namespace BV
open PySem L2
/-! the evaluators, a form at a time -/
def tst (wd : Wd) (e : E) : Fra → Cells → R Bool := fun fr cs => asB (ev wd e fr cs)
section
variable {wd : Wd} {n b i f p c : Nat} {is tg : List Nat} {one : Bool} {fr : Fra} {cs : Cells} {a e as ks it lo hi t : E} {x y : Str} {s r : S} {z : L} {d : D} {acc : Str}
@[simp] theorem x_nop : exS wd n b .nop fr cs = .nx fr cs := by rw [exS]
@[simp] theorem x_set : exS wd n b (.set i e) fr cs = onE fr (ev wd e fr cs) fun w c1 => .nx (fr.set i (some w)) c1 := by rw [exS]
@[simp] theorem x_setL : exS wd n b (.setL i z) fr cs = onE fr (evL wd z fr cs) fun _ c1 => .nx (fr.set i (some (.loc (c1.length - 1)))) c1 := by rw [exS]
@[simp] theorem x_setT : exS wd n b (.setT is e) fr cs = onE fr (ev wd e fr cs) fun w c1 => match w with
    | .d d => match setTg is false d fr with
      | some fr1 => .nx fr1 c1
      | none => .bad
    | _ => .bad := by rw [exS] <;> rfl
@[simp] theorem x_par : exS wd n b (.par is as) fr cs = onE fr (evA wd as fr cs) fun ws c1 => .nx (setWs fr (is.zip ws)) c1 := by rw [exS]
@[simp] theorem x_parL {zs : List PL} : exS wd n b (.parL is zs) fr cs = onE fr (evPL wd zs fr cs) fun ws c1 => .nx (setWs fr (is.zip ws)) c1 := by rw [exS]
@[simp] theorem vPL_nil : evPL wd [] fr cs = .ok [] cs := rfl
@[simp] theorem vPL_e {r : List PL} : evPL wd (.e e :: r) fr cs = (ev wd e fr cs).bind fun w c1 => (evPL wd r fr c1).bind fun ws c2 => .ok (w :: ws) c2 := rfl
@[simp] theorem vPL_l {r : List PL} : evPL wd (.l z :: r) fr cs = (evL wd z fr cs).bind fun _ c1 => (evPL wd r fr c1).bind fun ws c2 => .ok (.loc (c1.length - 1) :: ws) c2 := rfl
@[simp] theorem vL_lst : evL wd (.lst as) fr cs = (evA wd as fr cs).bind fun ws c1 => lstL ws c1 := rfl
@[simp] theorem x_put {j : E} : exS wd n b (.put a j e) fr cs = onE fr (ev wd e fr cs) fun w c1 => onE fr (ev wd a fr c1) fun wa c2 => onE fr (ev wd j fr c2) fun wi c3 => putR fr w wa wi c3 := by rw [exS]
@[simp] theorem x_fld : exS wd n b (.fld a x e) fr cs = onE fr (ev wd e fr cs) fun w c1 => onE fr (ev wd a fr c1) fun wa c2 => fldR wd fr x w wa c2 := by rw [exS]
@[simp] theorem x_expr : exS wd n b (.expr e) fr cs = onE fr (ev wd e fr cs) fun _ c1 => .nx fr c1 := by rw [exS]
@[simp] theorem x_ret : exS wd n b (.ret e) fr cs = onE fr (ev wd e fr cs) fun w c1 => .rt w c1 := by rw [exS]
@[simp] theorem x_retL : exS wd n b (.retL z) fr cs = onE fr (evL wd z fr cs) fun _ c1 => .rt (.loc (c1.length - 1)) c1 := by rw [exS]
@[simp] theorem x_ife : exS wd n b (.ife e s r) fr cs = onE fr (asB (ev wd e fr cs)) fun b1 c1 => if b1 then exS wd n b s fr c1 else exS wd n b r fr c1 := by rw [exS]
@[simp] theorem x_loop : exS wd n b (.loop it tg one s) fr cs = onE fr (evI wd it fr cs) fun ds c1 => forGo (exS wd n b s) tg one ds fr c1 := by rw [exS]
@[simp] theorem x_wh : exS wd n b (.wh e s) fr cs = whGo (tst wd e) (exS wd n b s) n fr cs := by rw [exS]; rfl
@[simp] theorem x_frz : exS wd n b (.frz i) fr cs = frzR b i fr cs := by rw [exS]
@[simp] theorem x_raise : exS wd n b (.raise c e) fr cs = onE fr (ev wd e fr cs) fun w c1 => raiseR wd c w fr c1 := by rw [exS]
@[simp] theorem x_nil : exS wd n b .nil fr cs = .nx fr cs := by rw [exS]
@[simp] theorem x_cons : exS wd n b (.cons s r) fr cs = (exS wd n b s fr cs).bind fun fr cs => exS wd n b r fr cs := by rw [exS]
@[simp] theorem v_var : ev wd (.var i) fr cs = match fr[i]? with
    | some (some w) => .ok w cs
    | _ => .bad := by rw [ev] <;> rfl
@[simp] theorem v_cst : ev wd (.cst d) fr cs = .ok (.d d) cs := by rw [ev]
@[simp] theorem v_dct0 : ev wd .dct0 fr cs = .ok (.d (.dct [])) cs := by rw [ev]
@[simp] theorem v_lam : ev wd (.lam f t) fr cs = (wd.phd f (wd.phc t fr) cs).map W.d := by rw [ev]
@[simp] theorem v_gv : ev wd (.gv x) fr cs = match wd.gd x with
    | some d => .ok (.d d) cs
    | none => .bad := by rw [ev] <;> rfl
@[simp] theorem v_op {o : Operator} : ev wd (.op o a e) fr cs = (ev wd a fr cs).bind fun w1 c1 => (ev wd e fr c1).bind fun w2 c2 => wOp o w1 w2 c2 := by rw [ev]
@[simp] theorem v_cmp {o : CmpOp} : ev wd (.cmp o a e) fr cs = (ev wd a fr cs).bind fun w1 c1 => (ev wd e fr c1).bind fun w2 c2 => wCmp o w1 w2 c2 := by rw [ev]
@[simp] theorem v_chain {o o' : CmpOp} : ev wd (.chain o o' a e t) fr cs = (ev wd a fr cs).bind fun w1 c1 => (ev wd e fr c1).bind fun w2 c2 => (asB (wCmp o w1 w2 c2)).bind fun q c3 => if q then (ev wd t fr c3).bind fun w3 c4 => wCmp o' w2 w3 c4 else .ok (.d (.bl false)) c3 := by rw [ev]
@[simp] theorem v_and : ev wd (.and as) fr cs = evAnd wd as fr cs := by rw [ev]
@[simp] theorem v_or : ev wd (.or as) fr cs = evOr wd as fr cs := by rw [ev]
@[simp] theorem v_not : ev wd (.not a) fr cs = (asB (ev wd a fr cs)).bind fun b c1 => .ok (.d (.bl (!b))) c1 := by rw [ev]
@[simp] theorem v_ife : ev wd (.ife t a e) fr cs = (asB (ev wd t fr cs)).bind fun x c1 => if x then ev wd a fr c1 else ev wd e fr c1 := by rw [ev]
@[simp] theorem v_tup : ev wd (.tup as) fr cs = (evA wd as fr cs).bind tupW := by rw [ev]
@[simp] theorem v_lst : ev wd (.lst as) fr cs = (evA wd as fr cs).bind lstW := by rw [ev]
@[simp] theorem v_ix : ev wd (.ix a e) fr cs = (ev wd a fr cs).bind fun w1 c1 => (ev wd e fr c1).bind fun w2 c2 => wIx w1 w2 c2 := by rw [ev]
@[simp] theorem v_sl : ev wd (.sl a lo hi) fr cs = (ev wd a fr cs).bind fun w1 c1 => (evO wd lo fr c1).bind fun l c2 => (evO wd hi fr c2).bind fun h c3 => wSl w1 l h c3 := by rw [ev]
@[simp] theorem v_bi {o : Bi} : ev wd (.bi o as) fr cs = (evA wd as fr cs).bind fun ws c1 => wBi o ws c1 := by rw [ev]
@[simp] theorem v_isi {ts : List Ty} : ev wd (.isi a ts one) fr cs = (ev wd a fr cs).bind fun w c1 => wIsi wd w ts c1 := by rw [ev]
@[simp] theorem v_bm {m : Bm} : ev wd (.bm m a as) fr cs = (ev wd a fr cs).bind fun w c1 => if wTy m w c1 then (evA wd as fr c1).bind fun ws c2 => wBm m w ws c2 else .bad := by rw [ev]
@[simp] theorem v_call : ev wd (.call f p as ks) fr cs = (evA wd as fr cs).bind fun ws c1 => (evA wd ks fr c1).bind fun zs c2 => match (wd.pat f p).bind fun q => srcs ws zs q.2.2 with
    | some l => callW wd f l c2
    | none => .bad := by rw [ev] <;> rfl
@[simp] theorem v_make : ev wd (.make c p as ks) fr cs = (evA wd as fr cs).bind fun ws c1 => (evA wd ks fr c1).bind fun zs c2 => makeW wd c p ws zs c2 := by rw [ev]
@[simp] theorem v_fld : ev wd (.fld a x) fr cs = (ev wd a fr cs).bind fun w c1 => fldW wd w x c1 := by rw [ev]
@[simp] theorem v_meth : ev wd (.meth a x as) fr cs = (ev wd a fr cs).bind fun w c1 => match mthW wd w x c1 with
    | some f => (evA wd as fr c1).bind fun ws c2 => if wd.npar f = ws.length + 1 then callW wd f (w :: ws) c2 else .bad
    | none => .bad := by rw [ev] <;> rfl
@[simp] theorem vL_addl : evL wd (.addl a e) fr cs = (ev wd a fr cs).bind fun w1 c1 => (ev wd e fr c1).bind fun w2 c2 => addL w1 w2 c2 := rfl
@[simp] theorem vL_ofl : evL wd (.ofl a) fr cs = (evA wd (.cons a .nil) fr cs).bind fun ws c1 => oflW ws c1 := rfl
@[simp] theorem v_rep : ev wd (.rep a) fr cs = (ev wd a fr cs).bind fun w c1 => repW w c1 := by rw [ev]
@[simp] theorem v_neg : ev wd (.neg a) fr cs = (asI (ev wd a fr cs)).bind fun i c1 => .ok (.d (.int (-i))) c1 := by rw [ev]
@[simp] theorem vA_nil : evA wd .nil fr cs = .ok [] cs := by rw [evA]
@[simp] theorem vA_cons : evA wd (.cons a as) fr cs = (ev wd a fr cs).bind fun w c1 => (evA wd as fr c1).bind fun ws c2 => .ok (w :: ws) c2 := by rw [evA]
@[simp] theorem vO_nil : evO wd .nil fr cs = .ok none cs := by rw [evO]
@[simp] theorem vO_cons : evO wd (.cons a .nil) fr cs = (asI (ev wd a fr cs)).bind fun i c1 => .ok (some i) c1 := by rw [evO]
@[simp] theorem vAnd_nil : evAnd wd .nil fr cs = .ok (.d (.bl true)) cs := by rw [evAnd]
@[simp] theorem vAnd_cons : evAnd wd (.cons a as) fr cs = (asB (ev wd a fr cs)).bind fun b c1 => if b then evAnd wd as fr c1 else .ok (.d (.bl false)) c1 := by rw [evAnd]
@[simp] theorem vOr_nil : evOr wd .nil fr cs = .ok (.d (.bl false)) cs := by rw [evOr]
@[simp] theorem vOr_cons : evOr wd (.cons a as) fr cs = (asB (ev wd a fr cs)).bind fun b c1 => if b then .ok (.d (.bl true)) c1 else evOr wd as fr c1 := by rw [evOr]
@[simp] theorem vJ_nil : evJ wd .nil acc fr cs = .ok (.d (.str acc)) cs := by rw [evJ]
@[simp] theorem vI_rng1 : evI wd (.rng1 a) fr cs = (asI (ev wd a fr cs)).bind fun i c1 => if small62 i then .ok (rngD 0 i) c1 else .bad := by rw [evI]
@[simp] theorem vI_itl : evI wd (.itl a) fr cs = (ev wd a fr cs).bind fun w c1 => match w with
    | .d (.lst xs) => .ok xs c1
    | .d (.flst xs) => .ok xs c1
    | _ => .bad := by rw [evI] <;> rfl
@[simp] theorem vI_itt : evI wd (.itt a) fr cs = (ev wd a fr cs).bind fun w c1 => match w with
    | .d (.tup xs) => .ok xs c1
    | _ => .bad := by rw [evI] <;> rfl
@[simp] theorem vI_zip : evI wd (.zip a e) fr cs = (ev wd a fr cs).bind fun w1 c1 => (ev wd e fr c1).bind fun w2 c2 => zipW w1 w2 c2 := by rw [evI]
@[simp] theorem v_dct4 {k1 k2 k3 k4 : Str} {b c d : E} : ev wd (.dct4 k1 k2 k3 k4 a b c d) fr cs = (ev wd a fr (cs ++ [some (.dct [])])).nox.bind fun w1 c1 => (ev wd b fr c1).nox.bind fun w2 c2 => (ev wd c fr c2).nox.bind fun w3 c3 => (ev wd d fr c3).nox.bind fun w4 c4 => dctE cs.length [k1, k2, k3, k4] [w1, w2, w3, w4] c4 := by rw [ev]
@[simp] theorem v_dix {x : Str} : ev wd (.dix a x) fr cs = (ev wd a fr cs).bind fun w c1 => dixW w x c1 := by rw [ev]
@[simp] theorem v_callv {i q m : Nat} {as : E} : ev wd (.callv i q m as) fr cs = match fr[i]? with
    | some (some (.d (.fn f))) => if okFn wd f q m then (evA wd as fr cs).bind fun ws c1 => match (wd.pat f q).bind fun t => srcs ws [] t.2.2 with
        | some l => callW wd f l c1
        | none => .bad
      else .bad
    | _ => .bad := by rw [ev] <;> rfl
@[simp] theorem v_lrng : ev wd (.lrng a) fr cs = (asI (ev wd a fr cs)).bind fun i c1 => if small62 i && decide (i ≤ 16777216) then .ok (.d (.lst (rngD 0 i))) c1 else .bad := by rw [ev]
@[simp] theorem vL_rng : evL wd (.rng a) fr cs = (asI (ev wd a fr cs)).bind fun i c1 => if small62 i && decide (i ≤ 16777216) then .ok () (c1 ++ [some (.lst (rngD 0 i))]) else .bad := rfl
@[simp] theorem x_putT {i : E} {j : Nat} : exS wd n b (.putT a i j e) fr cs = onE fr (ev wd e fr cs) fun w c1 => match w with
    | .d (.tup [d1, d2]) => onE fr (ev wd a fr c1) fun wa c2 => onE fr (ev wd i fr c2) fun wi c3 => (putR fr (.d d1) wa wi c3).bind fun fr2 c4 => match setTg [j] true d2 fr2 with
      | some fr3 => .nx fr3 c4
      | none => .bad
    | _ => .bad := by rw [exS] <;> rfl
end
end BV
namespace BV
open PySem L2
section
variable {α β : Type} {wd : Wd} {n b i : Nat} {fr : Fra} {cs : Cells} {w : W} {d : D} {x : D}
@[simp] theorem bind_ok (a : α) (cs : Cells) (k : α → Cells → R β) : R.bind (.ok a cs) k = k a cs := rfl
@[simp] theorem bind_exc (c : Nat) (x : D) (cs : Cells) (k : α → Cells → R β) : R.bind (.exc c x cs) k = .exc c x cs := rfl
@[simp] theorem map_ok (a : α) (cs : Cells) (f : α → β) : R.map f (.ok a cs) = .ok (f a) cs := rfl
@[simp] theorem map_exc (c : Nat) (x : D) (cs : Cells) (f : α → β) : R.map f (.exc c x cs) = .exc c x cs := rfl
@[simp] theorem nox_ok (a : α) (cs : Cells) : R.nox (.ok a cs) = .ok a cs := rfl
@[simp] theorem trim_ok (n : Nat) (a : α) (cs : Cells) : R.trim n (.ok a cs) = .ok a cs := rfl
@[simp] theorem trim_exc (n c : Nat) (x : D) (cs : Cells) : R.trim n (.exc c x cs : R α) = .exc c x (cs.take n) := rfl
@[simp] theorem onE_ok (fr : Fra) (a : α) (cs : Cells) (k : α → Cells → RS) : onE fr (.ok a cs) k = k a cs := rfl
@[simp] theorem onE_exc (fr : Fra) (c : Nat) (x : D) (cs : Cells) (k : α → Cells → RS) : onE fr (.exc c x cs) k = .ex c x fr cs := rfl
@[simp] theorem sbind_nx (fr : Fra) (cs : Cells) (k : Fra → Cells → RS) : RS.bind (.nx fr cs) k = k fr cs := rfl
@[simp] theorem sbind_rt (w : W) (cs : Cells) (k : Fra → Cells → RS) : RS.bind (.rt w cs) k = .rt w cs := rfl
@[simp] theorem sbind_bk (fr : Fra) (cs : Cells) (k : Fra → Cells → RS) : RS.bind (.bk fr cs) k = .bk fr cs := rfl
@[simp] theorem sbind_ct (fr : Fra) (cs : Cells) (k : Fra → Cells → RS) : RS.bind (.ct fr cs) k = .ct fr cs := rfl
@[simp] theorem sbind_ex (c : Nat) (x : D) (fr : Fra) (cs : Cells) (k : Fra → Cells → RS) : RS.bind (.ex c x fr cs) k = .ex c x fr cs := rfl
@[simp] theorem loop_nx (fr : Fra) (cs : Cells) (k : Fra → Cells → RS) : RS.loop (.nx fr cs) k = k fr cs := rfl
@[simp] theorem loop_ct (fr : Fra) (cs : Cells) (k : Fra → Cells → RS) : RS.loop (.ct fr cs) k = k fr cs := rfl
@[simp] theorem loop_bk (fr : Fra) (cs : Cells) (k : Fra → Cells → RS) : RS.loop (.bk fr cs) k = .nx fr cs := rfl
@[simp] theorem loop_rt (w : W) (cs : Cells) (k : Fra → Cells → RS) : RS.loop (.rt w cs) k = .rt w cs := rfl
@[simp] theorem loop_ex (c : Nat) (x : D) (fr : Fra) (cs : Cells) (k : Fra → Cells → RS) : RS.loop (.ex c x fr cs) k = .ex c x fr cs := rfl
@[simp] theorem bind_bad {α β : Type} (k : α → Cells → R β) : R.bind .bad k = .bad := rfl
@[simp] theorem toD_ok (d : D) (cs : Cells) : toD (.ok (.d d) cs) = .ok d cs := rfl
@[simp] theorem toD_exc (c : Nat) (x : D) (cs : Cells) : toD (.exc c x cs) = .exc c x cs := rfl
@[simp] theorem asB_ok (b : Bool) (cs : Cells) : asB (.ok (.d (.bl b)) cs) = .ok b cs := rfl
@[simp] theorem asI_ok (i : Int) (cs : Cells) : asI (.ok (.d (.int i)) cs) = .ok i cs := rfl
@[simp] theorem asB_exc (c : Nat) (x : D) (cs : Cells) : asB (.exc c x cs) = .exc c x cs := rfl
@[simp] theorem asI_exc (c : Nat) (x : D) (cs : Cells) : asI (.exc c x cs) = .exc c x cs := rfl
@[simp] theorem endD_rt (b : Nat) (w : W) (cs : Cells) : endD b (.rt w cs) = retD b w cs := rfl
@[simp] theorem endD_nx (b : Nat) (fr : Fra) (cs : Cells) : endD b (.nx fr cs) = .ok .non (cs.take b) := rfl
@[simp] theorem endD_ex (b : Nat) (c : Nat) (x : D) (fr : Fra) (cs : Cells) : endD b (.ex c x fr cs) = .exc c x (cs.take b) := rfl
@[simp] theorem endL_rt (b : Nat) (w : W) (cs : Cells) : endL b (.rt w cs) = retL b w cs := rfl
@[simp] theorem retD_d (b : Nat) (d : D) (cs : Cells) : retD b (.d d) cs = .ok d (cs.take b) := rfl
@[simp] theorem startF_eq (nl : Nat) (ws : List W) : startF nl ws = ws.map some ++ List.replicate (nl - ws.length) none := rfl
/-! conditions: both ways -/
@[simp] theorem ite_wbl (p : Prop) [Decidable p] (x y : Bool) : (if p then W.d (.bl x) else W.d (.bl y)) = W.d (.bl (if p then x else y)) := by split <;> rfl
@[simp] theorem ite_rok (p : Prop) [Decidable p] (a c : α) (cs : Cells) : (if p then R.ok a cs else R.ok c cs) = R.ok (if p then a else c) cs := by split <;> rfl
@[simp] theorem ite_same {γ : Type} (p : Prop) [Decidable p] (a : γ) : (if p then a else a) = a := by split <;> rfl
/-! cells -/
@[simp] theorem app_set (l : List α) (x y : α) : (l ++ [x]).set l.length y = l ++ [y] := by simp
@[simp] theorem app_take (l : List α) (y : α) : (l ++ [y]).take (l.length + 1) = l ++ [y] := by rw [List.take_of_length_le]; simp
theorem app_get_lt {l m : List α} {i : Nat} {x : α} (h : l[i]? = some x) : (l ++ m)[i]? = some x := by
  rw [List.getElem?_append_left (List.getElem?_eq_some_iff.mp h).1]; exact h
theorem set_get {l : List α} {i : Nat} {x y : α} (h : l[i]? = some x) : (l.set i y)[i]? = some y := by
  rw [List.getElem?_set_self (List.getElem?_eq_some_iff.mp h).1]
@[simp] theorem take_set_len (l : List α) (i : Nat) (x : α) : (l.set i x).take l.length = l.set i x := by
  rw [List.take_of_length_le]; simp
/-! types -/
@[simp] theorem ty_int (cs : Cells) (i : Int) : tyOf cs (.d (.int i)) = some (.b "int") := rfl
@[simp] theorem ty_str (cs : Cells) (i : Str) : tyOf cs (.d (.str i)) = some (.b "str") := rfl
@[simp] theorem ty_bl (cs : Cells) (i : Bool) : tyOf cs (.d (.bl i)) = some (.b "bool") := rfl
@[simp] theorem ty_non (cs : Cells) : tyOf cs (.d .non) = some (.b "NoneType") := rfl
@[simp] theorem ty_tup (cs : Cells) (xs : List D) : tyOf cs (.d (.tup xs)) = some (.b "tuple") := rfl
@[simp] theorem ty_lst (cs : Cells) (xs : List D) : tyOf cs (.d (.lst xs)) = some (.b "list") := rfl
@[simp] theorem ty_dct (cs : Cells) (xs : List (Str × D)) : tyOf cs (.d (.dct xs)) = some (.b "dict") := rfl
@[simp] theorem ty_exc (cs : Cells) (c : Nat) (x : D) : tyOf cs (.d (.exc c x)) = some (.x c) := rfl
@[simp] theorem ty_ins (cs : Cells) (c : Nat) (fs : List (Str × D)) : tyOf cs (.d (.ins c fs)) = some (.c c) := rfl
@[simp] theorem cls_ins (cs : Cells) (c : Nat) (fs : List (Str × D)) : clsOf cs (.d (.ins c fs)) = some (c, fs) := rfl
/-! numbers -/
@[simp] theorem wOp_sub (i j : Int) (cs : Cells) : wOp .Sub (.d (.int i)) (.d (.int j)) cs = .ok (.d (.int (i - j))) cs := rfl
@[simp] theorem wOp_add (i j : Int) (cs : Cells) : wOp .Add (.d (.int i)) (.d (.int j)) cs = .ok (.d (.int (i + j))) cs := rfl
theorem wOp_mod {i j : Int} (h : 0 < j) (cs : Cells) : wOp .Mod (.d (.int i)) (.d (.int j)) cs = .ok (.d (.int (i % j))) cs := by
  simp [wOp, wI, fMod, h]
theorem log2_64 {n : Nat} (h : n < 18446744073709551616) : n.log2 < 64 := by
  by_cases e : n = 0
  · subst e; decide
  · exact (Nat.log2_lt e).mpr h
theorem wOp_div {i j : Int} (h : 0 < j) (h2 : j < 18446744073709551616) (cs : Cells) : wOp .FloorDiv (.d (.int i)) (.d (.int j)) cs = .ok (.d (.int (i / j))) cs := by
  have : j.natAbs.log2 < 64 := log2_64 (by omega)
  simp [wOp, wI, fDiv, h, show j.natAbs.log2 < 9000 by omega]
theorem wOp_mul {i j : Int} (h : i.natAbs < 18446744073709551616) (h2 : j.natAbs < 18446744073709551616) (cs : Cells) : wOp .Mult (.d (.int i)) (.d (.int j)) cs = .ok (.d (.int (i * j))) cs := by
  have h1 := log2_64 h
  have h2 := log2_64 h2
  simp [wOp, wMul, wI, fMul, show i.natAbs.log2 + j.natAbs.log2 < 1000000 by omega]
theorem wOp_pow {i j : Int} (h : 0 ≤ j) (h1 : j ≤ 1000000) (h2 : i.natAbs < 18446744073709551616) (cs : Cells) : wOp .Pow (.d (.int i)) (.d (.int j)) cs = .ok (.d (.int (i ^ j.toNat))) cs := by
  simp [wOp, wI, fPow, h, h1, h2]
@[simp] theorem wCmp_lt (i j : Int) (cs : Cells) : wCmp .Lt (.d (.int i)) (.d (.int j)) cs = .ok (.d (.bl (decide (i < j)))) cs := rfl
@[simp] theorem wCmp_le (i j : Int) (cs : Cells) : wCmp .LtE (.d (.int i)) (.d (.int j)) cs = .ok (.d (.bl (decide (i ≤ j)))) cs := rfl
@[simp] theorem wCmp_gt (i j : Int) (cs : Cells) : wCmp .Gt (.d (.int i)) (.d (.int j)) cs = .ok (.d (.bl (decide (j < i)))) cs := rfl
@[simp] theorem wCmp_ge (i j : Int) (cs : Cells) : wCmp .GtE (.d (.int i)) (.d (.int j)) cs = .ok (.d (.bl (decide (j ≤ i)))) cs := rfl
/-! texts -/
theorem ofString_inj (a b : String) : Str.ofString a = Str.ofString b ↔ a = b := by
  refine ⟨fun h => ?_, fun h => by rw [h]⟩
  rw [Str.ofString_eq_toList, Str.ofString_eq_toList] at h
  have h : a.toList.map Char.toNat = b.toList.map Char.toNat := by simpa using h
  have inj : ∀ {x y : List Char}, x.map Char.toNat = y.map Char.toNat → x = y := by
    intro x
    induction x with
    | nil => intro y e; cases y <;> simp_all
    | cons c x ih =>
      intro y e
      cases y with
      | nil => simp at e
      | cons d y =>
        simp only [List.map_cons, List.cons.injEq] at e
        rw [ih e.2]
        congr 1
        exact Char.ext (UInt32.toNat_inj.mp e.1)
  exact String.toList_inj.mp (inj h)
theorem ofString_beq (a b : String) : (Str.ofString a == Str.ofString b) = decide (a = b) := by
  rw [Bool.eq_iff_iff]; simp [ofString_inj]
/-! == of data -/
theorem wCmp_eq {w1 w2 : W} {p q : PyData} {cs : Cells} (h1 : wPy cs w1 = some p) (h2 : wPy cs w2 = some q) (s1 : SeqAt.shaped p = true) (s2 : SeqAt.shaped q = true) : wCmp .Eq w1 w2 cs = .ok (.d (.bl (PyData.eqv p q))) cs := by
  simp [wCmp, wEq, h1, h2, s1, s2]
theorem wCmp_ne {w1 w2 : W} {p q : PyData} {cs : Cells} (h1 : wPy cs w1 = some p) (h2 : wPy cs w2 = some q) (s1 : SeqAt.shaped p = true) (s2 : SeqAt.shaped q = true) : wCmp .NotEq w1 w2 cs = .ok (.d (.bl (!PyData.eqv p q))) cs := by
  simp [wCmp, wEq, h1, h2, s1, s2]
@[simp] theorem shaped_int (i : Int) : SeqAt.shaped (.int i) = true := rfl
@[simp] theorem shaped_bool (i : Bool) : SeqAt.shaped (.bool i) = true := rfl
@[simp] theorem shaped_none : SeqAt.shaped .none = true := rfl
/-- a text of at most n signs, all of them small -/
structure Tx (x : Str) (n : Nat) : Prop where
  len : x.length ≤ n
  sm : ∀ c ∈ x.cps.toList, c < 256
theorem Tx.app {x y : Str} {n m : Nat} (h : Tx x n) (k : Tx y m) : Tx (x ++ y) (n + m) := ⟨by rw [Str.length_append]; exact Nat.add_le_add h.len k.len, fun c hc => by
  rw [show (x ++ y).cps = x.cps ++ y.cps from rfl, Array.toList_append, List.mem_append] at hc
  exact hc.elim (h.sm c) (k.sm c)⟩
theorem Tx.mono {x : Str} {n m : Nat} (h : Tx x n) (k : n ≤ m) : Tx x m := ⟨Nat.le_trans h.len k, h.sm⟩
theorem Tx.ok {x : Str} {n : Nat} (h : Tx x n) : PyData.strOk x = true := by
  unfold PyData.strOk
  rw [← Array.all_toList, List.all_eq_true]
  intro c hc
  have := h.sm c hc
  simp; omega
theorem Tx.lit {x : Str} {n : Nat} (h : (decide (x.length ≤ n) && x.cps.toList.all (· < 256)) = true) : Tx x n := by
  simp only [Bool.and_eq_true, decide_eq_true_eq, List.all_eq_true] at h
  exact ⟨h.1, h.2⟩
theorem shaped_str {x : Str} {n : Nat} (h : Tx x n) : SeqAt.shaped (.str x) = true := by
  simp [SeqAt.shaped, PyData.canLay0, h.ok, PyData.depth]
@[simp] theorem eqv_int (i j : Int) : PyData.eqv (.int i) (.int j) = (i == j) := rfl
@[simp] theorem eqv_str (i j : Str) : PyData.eqv (.str i) (.str j) = (i == j) := rfl
end
end BV
namespace BV
open PySem L2
/-! ### comprehensions -/
section
variable {tst : Fra → Cells → R Bool} {elt : Fra → Cells → R W} {tg : List Nat} {one : Bool} {fr : Fra}
/-- the element draws -/
theorem lcGo_draw (K : Nat) (J : Nat → Cells → Prop) (P : D → Prop) : ∀ (ds acc : List D) (i : Nat) (cs : Cells), J i cs → (∀ d ∈ ds, ∀ (i : Nat) (cs : Cells) (acc : List D), i < K → J i cs → ∃ fr1 x cs', setTg tg one d fr = some fr1 ∧ tst fr1 (cs ++ [some (.lst acc)]) = .ok true (cs ++ [some (.lst acc)]) ∧ elt fr1 (cs ++ [some (.lst acc)]) = .ok (.d x) (cs' ++ [some (.lst acc)]) ∧ cs'.length = cs.length ∧ J (i + 1) cs' ∧ P x) →
    i + ds.length ≤ K → acc.length + ds.length < 16777216 → ∃ xs cs', lcGo tst elt tg one fr cs.length ds (cs ++ [some (.lst acc)]) = .ok () (cs' ++ [some (.lst (acc ++ xs))]) ∧ xs.length = ds.length ∧ (∀ x ∈ xs, P x) ∧ J (i + ds.length) cs' ∧ cs'.length = cs.length
  | [], acc, i, cs, j, _, _, _ => ⟨[], cs, by simp [lcGo], rfl, (fun x hx => by cases hx), by simpa using j, rfl⟩
  | d :: ds, acc, i, cs, j, h, hK, hl => by
    rw [List.length_cons] at hK
    obtain ⟨fr1, x, cs1, e1, e2, e3, e4, j1, px⟩ := h d (List.mem_cons_self ..) i cs acc (by omega) j
    have hlt : acc.length < lit := by unfold lit; simp at hl; omega
    obtain ⟨xs, cs2, q1, q2, q3, q4, q5⟩ := lcGo_draw K J P ds (acc ++ [x]) (i + 1) cs1 j1 (fun d hd => h d (List.mem_cons_of_mem _ hd)) (by omega) (by rw [List.length_append]; simp at hl ⊢; omega)
    refine ⟨x :: xs, cs2, ?_, by simp [q2], fun y hy => ?_, ?_, by rw [q5, e4]⟩
    · rw [lcGo, e1]
      have : lcAdd cs.length (.d x) (cs1 ++ [some (.lst acc)]) = .ok () (cs1 ++ [some (.lst (acc ++ [x]))]) := by
        rw [← e4]; simp [lcAdd, celL, hlt]
      simp only [lcTurn, e2, nox_ok, bind_ok, if_true]
      rw [e3, nox_ok, bind_ok, this, bind_ok, ← e4, q1]
      simp
    · rcases List.mem_cons.mp hy with rfl | hy
      · exact px
      · exact q3 y hy
    · rw [List.length_cons, show i + (ds.length + 1) = i + 1 + ds.length by omega]; exact q4
end
section
variable {wd : Wd} {elt it conds : E} {tg : List Nat} {one : Bool} {own : List (Str × Nat)} {fr : Fra} {cs c1 : Cells} {ds : List D}
theorem evL_lcD (K : Nat) (J : Nat → Cells → Prop) (P : D → Prop) (i : Nat) (hi : evI wd it fr cs = .ok ds c1) (j : J i c1) (h : ∀ d ∈ ds, ∀ (i : Nat) (cs : Cells) (acc : List D), i < K → J i cs → ∃ fr1 x cs', setTg tg one d (wipeF fr (own.map (·.2))) = some fr1 ∧ asB (evAnd wd conds fr1 (cs ++ [some (.lst acc)])) = .ok true (cs ++ [some (.lst acc)]) ∧ ev wd elt fr1 (cs ++ [some (.lst acc)]) = .ok (.d x) (cs' ++ [some (.lst acc)]) ∧ cs'.length = cs.length ∧ J (i + 1) cs' ∧ P x)
    (hK : i + ds.length ≤ K) (hl : ds.length < 16777216) : ∃ xs cs', evL wd (.lc elt it conds tg one own) fr cs = .ok () (cs' ++ [some (.lst xs)]) ∧ xs.length = ds.length ∧ (∀ x ∈ xs, P x) ∧ J (i + ds.length) cs' ∧ cs'.length = c1.length := by
  obtain ⟨xs, cs', e1, e2, e3, e4, e5⟩ := lcGo_draw (tst := fun fr cs => asB (evAnd wd conds fr cs)) (elt := ev wd elt) (tg := tg) (one := one) (fr := wipeF fr (own.map (·.2))) K J P ds [] i c1 j h hK (by simpa using hl)
  refine ⟨xs, cs', ?_, e2, e3, e4, e5⟩
  show (evI wd it fr cs).bind _ = _
  rw [hi, bind_ok, e1, nox_ok]
  simp
end
/-! ### statements that end in one of several ways -/
def RS.sat (r : RS) (N : Fra → Cells → Prop) (T : W → Cells → Prop) : Prop := match r with
  | .nx fr cs => N fr cs
  | .rt w cs => T w cs
  | _ => False
@[simp] theorem sat_nx (fr : Fra) (cs : Cells) (N : Fra → Cells → Prop) (T : W → Cells → Prop) : (RS.nx fr cs).sat N T ↔ N fr cs := Iff.rfl
@[simp] theorem sat_rt (w : W) (cs : Cells) (N : Fra → Cells → Prop) (T : W → Cells → Prop) : (RS.rt w cs).sat N T ↔ T w cs := Iff.rfl
/-- a loop that computes: the frame stands for a state; k: the turns done, at most K -/
theorem for_fold {ι σ : Type} {f : Fra → Cells → RS} {tg : List Nat} {one : Bool} {cs : Cells} (K : Nat) (e : ι → D) (step : σ → ι → σ) (I : Nat → σ → Fra → Prop) : ∀ (l : List ι) (k : Nat) (s : σ) (fr : Fra),
    (∀ i ∈ l, ∀ k s fr, k < K → I k s fr → ∃ fr1 fr2, setTg tg one (e i) fr = some fr1 ∧ (f fr1 cs = .nx fr2 cs ∨ f fr1 cs = .ct fr2 cs) ∧ I (k + 1) (step s i) fr2) → k + l.length ≤ K → I k s fr → ∃ fr', forGo f tg one (l.map e) fr cs = .nx fr' cs ∧ I (k + l.length) (l.foldl step s) fr'
  | [], k, s, fr, _, _, h => ⟨fr, rfl, h⟩
  | i :: l, k, s, fr, hs, hk, h => by
    rw [List.length_cons] at hk
    obtain ⟨fr1, fr2, e1, e2, h2⟩ := hs i (List.mem_cons_self ..) k s fr (by omega) h
    obtain ⟨fr', q1, q2⟩ := for_fold K e step I l (k + 1) (step s i) fr2 (fun i hi => hs i (List.mem_cons_of_mem _ hi)) (by omega) h2
    refine ⟨fr', ?_, by rw [List.length_cons, show k + (l.length + 1) = k + 1 + l.length by omega]; exact q2⟩
    rw [List.map_cons, forGo, e1]
    rcases e2 with e2 | e2 <;> simp only [e2, loop_nx, loop_ct, q1]
/-- the same, cells too -/
theorem for_foldC {ι σ : Type} {f : Fra → Cells → RS} {tg : List Nat} {one : Bool} (K : Nat) (e : ι → D) (step : σ → ι → σ) (I : Nat → σ → Fra → Cells → Prop) : ∀ (l : List ι) (k : Nat) (s : σ) (fr : Fra) (cs : Cells),
    (∀ i ∈ l, ∀ k s fr cs, k < K → I k s fr cs → ∃ fr1 fr2 cs2, setTg tg one (e i) fr = some fr1 ∧ (f fr1 cs = .nx fr2 cs2 ∨ f fr1 cs = .ct fr2 cs2) ∧ I (k + 1) (step s i) fr2 cs2) → k + l.length ≤ K → I k s fr cs → ∃ fr' cs', forGo f tg one (l.map e) fr cs = .nx fr' cs' ∧ I (k + l.length) (l.foldl step s) fr' cs'
  | [], k, s, fr, cs, _, _, h => ⟨fr, cs, rfl, h⟩
  | i :: l, k, s, fr, cs, hs, hk, h => by
    rw [List.length_cons] at hk
    obtain ⟨fr1, fr2, cs2, e1, e2, h2⟩ := hs i (List.mem_cons_self ..) k s fr cs (by omega) h
    obtain ⟨fr', cs', q1, q2⟩ := for_foldC K e step I l (k + 1) (step s i) fr2 cs2 (fun i hi => hs i (List.mem_cons_of_mem _ hi)) (by omega) h2
    refine ⟨fr', cs', ?_, by rw [List.length_cons, show k + (l.length + 1) = k + 1 + l.length by omega]; exact q2⟩
    rw [List.map_cons, forGo, e1]
    rcases e2 with e2 | e2 <;> simp only [e2, loop_nx, loop_ct, q1]
/-! ### drawn numbers -/
structure SrcAt (cs : Cells) (m : Nat) (t : Int) : Prop where
  ex : ∃ a b c : Int, cs[m]? = some (some (.lst [.int a, .int b, .int c])) ∧ 0 ≤ b ∧ b ≤ t ∧ 0 ≤ c
structure Drawn (m : Nat) (t : Int) (cs cs' : Cells) : Prop where
  lt : m < cs.length
  ex : ∃ a b c : Int, cs' = cs.set m (some (.lst [.int a, .int b, .int c])) ∧ 0 ≤ b ∧ b ≤ t ∧ 0 ≤ c
section
variable {m : Nat} {t t' : Int} {cs cs' cs'' : Cells}
theorem SrcAt.mono (h : SrcAt cs m t) (k : t ≤ t') : SrcAt cs m t' := by
  obtain ⟨a, b, c, e, h1, h2, h3⟩ := h.ex
  exact ⟨a, b, c, e, h1, by omega, h3⟩
theorem SrcAt.lt (h : SrcAt cs m t) : m < cs.length := by
  obtain ⟨a, b, c, e, _⟩ := h.ex
  exact (List.getElem?_eq_some_iff.mp e).1
theorem Drawn.src (h : Drawn m t cs cs') : SrcAt cs' m t := by
  obtain ⟨a, b, c, rfl, h1, h2, h3⟩ := h.ex
  exact ⟨a, b, c, List.getElem?_set_self h.lt, h1, h2, h3⟩
theorem Drawn.len (h : Drawn m t cs cs') : cs'.length = cs.length := by
  obtain ⟨a, b, c, rfl, _⟩ := h.ex
  simp
theorem Drawn.mono (h : Drawn m t cs cs') (k : t ≤ t') : Drawn m t' cs cs' := by
  obtain ⟨a, b, c, e, h1, h2, h3⟩ := h.ex
  exact ⟨h.lt, a, b, c, e, h1, by omega, h3⟩
theorem Drawn.trans (h : Drawn m t cs cs') (k : Drawn m t' cs' cs'') : Drawn m t' cs cs'' := by
  obtain ⟨a, b, c, rfl, h1, h2, h3⟩ := h.ex
  obtain ⟨a', b', c', rfl, h1', h2', h3'⟩ := k.ex
  exact ⟨h.lt, a', b', c', by rw [List.set_set], h1', h2', h3'⟩
theorem Drawn.refl (h : SrcAt cs m t) : Drawn m t cs cs := by
  obtain ⟨a, b, c, e, h1, h2, h3⟩ := h.ex
  obtain ⟨hl, he⟩ := List.getElem?_eq_some_iff.mp e
  exact ⟨hl, a, b, c, by rw [← he, List.set_getElem_self], h1, h2, h3⟩
theorem SrcAt.app {ext : Cells} (h : SrcAt cs m t) : SrcAt (cs ++ ext) m t := by
  obtain ⟨a, b, c, e, h1, h2, h3⟩ := h.ex
  exact ⟨a, b, c, app_get_lt e, h1, h2, h3⟩
theorem Drawn.app {ext : Cells} (h : Drawn m t (cs ++ ext) cs') (hm : m < cs.length) : ∃ c1, cs' = c1 ++ ext ∧ Drawn m t cs c1 := by
  obtain ⟨a, b, c, rfl, h1, h2, h3⟩ := h.ex
  exact ⟨_, by rw [List.set_append, if_pos hm], hm, a, b, c, rfl, h1, h2, h3⟩
theorem Drawn.get {n : Nat} {x : Option Cell} (h : Drawn m t cs cs') (hn : n ≠ m) : cs'[n]? = cs[n]? := by
  obtain ⟨a, b, c, rfl, _⟩ := h.ex
  rw [List.getElem?_set_ne (Ne.symm hn)]
end
/-! ### the draws of the laws -/
def sNext : S := (.cons (.ife (.cmp .Gt (.ix (.var 0) (.cst (.int 2))) (.cst (.int 0))) (.cons (.set 4 (.op .Mod (.ix (.var 0) (.cst (.int 2))) (.var 1))) (.cons (.put (.var 0) (.cst (.int 2)) (.op .FloorDiv (.ix (.var 0) (.cst (.int 2))) (.var 1))) (.cons (.ret (.var 4)) .nil))) .nil) (.cons (.put (.var 0) (.cst (.int 1)) (.op .Add (.ix (.var 0) (.cst (.int 1))) (.cst (.int 1)))) (.cons (.set 3 (.lst (.cons (.cst (.int 2147483647)) (.cons (.cst (.int 2147483629)) (.cons (.cst (.int 2147483587)) (.cons (.cst (.int 2147483579)) (.cons (.cst (.int 2147483563)) (.cons (.cst (.int 2147483549)) (.cons (.cst (.int 2147483543)) (.cons (.cst (.int 2147483497)) .nil)))))))))) (.cons (.set 2 (.ix (.op .Add (.var 3) (.lst (.cons (.cst (.int 2147483489)) (.cons (.cst (.int 2147483477)) (.cons (.cst (.int 2147483423)) .nil))))) (.op .Mod (.ix (.var 0) (.cst (.int 1))) (.cst (.int 11))))) (.cons (.ret (.op .Mod (.op .FloorDiv (.op .Mod (.op .Pow (.op .Add (.op .Add (.op .Mod (.ix (.var 0) (.cst (.int 0))) (.var 2)) (.op .Mult (.cst (.int 7919)) (.ix (.var 0) (.cst (.int 1))))) (.cst (.int 1))) (.cst (.int 5))) (.var 2)) (.cst (.int 13))) (.var 1))) .nil)))))
def primes : List D := [.int 2147483647, .int 2147483629, .int 2147483587, .int 2147483579, .int 2147483563, .int 2147483549, .int 2147483543, .int 2147483497, .int 2147483489, .int 2147483477, .int 2147483423]
theorem prime_at {k : Int} (h0 : 0 ≤ k) (h : k < 11) : ∃ p : Int, atI primes k = some (.int p) ∧ 0 < p ∧ p < 2147483648 := by
  have : k = 0 ∨ k = 1 ∨ k = 2 ∨ k = 3 ∨ k = 4 ∨ k = 5 ∨ k = 6 ∨ k = 7 ∨ k = 8 ∨ k = 9 ∨ k = 10 := by omega
  rcases this with rfl | rfl | rfl | rfl | rfl | rfl | rfl | rfl | rfl | rfl | rfl <;> exact ⟨_, rfl, by decide, by decide⟩
theorem wIx_at {xs : List D} {i : Int} {d : D} {cs : Cells} (h : atI xs i = some d) : wIx (.d (.lst xs)) (.d (.int i)) cs = .ok (.d d) cs := by
  simp [wIx, dl, h]
theorem wIx_loc {m : Nat} {xs : List D} {i : Int} {d : D} {cs : Cells} (e : cs[m]? = some (some (.lst xs))) (h : atI xs i = some d) : wIx (.loc m) (.d (.int i)) cs = .ok (.d d) cs := by
  simp [wIx, dl, celL, e, h]
theorem putR_loc {m : Nat} {xs : List D} {i : Int} {d : D} {k : Nat} {cs : Cells} {fr : Fra} (e : cs[m]? = some (some (.lst xs))) (h : ixN xs.length i = some k) : putR fr (.d d) (.loc m) (.d (.int i)) cs = .nx fr (cs.set m (some (.lst (xs.set k d)))) := by
  simp [putR, celL, e, h]
@[simp] theorem at0 (x y z : D) : atI [x, y, z] 0 = some x := rfl
@[simp] theorem at1 (x y z : D) : atI [x, y, z] 1 = some y := rfl
@[simp] theorem at2 (x y z : D) : atI [x, y, z] 2 = some z := rfl
theorem next_run {wd : Wd} {n m : Nat} {t many : Int} {cs : Cells} (h : SrcAt cs m t) (ht : t ≤ 1000000) (hm : 0 < many) (hm2 : many ≤ 1000000) :
    ∃ (r : Int) (cs' : Cells), fnRun wd n sNext 5 [.loc m, .d (.int many)] cs = .ok (.int r) cs' ∧ Drawn m (t + 1) cs cs' ∧ 0 ≤ r ∧ r < many := by
  obtain ⟨a, b, c, e, hb, hbt, hc⟩ := h.ex
  have hlt := (List.getElem?_eq_some_iff.mp e).1
  unfold fnRun sNext
  by_cases hc0 : 0 < c
  · refine ⟨c % many, cs.set m (some (.lst [.int a, .int b, .int (c / many)])), ?_, ⟨hlt, a, b, _, rfl, hb, by omega, Int.ediv_nonneg hc (by omega)⟩, Int.emod_nonneg _ (by omega), Int.emod_lt_of_pos _ hm⟩
    simp [exS, ev, wIx_loc e, hc0, wOp_mod hm, wOp_div hm (by omega), putR_loc (i := 2) (k := 2) e rfl]
  · have hk0 : 0 ≤ (b + 1) % 11 := Int.emod_nonneg _ (by decide)
    have hk1 : (b + 1) % 11 < 11 := Int.emod_lt_of_pos _ (by decide)
    obtain ⟨p, hp, hp0, hp1⟩ := prime_at hk0 hk1
    have e2 : (cs.set m (some (Cell.lst [.int a, .int (b + 1), .int c])))[m]? = some (some (.lst [.int a, .int (b + 1), .int c])) := set_get e
    have q0 : 0 ≤ a % p := Int.emod_nonneg _ (by omega)
    have q1 : a % p < p := Int.emod_lt_of_pos _ hp0
    refine ⟨((a % p + 7919 * (b + 1) + 1) ^ 5 % p / 13) % many, cs.set m (some (.lst [.int a, .int (b + 1), .int c])), ?_, ⟨hlt, a, _, _, rfl, by omega, by omega, hc⟩, Int.emod_nonneg _ (by omega), Int.emod_lt_of_pos _ hm⟩
    have hadd : wOp .Add (.d (.lst [.int 2147483647, .int 2147483629, .int 2147483587, .int 2147483579, .int 2147483563, .int 2147483549, .int 2147483543, .int 2147483497])) (.d (.lst [.int 2147483489, .int 2147483477, .int 2147483423])) (cs.set m (some (Cell.lst [.int a, .int (b + 1), .int c]))) = .ok (.d (.lst primes)) (cs.set m (some (Cell.lst [.int a, .int (b + 1), .int c]))) := by
      simp [wOp, wAdd, dlt, lit, primes]
    simp [exS, ev, evA, wIx_loc e, wIx_loc e2, hc0, putR_loc (i := 1) (k := 1) e rfl, lstW, pureDs, lit, hadd, wOp_mod (show (0 : Int) < 11 by decide), wIx_at hp, wOp_mod hp0, wOp_mod hm, wOp_mul (i := 7919) (j := b + 1) (by decide) (by omega), wOp_pow (i := a % p + 7919 * (b + 1) + 1) (j := 5) (by decide) (by decide) (by omega), wOp_div (j := 13) (by decide) (by decide)]
end BV
namespace BV
open PySem L2
theorem toPyL_ints : ∀ ns : List Int, toPyL (ns.map D.int) = some (ns.map PyData.int)
  | [] => rfl
  | n :: ns => by
    have h := toPyL_ints ns
    rw [List.map_cons, toPyL, h]
    rfl
theorem shaped_ints (ns : List Int) : SeqAt.shaped (.list (ns.map PyData.int)) = true := by
  have h1 : ∀ ns : List Int, PyData.canLayAll0 (ns.map PyData.int) = true := fun ns => by
    induction ns with
    | nil => rfl
    | cons n ns ih => rw [List.map_cons, PyData.canLayAll0, ih]; rfl
  have h2 : ∀ ns : List Int, PyData.depthAll (ns.map PyData.int) ≤ 1 := fun ns => by
    induction ns with
    | nil => decide
    | cons n ns ih => rw [List.map_cons, PyData.depthAll]; exact Nat.max_le.mpr ⟨Nat.zero_le _, ih⟩
  simp only [SeqAt.shaped, PyData.canLay0, PyData.depth, h1, Bool.true_and, decide_eq_true_eq]
  have h3 := h2 ns
  refine decide_eq_true ?_
  omega
def sSource : S := (.cons (.set 2 (.ife (.cmp .NotEq (.var 0) (.lst .nil)) (.ix (.var 0) (.op .Mod (.var 1) (.bi .len (.cons (.var 0) .nil)))) (.cst (.int 1)))) (.cons (.retL (.lst (.cons (.var 2) (.cons (.op .Mult (.cst (.int 3)) (.var 1)) (.cons (.ife (.cmp .GtE (.var 2) (.op .Pow (.cst (.int 10)) (.cst (.int 18)))) (.op .FloorDiv (.var 2) (.op .Pow (.cst (.int 10)) (.cst (.int 18)))) (.cst (.int 0))) .nil))))) .nil))
theorem atI_ints {ns : List Int} {k : Int} (h0 : 0 ≤ k) (h : k < ns.length) : ∃ a : Int, atI (ns.map D.int) k = some (.int a) := by
  refine ⟨ns[k.toNat]'(by omega), ?_⟩
  unfold L2.atI L2.ixN
  rw [if_pos h0, if_pos (by rw [List.length_map]; exact h)]
  simp
theorem source_run {wd : Wd} {n : Nat} {ns : List Int} {k : Int} {cs : Cells} (h0 : 0 ≤ k) (h : k ≤ 1000) :
    ∃ a c : Int, fnRunL wd n sSource 3 [.d (.flst (ns.map D.int)), .d (.int k)] cs = .ok () (cs ++ [some (.lst [.int a, .int (3 * k), .int c])]) ∧ 0 ≤ c := by
  have hne : wCmp .NotEq (.d (.flst (ns.map D.int))) (.d (.lst [])) cs = .ok (.d (.bl (!PyData.eqv (.list (ns.map PyData.int)) (.list [])))) cs :=
    wCmp_ne (by simp [wPy, toPy, toPyL_ints]) (by simp [wPy, toPy, toPyL]) (shaped_ints ns) (shaped_ints [])
  obtain ⟨a, ha⟩ : ∃ a : Int, (onE [some (W.d (.flst (ns.map D.int))), some (.d (.int k)), none] (ev wd (.ife (.cmp .NotEq (.var 0) (.lst .nil)) (.ix (.var 0) (.op .Mod (.var 1) (.bi .len (.cons (.var 0) .nil)))) (.cst (.int 1))) [some (W.d (.flst (ns.map D.int))), some (.d (.int k)), none] cs) fun w c1 => .nx ([some (W.d (.flst (ns.map D.int))), some (.d (.int k)), none].set 2 (some w)) c1) = .nx [some (W.d (.flst (ns.map D.int))), some (.d (.int k)), some (.d (.int a))] cs := by
    by_cases hn : ns = []
    · refine ⟨1, ?_⟩
      subst hn
      simp at hne
      simp [ev, evA, lstW, pureDs, lit, hne, PyData.eqv, PyData.eqvAll]
    · have hpos : (0 : Int) < ns.length := by
        have := List.length_pos_iff.mpr hn
        omega
      have hf : PyData.eqv (.list (ns.map PyData.int)) (.list []) = false := by
        cases ns with
        | nil => exact absurd rfl hn
        | cons n ns => rfl
      obtain ⟨a, ea⟩ := atI_ints (ns := ns) (k := k % ns.length) (Int.emod_nonneg _ (by omega)) (Int.emod_lt_of_pos _ hpos)
      refine ⟨a, ?_⟩
      rw [hf] at hne
      simp [ev, evA, lstW, pureDs, lit, hne, wBi, dl, wOp_mod hpos, wIx, ea]
  have h18 : ((10 : Int) ^ (18 : Int).toNat) = 1000000000000000000 := by decide
  refine ⟨a, if 1000000000000000000 ≤ a then a / 1000000000000000000 else 0, ?_, ?_⟩
  · unfold fnRunL sSource
    simp only [exS, startF_eq, List.map_cons, List.map_nil, List.length_cons, List.length_nil, List.cons_append, List.nil_append, List.replicate, ha, sbind_nx]
    by_cases hc : 1000000000000000000 ≤ a
    · simp [evL, ev, evA, lstL, wOp_mul (i := 3) (j := k) (by decide) (by omega), wOp_pow (i := 10) (j := 18) (by decide) (by decide) (by decide), h18, hc, wOp_div (i := a) (j := 1000000000000000000) (by decide) (by decide), pureDs, lit, retL]
    · simp [evL, ev, evA, lstL, wOp_mul (i := 3) (j := k) (by decide) (by omega), wOp_pow (i := 10) (j := 18) (by decide) (by decide) (by decide), h18, hc, pureDs, lit, retL]
  · split
    · exact Int.ediv_nonneg (by omega) (by decide)
    · decide
/-- f is the law's next -/
structure Nx (wd : Wd) (f : Nat) : Prop where
  pat : wd.pat f 0 = some (2, [], [.p 0, .p 1])
  run : ∀ {m : Nat} {t many : Int} {cs : Cells}, SrcAt cs m t → t ≤ 1000000 → 0 < many → many ≤ 1000000 → ∃ (r : Int) (cs' : Cells), wd.phi f [.loc m, .d (.int many)] cs = .ok (.int r) cs' ∧ Drawn m (t + 1) cs cs' ∧ 0 ≤ r ∧ r < many
theorem ev_next {wd : Wd} {f i m : Nat} {t many : Int} {e : E} {fr : Fra} {cs : Cells} (N : Nx wd f) (hi : fr[i]? = some (some (.loc m))) (he : ev wd e fr cs = .ok (.d (.int many)) cs) (h : SrcAt cs m t) (ht : t ≤ 1000000) (h0 : 0 < many) (h1 : many ≤ 1000000) :
    ∃ (r : Int) (cs' : Cells), ev wd (.call f 0 (.cons (.var i) (.cons e .nil)) .nil) fr cs = .ok (.d (.int r)) cs' ∧ Drawn m (t + 1) cs cs' ∧ 0 ≤ r ∧ r < many := by
  obtain ⟨r, cs', e1, e2⟩ := N.run h ht h0 h1
  refine ⟨r, cs', ?_, e2⟩
  simp [ev, evA, hi, he, N.pat, srcs, callW, e1]
/-! texts of single signs, joined -/
end BV
namespace BV
open PySem L2
/-! ### names and labels -/
/-- a comprehension over what stands for the items of l -/
theorem lcGo_fun {ι : Type} {tst : Fra → Cells → R Bool} {elt : Fra → Cells → R W} {tg : List Nat} {one : Bool} {fr : Fra} {cs : Cells} (e f : ι → D) (p : ι → Bool) : ∀ (l : List ι) (acc : List D),
    (∀ i ∈ l, ∃ fr1, setTg tg one (e i) fr = some fr1 ∧ ∀ acc, tst fr1 (cs ++ [some (.lst acc)]) = .ok (p i) (cs ++ [some (.lst acc)]) ∧ (p i = true → elt fr1 (cs ++ [some (.lst acc)]) = .ok (.d (f i)) (cs ++ [some (.lst acc)]))) → acc.length + l.length < 16777216 →
    lcGo tst elt tg one fr cs.length (l.map e) (cs ++ [some (.lst acc)]) = .ok () (cs ++ [some (.lst (acc ++ (l.filter p).map f))])
  | [], acc, _, _ => by simp [lcGo]
  | d :: ds, acc, h, hl => by
    obtain ⟨fr1, e1, e2⟩ := h d (List.mem_cons_self ..)
    obtain ⟨e3, e4⟩ := e2 acc
    have hl' : acc.length + 1 + ds.length < 16777216 := by simp at hl; omega
    have hlt : acc.length < lit := by unfold lit; omega
    rw [List.map_cons, lcGo, e1]
    simp only [lcTurn, e3, nox_ok, bind_ok]
    cases hp : p d with
    | false =>
      rw [if_neg (by simp), bind_ok, List.filter_cons_of_neg (by simp [hp])]
      exact lcGo_fun e f p ds acc (fun d hd => h d (List.mem_cons_of_mem _ hd)) (by omega)
    | true =>
      rw [if_pos rfl, e4 hp, nox_ok, bind_ok, List.filter_cons_of_pos (by simp [hp])]
      have : lcAdd cs.length (.d (f d)) (cs ++ [some (.lst acc)]) = .ok () (cs ++ [some (.lst (acc ++ [f d]))]) := by
        simp [lcAdd, celL, hlt]
      rw [this, bind_ok, lcGo_fun e f p ds (acc ++ [f d]) (fun d hd => h d (List.mem_cons_of_mem _ hd)) (by rw [List.length_append]; simp; omega)]
      simp
theorem ev_lcF {ι : Type} {wd : Wd} {elt it : E} {tg : List Nat} {one : Bool} {own : List (Str × Nat)} {fr : Fra} {cs c1 : Cells} (l : List ι) (e f : ι → D) (hi : evI wd it fr cs = .ok (l.map e) c1)
    (h : ∀ i ∈ l, ∃ fr1, setTg tg one (e i) (wipeF fr (own.map (·.2))) = some fr1 ∧ ∀ acc, ev wd elt fr1 (c1 ++ [some (.lst acc)]) = .ok (.d (f i)) (c1 ++ [some (.lst acc)])) (hl : l.length < 16777216) :
    ev wd (.lc elt it .nil tg one own) fr cs = .ok (.d (.lst (l.map f))) c1 := by
  rw [ev, hi, bind_ok, lcGo_fun e f (fun _ => true) l [] (fun i hi => ?_) (by simpa using hl)]
  · have : l.filter (fun _ => true) = l := List.filter_eq_self.mpr fun _ _ => rfl
    rw [this]
    simp [lcEnd, celL]
  · obtain ⟨fr1, e1, e2⟩ := h i hi
    exact ⟨fr1, e1, fun acc => ⟨by simp [evAnd], fun _ => e2 acc⟩⟩
theorem ev_lcP {ι : Type} {wd : Wd} {elt it conds : E} {tg : List Nat} {one : Bool} {own : List (Str × Nat)} {fr : Fra} {cs c1 : Cells} (l : List ι) (e f : ι → D) (p : ι → Bool) (hi : evI wd it fr cs = .ok (l.map e) c1)
    (h : ∀ i ∈ l, ∃ fr1, setTg tg one (e i) (wipeF fr (own.map (·.2))) = some fr1 ∧ ∀ acc, asB (evAnd wd conds fr1 (c1 ++ [some (.lst acc)])) = .ok (p i) (c1 ++ [some (.lst acc)]) ∧ (p i = true → ev wd elt fr1 (c1 ++ [some (.lst acc)]) = .ok (.d (f i)) (c1 ++ [some (.lst acc)]))) (hl : l.length < 16777216) :
    ev wd (.lc elt it conds tg one own) fr cs = .ok (.d (.lst ((l.filter p).map f))) c1 := by
  rw [ev, hi, bind_ok, lcGo_fun e f p l [] h (by simpa using hl)]
  simp [lcEnd, celL]
def signs (x : Str) : List Nat := x.cps.toList
theorem blsOf_map {α : Type} (f : α → Bool) (l : List α) : blsOf (l.map fun c => D.bl (f c)) = some (l.map f) := by
  induction l with
  | nil => rfl
  | cons c l ih => rw [List.map_cons, blsOf, ih]; rfl
@[simp] theorem bl_in_sign (c : Nat) (z : Str) (cs : Cells) : wCmp .In (.d (.str ⟨#[c]⟩)) (.d (.str z)) cs = .ok (.d (.bl (decide (c ∈ signs z)))) cs := rfl
end BV
namespace BV
open PySem L2
theorem signs_app (x y : Str) : signs (x ++ y) = signs x ++ signs y := by
  show (x.cps ++ y.cps).toList = _
  rw [Array.toList_append]; rfl
end BV
namespace BV
open PySem L2
/-! ### two generators; texts of numbers -/
def numS (i : Int) : Str := Str.ofString (toString i)
theorem rngD0 (k : Int) : rngD 0 k = (List.range k.toNat).map fun i => D.int (i : Nat) := by
  unfold rngD
  simp
end BV
namespace BV
open PySem L2
/-! ### how long a repr is -/
mutual
def rsz : PyData → Nat
  | .none => 4
  | .bool _ => 5
  | .int i => (numS i).length
  | .str x => 10 * x.length + 2
  | .list xs => rszAll xs + 3
  | .tuple xs => rszAll xs + 4
  | .dict kvs => (PyData.shown (.dict kvs)).length
def rszAll : List PyData → Nat
  | [] => 0
  | x :: xs => rsz x + 2 + rszAll xs
end
theorem textFrom_le : ∀ (ts : List Str) (k : Nat) (acc : Str), (textFrom k acc ts).length ≤ acc.length + piled ts
  | [], k, acc => by rw [piled_nil]; exact Nat.le_refl _
  | t :: r, k, acc => by
    have h := textFrom_le r (k + 1) (acc ++ (if k > 0 then ", " else "" : String) ++ t)
    have e : (acc ++ (if k > 0 then ", " else "" : String) ++ t).length ≤ acc.length + 2 + t.length := by
      rw [Str.length_append, Str.length_append]
      split
      · exact Nat.le_refl _
      · show acc.length + 0 + t.length ≤ _
        omega
    rw [piled_cons]
    show (textFrom (k + 1) _ r).length ≤ _
    omega
theorem listText_le (ts : List Str) : (listText ts).length ≤ piled ts + 3 := by
  have := textFrom_le ts 0 "["
  unfold listText
  rw [Str.length_append]
  have e1 : ((("[" : String) : Str)).length = 1 := rfl
  have e2 : ((("]" : String) : Str)).length = 1 := rfl
  omega
theorem tupleText_le (ts : List Str) : (tupleText ts).length ≤ piled ts + 4 := by
  unfold tupleText
  rw [Str.length_append, Str.length_append]
  have e1 : ((("(" : String) : Str)).length = 1 := rfl
  have e3 : (((if ts.length == 1 then ",)" else ")" : String) : Str)).length ≤ 2 := by split <;> decide
  cases ts with
  | nil =>
    have e4 : (Str.join ", " []).length = 0 := rfl
    omega
  | cons t ts =>
    have := join_length_add (t :: ts) (by simp)
    omega
mutual
theorem shown_le : ∀ d : PyData, d.canLay0 = true → d.shown.length ≤ rsz d
  | .none, _ => by decide
  | .bool b, _ => by cases b <;> decide
  | .int i, _ => by unfold PyData.shown rsz; exact Nat.le_refl _
  | .str x, h => by
    unfold PyData.shown rsz
    refine PySem.StrLaws.reprText_len x fun c hc => ?_
    have h : PyData.strOk x = true := by simpa [PyData.canLay0] using h
    unfold PyData.strOk at h
    rw [← Array.all_toList, List.all_eq_true] at h
    have := of_decide_eq_true (h c hc)
    exact Nat.lt_trans this (by decide)
  | .list xs, h => by
    have := shownAll_le xs (by simpa [PyData.canLay0] using h)
    have h2 := listText_le (PyData.shownAll xs)
    unfold PyData.shown rsz
    omega
  | .tuple xs, h => by
    have := shownAll_le xs (by simpa [PyData.canLay0] using h)
    have h2 := tupleText_le (PyData.shownAll xs)
    unfold PyData.shown rsz
    omega
  | .dict kvs, _ => by unfold rsz; exact Nat.le_refl _
theorem shownAll_le : ∀ xs : List PyData, PyData.canLayAll0 xs = true → piled (PyData.shownAll xs) ≤ rszAll xs
  | [], _ => by unfold PyData.shownAll rszAll; rw [piled_nil]; exact Nat.le_refl _
  | x :: xs, h => by
    simp only [PyData.canLayAll0, Bool.and_eq_true] at h
    have h1 := shown_le x h.1
    have h2 := shownAll_le xs h.2
    unfold PyData.shownAll rszAll
    rw [piled_cons]
    omega
end
theorem repW_ok {w : W} {p : PyData} {cs : Cells} (h : wPr cs w = some p) (h1 : p.showable = true) (h2 : p.depth ≤ 60) (h3 : p.canLay0 = true) (h4 : rsz p ≤ 16777216) : repW w cs = .ok (.d (.str p.shown)) cs := by
  have := shown_le p h3
  simp [repW, h, h1, h2, lit, show p.shown.length ≤ 16777216 by omega]
@[simp] theorem wCmp_eq_int (i j : Int) (cs : Cells) : wCmp .Eq (.d (.int i)) (.d (.int j)) cs = .ok (.d (.bl (i == j))) cs := wCmp_eq (p := .int i) (q := .int j) rfl rfl rfl rfl
@[simp] theorem wCmp_ne_int (i j : Int) (cs : Cells) : wCmp .NotEq (.d (.int i)) (.d (.int j)) cs = .ok (.d (.bl (!(i == j)))) cs := wCmp_ne (p := .int i) (q := .int j) rfl rfl rfl rfl
theorem wCmp_eq_str {x y : Str} {m k : Nat} (hx : Tx x m) (hy : Tx y k) (cs : Cells) : wCmp .Eq (.d (.str x)) (.d (.str y)) cs = .ok (.d (.bl (x == y))) cs := wCmp_eq (p := .str x) (q := .str y) rfl rfl (shaped_str hx) (shaped_str hy)
theorem wCmp_ne_str {x y : Str} {m k : Nat} (hx : Tx x m) (hy : Tx y k) (cs : Cells) : wCmp .NotEq (.d (.str x)) (.d (.str y)) cs = .ok (.d (.bl (!(x == y)))) cs := wCmp_ne (p := .str x) (q := .str y) rfl rfl (shaped_str hx) (shaped_str hy)
theorem wCmp_eq_ints (l m : List Int) (cs : Cells) : wCmp .Eq (.d (.lst (l.map .int))) (.d (.lst (m.map .int))) cs = .ok (.d (.bl (decide (l = m)))) cs := by
  rw [wCmp_eq (p := .list (l.map .int)) (q := .list (m.map .int)) (by simp [wPy, toPy, toPyL_ints]) (by simp [wPy, toPy, toPyL_ints]) (shaped_ints l) (shaped_ints m)]
  congr 3
  show PyData.eqvAll _ _ = _
  induction l generalizing m with
  | nil => cases m <;> rfl
  | cons i l ih => cases m with
    | nil => rfl
    | cons k m =>
      rw [List.map_cons, List.map_cons, PyData.eqvAll, ih m, eqv_int]
      by_cases h : i = k <;> simp [h]
theorem wCmp_ne_ints (l m : List Int) (cs : Cells) : wCmp .NotEq (.d (.lst (l.map .int))) (.d (.lst (m.map .int))) cs = .ok (.d (.bl (!decide (l = m)))) cs := by
  have h := wCmp_eq_ints l m cs
  rw [wCmp_eq (p := .list (l.map .int)) (q := .list (m.map .int)) (by simp [wPy, toPy, toPyL_ints]) (by simp [wPy, toPy, toPyL_ints]) (shaped_ints l) (shaped_ints m)] at h
  rw [wCmp_ne (p := .list (l.map .int)) (q := .list (m.map .int)) (by simp [wPy, toPy, toPyL_ints]) (by simp [wPy, toPy, toPyL_ints]) (shaped_ints l) (shaped_ints m)]
  simp only [R.ok.injEq, W.d.injEq, D.bl.injEq, and_true] at h
  rw [h]
theorem wBm_append {m : Nat} {xs : List D} {d : D} {cs : Cells} (h : cs[m]? = some (some (.lst xs))) (hl : xs.length < 16777216) : wBm .append (.loc m) [.d d] cs = .ok (.d .non) (cs.set m (some (.lst (xs ++ [d])))) := by
  simp only [wBm, celL, h]
  exact if_pos hl
@[simp] theorem wTy_join (x : Str) (cs : Cells) : wTy .join (.d (.str x)) cs = true := rfl
/-! tuples and lists of texts -/
end BV
namespace BV
open PySem L2
/-! ### the signs of a repr -/
def SOk (x : Str) : Prop := ∀ c ∈ signs x, c < 1114112
theorem SOk.ok {x : Str} (h : SOk x) : PyData.strOk x = true := by
  unfold PyData.strOk
  rw [← Array.all_toList, List.all_eq_true]
  intro c hc
  exact decide_eq_true (h c hc)
theorem sok_of {x : Str} (h : PyData.strOk x = true) : SOk x := fun c hc => by
  unfold PyData.strOk at h
  rw [← Array.all_toList, List.all_eq_true] at h
  exact of_decide_eq_true (h c hc)
theorem SOk.app {x y : Str} (h : SOk x) (k : SOk y) : SOk (x ++ y) := fun c hc => by
  rw [signs_app, List.mem_append] at hc
  exact hc.elim (h c) (k c)
theorem char_lt (c : Char) : c.toNat < 1114112 := by
  have h := c.valid
  show c.val.toNat < 1114112
  rcases h with h | ⟨_, h⟩
  · exact Nat.lt_trans h (by decide)
  · exact h
theorem sok_ofString (s : String) : SOk (Str.ofString s) := fun c hc => by
  rw [Str.ofString_eq_toList] at hc
  have hc : c ∈ s.toList.map Char.toNat := by simpa [signs] using hc
  obtain ⟨d, _, rfl⟩ := List.mem_map.mp hc
  exact char_lt d
theorem reprChar_ok (q c : Nat) (hc : c < 1114112) : ∀ d ∈ Builtin.Str.reprChar q c, d < 1114112 := by
  have hex : ∀ w, ∀ d ∈ List.replicate (w - ((Nat.toDigits 16 c).map Char.toNat).length) 48 ++ (Nat.toDigits 16 c).map Char.toNat, d < 1114112 := fun w d hd => by
    rcases List.mem_append.mp hd with hd | hd
    · rw [(List.mem_replicate.mp hd).2]; decide
    · obtain ⟨e, _, rfl⟩ := List.mem_map.mp hd
      exact char_lt e
  intro d hd
  unfold Builtin.Str.reprChar at hd
  dsimp only at hd
  repeat' split at hd
  all_goals first
    | (simp only [List.mem_cons, List.not_mem_nil, or_false] at hd; omega)
    | (rcases List.mem_append.mp hd with hd | hd
       · simp only [List.mem_cons, List.not_mem_nil, or_false] at hd; omega
       · exact hex _ d hd)
theorem reprText_ok {x : Str} (h : SOk x) : SOk (reprText x) := by
  have hq : reprQuote x < 1114112 := by unfold reprQuote; split <;> decide
  have fold : ∀ (l : List Nat) (acc : Array Nat), (∀ c ∈ l, c < 1114112) → (∀ c ∈ acc.toList, c < 1114112) → ∀ c ∈ (l.foldl (fun out c => out ++ (Builtin.Str.reprChar (reprQuote x) c).toArray) acc).toList, c < 1114112 := by
    intro l
    induction l with
    | nil => intro acc _ ha; exact ha
    | cons d l ih =>
      intro acc hl ha
      rw [List.foldl_cons]
      refine ih _ (fun c hc => hl c (List.mem_cons_of_mem _ hc)) fun c hc => ?_
      rw [Array.toList_append, List.mem_append] at hc
      rcases hc with hc | hc
      · exact ha c hc
      · exact reprChar_ok _ d (hl d (List.mem_cons_self ..)) c hc
  intro c hc
  unfold reprText signs at hc
  rw [Array.toList_push, List.mem_append, ← Array.foldl_toList] at hc
  rcases hc with hc | hc
  · exact fold x.cps.toList #[reprQuote x] h (fun d hd => by simp at hd; omega) c hc
  · simp at hc; omega
theorem textFrom_ok : ∀ (ts : List Str) (k : Nat) (acc : Str), (∀ t ∈ ts, SOk t) → SOk acc → SOk (textFrom k acc ts)
  | [], k, acc, _, h => h
  | t :: ts, k, acc, h, ha => textFrom_ok ts (k + 1) _ (fun u hu => h u (List.mem_cons_of_mem _ hu)) ((ha.app (sok_ofString _)).app (h t (List.mem_cons_self ..)))
theorem sok_empty : SOk Str.empty := fun c hc => by cases hc
theorem join_ok {sep : Str} (hs : SOk sep) : ∀ ts : List Str, (∀ t ∈ ts, SOk t) → SOk (Str.join sep ts)
  | [], _ => sok_empty
  | [x], h => h x (List.mem_cons_self ..)
  | x :: y :: r, h => ((h x (List.mem_cons_self ..)).app hs).app (join_ok hs (y :: r) fun t ht => h t (List.mem_cons_of_mem _ ht))
mutual
theorem shown_ok : ∀ d : PyData, d.canLay0 = true → SOk d.shown
  | .none, _ => by unfold PyData.shown; exact sok_ofString _
  | .bool b, _ => by unfold PyData.shown; split <;> exact sok_ofString _
  | .int i, _ => by unfold PyData.shown; exact sok_ofString _
  | .str x, h => by
    unfold PyData.shown
    exact reprText_ok (sok_of (by simpa [PyData.canLay0] using h))
  | .list xs, h => by
    unfold PyData.shown listText
    exact (textFrom_ok _ _ _ (shownAll_ok xs (by simpa [PyData.canLay0] using h)) (sok_ofString _)).app (sok_ofString _)
  | .tuple xs, h => by
    unfold PyData.shown tupleText
    exact ((sok_ofString _).app (join_ok (sok_ofString _) _ (shownAll_ok xs (by simpa [PyData.canLay0] using h)))).app (sok_ofString _)
  | .dict kvs, h => by simp [PyData.canLay0] at h
theorem shownAll_ok : ∀ xs : List PyData, PyData.canLayAll0 xs = true → ∀ t ∈ PyData.shownAll xs, SOk t
  | [], _ => fun t ht => by unfold PyData.shownAll at ht; cases ht
  | x :: xs, h => fun t ht => by
    simp only [PyData.canLayAll0, Bool.and_eq_true] at h
    unfold PyData.shownAll at ht
    rcases List.mem_cons.mp ht with rfl | ht
    · exact shown_ok x h.1
    · exact shownAll_ok xs h.2 t ht
end
theorem shaped_strO {x : Str} (h : SOk x) : SeqAt.shaped (.str x) = true := by
  simp [SeqAt.shaped, PyData.canLay0, h.ok, PyData.depth]
/-- repr(a) == repr(b) -/
theorem cmp_rep {p q : PyData} (h1 : p.canLay0 = true) (h2 : q.canLay0 = true) (cs : Cells) : wCmp .NotEq (.d (.str p.shown)) (.d (.str q.shown)) cs = .ok (.d (.bl (!(p.shown == q.shown)))) cs :=
  wCmp_ne (p := .str p.shown) (q := .str q.shown) rfl rfl (shaped_strO (shown_ok p h1)) (shaped_strO (shown_ok q h2))
theorem Tab.phi_s {T : Tab} {n j f nl : Nat} {s : S} (h : T.fn f = some (s, nl)) (ws : List W) (cs : Cells) : (T.at n (j + 1)).phi f ws cs = fnRun (T.at n j) n s nl ws cs := by
  show (match T.fn f with | some (s, nl) => fnRun (T.at n j) n s nl ws cs | none => .bad) = _
  rw [h]
theorem Tab.phl_s {T : Tab} {n j f nl : Nat} {s : S} (h : T.fn f = some (s, nl)) (ws : List W) (cs : Cells) : (T.at n (j + 1)).phl f ws cs = fnRunL (T.at n j) n s nl ws cs := by
  show (match T.fn f with | some (s, nl) => fnRunL (T.at n j) n s nl ws cs | none => .bad) = _
  rw [h]
theorem Tab.phd_s {T : Tab} {n j f : Nat} {d : DeedD} (h : T.dn f = some d) (th : Cells → R D) (cs : Cells) : (T.at n (j+1)).phd f th cs = fnRunD (T.at n j) n d th cs := by
  show (match T.dn f with | some d => fnRunD (T.at n j) n d th cs | none => .bad) = _
  rw [h]
theorem Tab.phc_s {T : Tab} {n j : Nat} (t : E) (fr : Fra) (cs : Cells) : (T.at n (j+1)).phc t fr cs = toD (ev (T.at n j) t fr cs) := rfl
end BV
namespace K28
open PySem L2 BV
def top (i : Nat) : Stmt := PySem.Challenge.pw_diagramtext_k28_rows_and_costs.main.body.getD i (.Pass ⟨0, 0, 0, 0⟩)
def lfnm : List (Option Str) := [(some ("law" : Str)), (some ("_law_cost" : Str)), (some ("_law_refused" : Str)), (some ("_law_meets" : Str)), (some ("_law_next" : Str)), (some ("_law_lowest" : Str)), (some ("_law_given" : Str)), (some ("_law_drawn_problem" : Str)), (some ("_law_source" : Str)), none, none, none, (some ("_law_pair_drawn" : Str)), (some ("need_problem" : Str)), (some ("is_row_of" : Str)), none, (some ("has_ring" : Str)), (some ("are_rows" : Str)), (some ("is_term" : Str)), (some ("is_bound" : Str)), (some ("is_among" : Str)), (some ("is_integer" : Str)), (some ("cost_of_term" : Str)), (some ("is_pair_of" : Str))]
def wfnm (f : Nat) : Option Str := lfnm.getD f none
def lcnm : List (Option Str) := [some "BadProblem", some "BadRow", some "Problem", some "Invalid"]
def wcnm (c : Nat) : Option Str := lcnm.getD c none
def lgd : List (Str × D) := [(("MAX_NUMBER" : Str), (.int 1000000)), (("MAX_SIZE" : Str), (.int 12)), (("MAX_ROWS" : Str), (.int 40)), (("MAX_COST" : Str), (.int 100)), (("is_term" : Str), .fn 18), (("is_bound" : Str), .fn 19)]
def wgd (x : Str) : Option D := lgd.lookup x
def lpat : List ((Nat × Nat) × (Nat × List Str × List Src)) := [((1, 0), (2, [], [.p 0, .p 1])), ((3, 0), (2, [], [.p 0, .p 1])), ((4, 0), (2, [], [.p 0, .p 1])), ((5, 0), (1, [], [.p 0])), ((6, 0), (1, [], [.p 0])), ((7, 0), (3, [], [.p 0, .p 1, .p 2])), ((8, 0), (2, [], [.p 0, .p 1])), ((9, 0), (2, ["bounds", "lows", "terms"], [.p 0, .p 1, .k 0, .k 1, .k 2])), ((12, 0), (2, [], [.p 0, .p 1])), ((13, 0), (4, [], [.p 0, .p 1, .p 2, .p 3])), ((14, 0), (2, [], [.p 0, .p 1])), ((16, 0), (2, [], [.p 0, .p 1])), ((17, 0), (3, [], [.p 0, .p 1, .p 2])), ((18, 0), (2, [], [.p 0, .p 1])), ((19, 0), (2, [], [.p 0, .p 1])), ((20, 0), (3, [], [.p 0, .p 1, .p 2])), ((21, 0), (1, [], [.p 0])), ((22, 0), (2, [], [.p 0, .p 1])), ((23, 0), (3, [], [.p 0, .p 1, .p 2]))]
def wpat (f p : Nat) : Option (Nat × List Str × List Src) := lpat.lookup (f, p)
def linit : List (Option Nat) := [none, none, some 9, none]
def winit (c : Nat) : Option Nat := linit.getD c none
def lps : List (List Str) := [(["_law_script"] : List Str), (["_law_plain", "_law_row"] : List Str), (["_law_deed"] : List Str), (["_law_plain", "_law_row"] : List Str), (["_law_source_here", "_law_many"] : List Str), (["_law_plain"] : List Str), (["_law_plain"] : List Str), (["_law_source_here", "_law_size", "_law_far"] : List Str), (["_law_script", "_law_k"] : List Str), (["self", "size", "bounds", "lows", "terms"] : List Str), (["self", "row"] : List Str), (["self", "row"] : List Str), (["_law_source_here", "_law_size"] : List Str), (["size", "bounds", "lows", "terms"] : List Str), (["value", "many"] : List Str), (["self", "row"] : List Str), (["size", "bounds"] : List Str), (["value", "size", "is_right"] : List Str), (["value", "size"] : List Str), (["value", "size"] : List Str), (["value", "least", "most"] : List Str), (["value"] : List Str), (["term", "row"] : List Str), (["size", "i", "j"] : List Str)]
def wps (f : Nat) : List Str := lps.getD f []
def lnpar : List Nat := [1, 2, 1, 2, 2, 1, 1, 3, 2, 5, 2, 2, 2, 4, 2, 2, 2, 3, 2, 2, 3, 1, 2, 3]
def wnpar (f : Nat) : Nat := lnpar.getD f 0
def lmeth : List ((Nat × Str) × Nat) := [((2, ("cost_of_row" : Str)), 10), ((2, ("is_feasible" : Str)), 11), ((2, ("least_sum" : Str)), 15)]
def wmeth (c : Nat) (m : Str) : Option Nat := lmeth.lookup (c, m)
def lsup : List ((Nat × Nat × Str) × Nat) := []
def wsup (d c : Nat) (m : Str) : Option Nat := lsup.lookup (d, c, m)
def lprop : List ((Nat × Str) × Nat) := []
def wprop (c : Nat) (m : Str) : Option Nat := lprop.lookup (c, m)
def lfldk : List ((Nat × Str) × Unit) := [((2, ("bounds" : Str)), ()), ((2, ("known_flows" : Str)), ()), ((2, ("lows" : Str)), ()), ((2, ("size" : Str)), ()), ((2, ("terms" : Str)), ())]
def wfldk (c : Nat) (f : Str) : Bool := (lfldk.lookup (c, f)).isSome
def lkit : List ((Ty × Ty) × Bool) := [((.b "NoneType", .b "bool"), false), ((.b "NoneType", .b "int"), false), ((.b "NoneType", .b "str"), false), ((.b "NoneType", .b "tuple"), false), ((.b "bool", .b "bool"), true), ((.b "bool", .b "int"), true), ((.b "bool", .b "str"), false), ((.b "bool", .b "tuple"), false), ((.b "int", .b "bool"), false), ((.b "int", .b "int"), true), ((.b "int", .b "str"), false), ((.b "int", .b "tuple"), false), ((.b "str", .b "bool"), false), ((.b "str", .b "int"), false), ((.b "str", .b "str"), true), ((.b "str", .b "tuple"), false), ((.b "tuple", .b "bool"), false), ((.b "tuple", .b "int"), false), ((.b "tuple", .b "str"), false), ((.b "tuple", .b "tuple"), true), ((.b "list", .b "bool"), false), ((.b "list", .b "int"), false), ((.b "list", .b "str"), false), ((.b "list", .b "tuple"), false), ((.b "dict", .b "bool"), false), ((.b "dict", .b "int"), false), ((.b "dict", .b "str"), false), ((.b "dict", .b "tuple"), false), ((.c 2, .b "bool"), false), ((.c 2, .b "int"), false), ((.c 2, .b "str"), false), ((.c 2, .b "tuple"), false), ((.x 1, .c 0), false), ((.x 0, .c 0), true)]
def wkit (t u : Ty) : Option Bool := lkit.lookup (t, u)
def lexk : List (Option (Str × Str)) := [some (("BadProblem" : Str), ("reason" : Str)), some (("BadRow" : Str), ("reason" : Str)), none, none]
def wexk (c : Nat) : Option (Str × Str) := lexk.getD c none
def lexm : List ((List Nat × Nat) × Bool) := [(([0, 1], 1), true), (([0, 1], 0), true)]
def wexm (ks : List Nat) (c : Nat) : Option Bool := lexm.lookup (ks, c)
def lcmt : List ((Nat × Str) × Nat) := []
def wcmt (c : Nat) (m : Str) : Option Nat := lcmt.lookup (c, m)
def lpatv : List ((Nat × Nat) × (Nat × List Str × List Src)) := []
def wpatv (f p : Nat) : Option (Nat × List Str × List Src) := lpatv.lookup (f, p)
def loeq : List ((Nat × Ty) × Nat) := []
def woeq (c : Nat) (t : Ty) : Option Nat := loeq.lookup (c, t)
def lone : List ((Nat × Ty) × Nat) := []
def wone (c : Nat) (t : Ty) : Option Nat := lone.lookup (c, t)
def loin : List (Option Nat) := [none, none, none, none]
def woin (c : Nat) : Option Nat := loin.getD c none
def lams : List Scope := [defScope (top 32)]
def st : Ws := { fnm := wfnm, cnm := wcnm, gd := wgd, pat := wpat, init := winit, npar := wnpar, meth := wmeth, sup := wsup, prop := wprop, fldk := wfldk, kit := wkit, exk := wexk, oeq := woeq, one := wone, oin := woin, cmt := wcmt, patv := wpatv, exm := wexm, lams := lams }
def s0 : BV.S := (.cons (.loop (.rng1 (.bi .max (.cons (.cst (.int 1)) (.cons (.bi .min (.cons (.cst (.int 3)) (.cons (.bi .len (.cons (.var 0) .nil)) .nil))) .nil)))) [1] true (.cons (.setL 12 (.call 8 0 (.cons (.var 0) (.cons (.var 1) .nil)) .nil)) (.cons (.set 5 (.call 7 0 (.cons (.var 12) (.cons (.op .Add (.cst (.int 1)) (.call 4 0 (.cons (.var 12) (.cons (.cst (.int 6)) .nil)) .nil)) (.cons (.cst (.int 9)) .nil))) .nil)) (.cons (.setT [2, 4] (.tup (.cons (.call 6 0 (.cons (.var 5) .nil) .nil) (.cons (.call 5 0 (.cons (.var 5) .nil) .nil) .nil)))) (.cons (.loop (.rng1 (.cst (.int 8))) [8] true (.cons (.set 10 (.call 4 0 (.cons (.var 12) (.cons (.cst (.int 3)) .nil)) .nil)) (.cons (.setL 3 (.lc (.op .Add (.var 11) (.call 4 0 (.cons (.var 12) (.cons (.cst (.int 4)) .nil)) .nil)) (.itl (.var 4)) .nil [11] true [("_law_value", 11)])) (.cons (.ife (.cmp .Eq (.var 10) (.cst (.int 1))) (.cons (.setL 3 (.lc (.op .Sub (.call 4 0 (.cons (.var 12) (.cons (.cst (.int 60)) .nil)) .nil) (.cst (.int 10))) (.itl (.var 4)) .nil [11] true [("_law_value", 11)])) .nil) (.cons (.ife (.cmp .Eq (.var 10) (.cst (.int 2))) (.cons (.put (.var 3) (.call 4 0 (.cons (.var 12) (.cons (.bi .len (.cons (.var 3) .nil)) .nil)) .nil) (.op .Pow (.cst (.int 10)) (.cst (.int 30)))) .nil) .nil) .nil)) (.cons (.frz 3) (.cons (.set 9 (.lst (.cons (.meth (.var 2) "is_feasible" (.cons (.bi .tuple (.cons (.var 3) .nil)) .nil)) (.cons (.meth (.var 2) "cost_of_row" (.cons (.bi .tuple (.cons (.var 3) .nil)) .nil)) .nil)))) (.cons (.ife (.cmp .NotEq (.rep (.var 9)) (.rep (.lst (.cons (.call 3 0 (.cons (.var 5) (.cons (.var 3) .nil)) .nil) (.cons (.call 1 0 (.cons (.var 5) (.cons (.var 3) .nil)) .nil) .nil))))) (.cons (.ret (.cst (.bl false))) .nil) .nil) .nil))))))) (.cons (.set 3 (.bi .tuple (.cons (.var 4) .nil))) (.cons (.set 6 (.lst (.cons (.cst .non) (.cons (.cst (.int 5)) (.cons (.bi .list (.cons (.var 3) .nil)) (.cons (.sl (.var 3) .nil (.cons (.neg (.cst (.int 1))) .nil)) (.cons (.op .Add (.var 3) (.tup (.cons (.cst (.int 0)) .nil))) (.cons (.op .Mult (.tup (.cons (.cst (.bl true)) .nil)) (.bi .len (.cons (.var 3) .nil))) (.cons (.op .Mult (.tup (.cons (.cst .non) .nil)) (.bi .len (.cons (.var 3) .nil))) (.cons (.cst (.str "")) (.cons .dct0 (.cons (.tup (.cons (.var 3) .nil)) .nil)))))))))))) (.cons (.loop (.itl (.op .Add (.var 6) (.lst (.cons (.op .Mult (.tup (.cons (.cst (.str "0")) .nil)) (.bi .len (.cons (.var 3) .nil))) (.cons (.tup (.cons (.var 4) .nil)) .nil))))) [7] true (.cons (.ife (.or (.cons (.cmp .IsNot (.meth (.var 2) "is_feasible" (.cons (.var 7) .nil)) (.cst (.bl false))) (.cons (.cmp .NotEq (.lam 2 (.meth (.var 2) "cost_of_row" (.cons (.var 7) .nil))) (.cst (.str "row"))) .nil))) (.cons (.ret (.cst (.bl false))) .nil) .nil) .nil)) (.cons (.ife (.or (.cons (.cmp .IsNot (.meth (.var 2) "is_feasible" (.cons (.var 3) .nil)) (.cst (.bl true))) (.cons (.cmp .NotEq (.meth (.var 2) "cost_of_row" (.cons (.var 3) .nil)) (.call 1 0 (.cons (.var 5) (.cons (.var 4) .nil)) .nil)) .nil))) (.cons (.ret (.cst (.bl false))) .nil) .nil) .nil))))))))) (.cons (.ret (.cst (.bl true))) .nil))
theorem c0 : chkSs st ["_law_script", "_law_k", "_law_problem", "_law_row", "_law_low", "_law_plain", "_law_odds", "_law_odd", "_law_turn", "_law_told", "_law_way", "_law_value", "_law_source_here"] (defScope (top 32)) s0 (defBody (top 32)) = true := rfl -- law
def s1 : BV.S := (.cons (.set 2 (.cst (.int 0))) (.cons (.loop (.itt (.dix (.var 0) "costs")) [3] true (.cons (.set 4 (.op .Sub (.ix (.var 1) (.ix (.var 3) (.cst (.int 2)))) (.ix (.var 1) (.ix (.var 3) (.cst (.int 1)))))) (.cons (.ife (.cmp .Eq (.ix (.var 3) (.cst (.int 0))) (.cst (.str "line"))) (.cons (.set 2 (.op .Add (.var 2) (.op .Mult (.ix (.var 3) (.cst (.int 3))) (.var 4)))) .nil) (.cons (.set 2 (.op .Add (.var 2) (.op .Mult (.ix (.var 3) (.cst (.int 4))) (.bi .abs (.cons (.op .Sub (.var 4) (.ix (.var 3) (.cst (.int 3)))) .nil))))) .nil)) .nil))) (.cons (.ret (.var 2)) .nil)))
theorem c1 : chkSs st ["_law_plain", "_law_row", "_law_found", "_law_cost_here", "_law_far"] (defScope (top 28)) s1 (defBody (top 28)) = true := rfl -- _law_cost
def r2 : BV.S := (.cons (.ife (.cmp .Is (.var 2) (.cst .non)) (.cons (.ret (.lst (.cons (.var 3) .nil))) .nil) .nil) (.cons (.ret (.ife (.isi (.var 2) [.c 0] false) (.cst (.str "problem")) (.cst (.str "row")))) .nil))
def d2 : DeedD := ⟨[2, 3], some 3, [0, 1], 1, 2, r2, 4⟩
theorem b2 : ∃ (te : Expr) (rest : List Stmt) (pv pw ptt cp cq ptv ap pr p1 p2 p3 pv2 pm pa ph pp : Pos) (kt kv cj ck : Nat), defBody (top 31) = (.Assign [.Tuple [.Name "_law_caught" pv, .Name "_law_found" pw] kt ptt] (.Tuple [.Constant .none cj cp, .Constant .none ck cq] kv ptv) ap :: .Try [.Assign [.Name "_law_found" pr] (.Call (.Name "_law_deed" p1) [] [] p2) p3] [.ExceptHandler (some te) (some "error") [.Assign [.Name "_law_caught" pv2] (.Name "error" pm) pa] ph] [] [] pp :: rest) ∧ chkTe st (defScope (top 31)) d2.ks te = true ∧ chkSs st ["_law_deed", "error", "_law_caught", "_law_found"] (defScope (top 31)) d2.rest rest = true := ⟨_, _, _, _, _, _, _, _, _, _, _, _, _, _, _, _, _, _, _, _, _, _, rfl, rfl, rfl⟩ -- _law_refused
def s3 : BV.S := (.cons (.ife (.cmp .NotEq (.lc (.cst (.int 1)) (.zip (.var 1) (.dix (.var 0) "floor")) (.cons (.cmp .Lt (.var 5) (.var 6)) .nil) [5, 6] false [("_law_value", 5), ("_law_low", 6)]) (.lst .nil)) (.cons (.ret (.cst (.bl false))) .nil) .nil) (.cons (.ret (.cmp .Eq (.lc (.cst (.int 1)) (.itt (.dix (.var 0) "links")) (.cons (.cmp .Lt (.op .Sub (.ix (.var 1) (.var 3)) (.ix (.var 1) (.var 2))) (.var 4)) .nil) [2, 3, 4] false [("_law_i", 2), ("_law_j", 3), ("_law_d", 4)]) (.lst .nil))) .nil))
theorem c3 : chkSs st ["_law_plain", "_law_row", "_law_i", "_law_j", "_law_d", "_law_value", "_law_low"] (defScope (top 29)) s3 (defBody (top 29)) = true := rfl -- _law_meets
def s4 : BV.S := (.cons (.ife (.cmp .Gt (.ix (.var 0) (.cst (.int 2))) (.cst (.int 0))) (.cons (.set 4 (.op .Mod (.ix (.var 0) (.cst (.int 2))) (.var 1))) (.cons (.put (.var 0) (.cst (.int 2)) (.op .FloorDiv (.ix (.var 0) (.cst (.int 2))) (.var 1))) (.cons (.ret (.var 4)) .nil))) .nil) (.cons (.put (.var 0) (.cst (.int 1)) (.op .Add (.ix (.var 0) (.cst (.int 1))) (.cst (.int 1)))) (.cons (.set 3 (.lst (.cons (.cst (.int 2147483647)) (.cons (.cst (.int 2147483629)) (.cons (.cst (.int 2147483587)) (.cons (.cst (.int 2147483579)) (.cons (.cst (.int 2147483563)) (.cons (.cst (.int 2147483549)) (.cons (.cst (.int 2147483543)) (.cons (.cst (.int 2147483497)) .nil)))))))))) (.cons (.set 2 (.ix (.op .Add (.var 3) (.lst (.cons (.cst (.int 2147483489)) (.cons (.cst (.int 2147483477)) (.cons (.cst (.int 2147483423)) .nil))))) (.op .Mod (.ix (.var 0) (.cst (.int 1))) (.cst (.int 11))))) (.cons (.ret (.op .Mod (.op .FloorDiv (.op .Mod (.op .Pow (.op .Add (.op .Add (.op .Mod (.ix (.var 0) (.cst (.int 0))) (.var 2)) (.op .Mult (.cst (.int 7919)) (.ix (.var 0) (.cst (.int 1))))) (.cst (.int 1))) (.cst (.int 5))) (.var 2)) (.cst (.int 13))) (.var 1))) .nil)))))
theorem c4 : chkSs st ["_law_source_here", "_law_many", "_law_prime", "_law_primes", "_law_found"] (defScope (top 24)) s4 (defBody (top 24)) = true := rfl -- _law_next
def s5 : BV.S := (.cons (.parL [1, 2] [.l (.ofl (.dix (.var 0) "floor")), .e (.cst (.bl true))]) (.cons (.wh (.var 2) (.cons (.set 2 (.cst (.bl false))) (.cons (.loop (.itt (.dix (.var 0) "links")) [3, 4, 5] false (.cons (.ife (.cmp .Lt (.ix (.var 1) (.var 4)) (.op .Add (.ix (.var 1) (.var 3)) (.var 5))) (.cons (.putT (.var 1) (.var 4) 2 (.tup (.cons (.op .Add (.ix (.var 1) (.var 3)) (.var 5)) (.cons (.cst (.bl true)) .nil)))) .nil) .nil) .nil)) .nil))) (.cons (.ret (.var 1)) .nil)))
theorem c5 : chkSs st ["_law_plain", "_law_row", "_law_is_new", "_law_i", "_law_j", "_law_d"] (defScope (top 30)) s5 (defBody (top 30)) = true := rfl -- _law_lowest
def s6 : BV.S := (.cons (.ret (.make 2 0 (.cons (.dix (.var 0) "size") .nil) (.cons (.dix (.var 0) "links") (.cons (.dix (.var 0) "floor") (.cons (.dix (.var 0) "costs") .nil))))) .nil)
theorem c6 : chkSs st ["_law_plain"] (defScope (top 27)) s6 (defBody (top 27)) = true := rfl -- _law_given
def s7 : BV.S := (.cons (.parL [12, 13] [.l (.lst .nil), .l (.rng (.var 1))]) (.cons (.wh (.cmp .NotEq (.var 13) (.lst .nil)) (.cons (.expr (.bm .append (.var 12) (.cons (.bm .popAt (.var 13) (.cons (.call 4 0 (.cons (.var 0) (.cons (.bi .len (.cons (.var 13) .nil)) .nil)) .nil) .nil)) .nil))) .nil)) (.cons (.parL [3, 5] [.l (.lst .nil), .l (.lst .nil)]) (.cons (.loop (.rng1 (.ife (.cmp .Gt (.var 1) (.cst (.int 1))) (.call 4 0 (.cons (.var 0) (.cons (.op .Mult (.cst (.int 2)) (.var 1)) .nil)) .nil) (.cst (.int 0)))) [7] true (.cons (.setT [9, 8] (.call 12 0 (.cons (.var 0) (.cons (.var 1) .nil)) .nil)) (.cons (.ife (.cmp .Gt (.bm .index (.var 12) (.cons (.var 9) .nil)) (.bm .index (.var 12) (.cons (.var 8) .nil))) (.cons (.par [9, 8] (.cons (.var 8) (.cons (.var 9) .nil))) .nil) .nil) (.cons (.expr (.bm .append (.var 3) (.cons (.tup (.cons (.var 9) (.cons (.var 8) (.cons (.call 4 0 (.cons (.var 0) (.cons (.op .Add (.var 2) (.cst (.int 1))) .nil)) .nil) .nil)))) .nil))) .nil)))) (.cons (.frz 3) (.cons (.loop (.rng1 (.ife (.cmp .Gt (.var 1) (.cst (.int 1))) (.call 4 0 (.cons (.var 0) (.cons (.op .Mult (.cst (.int 2)) (.var 1)) .nil)) .nil) (.cst (.int 0)))) [7] true (.cons (.setT [9, 8] (.call 12 0 (.cons (.var 0) (.cons (.var 1) .nil)) .nil)) (.cons (.setL 10 (.lc (.sl (.var 11) .nil (.cons (.cst (.int 2)) .nil)) (.itl (.var 3)) .nil [11] true [("_law_link", 11)])) (.cons (.frz 10) (.cons (.ife (.and (.cons (.cmp .In (.tup (.cons (.var 9) (.cons (.var 8) .nil))) (.var 10)) (.cons (.cmp .Gt (.call 4 0 (.cons (.var 0) (.cons (.cst (.int 3)) .nil)) .nil) (.cst (.int 0))) .nil))) (.cons (.expr (.bm .append (.var 5) (.cons (.tup (.cons (.cst (.str "line")) (.cons (.var 9) (.cons (.var 8) (.cons (.op .Add (.cst (.int 1)) (.call 4 0 (.cons (.var 0) (.cons (.cst (.int 5)) .nil)) .nil)) .nil))))) .nil))) .nil) (.cons (.ife (.and (.cons (.cmp .NotEq (.var 10) (.lst .nil)) (.cons (.cmp .Eq (.call 4 0 (.cons (.var 0) (.cons (.cst (.int 4)) .nil)) .nil) (.cst (.int 0))) .nil))) (.cons (.expr (.bm .append (.var 5) (.cons (.op .Add (.op .Add (.tup (.cons (.cst (.str "line")) .nil)) (.ix (.var 10) (.call 4 0 (.cons (.var 0) (.cons (.bi .len (.cons (.var 10) .nil)) .nil)) .nil))) (.tup (.cons (.op .Add (.cst (.int 1)) (.call 4 0 (.cons (.var 0) (.cons (.cst (.int 5)) .nil)) .nil)) .nil))) .nil))) .nil) (.cons (.expr (.bm .append (.var 5) (.cons (.tup (.cons (.cst (.str "bend")) (.cons (.var 9) (.cons (.var 8) (.cons (.op .Sub (.call 4 0 (.cons (.var 0) (.cons (.op .Add (.op .Mult (.cst (.int 2)) (.var 2)) (.cst (.int 1))) .nil)) .nil) (.var 2)) (.cons (.op .Add (.cst (.int 1)) (.call 4 0 (.cons (.var 0) (.cons (.cst (.int 5)) .nil)) .nil)) .nil)))))) .nil))) .nil)) .nil)) .nil))))) (.cons (.setL 4 (.lc (.ife (.cmp .Eq (.call 4 0 (.cons (.var 0) (.cons (.cst (.int 2)) .nil)) .nil) (.cst (.int 0))) (.call 4 0 (.cons (.var 0) (.cons (.op .Add (.var 2) (.cst (.int 1))) .nil)) .nil) (.cst (.int 0))) (.rng1 (.var 1)) .nil [6] true [("_law_v", 6)])) (.cons (.frz 4) (.cons (.ret (.dct4 "size" "links" "floor" "costs" (.var 1) (.bi .tuple (.cons (.var 3) .nil)) (.bi .tuple (.cons (.var 4) .nil)) (.bi .tuple (.cons (.var 5) .nil)))) .nil)))))))))
theorem c7 : chkSs st ["_law_source_here", "_law_size", "_law_far", "_law_links", "_law_floor_so", "_law_costs", "_law_v", "_law_turn", "_law_j", "_law_i", "_law_pairs", "_law_link", "_law_order", "_law_rest"] (defScope (top 26)) s7 (defBody (top 26)) = true := rfl -- _law_drawn_problem
def s8 : BV.S := (.cons (.set 2 (.ife (.cmp .NotEq (.var 0) (.lst .nil)) (.ix (.var 0) (.op .Mod (.var 1) (.bi .len (.cons (.var 0) .nil)))) (.cst (.int 1)))) (.cons (.retL (.lst (.cons (.var 2) (.cons (.op .Mult (.cst (.int 3)) (.var 1)) (.cons (.ife (.cmp .GtE (.var 2) (.op .Pow (.cst (.int 10)) (.cst (.int 18)))) (.op .FloorDiv (.var 2) (.op .Pow (.cst (.int 10)) (.cst (.int 18)))) (.cst (.int 0))) .nil))))) .nil))
theorem c8 : chkSs st ["_law_script", "_law_k", "_law_cell"] (defScope (top 23)) s8 (defBody (top 23)) = true := rfl -- _law_source
def s9 : BV.S := (.cons (.expr (.call 13 0 (.cons (.var 1) (.cons (.var 2) (.cons (.var 3) (.cons (.var 4) .nil)))) .nil)) (.cons (.fld (.var 0) "size" (.var 1)) (.cons (.fld (.var 0) "bounds" (.var 2)) (.cons (.fld (.var 0) "lows" (.ife (.cmp .Is (.var 3) (.cst .non)) (.op .Mult (.tup (.cons (.cst (.int 0)) .nil)) (.var 1)) (.var 3))) (.cons (.fld (.var 0) "terms" (.var 4)) (.cons (.fld (.var 0) "known_flows" (.cst .non)) .nil))))))
theorem c9 : chkSs st ["self", "size", "bounds", "lows", "terms"] (defScope (inClass (top 21) 0)) s9 (defBody (inClass (top 21) 0)) = true := rfl -- Problem.__init__
def s10 : BV.S := (.cons (.ife (.not (.call 14 0 (.cons (.var 1) (.cons (.fld (.var 0) "size") .nil)) .nil)) (.cons (.raise 1 (.cst (.str "no row of values"))) .nil) .nil) (.cons (.ret (.meth (.var 0) "least_sum" (.cons (.var 1) .nil))) .nil))
theorem c10 : chkSs st ["self", "row"] (defScope (inClass (top 21) 3)) s10 (defBody (inClass (top 21) 3)) = true := rfl -- Problem.cost_of_row
def s11 : BV.S := (.cons (.ife (.or (.cons (.not (.call 14 0 (.cons (.var 1) (.cons (.fld (.var 0) "size") .nil)) .nil)) (.cons (.not (.bi .all (.cons (.lc (.cmp .GtE (.var 5) (.var 6)) (.zip (.var 1) (.fld (.var 0) "lows")) .nil [5, 6] false [("value", 5), ("low", 6)]) .nil))) .nil))) (.cons (.ret (.cst (.bl false))) .nil) .nil) (.cons (.ret (.bi .all (.cons (.lc (.cmp .GtE (.op .Sub (.ix (.var 1) (.var 3)) (.ix (.var 1) (.var 2))) (.var 4)) (.itt (.fld (.var 0) "bounds")) .nil [2, 3, 4] false [("i", 2), ("j", 3), ("d", 4)]) .nil))) .nil))
theorem c11 : chkSs st ["self", "row", "i", "j", "d", "value", "low"] (defScope (inClass (top 21) 2)) s11 (defBody (inClass (top 21) 2)) = true := rfl -- Problem.is_feasible
def s12 : BV.S := (.cons (.set 2 (.call 4 0 (.cons (.var 0) (.cons (.var 1) .nil)) .nil)) (.cons (.ret (.tup (.cons (.var 2) (.cons (.op .Mod (.op .Add (.op .Add (.var 2) (.cst (.int 1))) (.call 4 0 (.cons (.var 0) (.cons (.op .Sub (.var 1) (.cst (.int 1))) .nil)) .nil)) (.var 1)) .nil)))) .nil))
theorem c12 : chkSs st ["_law_source_here", "_law_size", "_law_i"] (defScope (top 25)) s12 (defBody (top 25)) = true := rfl -- _law_pair_drawn
def s13 : BV.S := (.cons (.ife (.not (.call 20 0 (.cons (.var 0) (.cons (.cst (.int 0)) (.cons (.gv "MAX_SIZE") .nil))) .nil)) (.cons (.raise 0 (.cst (.str "no number of variables"))) .nil) .nil) (.cons (.ife (.not (.call 17 0 (.cons (.var 1) (.cons (.var 0) (.cons (.gv "is_bound") .nil))) .nil)) (.cons (.raise 0 (.cst (.str "no bounds"))) .nil) .nil) (.cons (.ife (.and (.cons (.cmp .IsNot (.var 2) (.cst .non)) (.cons (.not (.and (.cons (.call 14 0 (.cons (.var 2) (.cons (.var 0) .nil)) .nil) (.cons (.bi .all (.cons (.lc (.chain .LtE .LtE (.cst (.int 0)) (.var 9) (.gv "MAX_NUMBER")) (.itt (.var 2)) .nil [9] true [("low", 9)]) .nil)) .nil)))) .nil))) (.cons (.raise 0 (.cst (.str "no lows"))) .nil) .nil) (.cons (.ife (.not (.call 17 0 (.cons (.var 3) (.cons (.var 0) (.cons (.gv "is_term") .nil))) .nil)) (.cons (.raise 0 (.cst (.str "no terms"))) .nil) .nil) (.cons (.setL 5 (.lc (.tup (.cons (.var 6) (.cons (.var 7) .nil))) (.itt (.var 1)) .nil [6, 7, 8] false [("i", 6), ("j", 7), ("d", 8)])) (.cons (.frz 5) (.cons (.ife (.not (.bi .all (.cons (.lc (.cmp .In (.sl (.var 4) (.cons (.cst (.int 1)) .nil) (.cons (.cst (.int 3)) .nil)) (.var 5)) (.itt (.var 3)) (.cons (.cmp .Eq (.ix (.var 4) (.cst (.int 0))) (.cst (.str "line"))) .nil) [4] true [("term", 4)]) .nil))) (.cons (.raise 0 (.cst (.str "a line term without a bound"))) .nil) .nil) (.cons (.ife (.call 16 0 (.cons (.var 0) (.cons (.var 1) .nil)) .nil) (.cons (.raise 0 (.cst (.str "a ring of bounds"))) .nil) .nil) .nil))))))))
theorem c13 : chkSs st ["size", "bounds", "lows", "terms", "term", "pairs", "i", "j", "d", "low"] (defScope (top 19)) s13 (defBody (top 19)) = true := rfl -- need_problem
def s14 : BV.S := (.cons (.ret (.and (.cons (.isi (.var 0) [.b "tuple"] false) (.cons (.cmp .Eq (.bi .len (.cons (.var 0) .nil)) (.var 1)) (.cons (.bi .all (.cons (.lc (.call 21 0 (.cons (.var 2) .nil) .nil) (.itt (.var 0)) .nil [2] true [("item", 2)]) .nil)) .nil))))) .nil)
theorem c14 : chkSs st ["value", "many", "item"] (defScope (top 13)) s14 (defBody (top 13)) = true := rfl -- is_row_of
def s15 : BV.S := (.cons (.ret (.bi .sum (.cons (.lc (.call 22 0 (.cons (.var 2) (.cons (.var 1) .nil)) .nil) (.itt (.fld (.var 0) "terms")) .nil [2] true [("term", 2)]) .nil))) .nil)
theorem c15 : chkSs st ["self", "row", "term"] (defScope (inClass (top 21) 4)) s15 (defBody (inClass (top 21) 4)) = true := rfl -- Problem.least_sum
def s16 : BV.S := (.cons (.set 2 (.lrng (.var 0))) (.cons (.set 3 (.cst (.bl true))) (.cons (.wh (.var 3) (.cons (.setL 6 (.lc (.var 8) (.itt (.var 1)) (.cons (.cmp .In (.var 7) (.var 2)) .nil) [7, 8, 9] false [("i", 7), ("j", 8), ("d", 9)])) (.cons (.frz 6) (.cons (.setL 5 (.lc (.var 4) (.itl (.var 2)) (.cons (.cmp .NotIn (.var 4) (.var 6)) .nil) [4] true [("v", 4)])) (.cons (.frz 5) (.cons (.set 3 (.cmp .NotEq (.var 5) (.lst .nil))) (.cons (.setL 2 (.lc (.var 4) (.itl (.var 2)) (.cons (.cmp .NotIn (.var 4) (.var 5)) .nil) [4] true [("v", 4)])) (.cons (.frz 2) .nil)))))))) (.cons (.ret (.cmp .NotEq (.var 2) (.lst .nil))) .nil))))
theorem c16 : chkSs st ["size", "bounds", "rest", "is_less", "v", "free", "ends", "i", "j", "d"] (defScope (top 17)) s16 (defBody (top 17)) = true := rfl -- has_ring
def s17 : BV.S := (.cons (.ret (.and (.cons (.isi (.var 0) [.b "tuple"] false) (.cons (.cmp .LtE (.bi .len (.cons (.var 0) .nil)) (.gv "MAX_ROWS")) (.cons (.bi .all (.cons (.lc (.callv 2 0 2 (.cons (.var 3) (.cons (.var 1) .nil))) (.itt (.var 0)) .nil [3] true [("item", 3)]) .nil)) .nil))))) .nil)
theorem c17 : chkSs st ["value", "size", "is_right", "item"] (defScope (top 18)) s17 (defBody (top 18)) = true := rfl -- are_rows
def s18 : BV.S := (.cons (.ife (.or (.cons (.not (.isi (.var 0) [.b "tuple"] false)) (.cons (.cmp .NotIn (.bi .len (.cons (.var 0) .nil)) (.tup (.cons (.cst (.int 4)) (.cons (.cst (.int 5)) .nil)))) (.cons (.not (.isi (.ix (.var 0) (.cst (.int 0))) [.b "str"] false)) .nil)))) (.cons (.ret (.cst (.bl false))) .nil) .nil) (.cons (.ife (.or (.cons (.cmp .NotEq (.ix (.var 0) (.cst (.int 0))) (.ife (.cmp .Eq (.bi .len (.cons (.var 0) .nil)) (.cst (.int 4))) (.cst (.str "line")) (.cst (.str "bend")))) (.cons (.not (.call 23 0 (.cons (.var 1) (.cons (.ix (.var 0) (.cst (.int 1))) (.cons (.ix (.var 0) (.cst (.int 2))) .nil))) .nil)) .nil))) (.cons (.ret (.cst (.bl false))) .nil) .nil) (.cons (.ife (.and (.cons (.cmp .Eq (.bi .len (.cons (.var 0) .nil)) (.cst (.int 5))) (.cons (.not (.call 20 0 (.cons (.ix (.var 0) (.cst (.int 3))) (.cons (.op .Sub (.cst (.int 0)) (.gv "MAX_NUMBER")) (.cons (.gv "MAX_NUMBER") .nil))) .nil)) .nil))) (.cons (.ret (.cst (.bl false))) .nil) .nil) (.cons (.ret (.call 20 0 (.cons (.ix (.var 0) (.neg (.cst (.int 1)))) (.cons (.cst (.int 1)) (.cons (.gv "MAX_COST") .nil))) .nil)) .nil))))
theorem c18 : chkSs st ["value", "size"] (defScope (top 16)) s18 (defBody (top 16)) = true := rfl -- is_term
def s19 : BV.S := (.cons (.ife (.or (.cons (.not (.isi (.var 0) [.b "tuple"] false)) (.cons (.cmp .NotEq (.bi .len (.cons (.var 0) .nil)) (.cst (.int 3))) .nil))) (.cons (.ret (.cst (.bl false))) .nil) .nil) (.cons (.ret (.and (.cons (.call 23 0 (.cons (.var 1) (.cons (.ix (.var 0) (.cst (.int 0))) (.cons (.ix (.var 0) (.cst (.int 1))) .nil))) .nil) (.cons (.call 20 0 (.cons (.ix (.var 0) (.cst (.int 2))) (.cons (.cst (.int 0)) (.cons (.gv "MAX_NUMBER") .nil))) .nil) .nil)))) .nil))
theorem c19 : chkSs st ["value", "size"] (defScope (top 15)) s19 (defBody (top 15)) = true := rfl -- is_bound
def s20 : BV.S := (.cons (.ret (.and (.cons (.call 21 0 (.cons (.var 0) .nil) .nil) (.cons (.chain .LtE .LtE (.var 1) (.var 0) (.var 2)) .nil)))) .nil)
theorem c20 : chkSs st ["value", "least", "most"] (defScope (top 7)) s20 (defBody (top 7)) = true := rfl -- is_among
def s21 : BV.S := (.cons (.ret (.and (.cons (.isi (.var 0) [.b "int"] false) (.cons (.not (.isi (.var 0) [.b "bool"] false)) .nil)))) .nil)
theorem c21 : chkSs st ["value"] (defScope (top 6)) s21 (defBody (top 6)) = true := rfl -- is_integer
def s22 : BV.S := (.cons (.set 2 (.op .Sub (.ix (.var 1) (.ix (.var 0) (.cst (.int 2)))) (.ix (.var 1) (.ix (.var 0) (.cst (.int 1)))))) (.cons (.ret (.ife (.cmp .Eq (.ix (.var 0) (.cst (.int 0))) (.cst (.str "line"))) (.op .Mult (.ix (.var 0) (.cst (.int 3))) (.var 2)) (.op .Mult (.ix (.var 0) (.cst (.int 4))) (.bi .abs (.cons (.op .Sub (.var 2) (.ix (.var 0) (.cst (.int 3)))) .nil))))) .nil))
theorem c22 : chkSs st ["term", "row", "length"] (defScope (top 20)) s22 (defBody (top 20)) = true := rfl -- cost_of_term
def s23 : BV.S := (.cons (.ret (.and (.cons (.call 20 0 (.cons (.var 1) (.cons (.cst (.int 0)) (.cons (.op .Sub (.var 0) (.cst (.int 1))) .nil))) .nil) (.cons (.call 20 0 (.cons (.var 2) (.cons (.cst (.int 0)) (.cons (.op .Sub (.var 0) (.cst (.int 1))) .nil))) .nil) (.cons (.cmp .NotEq (.var 1) (.var 2)) .nil))))) .nil)
theorem c23 : chkSs st ["size", "i", "j"] (defScope (top 14)) s23 (defBody (top 14)) = true := rfl -- is_pair_of
def lfn : List (Option (BV.S × Nat)) := [some (s0, 13), some (s1, 5), none, some (s3, 7), some (s4, 5), some (s5, 6), some (s6, 1), some (s7, 14), some (s8, 3), some (s9, 5), some (s10, 2), some (s11, 7), some (s12, 3), some (s13, 10), some (s14, 3), some (s15, 3), some (s16, 10), some (s17, 4), some (s18, 2), some (s19, 2), some (s20, 3), some (s21, 1), some (s22, 3), some (s23, 3)]
def wfn (f : Nat) : Option (BV.S × Nat) := lfn.getD f none
def ldn : List (Option DeedD) := [none, none, some d2, none, none, none, none, none, none, none, none, none, none, none, none, none, none, none, none, none, none, none, none, none]
def wdn (f : Nat) : Option DeedD := ldn.getD f none
def tab : Tab := ⟨st, wfn, wdn⟩
end K28
namespace K28
open PySem L2 BV
@[simp] theorem pat_1_0 : tab.st.pat 1 0 = some (2, ([] : List Str), ([.p 0, .p 1] : List Src)) := by kernel_rfl
@[simp] theorem pat_3_0 : tab.st.pat 3 0 = some (2, ([] : List Str), ([.p 0, .p 1] : List Src)) := by kernel_rfl
@[simp] theorem pat_4_0 : tab.st.pat 4 0 = some (2, ([] : List Str), ([.p 0, .p 1] : List Src)) := by kernel_rfl
@[simp] theorem pat_5_0 : tab.st.pat 5 0 = some (1, ([] : List Str), ([.p 0] : List Src)) := by kernel_rfl
@[simp] theorem pat_6_0 : tab.st.pat 6 0 = some (1, ([] : List Str), ([.p 0] : List Src)) := by kernel_rfl
@[simp] theorem pat_7_0 : tab.st.pat 7 0 = some (3, ([] : List Str), ([.p 0, .p 1, .p 2] : List Src)) := by kernel_rfl
@[simp] theorem pat_8_0 : tab.st.pat 8 0 = some (2, ([] : List Str), ([.p 0, .p 1] : List Src)) := by kernel_rfl
@[simp] theorem pat_9_0 : tab.st.pat 9 0 = some (2, (["bounds", "lows", "terms"] : List Str), ([.p 0, .p 1, .k 0, .k 1, .k 2] : List Src)) := by kernel_rfl
@[simp] theorem pat_12_0 : tab.st.pat 12 0 = some (2, ([] : List Str), ([.p 0, .p 1] : List Src)) := by kernel_rfl
@[simp] theorem pat_13_0 : tab.st.pat 13 0 = some (4, ([] : List Str), ([.p 0, .p 1, .p 2, .p 3] : List Src)) := by kernel_rfl
@[simp] theorem pat_14_0 : tab.st.pat 14 0 = some (2, ([] : List Str), ([.p 0, .p 1] : List Src)) := by kernel_rfl
@[simp] theorem pat_16_0 : tab.st.pat 16 0 = some (2, ([] : List Str), ([.p 0, .p 1] : List Src)) := by kernel_rfl
@[simp] theorem pat_17_0 : tab.st.pat 17 0 = some (3, ([] : List Str), ([.p 0, .p 1, .p 2] : List Src)) := by kernel_rfl
@[simp] theorem pat_18_0 : tab.st.pat 18 0 = some (2, ([] : List Str), ([.p 0, .p 1] : List Src)) := by kernel_rfl
@[simp] theorem pat_19_0 : tab.st.pat 19 0 = some (2, ([] : List Str), ([.p 0, .p 1] : List Src)) := by kernel_rfl
@[simp] theorem pat_20_0 : tab.st.pat 20 0 = some (3, ([] : List Str), ([.p 0, .p 1, .p 2] : List Src)) := by kernel_rfl
@[simp] theorem pat_21_0 : tab.st.pat 21 0 = some (1, ([] : List Str), ([.p 0] : List Src)) := by kernel_rfl
@[simp] theorem pat_22_0 : tab.st.pat 22 0 = some (2, ([] : List Str), ([.p 0, .p 1] : List Src)) := by kernel_rfl
@[simp] theorem pat_23_0 : tab.st.pat 23 0 = some (3, ([] : List Str), ([.p 0, .p 1, .p 2] : List Src)) := by kernel_rfl
@[simp] theorem npar_0 : tab.st.npar 0 = 1 := by kernel_rfl
@[simp] theorem npar_1 : tab.st.npar 1 = 2 := by kernel_rfl
@[simp] theorem npar_2 : tab.st.npar 2 = 1 := by kernel_rfl
@[simp] theorem npar_3 : tab.st.npar 3 = 2 := by kernel_rfl
@[simp] theorem npar_4 : tab.st.npar 4 = 2 := by kernel_rfl
@[simp] theorem npar_5 : tab.st.npar 5 = 1 := by kernel_rfl
@[simp] theorem npar_6 : tab.st.npar 6 = 1 := by kernel_rfl
@[simp] theorem npar_7 : tab.st.npar 7 = 3 := by kernel_rfl
@[simp] theorem npar_8 : tab.st.npar 8 = 2 := by kernel_rfl
@[simp] theorem npar_9 : tab.st.npar 9 = 5 := by kernel_rfl
@[simp] theorem npar_10 : tab.st.npar 10 = 2 := by kernel_rfl
@[simp] theorem npar_11 : tab.st.npar 11 = 2 := by kernel_rfl
@[simp] theorem npar_12 : tab.st.npar 12 = 2 := by kernel_rfl
@[simp] theorem npar_13 : tab.st.npar 13 = 4 := by kernel_rfl
@[simp] theorem npar_14 : tab.st.npar 14 = 2 := by kernel_rfl
@[simp] theorem npar_15 : tab.st.npar 15 = 2 := by kernel_rfl
@[simp] theorem npar_16 : tab.st.npar 16 = 2 := by kernel_rfl
@[simp] theorem npar_17 : tab.st.npar 17 = 3 := by kernel_rfl
@[simp] theorem npar_18 : tab.st.npar 18 = 2 := by kernel_rfl
@[simp] theorem npar_19 : tab.st.npar 19 = 2 := by kernel_rfl
@[simp] theorem npar_20 : tab.st.npar 20 = 3 := by kernel_rfl
@[simp] theorem npar_21 : tab.st.npar 21 = 1 := by kernel_rfl
@[simp] theorem npar_22 : tab.st.npar 22 = 2 := by kernel_rfl
@[simp] theorem npar_23 : tab.st.npar 23 = 3 := by kernel_rfl
@[simp] theorem gd_MAX_NUMBER : tab.st.gd "MAX_NUMBER" = some (.int 1000000) := by kernel_rfl
@[simp] theorem gd_MAX_SIZE : tab.st.gd "MAX_SIZE" = some (.int 12) := by kernel_rfl
@[simp] theorem gd_MAX_ROWS : tab.st.gd "MAX_ROWS" = some (.int 40) := by kernel_rfl
@[simp] theorem gd_MAX_COST : tab.st.gd "MAX_COST" = some (.int 100) := by kernel_rfl
@[simp] theorem init_0 : tab.st.init 0 = none := by kernel_rfl
@[simp] theorem init_1 : tab.st.init 1 = none := by kernel_rfl
@[simp] theorem init_2 : tab.st.init 2 = some 9 := by kernel_rfl
@[simp] theorem init_3 : tab.st.init 3 = none := by kernel_rfl
@[simp] theorem meth_2_cost_of_row : tab.st.meth 2 "cost_of_row" = some 10 := by kernel_rfl
@[simp] theorem meth_2_is_feasible : tab.st.meth 2 "is_feasible" = some 11 := by kernel_rfl
@[simp] theorem meth_2_least_sum : tab.st.meth 2 "least_sum" = some 15 := by kernel_rfl
@[simp] theorem prop_0_bounds : tab.st.prop 0 "bounds" = none := by kernel_rfl
@[simp] theorem prop_0_known_flows : tab.st.prop 0 "known_flows" = none := by kernel_rfl
@[simp] theorem prop_0_lows : tab.st.prop 0 "lows" = none := by kernel_rfl
@[simp] theorem prop_0_size : tab.st.prop 0 "size" = none := by kernel_rfl
@[simp] theorem prop_0_terms : tab.st.prop 0 "terms" = none := by kernel_rfl
@[simp] theorem prop_1_bounds : tab.st.prop 1 "bounds" = none := by kernel_rfl
@[simp] theorem prop_1_known_flows : tab.st.prop 1 "known_flows" = none := by kernel_rfl
@[simp] theorem prop_1_lows : tab.st.prop 1 "lows" = none := by kernel_rfl
@[simp] theorem prop_1_size : tab.st.prop 1 "size" = none := by kernel_rfl
@[simp] theorem prop_1_terms : tab.st.prop 1 "terms" = none := by kernel_rfl
@[simp] theorem prop_2_bounds : tab.st.prop 2 "bounds" = none := by kernel_rfl
@[simp] theorem fldk_2_bounds : tab.st.fldk 2 "bounds" = true := by kernel_rfl
@[simp] theorem prop_2_known_flows : tab.st.prop 2 "known_flows" = none := by kernel_rfl
@[simp] theorem fldk_2_known_flows : tab.st.fldk 2 "known_flows" = true := by kernel_rfl
@[simp] theorem prop_2_lows : tab.st.prop 2 "lows" = none := by kernel_rfl
@[simp] theorem fldk_2_lows : tab.st.fldk 2 "lows" = true := by kernel_rfl
@[simp] theorem prop_2_size : tab.st.prop 2 "size" = none := by kernel_rfl
@[simp] theorem fldk_2_size : tab.st.fldk 2 "size" = true := by kernel_rfl
@[simp] theorem prop_2_terms : tab.st.prop 2 "terms" = none := by kernel_rfl
@[simp] theorem fldk_2_terms : tab.st.fldk 2 "terms" = true := by kernel_rfl
@[simp] theorem prop_3_bounds : tab.st.prop 3 "bounds" = none := by kernel_rfl
@[simp] theorem prop_3_known_flows : tab.st.prop 3 "known_flows" = none := by kernel_rfl
@[simp] theorem prop_3_lows : tab.st.prop 3 "lows" = none := by kernel_rfl
@[simp] theorem prop_3_size : tab.st.prop 3 "size" = none := by kernel_rfl
@[simp] theorem prop_3_terms : tab.st.prop 3 "terms" = none := by kernel_rfl
@[simp] theorem kit_0 : tab.st.kit (.b "NoneType") (.b "bool") = some false := by kernel_rfl
@[simp] theorem kit_1 : tab.st.kit (.b "NoneType") (.b "int") = some false := by kernel_rfl
@[simp] theorem kit_2 : tab.st.kit (.b "NoneType") (.b "str") = some false := by kernel_rfl
@[simp] theorem kit_3 : tab.st.kit (.b "NoneType") (.b "tuple") = some false := by kernel_rfl
@[simp] theorem kit_4 : tab.st.kit (.b "bool") (.b "bool") = some true := by kernel_rfl
@[simp] theorem kit_5 : tab.st.kit (.b "bool") (.b "int") = some true := by kernel_rfl
@[simp] theorem kit_6 : tab.st.kit (.b "bool") (.b "str") = some false := by kernel_rfl
@[simp] theorem kit_7 : tab.st.kit (.b "bool") (.b "tuple") = some false := by kernel_rfl
@[simp] theorem kit_8 : tab.st.kit (.b "int") (.b "bool") = some false := by kernel_rfl
@[simp] theorem kit_9 : tab.st.kit (.b "int") (.b "int") = some true := by kernel_rfl
@[simp] theorem kit_10 : tab.st.kit (.b "int") (.b "str") = some false := by kernel_rfl
@[simp] theorem kit_11 : tab.st.kit (.b "int") (.b "tuple") = some false := by kernel_rfl
@[simp] theorem kit_12 : tab.st.kit (.b "str") (.b "bool") = some false := by kernel_rfl
@[simp] theorem kit_13 : tab.st.kit (.b "str") (.b "int") = some false := by kernel_rfl
@[simp] theorem kit_14 : tab.st.kit (.b "str") (.b "str") = some true := by kernel_rfl
@[simp] theorem kit_15 : tab.st.kit (.b "str") (.b "tuple") = some false := by kernel_rfl
@[simp] theorem kit_16 : tab.st.kit (.b "tuple") (.b "bool") = some false := by kernel_rfl
@[simp] theorem kit_17 : tab.st.kit (.b "tuple") (.b "int") = some false := by kernel_rfl
@[simp] theorem kit_18 : tab.st.kit (.b "tuple") (.b "str") = some false := by kernel_rfl
@[simp] theorem kit_19 : tab.st.kit (.b "tuple") (.b "tuple") = some true := by kernel_rfl
@[simp] theorem kit_20 : tab.st.kit (.b "list") (.b "bool") = some false := by kernel_rfl
@[simp] theorem kit_21 : tab.st.kit (.b "list") (.b "int") = some false := by kernel_rfl
@[simp] theorem kit_22 : tab.st.kit (.b "list") (.b "str") = some false := by kernel_rfl
@[simp] theorem kit_23 : tab.st.kit (.b "list") (.b "tuple") = some false := by kernel_rfl
@[simp] theorem kit_24 : tab.st.kit (.b "dict") (.b "bool") = some false := by kernel_rfl
@[simp] theorem kit_25 : tab.st.kit (.b "dict") (.b "int") = some false := by kernel_rfl
@[simp] theorem kit_26 : tab.st.kit (.b "dict") (.b "str") = some false := by kernel_rfl
@[simp] theorem kit_27 : tab.st.kit (.b "dict") (.b "tuple") = some false := by kernel_rfl
@[simp] theorem kit_28 : tab.st.kit (.c 2) (.b "bool") = some false := by kernel_rfl
@[simp] theorem kit_29 : tab.st.kit (.c 2) (.b "int") = some false := by kernel_rfl
@[simp] theorem kit_30 : tab.st.kit (.c 2) (.b "str") = some false := by kernel_rfl
@[simp] theorem kit_31 : tab.st.kit (.c 2) (.b "tuple") = some false := by kernel_rfl
@[simp] theorem kit_32 : tab.st.kit (.x 1) (.c 0) = some false := by kernel_rfl
@[simp] theorem kit_33 : tab.st.kit (.x 0) (.c 0) = some true := by kernel_rfl
@[simp] theorem exk_0 : tab.st.exk 0 = some (("BadProblem" : Str), ("reason" : Str)) := by kernel_rfl
@[simp] theorem exk_1 : tab.st.exk 1 = some (("BadRow" : Str), ("reason" : Str)) := by kernel_rfl
@[simp] theorem exk_2 : tab.st.exk 2 = none := by kernel_rfl
@[simp] theorem exk_3 : tab.st.exk 3 = none := by kernel_rfl
@[simp] theorem exm_0 : tab.st.exm [0, 1] 1 = some true := by kernel_rfl
@[simp] theorem exm_1 : tab.st.exm [0, 1] 0 = some true := by kernel_rfl
@[simp] theorem gd_is_term : tab.st.gd "is_term" = some (.fn 18) := by kernel_rfl
@[simp] theorem gd_is_bound : tab.st.gd "is_bound" = some (.fn 19) := by kernel_rfl
@[simp] theorem at_st (n j : Nat) : (tab.at n j).toWs = tab.st := Tab.at_st _ _ _
end K28
namespace K28
open PySem L2 BV
theorem sc0 : FnScope ["_law_script", "_law_k", "_law_problem", "_law_row", "_law_low", "_law_plain", "_law_odds", "_law_odd", "_law_turn", "_law_told", "_law_way", "_law_value", "_law_source_here"] ["_law_script"] (defScope (top 32)) := ⟨rfl, rfl, rfl, by decide +kernel, rfl, by decide +kernel, by decide +kernel⟩
theorem sc1 : FnScope ["_law_plain", "_law_row", "_law_found", "_law_cost_here", "_law_far"] ["_law_plain", "_law_row"] (defScope (top 28)) := ⟨rfl, rfl, rfl, by decide +kernel, rfl, by decide +kernel, by decide +kernel⟩
theorem sc2 : FnScope ["_law_deed", "error", "_law_caught", "_law_found"] ["_law_deed"] (defScope (top 31)) := ⟨rfl, rfl, rfl, by decide +kernel, rfl, by decide +kernel, by decide +kernel⟩
theorem sc3 : FnScope ["_law_plain", "_law_row", "_law_i", "_law_j", "_law_d", "_law_value", "_law_low"] ["_law_plain", "_law_row"] (defScope (top 29)) := ⟨rfl, rfl, rfl, by decide +kernel, rfl, by decide +kernel, by decide +kernel⟩
theorem sc4 : FnScope ["_law_source_here", "_law_many", "_law_prime", "_law_primes", "_law_found"] ["_law_source_here", "_law_many"] (defScope (top 24)) := ⟨rfl, rfl, rfl, by decide +kernel, rfl, by decide +kernel, by decide +kernel⟩
theorem sc5 : FnScope ["_law_plain", "_law_row", "_law_is_new", "_law_i", "_law_j", "_law_d"] ["_law_plain"] (defScope (top 30)) := ⟨rfl, rfl, rfl, by decide +kernel, rfl, by decide +kernel, by decide +kernel⟩
theorem sc6 : FnScope ["_law_plain"] ["_law_plain"] (defScope (top 27)) := ⟨rfl, rfl, rfl, by decide +kernel, rfl, by decide +kernel, by decide +kernel⟩
theorem sc7 : FnScope ["_law_source_here", "_law_size", "_law_far", "_law_links", "_law_floor_so", "_law_costs", "_law_v", "_law_turn", "_law_j", "_law_i", "_law_pairs", "_law_link", "_law_order", "_law_rest"] ["_law_source_here", "_law_size", "_law_far"] (defScope (top 26)) := ⟨rfl, rfl, rfl, by decide +kernel, rfl, by decide +kernel, by decide +kernel⟩
theorem sc8 : FnScope ["_law_script", "_law_k", "_law_cell"] ["_law_script", "_law_k"] (defScope (top 23)) := ⟨rfl, rfl, rfl, by decide +kernel, rfl, by decide +kernel, by decide +kernel⟩
theorem sc9 : FnScope ["self", "size", "bounds", "lows", "terms"] ["self", "size", "bounds", "lows", "terms"] (defScope (inClass (top 21) 0)) := ⟨rfl, rfl, rfl, by decide +kernel, rfl, by decide +kernel, by decide +kernel⟩
theorem sc10 : FnScope ["self", "row"] ["self", "row"] (defScope (inClass (top 21) 3)) := ⟨rfl, rfl, rfl, by decide +kernel, rfl, by decide +kernel, by decide +kernel⟩
theorem sc11 : FnScope ["self", "row", "i", "j", "d", "value", "low"] ["self", "row"] (defScope (inClass (top 21) 2)) := ⟨rfl, rfl, rfl, by decide +kernel, rfl, by decide +kernel, by decide +kernel⟩
theorem sc12 : FnScope ["_law_source_here", "_law_size", "_law_i"] ["_law_source_here", "_law_size"] (defScope (top 25)) := ⟨rfl, rfl, rfl, by decide +kernel, rfl, by decide +kernel, by decide +kernel⟩
theorem sc13 : FnScope ["size", "bounds", "lows", "terms", "term", "pairs", "i", "j", "d", "low"] ["size", "bounds", "lows", "terms"] (defScope (top 19)) := ⟨rfl, rfl, rfl, by decide +kernel, rfl, by decide +kernel, by decide +kernel⟩
theorem sc14 : FnScope ["value", "many", "item"] ["value", "many"] (defScope (top 13)) := ⟨rfl, rfl, rfl, by decide +kernel, rfl, by decide +kernel, by decide +kernel⟩
theorem sc15 : FnScope ["self", "row", "term"] ["self", "row"] (defScope (inClass (top 21) 4)) := ⟨rfl, rfl, rfl, by decide +kernel, rfl, by decide +kernel, by decide +kernel⟩
theorem sc16 : FnScope ["size", "bounds", "rest", "is_less", "v", "free", "ends", "i", "j", "d"] ["size", "bounds"] (defScope (top 17)) := ⟨rfl, rfl, rfl, by decide +kernel, rfl, by decide +kernel, by decide +kernel⟩
theorem sc17 : FnScope ["value", "size", "is_right", "item"] ["value", "size", "is_right"] (defScope (top 18)) := ⟨rfl, rfl, rfl, by decide +kernel, rfl, by decide +kernel, by decide +kernel⟩
theorem sc18 : FnScope ["value", "size"] ["value", "size"] (defScope (top 16)) := ⟨rfl, rfl, rfl, by decide +kernel, rfl, by decide +kernel, by decide +kernel⟩
theorem sc19 : FnScope ["value", "size"] ["value", "size"] (defScope (top 15)) := ⟨rfl, rfl, rfl, by decide +kernel, rfl, by decide +kernel, by decide +kernel⟩
theorem sc20 : FnScope ["value", "least", "most"] ["value", "least", "most"] (defScope (top 7)) := ⟨rfl, rfl, rfl, by decide +kernel, rfl, by decide +kernel, by decide +kernel⟩
theorem sc21 : FnScope ["value"] ["value"] (defScope (top 6)) := ⟨rfl, rfl, rfl, by decide +kernel, rfl, by decide +kernel, by decide +kernel⟩
theorem sc22 : FnScope ["term", "row", "length"] ["term", "row"] (defScope (top 20)) := ⟨rfl, rfl, rfl, by decide +kernel, rfl, by decide +kernel, by decide +kernel⟩
theorem sc23 : FnScope ["size", "i", "j"] ["size", "i", "j"] (defScope (top 14)) := ⟨rfl, rfl, rfl, by decide +kernel, rfl, by decide +kernel, by decide +kernel⟩
theorem scx1 : FnScopeS ["self", "reason"] ["self", "reason"] (defScope (inClass (top 4) 0)) := ⟨rfl, rfl, rfl, by decide +kernel, rfl, by decide +kernel, by decide +kernel, by decide +kernel⟩
theorem scx0 : FnScopeS ["self", "reason"] ["self", "reason"] (defScope (inClass (top 3) 0)) := ⟨rfl, rfl, rfl, by decide +kernel, rfl, by decide +kernel, by decide +kernel, by decide +kernel⟩
theorem nl1 : defScope (top 28) ∉ lams := by decide +kernel
theorem nl2 : defScope (top 31) ∉ lams := by decide +kernel
theorem nl3 : defScope (top 29) ∉ lams := by decide +kernel
theorem nl4 : defScope (top 24) ∉ lams := by decide +kernel
theorem nl5 : defScope (top 30) ∉ lams := by decide +kernel
theorem nl6 : defScope (top 27) ∉ lams := by decide +kernel
theorem nl7 : defScope (top 26) ∉ lams := by decide +kernel
theorem nl8 : defScope (top 23) ∉ lams := by decide +kernel
theorem nl9 : defScope (inClass (top 21) 0) ∉ lams := by decide +kernel
theorem nl10 : defScope (inClass (top 21) 3) ∉ lams := by decide +kernel
theorem nl11 : defScope (inClass (top 21) 2) ∉ lams := by decide +kernel
theorem nl12 : defScope (top 25) ∉ lams := by decide +kernel
theorem nl13 : defScope (top 19) ∉ lams := by decide +kernel
theorem nl14 : defScope (top 13) ∉ lams := by decide +kernel
theorem nl15 : defScope (inClass (top 21) 4) ∉ lams := by decide +kernel
theorem nl16 : defScope (top 17) ∉ lams := by decide +kernel
theorem nl17 : defScope (top 18) ∉ lams := by decide +kernel
theorem nl18 : defScope (top 16) ∉ lams := by decide +kernel
theorem nl19 : defScope (top 15) ∉ lams := by decide +kernel
theorem nl20 : defScope (top 7) ∉ lams := by decide +kernel
theorem nl21 : defScope (top 6) ∉ lams := by decide +kernel
theorem nl22 : defScope (top 20) ∉ lams := by decide +kernel
theorem nl23 : defScope (top 14) ∉ lams := by decide +kernel
theorem all_mk {l : PySem.W.OpenLaw} {P : Program} {w : World} {K : PySem.W.Frag} {h : Heap} {mg : Str → Option Value} {fq : Addr} (eP : l.prog = P) (X : K.In h) (GG : h.Ns mainGlobals mg) (hfa : mg "law" = some (.ref fq))
    {C0 C1 C2 C3 f0 f1 f2 f3 f4 f5 f6 f7 f8 f9 f10 f11 f12 f13 f14 f15 f16 f17 f18 f19 f20 f21 f22 f23 : Addr}
    {gt0 : Tok}
    {gt1 : Tok}
    {gt2 : Tok}
    {gt3 : Tok}
    {oc0 doc0 pm0 ct0 kV0 : Value} {od0 an0 : Option Addr} {cd0 : Addr} {sl0 : Array (Option Value)}
    {yl0 : Value} {yd0 : Option Addr} {yv0 : Array Value} {ys0 : Array (Option Value)} {P0 : Addr}
    {oc1 doc1 pm1 ct1 kV1 : Value} {od1 an1 : Option Addr} {cd1 : Addr} {sl1 : Array (Option Value)}
    {oc2 doc2 pm2 ct2 kV2 : Value} {od2 an2 : Option Addr} {cd2 : Addr} {sl2 : Array (Option Value)}
    {oc3 doc3 pm3 ct3 kV3 : Value} {od3 an3 : Option Addr} {cd3 : Addr} {sl3 : Array (Option Value)}
    {oc4 doc4 pm4 ct4 kV4 : Value} {od4 an4 : Option Addr} {cd4 : Addr} {sl4 : Array (Option Value)}
    {oc5 doc5 pm5 ct5 kV5 : Value} {od5 an5 : Option Addr} {cd5 : Addr} {sl5 : Array (Option Value)}
    {oc6 doc6 pm6 ct6 kV6 : Value} {od6 an6 : Option Addr} {cd6 : Addr} {sl6 : Array (Option Value)}
    {oc7 doc7 pm7 ct7 kV7 : Value} {od7 an7 : Option Addr} {cd7 : Addr} {sl7 : Array (Option Value)}
    {oc8 doc8 pm8 ct8 kV8 : Value} {od8 an8 : Option Addr} {cd8 : Addr} {sl8 : Array (Option Value)}
    {oc9 doc9 pm9 ct9 : Value} {od9 an9 : Option Addr} {cd9 D9 : Addr} {sl9 : Array (Option Value)}
    {u9_0 : Value} {dA9_0 : Addr}
    {u9_1 : Value}
    {u9_2 : Value} {dA9_2 : Addr}
    {oc10 doc10 pm10 ct10 kV10 : Value} {od10 an10 : Option Addr} {cd10 : Addr} {sl10 : Array (Option Value)}
    {oc11 doc11 pm11 ct11 kV11 : Value} {od11 an11 : Option Addr} {cd11 : Addr} {sl11 : Array (Option Value)}
    {oc12 doc12 pm12 ct12 kV12 : Value} {od12 an12 : Option Addr} {cd12 : Addr} {sl12 : Array (Option Value)}
    {oc13 doc13 pm13 ct13 kV13 : Value} {od13 an13 : Option Addr} {cd13 : Addr} {sl13 : Array (Option Value)}
    {oc14 doc14 pm14 ct14 kV14 : Value} {od14 an14 : Option Addr} {cd14 : Addr} {sl14 : Array (Option Value)}
    {oc15 doc15 pm15 ct15 kV15 : Value} {od15 an15 : Option Addr} {cd15 : Addr} {sl15 : Array (Option Value)}
    {oc16 doc16 pm16 ct16 kV16 : Value} {od16 an16 : Option Addr} {cd16 : Addr} {sl16 : Array (Option Value)}
    {oc17 doc17 pm17 ct17 kV17 : Value} {od17 an17 : Option Addr} {cd17 : Addr} {sl17 : Array (Option Value)}
    {oc18 doc18 pm18 ct18 kV18 : Value} {od18 an18 : Option Addr} {cd18 : Addr} {sl18 : Array (Option Value)}
    {oc19 doc19 pm19 ct19 kV19 : Value} {od19 an19 : Option Addr} {cd19 : Addr} {sl19 : Array (Option Value)}
    {oc20 doc20 pm20 ct20 kV20 : Value} {od20 an20 : Option Addr} {cd20 : Addr} {sl20 : Array (Option Value)}
    {oc21 doc21 pm21 ct21 kV21 : Value} {od21 an21 : Option Addr} {cd21 : Addr} {sl21 : Array (Option Value)}
    {oc22 doc22 pm22 ct22 kV22 : Value} {od22 an22 : Option Addr} {cd22 : Addr} {sl22 : Array (Option Value)}
    {oc23 doc23 pm23 ct23 kV23 : Value} {od23 an23 : Option Addr} {cd23 : Addr} {sl23 : Array (Option Value)}
    {nmX1 qX1 : Str} {NX1 xI1 xcd1 xcc1 : Addr} {bsX1 subX1 : List Value} {snX1 : List Str} {abX1 : Bool} {colX1 : Option Bool} {ddX1 : Option Addr} {k0X1 k1X1 k2X1 k3X1 k5X1 : Option Value}
    {xoc1 xkV1 xdoc1 xpm1 xct1 : Value} {xod1 xan1 : Option Addr} {xsl1 : Array (Option Value)} {xcl1 : Value} {xcld1 : Option Addr} {xcsl1 : Array (Option Value)} {xyl1 : Value} {xyd1 : Option Addr} {xyv1 : Array Value} {xys1 : Array (Option Value)} {xfi1 : Str} {xtf1 : Tok}
    {nmX0 qX0 : Str} {NX0 xI0 xcd0 xcc0 : Addr} {bsX0 subX0 : List Value} {snX0 : List Str} {abX0 : Bool} {colX0 : Option Bool} {ddX0 : Option Addr} {k0X0 k1X0 k2X0 k3X0 k5X0 : Option Value}
    {xoc0 xkV0 xdoc0 xpm0 xct0 : Value} {xod0 xan0 : Option Addr} {xsl0 : Array (Option Value)} {xcl0 : Value} {xcld0 : Option Addr} {xcsl0 : Array (Option Value)} {xyl0 : Value} {xyd0 : Option Addr} {xyv0 : Array Value} {xys0 : Array (Option Value)} {xfi0 : Str} {xtf0 : Tok}
    (aC0 : PySem.W.nsIn K mainGlobals ("BadProblem" : Str) = some (some (.ref C0)))
    (aC1 : PySem.W.nsIn K mainGlobals ("BadRow" : Str) = some (some (.ref C1)))
    (aC2 : PySem.W.nsIn K mainGlobals ("Problem" : Str) = some (some (.ref C2)))
    (aC3 : PySem.W.nsIn K mainGlobals ("Invalid" : Str) = some (some (.ref C3)))
    (g0 : PySem.W.nsIn K mainGlobals ("MAX_NUMBER" : Str) = some (some (.int 1000000 gt0)))
    (g1 : PySem.W.nsIn K mainGlobals ("MAX_SIZE" : Str) = some (some (.int 12 gt1)))
    (g2 : PySem.W.nsIn K mainGlobals ("MAX_ROWS" : Str) = some (some (.int 40 gt2)))
    (g3 : PySem.W.nsIn K mainGlobals ("MAX_COST" : Str) = some (some (.int 100 gt3)))
    (a0 : PySem.W.nsIn K mainGlobals ("law" : Str) = some (some (.ref f0)))
    (l0 : K.lookup f0 = some ⟨oc0, od0, .func (PySem.W.fnX "law" "law" (defArgs (top 32)) (defBody (top 32)) (defScope (top 32)) [] .none kV0 doc0 pm0 an0 (.ref cd0) ct0), sl0⟩)
    (c0 : PySem.W.codeIn K (.ref cd0) ("law" : Str) = true)
    (k0 : PySem.W.keepIn K (.ref f0) = true)
    (y0 : K.lookup cd0 = some ⟨yl0, yd0, .fields yv0, ys0⟩)
    (z0 : yv0[11]? = some (.ref P0))
    (po0 : K.lookup P0 = none)
    (ch0 : PySem.W.codeHdIn K cd0 P0 = true)
    (te0 : h.get? P0 = some tab0)
    (a1 : PySem.W.nsIn K mainGlobals ("_law_cost" : Str) = some (some (.ref f1)))
    (l1 : K.lookup f1 = some ⟨oc1, od1, .func (PySem.W.fnX "_law_cost" "_law_cost" (defArgs (top 28)) (defBody (top 28)) (defScope (top 28)) [] .none kV1 doc1 pm1 an1 (.ref cd1) ct1), sl1⟩)
    (c1 : PySem.W.codeIn K (.ref cd1) ("_law_cost" : Str) = true)
    (k1 : PySem.W.keepIn K (.ref f1) = true)
    (a2 : PySem.W.nsIn K mainGlobals ("_law_refused" : Str) = some (some (.ref f2)))
    (l2 : K.lookup f2 = some ⟨oc2, od2, .func (PySem.W.fnX "_law_refused" "_law_refused" (defArgs (top 31)) (defBody (top 31)) (defScope (top 31)) [] .none kV2 doc2 pm2 an2 (.ref cd2) ct2), sl2⟩)
    (c2 : PySem.W.codeIn K (.ref cd2) ("_law_refused" : Str) = true)
    (k2 : PySem.W.keepIn K (.ref f2) = true)
    (a3 : PySem.W.nsIn K mainGlobals ("_law_meets" : Str) = some (some (.ref f3)))
    (l3 : K.lookup f3 = some ⟨oc3, od3, .func (PySem.W.fnX "_law_meets" "_law_meets" (defArgs (top 29)) (defBody (top 29)) (defScope (top 29)) [] .none kV3 doc3 pm3 an3 (.ref cd3) ct3), sl3⟩)
    (c3 : PySem.W.codeIn K (.ref cd3) ("_law_meets" : Str) = true)
    (k3 : PySem.W.keepIn K (.ref f3) = true)
    (a4 : PySem.W.nsIn K mainGlobals ("_law_next" : Str) = some (some (.ref f4)))
    (l4 : K.lookup f4 = some ⟨oc4, od4, .func (PySem.W.fnX "_law_next" "_law_next" (defArgs (top 24)) (defBody (top 24)) (defScope (top 24)) [] .none kV4 doc4 pm4 an4 (.ref cd4) ct4), sl4⟩)
    (c4 : PySem.W.codeIn K (.ref cd4) ("_law_next" : Str) = true)
    (k4 : PySem.W.keepIn K (.ref f4) = true)
    (a5 : PySem.W.nsIn K mainGlobals ("_law_lowest" : Str) = some (some (.ref f5)))
    (l5 : K.lookup f5 = some ⟨oc5, od5, .func (PySem.W.fnX "_law_lowest" "_law_lowest" (defArgs (top 30)) (defBody (top 30)) (defScope (top 30)) [] .none kV5 doc5 pm5 an5 (.ref cd5) ct5), sl5⟩)
    (c5 : PySem.W.codeIn K (.ref cd5) ("_law_lowest" : Str) = true)
    (k5 : PySem.W.keepIn K (.ref f5) = true)
    (a6 : PySem.W.nsIn K mainGlobals ("_law_given" : Str) = some (some (.ref f6)))
    (l6 : K.lookup f6 = some ⟨oc6, od6, .func (PySem.W.fnX "_law_given" "_law_given" (defArgs (top 27)) (defBody (top 27)) (defScope (top 27)) [] .none kV6 doc6 pm6 an6 (.ref cd6) ct6), sl6⟩)
    (c6 : PySem.W.codeIn K (.ref cd6) ("_law_given" : Str) = true)
    (k6 : PySem.W.keepIn K (.ref f6) = true)
    (a7 : PySem.W.nsIn K mainGlobals ("_law_drawn_problem" : Str) = some (some (.ref f7)))
    (l7 : K.lookup f7 = some ⟨oc7, od7, .func (PySem.W.fnX "_law_drawn_problem" "_law_drawn_problem" (defArgs (top 26)) (defBody (top 26)) (defScope (top 26)) [] .none kV7 doc7 pm7 an7 (.ref cd7) ct7), sl7⟩)
    (c7 : PySem.W.codeIn K (.ref cd7) ("_law_drawn_problem" : Str) = true)
    (k7 : PySem.W.keepIn K (.ref f7) = true)
    (a8 : PySem.W.nsIn K mainGlobals ("_law_source" : Str) = some (some (.ref f8)))
    (l8 : K.lookup f8 = some ⟨oc8, od8, .func (PySem.W.fnX "_law_source" "_law_source" (defArgs (top 23)) (defBody (top 23)) (defScope (top 23)) [] .none kV8 doc8 pm8 an8 (.ref cd8) ct8), sl8⟩)
    (c8 : PySem.W.codeIn K (.ref cd8) ("_law_source" : Str) = true)
    (k8 : PySem.W.keepIn K (.ref f8) = true)
    (a9 : PySem.W.findIn K (.ref C2) ("__init__" : Str) = some (some (.ref f9)))
    (l9 : K.lookup f9 = some ⟨oc9, od9, .func (PySem.W.fnX "__init__" "Problem.__init__" (defArgs (inClass (top 21) 0)) (defBody (inClass (top 21) 0)) (defScope (inClass (top 21) 0)) [] .none (.ref D9) doc9 pm9 an9 (.ref cd9) ct9), sl9⟩)
    (c9 : PySem.W.codeIn K (.ref cd9) ("Problem.__init__" : Str) = true)
    (k9 : PySem.W.keepIn K (.ref f9) = true)
    (i9 : PySem.W.isFn K (.ref f9) = true)
    (D9_0 : PySem.W.nsIn K D9 ("bounds" : Str) = some (some u9_0))
    (D9v0 : RelV (.ref dA9_0) u9_0)
    (D9_1 : PySem.W.nsIn K D9 ("lows" : Str) = some (some u9_1))
    (D9v1 : RelV .non u9_1)
    (D9_2 : PySem.W.nsIn K D9 ("terms" : Str) = some (some u9_2))
    (D9v2 : RelV (.ref dA9_2) u9_2)
    (a10 : PySem.W.findIn K (.ref C2) ("cost_of_row" : Str) = some (some (.ref f10)))
    (l10 : K.lookup f10 = some ⟨oc10, od10, .func (PySem.W.fnX "cost_of_row" "Problem.cost_of_row" (defArgs (inClass (top 21) 3)) (defBody (inClass (top 21) 3)) (defScope (inClass (top 21) 3)) [] .none kV10 doc10 pm10 an10 (.ref cd10) ct10), sl10⟩)
    (c10 : PySem.W.codeIn K (.ref cd10) ("Problem.cost_of_row" : Str) = true)
    (k10 : PySem.W.keepIn K (.ref f10) = true)
    (i10 : PySem.W.isFn K (.ref f10) = true)
    (a11 : PySem.W.findIn K (.ref C2) ("is_feasible" : Str) = some (some (.ref f11)))
    (l11 : K.lookup f11 = some ⟨oc11, od11, .func (PySem.W.fnX "is_feasible" "Problem.is_feasible" (defArgs (inClass (top 21) 2)) (defBody (inClass (top 21) 2)) (defScope (inClass (top 21) 2)) [] .none kV11 doc11 pm11 an11 (.ref cd11) ct11), sl11⟩)
    (c11 : PySem.W.codeIn K (.ref cd11) ("Problem.is_feasible" : Str) = true)
    (k11 : PySem.W.keepIn K (.ref f11) = true)
    (i11 : PySem.W.isFn K (.ref f11) = true)
    (a12 : PySem.W.nsIn K mainGlobals ("_law_pair_drawn" : Str) = some (some (.ref f12)))
    (l12 : K.lookup f12 = some ⟨oc12, od12, .func (PySem.W.fnX "_law_pair_drawn" "_law_pair_drawn" (defArgs (top 25)) (defBody (top 25)) (defScope (top 25)) [] .none kV12 doc12 pm12 an12 (.ref cd12) ct12), sl12⟩)
    (c12 : PySem.W.codeIn K (.ref cd12) ("_law_pair_drawn" : Str) = true)
    (k12 : PySem.W.keepIn K (.ref f12) = true)
    (a13 : PySem.W.nsIn K mainGlobals ("need_problem" : Str) = some (some (.ref f13)))
    (l13 : K.lookup f13 = some ⟨oc13, od13, .func (PySem.W.fnX "need_problem" "need_problem" (defArgs (top 19)) (defBody (top 19)) (defScope (top 19)) [] .none kV13 doc13 pm13 an13 (.ref cd13) ct13), sl13⟩)
    (c13 : PySem.W.codeIn K (.ref cd13) ("need_problem" : Str) = true)
    (k13 : PySem.W.keepIn K (.ref f13) = true)
    (a14 : PySem.W.nsIn K mainGlobals ("is_row_of" : Str) = some (some (.ref f14)))
    (l14 : K.lookup f14 = some ⟨oc14, od14, .func (PySem.W.fnX "is_row_of" "is_row_of" (defArgs (top 13)) (defBody (top 13)) (defScope (top 13)) [] .none kV14 doc14 pm14 an14 (.ref cd14) ct14), sl14⟩)
    (c14 : PySem.W.codeIn K (.ref cd14) ("is_row_of" : Str) = true)
    (k14 : PySem.W.keepIn K (.ref f14) = true)
    (a15 : PySem.W.findIn K (.ref C2) ("least_sum" : Str) = some (some (.ref f15)))
    (l15 : K.lookup f15 = some ⟨oc15, od15, .func (PySem.W.fnX "least_sum" "Problem.least_sum" (defArgs (inClass (top 21) 4)) (defBody (inClass (top 21) 4)) (defScope (inClass (top 21) 4)) [] .none kV15 doc15 pm15 an15 (.ref cd15) ct15), sl15⟩)
    (c15 : PySem.W.codeIn K (.ref cd15) ("Problem.least_sum" : Str) = true)
    (k15 : PySem.W.keepIn K (.ref f15) = true)
    (i15 : PySem.W.isFn K (.ref f15) = true)
    (a16 : PySem.W.nsIn K mainGlobals ("has_ring" : Str) = some (some (.ref f16)))
    (l16 : K.lookup f16 = some ⟨oc16, od16, .func (PySem.W.fnX "has_ring" "has_ring" (defArgs (top 17)) (defBody (top 17)) (defScope (top 17)) [] .none kV16 doc16 pm16 an16 (.ref cd16) ct16), sl16⟩)
    (c16 : PySem.W.codeIn K (.ref cd16) ("has_ring" : Str) = true)
    (k16 : PySem.W.keepIn K (.ref f16) = true)
    (a17 : PySem.W.nsIn K mainGlobals ("are_rows" : Str) = some (some (.ref f17)))
    (l17 : K.lookup f17 = some ⟨oc17, od17, .func (PySem.W.fnX "are_rows" "are_rows" (defArgs (top 18)) (defBody (top 18)) (defScope (top 18)) [] .none kV17 doc17 pm17 an17 (.ref cd17) ct17), sl17⟩)
    (c17 : PySem.W.codeIn K (.ref cd17) ("are_rows" : Str) = true)
    (k17 : PySem.W.keepIn K (.ref f17) = true)
    (a18 : PySem.W.nsIn K mainGlobals ("is_term" : Str) = some (some (.ref f18)))
    (l18 : K.lookup f18 = some ⟨oc18, od18, .func (PySem.W.fnX "is_term" "is_term" (defArgs (top 16)) (defBody (top 16)) (defScope (top 16)) [] .none kV18 doc18 pm18 an18 (.ref cd18) ct18), sl18⟩)
    (c18 : PySem.W.codeIn K (.ref cd18) ("is_term" : Str) = true)
    (k18 : PySem.W.keepIn K (.ref f18) = true)
    (a19 : PySem.W.nsIn K mainGlobals ("is_bound" : Str) = some (some (.ref f19)))
    (l19 : K.lookup f19 = some ⟨oc19, od19, .func (PySem.W.fnX "is_bound" "is_bound" (defArgs (top 15)) (defBody (top 15)) (defScope (top 15)) [] .none kV19 doc19 pm19 an19 (.ref cd19) ct19), sl19⟩)
    (c19 : PySem.W.codeIn K (.ref cd19) ("is_bound" : Str) = true)
    (k19 : PySem.W.keepIn K (.ref f19) = true)
    (a20 : PySem.W.nsIn K mainGlobals ("is_among" : Str) = some (some (.ref f20)))
    (l20 : K.lookup f20 = some ⟨oc20, od20, .func (PySem.W.fnX "is_among" "is_among" (defArgs (top 7)) (defBody (top 7)) (defScope (top 7)) [] .none kV20 doc20 pm20 an20 (.ref cd20) ct20), sl20⟩)
    (c20 : PySem.W.codeIn K (.ref cd20) ("is_among" : Str) = true)
    (k20 : PySem.W.keepIn K (.ref f20) = true)
    (a21 : PySem.W.nsIn K mainGlobals ("is_integer" : Str) = some (some (.ref f21)))
    (l21 : K.lookup f21 = some ⟨oc21, od21, .func (PySem.W.fnX "is_integer" "is_integer" (defArgs (top 6)) (defBody (top 6)) (defScope (top 6)) [] .none kV21 doc21 pm21 an21 (.ref cd21) ct21), sl21⟩)
    (c21 : PySem.W.codeIn K (.ref cd21) ("is_integer" : Str) = true)
    (k21 : PySem.W.keepIn K (.ref f21) = true)
    (a22 : PySem.W.nsIn K mainGlobals ("cost_of_term" : Str) = some (some (.ref f22)))
    (l22 : K.lookup f22 = some ⟨oc22, od22, .func (PySem.W.fnX "cost_of_term" "cost_of_term" (defArgs (top 20)) (defBody (top 20)) (defScope (top 20)) [] .none kV22 doc22 pm22 an22 (.ref cd22) ct22), sl22⟩)
    (c22 : PySem.W.codeIn K (.ref cd22) ("cost_of_term" : Str) = true)
    (k22 : PySem.W.keepIn K (.ref f22) = true)
    (a23 : PySem.W.nsIn K mainGlobals ("is_pair_of" : Str) = some (some (.ref f23)))
    (l23 : K.lookup f23 = some ⟨oc23, od23, .func (PySem.W.fnX "is_pair_of" "is_pair_of" (defArgs (top 14)) (defBody (top 14)) (defScope (top 14)) [] .none kV23 doc23 pm23 an23 (.ref cd23) ct23), sl23⟩)
    (c23 : PySem.W.codeIn K (.ref cd23) ("is_pair_of" : Str) = true)
    (k23 : PySem.W.keepIn K (.ref f23) = true)
    (pgC2 : PySem.W.plainGet K C2 Str.empty = true)
    (hdC2 : PySem.W.hasDictIn K C2 = true)
    (poC2 : PySem.W.plainOver K C2 = true)
    (saC2 : PySem.W.findIn K (.ref C2) "__setattr__" = some (some (.builtin "object.__setattr__")))
    (kiC2 : PySem.W.findIn K (.ref C2) "__class__" = some (some (.builtin "object.__class__")))
    (moC2 : PySem.W.mroIn K C2 (.type "object") = some true)
    (gsK : PySem.W.specialIn K (.builtin "object.__class__") "__get__" = some (some (.builtin "getset_descriptor.__get__")))
    (tkK : PySem.W.takesIn K (.builtin "object.__class__") = some true)
    (xL1 : K.lookup C1 = some (excClassObj nmX1 qX1 C1 NX1 bsX1 [.ref C3, .type "ValueError", .type "Exception", .type "BaseException", .type "object"] true snX1 subX1 abX1 colX1 ddX1 k0X1 k1X1 k2X1 k3X1 k5X1 "ValueError.__new__"))
    (xsa1 : PySem.W.findIn K (.ref C1) "__setattr__" = some (some (.builtin "object.__setattr__")))
    (xnp1 : PySem.W.findIn K (.ref C1) ("reason" : Str) = some none)
    (xin1 : PySem.W.findIn K (.ref C1) "__init__" = some (some (.ref xI1)))
    (xti1 : PySem.W.typeIn K (.ref xI1) = some (.type "function"))
    (xkc1 : PySem.W.keepIn K (.ref C1) = true)
    (xec1 : PySem.W.subIn K (.ref C1) (.type "BaseException") = some true)
    (xty1 : PySem.W.typeIn K (.ref C1) = some (.type "type"))
    (xsu1 : PySem.W.ks_superIn K C1 C1 "__init__" = some (some (.builtin "ValueError.__init__")))
    (xsb1 : PySem.W.subIn K (.ref C1) (.type "ValueError") = some true)
    (xga1 : PySem.W.findIn K (.ref C1) "__getattribute__" = some (some (.builtin "BaseException.__getattribute__")))
    (xgg1 : PySem.W.findIn K (.ref C1) "__getattr__" = some none)
    (xhd1 : PySem.W.hasDictIn K C1 = true)
    (xki1 : PySem.W.findIn K (.ref C1) "__class__" = some (some (.builtin "object.__class__")))
    (xmo1 : PySem.W.mroIn K C1 (.type "object") = some true)
    (xl1 : K.lookup xI1 = some ⟨xoc1, xod1, .func (PySem.W.ksFn "__init__" "BadRow.__init__" (defArgs (inClass (top 4) 0)) (defBody (inClass (top 4) 0)) (defScope (inClass (top 4) 0)) .none xkV1 xdoc1 xpm1 xan1 (.ref xcd1) xct1 xcc1), xsl1⟩)
    (xcd_1 : PySem.W.codeIn K (.ref xcd1) ("BadRow.__init__" : Str) = true)
    (xx1 : K.lookup xcc1 = some ⟨xcl1, xcld1, .cell (some (.ref C1)), xcsl1⟩)
    (xy1 : K.lookup xcd1 = some ⟨xyl1, xyd1, .fields xyv1, xys1⟩)
    (xz1 : xyv1[2]? = some (.str xfi1 xtf1))
    (xw1 : ((P.main.file : Str) == xfi1) = true)
    (xL0 : K.lookup C0 = some (excClassObj nmX0 qX0 C0 NX0 bsX0 [.ref C3, .type "ValueError", .type "Exception", .type "BaseException", .type "object"] true snX0 subX0 abX0 colX0 ddX0 k0X0 k1X0 k2X0 k3X0 k5X0 "ValueError.__new__"))
    (xsa0 : PySem.W.findIn K (.ref C0) "__setattr__" = some (some (.builtin "object.__setattr__")))
    (xnp0 : PySem.W.findIn K (.ref C0) ("reason" : Str) = some none)
    (xin0 : PySem.W.findIn K (.ref C0) "__init__" = some (some (.ref xI0)))
    (xti0 : PySem.W.typeIn K (.ref xI0) = some (.type "function"))
    (xkc0 : PySem.W.keepIn K (.ref C0) = true)
    (xec0 : PySem.W.subIn K (.ref C0) (.type "BaseException") = some true)
    (xty0 : PySem.W.typeIn K (.ref C0) = some (.type "type"))
    (xsu0 : PySem.W.ks_superIn K C0 C0 "__init__" = some (some (.builtin "ValueError.__init__")))
    (xsb0 : PySem.W.subIn K (.ref C0) (.type "ValueError") = some true)
    (xga0 : PySem.W.findIn K (.ref C0) "__getattribute__" = some (some (.builtin "BaseException.__getattribute__")))
    (xgg0 : PySem.W.findIn K (.ref C0) "__getattr__" = some none)
    (xhd0 : PySem.W.hasDictIn K C0 = true)
    (xki0 : PySem.W.findIn K (.ref C0) "__class__" = some (some (.builtin "object.__class__")))
    (xmo0 : PySem.W.mroIn K C0 (.type "object") = some true)
    (xl0 : K.lookup xI0 = some ⟨xoc0, xod0, .func (PySem.W.ksFn "__init__" "BadProblem.__init__" (defArgs (inClass (top 3) 0)) (defBody (inClass (top 3) 0)) (defScope (inClass (top 3) 0)) .none xkV0 xdoc0 xpm0 xan0 (.ref xcd0) xct0 xcc0), xsl0⟩)
    (xcd_0 : PySem.W.codeIn K (.ref xcd0) ("BadProblem.__init__" : Str) = true)
    (xx0 : K.lookup xcc0 = some ⟨xcl0, xcld0, .cell (some (.ref C0)), xcsl0⟩)
    (xy0 : K.lookup xcd0 = some ⟨xyl0, xyd0, .fields xyv0, xys0⟩)
    (xz0 : xyv0[2]? = some (.str xfi0 xtf0))
    (xw0 : ((P.main.file : Str) == xfi0) = true)
    (xm0 : PySem.W.exmAny K (.ref C1) [.ref C0, .ref C1] = some true)
    (xm1 : PySem.W.exmAny K (.ref C0) [.ref C0, .ref C1] = some true)
    (mkC2 : PySem.W.makesIn K C2 = true)
    (kpC2 : PySem.W.keepIn K (.ref C2) = true)
    (inC2 : PySem.W.findIn K (.ref C2) "__init__" = some (some (.ref f9)))
    (n0 : PySem.W.findIn K (.ref C2) ("bounds" : Str) = some none)
    (n1 : PySem.W.findIn K (.ref C2) ("known_flows" : Str) = some none)
    (n2 : PySem.W.findIn K (.ref C2) ("lows" : Str) = some none)
    (n3 : PySem.W.findIn K (.ref C2) ("size" : Str) = some none)
    (n4 : PySem.W.findIn K (.ref C2) ("terms" : Str) = some none)
    (m0 : PySem.W.findIn K (.ref C2) ("cost_of_row" : Str) = some (some (.ref f10)))
    (m1 : PySem.W.findIn K (.ref C2) ("is_feasible" : Str) = some (some (.ref f11)))
    (m2 : PySem.W.findIn K (.ref C2) ("least_sum" : Str) = some (some (.ref f15)))
    (kt0 : PySem.W.kitOne K (.type "NoneType") (.type "bool") = some false)
    (kt1 : PySem.W.kitOne K (.type "NoneType") (.type "int") = some false)
    (kt2 : PySem.W.kitOne K (.type "NoneType") (.type "str") = some false)
    (kt3 : PySem.W.kitOne K (.type "NoneType") (.type "tuple") = some false)
    (kt4 : PySem.W.kitOne K (.type "bool") (.type "bool") = some true)
    (kt5 : PySem.W.kitOne K (.type "bool") (.type "int") = some true)
    (kt6 : PySem.W.kitOne K (.type "bool") (.type "str") = some false)
    (kt7 : PySem.W.kitOne K (.type "bool") (.type "tuple") = some false)
    (kt8 : PySem.W.kitOne K (.type "int") (.type "bool") = some false)
    (kt9 : PySem.W.kitOne K (.type "int") (.type "int") = some true)
    (kt10 : PySem.W.kitOne K (.type "int") (.type "str") = some false)
    (kt11 : PySem.W.kitOne K (.type "int") (.type "tuple") = some false)
    (kt12 : PySem.W.kitOne K (.type "str") (.type "bool") = some false)
    (kt13 : PySem.W.kitOne K (.type "str") (.type "int") = some false)
    (kt14 : PySem.W.kitOne K (.type "str") (.type "str") = some true)
    (kt15 : PySem.W.kitOne K (.type "str") (.type "tuple") = some false)
    (kt16 : PySem.W.kitOne K (.type "tuple") (.type "bool") = some false)
    (kt17 : PySem.W.kitOne K (.type "tuple") (.type "int") = some false)
    (kt18 : PySem.W.kitOne K (.type "tuple") (.type "str") = some false)
    (kt19 : PySem.W.kitOne K (.type "tuple") (.type "tuple") = some true)
    (kt20 : PySem.W.kitOne K (.type "list") (.type "bool") = some false)
    (kt21 : PySem.W.kitOne K (.type "list") (.type "int") = some false)
    (kt22 : PySem.W.kitOne K (.type "list") (.type "str") = some false)
    (kt23 : PySem.W.kitOne K (.type "list") (.type "tuple") = some false)
    (kt24 : PySem.W.kitOne K (.type "dict") (.type "bool") = some false)
    (kt25 : PySem.W.kitOne K (.type "dict") (.type "int") = some false)
    (kt26 : PySem.W.kitOne K (.type "dict") (.type "str") = some false)
    (kt27 : PySem.W.kitOne K (.type "dict") (.type "tuple") = some false)
    (kt28 : PySem.W.kitOne K (.ref C2) (.type "bool") = some false)
    (kt29 : PySem.W.kitOne K (.ref C2) (.type "int") = some false)
    (kt30 : PySem.W.kitOne K (.ref C2) (.type "str") = some false)
    (kt31 : PySem.W.kitOne K (.ref C2) (.type "tuple") = some false)
    (kt32 : PySem.W.kitOne K (.ref C1) (.ref C0) = some false)
    (kt33 : PySem.W.kitOne K (.ref C0) (.ref C0) = some true)
    (z_len : PySem.W.nsIn K mainGlobals ("len" : Str) = some none)
    (z_max : PySem.W.nsIn K mainGlobals ("max" : Str) = some none)
    (z_min : PySem.W.nsIn K mainGlobals ("min" : Str) = some none)
    (z_str : PySem.W.nsIn K mainGlobals ("str" : Str) = some none)
    (z_int : PySem.W.nsIn K mainGlobals ("int" : Str) = some none)
    (z_tuple : PySem.W.nsIn K mainGlobals ("tuple" : Str) = some none)
    (z_list : PySem.W.nsIn K mainGlobals ("list" : Str) = some none)
    (z_sum : PySem.W.nsIn K mainGlobals ("sum" : Str) = some none)
    (z_all : PySem.W.nsIn K mainGlobals ("all" : Str) = some none)
    (z_any : PySem.W.nsIn K mainGlobals ("any" : Str) = some none)
    (z_abs : PySem.W.nsIn K mainGlobals ("abs" : Str) = some none)
    (z_range : PySem.W.nsIn K mainGlobals ("range" : Str) = some none)
    (z_enumerate : PySem.W.nsIn K mainGlobals ("enumerate" : Str) = some none)
    (z_zip : PySem.W.nsIn K mainGlobals ("zip" : Str) = some none)
    (z_isinstance : PySem.W.nsIn K mainGlobals ("isinstance" : Str) = some none)
    (z_repr : PySem.W.nsIn K mainGlobals ("repr" : Str) = some none)
    (z_bool : PySem.W.nsIn K mainGlobals ("bool" : Str) = some none)
    (z_super : PySem.W.nsIn K mainGlobals ("super" : Str) = some none)
    (opq : PySem.W.nsIn K cStatics "thirdparty.any" = some none)
    (stop : (P.main.scope.names.lookup ("super" : Str)).isSome = false)
    (plain : ∀ ns : List Int, ns.length ≤ 63 → ∃ cs, (tab.phs 400 20).1 0 [.d (.flst (ns.map D.int))] [] = .ok (.bl true) cs) :
    ∃ (fd : FuncData) (cs : List (Addr × Addr)) (T : List (Addr × Str)), Cods K h cs ∧ (∀ q ∈ T, ∃ c, (c, q.1) ∈ cs) ∧ (∀ (s : Shared) (v : Value), BindsTo s fd ⟨[v], []⟩ [(("_law_script" : Str), v)]) ∧ ∀ base : Heap, K.In base → base.Ns mainGlobals mg → (∀ p ∈ cs, LamX.TabB base mg p.1 p.2) → FnG l.prog w K mg base (L2.CX l.prog w) 60 fq fd [("_law_script" : Str)] (spLaw K T) := by
  have e : f0 = fq := by
    have e := (PySem.W.mg_of X GG a0).symm.trans hfa
    cases e; rfl
  subst e
  subst eP
  have F0 : DF K "law" "law" (top 32) [] [] [] f0 (PySem.W.fnX "law" "law" (defArgs (top 32)) (defBody (top 32)) (defScope (top 32)) [] .none kV0 doc0 pm0 an0 (.ref cd0) ct0) := ⟨⟨_, _, _, _, _, _, _, _, _, _, rfl, l0, c0, .inl ⟨rfl, rfl⟩, .inl rfl⟩, k0⟩
  have F1 : DF K "_law_cost" "_law_cost" (top 28) [] [] [] f1 (PySem.W.fnX "_law_cost" "_law_cost" (defArgs (top 28)) (defBody (top 28)) (defScope (top 28)) [] .none kV1 doc1 pm1 an1 (.ref cd1) ct1) := ⟨⟨_, _, _, _, _, _, _, _, _, _, rfl, l1, c1, .inl ⟨rfl, rfl⟩, .inl rfl⟩, k1⟩
  have F2 : DF K "_law_refused" "_law_refused" (top 31) [] [] [] f2 (PySem.W.fnX "_law_refused" "_law_refused" (defArgs (top 31)) (defBody (top 31)) (defScope (top 31)) [] .none kV2 doc2 pm2 an2 (.ref cd2) ct2) := ⟨⟨_, _, _, _, _, _, _, _, _, _, rfl, l2, c2, .inl ⟨rfl, rfl⟩, .inl rfl⟩, k2⟩
  have F3 : DF K "_law_meets" "_law_meets" (top 29) [] [] [] f3 (PySem.W.fnX "_law_meets" "_law_meets" (defArgs (top 29)) (defBody (top 29)) (defScope (top 29)) [] .none kV3 doc3 pm3 an3 (.ref cd3) ct3) := ⟨⟨_, _, _, _, _, _, _, _, _, _, rfl, l3, c3, .inl ⟨rfl, rfl⟩, .inl rfl⟩, k3⟩
  have F4 : DF K "_law_next" "_law_next" (top 24) [] [] [] f4 (PySem.W.fnX "_law_next" "_law_next" (defArgs (top 24)) (defBody (top 24)) (defScope (top 24)) [] .none kV4 doc4 pm4 an4 (.ref cd4) ct4) := ⟨⟨_, _, _, _, _, _, _, _, _, _, rfl, l4, c4, .inl ⟨rfl, rfl⟩, .inl rfl⟩, k4⟩
  have F5 : DF K "_law_lowest" "_law_lowest" (top 30) [] [] [] f5 (PySem.W.fnX "_law_lowest" "_law_lowest" (defArgs (top 30)) (defBody (top 30)) (defScope (top 30)) [] .none kV5 doc5 pm5 an5 (.ref cd5) ct5) := ⟨⟨_, _, _, _, _, _, _, _, _, _, rfl, l5, c5, .inl ⟨rfl, rfl⟩, .inl rfl⟩, k5⟩
  have F6 : DF K "_law_given" "_law_given" (top 27) [] [] [] f6 (PySem.W.fnX "_law_given" "_law_given" (defArgs (top 27)) (defBody (top 27)) (defScope (top 27)) [] .none kV6 doc6 pm6 an6 (.ref cd6) ct6) := ⟨⟨_, _, _, _, _, _, _, _, _, _, rfl, l6, c6, .inl ⟨rfl, rfl⟩, .inl rfl⟩, k6⟩
  have F7 : DF K "_law_drawn_problem" "_law_drawn_problem" (top 26) [] [] [] f7 (PySem.W.fnX "_law_drawn_problem" "_law_drawn_problem" (defArgs (top 26)) (defBody (top 26)) (defScope (top 26)) [] .none kV7 doc7 pm7 an7 (.ref cd7) ct7) := ⟨⟨_, _, _, _, _, _, _, _, _, _, rfl, l7, c7, .inl ⟨rfl, rfl⟩, .inl rfl⟩, k7⟩
  have F8 : DF K "_law_source" "_law_source" (top 23) [] [] [] f8 (PySem.W.fnX "_law_source" "_law_source" (defArgs (top 23)) (defBody (top 23)) (defScope (top 23)) [] .none kV8 doc8 pm8 an8 (.ref cd8) ct8) := ⟨⟨_, _, _, _, _, _, _, _, _, _, rfl, l8, c8, .inl ⟨rfl, rfl⟩, .inl rfl⟩, k8⟩
  have kwd_all9 : ∀ q ∈ ([(("bounds" : Str), (.ref dA9_0)), (("lows" : Str), .non), (("terms" : Str), (.ref dA9_2))] : List (Str × V)), ∃ u, PySem.W.nsIn K D9 q.1 = some (some u) ∧ RelV q.2 u := fun q hq => by
    simp only [List.mem_cons, List.not_mem_nil, or_false] at hq
    rcases hq with rfl | rfl | rfl
    · exact ⟨_, D9_0, D9v0⟩
    · exact ⟨_, D9_1, D9v1⟩
    · exact ⟨_, D9_2, D9v2⟩
  have F9 : DF K "__init__" "Problem.__init__" (inClass (top 21) 0) [] [] [(("bounds" : Str), (.ref dA9_0)), (("lows" : Str), .non), (("terms" : Str), (.ref dA9_2))] f9 (PySem.W.fnX "__init__" "Problem.__init__" (defArgs (inClass (top 21) 0)) (defBody (inClass (top 21) 0)) (defScope (inClass (top 21) 0)) [] .none (.ref D9) doc9 pm9 an9 (.ref cd9) ct9) := ⟨⟨_, _, _, _, _, _, _, _, _, _, rfl, l9, c9, .inl ⟨rfl, rfl⟩, .inr ⟨D9, rfl, fun q hq => kwd_all9 q hq⟩⟩, k9⟩
  have F10 : DF K "cost_of_row" "Problem.cost_of_row" (inClass (top 21) 3) [] [] [] f10 (PySem.W.fnX "cost_of_row" "Problem.cost_of_row" (defArgs (inClass (top 21) 3)) (defBody (inClass (top 21) 3)) (defScope (inClass (top 21) 3)) [] .none kV10 doc10 pm10 an10 (.ref cd10) ct10) := ⟨⟨_, _, _, _, _, _, _, _, _, _, rfl, l10, c10, .inl ⟨rfl, rfl⟩, .inl rfl⟩, k10⟩
  have F11 : DF K "is_feasible" "Problem.is_feasible" (inClass (top 21) 2) [] [] [] f11 (PySem.W.fnX "is_feasible" "Problem.is_feasible" (defArgs (inClass (top 21) 2)) (defBody (inClass (top 21) 2)) (defScope (inClass (top 21) 2)) [] .none kV11 doc11 pm11 an11 (.ref cd11) ct11) := ⟨⟨_, _, _, _, _, _, _, _, _, _, rfl, l11, c11, .inl ⟨rfl, rfl⟩, .inl rfl⟩, k11⟩
  have F12 : DF K "_law_pair_drawn" "_law_pair_drawn" (top 25) [] [] [] f12 (PySem.W.fnX "_law_pair_drawn" "_law_pair_drawn" (defArgs (top 25)) (defBody (top 25)) (defScope (top 25)) [] .none kV12 doc12 pm12 an12 (.ref cd12) ct12) := ⟨⟨_, _, _, _, _, _, _, _, _, _, rfl, l12, c12, .inl ⟨rfl, rfl⟩, .inl rfl⟩, k12⟩
  have F13 : DF K "need_problem" "need_problem" (top 19) [] [] [] f13 (PySem.W.fnX "need_problem" "need_problem" (defArgs (top 19)) (defBody (top 19)) (defScope (top 19)) [] .none kV13 doc13 pm13 an13 (.ref cd13) ct13) := ⟨⟨_, _, _, _, _, _, _, _, _, _, rfl, l13, c13, .inl ⟨rfl, rfl⟩, .inl rfl⟩, k13⟩
  have F14 : DF K "is_row_of" "is_row_of" (top 13) [] [] [] f14 (PySem.W.fnX "is_row_of" "is_row_of" (defArgs (top 13)) (defBody (top 13)) (defScope (top 13)) [] .none kV14 doc14 pm14 an14 (.ref cd14) ct14) := ⟨⟨_, _, _, _, _, _, _, _, _, _, rfl, l14, c14, .inl ⟨rfl, rfl⟩, .inl rfl⟩, k14⟩
  have F15 : DF K "least_sum" "Problem.least_sum" (inClass (top 21) 4) [] [] [] f15 (PySem.W.fnX "least_sum" "Problem.least_sum" (defArgs (inClass (top 21) 4)) (defBody (inClass (top 21) 4)) (defScope (inClass (top 21) 4)) [] .none kV15 doc15 pm15 an15 (.ref cd15) ct15) := ⟨⟨_, _, _, _, _, _, _, _, _, _, rfl, l15, c15, .inl ⟨rfl, rfl⟩, .inl rfl⟩, k15⟩
  have F16 : DF K "has_ring" "has_ring" (top 17) [] [] [] f16 (PySem.W.fnX "has_ring" "has_ring" (defArgs (top 17)) (defBody (top 17)) (defScope (top 17)) [] .none kV16 doc16 pm16 an16 (.ref cd16) ct16) := ⟨⟨_, _, _, _, _, _, _, _, _, _, rfl, l16, c16, .inl ⟨rfl, rfl⟩, .inl rfl⟩, k16⟩
  have F17 : DF K "are_rows" "are_rows" (top 18) [] [] [] f17 (PySem.W.fnX "are_rows" "are_rows" (defArgs (top 18)) (defBody (top 18)) (defScope (top 18)) [] .none kV17 doc17 pm17 an17 (.ref cd17) ct17) := ⟨⟨_, _, _, _, _, _, _, _, _, _, rfl, l17, c17, .inl ⟨rfl, rfl⟩, .inl rfl⟩, k17⟩
  have F18 : DF K "is_term" "is_term" (top 16) [] [] [] f18 (PySem.W.fnX "is_term" "is_term" (defArgs (top 16)) (defBody (top 16)) (defScope (top 16)) [] .none kV18 doc18 pm18 an18 (.ref cd18) ct18) := ⟨⟨_, _, _, _, _, _, _, _, _, _, rfl, l18, c18, .inl ⟨rfl, rfl⟩, .inl rfl⟩, k18⟩
  have F19 : DF K "is_bound" "is_bound" (top 15) [] [] [] f19 (PySem.W.fnX "is_bound" "is_bound" (defArgs (top 15)) (defBody (top 15)) (defScope (top 15)) [] .none kV19 doc19 pm19 an19 (.ref cd19) ct19) := ⟨⟨_, _, _, _, _, _, _, _, _, _, rfl, l19, c19, .inl ⟨rfl, rfl⟩, .inl rfl⟩, k19⟩
  have F20 : DF K "is_among" "is_among" (top 7) [] [] [] f20 (PySem.W.fnX "is_among" "is_among" (defArgs (top 7)) (defBody (top 7)) (defScope (top 7)) [] .none kV20 doc20 pm20 an20 (.ref cd20) ct20) := ⟨⟨_, _, _, _, _, _, _, _, _, _, rfl, l20, c20, .inl ⟨rfl, rfl⟩, .inl rfl⟩, k20⟩
  have F21 : DF K "is_integer" "is_integer" (top 6) [] [] [] f21 (PySem.W.fnX "is_integer" "is_integer" (defArgs (top 6)) (defBody (top 6)) (defScope (top 6)) [] .none kV21 doc21 pm21 an21 (.ref cd21) ct21) := ⟨⟨_, _, _, _, _, _, _, _, _, _, rfl, l21, c21, .inl ⟨rfl, rfl⟩, .inl rfl⟩, k21⟩
  have F22 : DF K "cost_of_term" "cost_of_term" (top 20) [] [] [] f22 (PySem.W.fnX "cost_of_term" "cost_of_term" (defArgs (top 20)) (defBody (top 20)) (defScope (top 20)) [] .none kV22 doc22 pm22 an22 (.ref cd22) ct22) := ⟨⟨_, _, _, _, _, _, _, _, _, _, rfl, l22, c22, .inl ⟨rfl, rfl⟩, .inl rfl⟩, k22⟩
  have F23 : DF K "is_pair_of" "is_pair_of" (top 14) [] [] [] f23 (PySem.W.fnX "is_pair_of" "is_pair_of" (defArgs (top 14)) (defBody (top 14)) (defScope (top 14)) [] .none kV23 doc23 pm23 an23 (.ref cd23) ct23) := ⟨⟨_, _, _, _, _, _, _, _, _, _, rfl, l23, c23, .inl ⟨rfl, rfl⟩, .inl rfl⟩, k23⟩
  have hC1 : ∀ p ∈ ([(cd0, P0)] : List (Addr × Addr)), PySem.W.CodeHd h p.1 p.2 := fun p hp => by
    simp only [List.mem_cons, List.not_mem_nil, or_false] at hp
    rcases hp with rfl
    · exact PySem.W.codeHd_of_K X ch0
  have hC2 : ∀ p ∈ ([(cd0, P0)] : List (Addr × Addr)), h.get? p.2 = some tab0 := fun p hp => by
    simp only [List.mem_cons, List.not_mem_nil, or_false] at hp
    rcases hp with rfl
    · exact te0
  have hC3 : ∀ p ∈ ([(cd0, P0)] : List (Addr × Addr)), K.lookup p.2 = none := fun p hp => by
    simp only [List.mem_cons, List.not_mem_nil, or_false] at hp
    rcases hp with rfl
    · exact po0
  have hC4 : ∀ q ∈ ([(P0, ((("law" : Str) ++ ".<locals>.") ++ "<lambda>" : Str))] : List (Addr × Str)), ∃ c, (c, q.1) ∈ ([(cd0, P0)] : List (Addr × Addr)) := fun p hp => by
    simp only [List.mem_cons, List.not_mem_nil, or_false] at hp
    rcases hp with rfl
    · exact ⟨cd0, by simp⟩
  refine ⟨_, [(cd0, P0)], [(P0, ((("law" : Str) ++ ".<locals>.") ++ "<lambda>" : Str))], ⟨hC1, hC2, hC3⟩, hC4, fun s v => F0.bindsA (ps := [("_law_script" : Str)]) (fun _ _ _ _ _ _ us hl => match us, hl with | [_], _ => rfl) s [v] rfl, fun base KB GB TB => ?_⟩
  let g : G := ⟨l.prog, w, K, mg, base, fun c => [C0, C1, C2, C3].getD c 0, fun c => [("reason" : Str), ("reason" : Str), ("" : Str), ("" : Str)].getD c "", fun f => [f0, f1, f2, f3, f4, f5, f6, f7, f8, f9, f10, f11, f12, f13, f14, f15, f16, f17, f18, f19, f20, f21, f22, f23].getD f 0, fun f => [(PySem.W.fnX "law" "law" (defArgs (top 32)) (defBody (top 32)) (defScope (top 32)) [] .none kV0 doc0 pm0 an0 (.ref cd0) ct0), (PySem.W.fnX "_law_cost" "_law_cost" (defArgs (top 28)) (defBody (top 28)) (defScope (top 28)) [] .none kV1 doc1 pm1 an1 (.ref cd1) ct1), (PySem.W.fnX "_law_refused" "_law_refused" (defArgs (top 31)) (defBody (top 31)) (defScope (top 31)) [] .none kV2 doc2 pm2 an2 (.ref cd2) ct2), (PySem.W.fnX "_law_meets" "_law_meets" (defArgs (top 29)) (defBody (top 29)) (defScope (top 29)) [] .none kV3 doc3 pm3 an3 (.ref cd3) ct3), (PySem.W.fnX "_law_next" "_law_next" (defArgs (top 24)) (defBody (top 24)) (defScope (top 24)) [] .none kV4 doc4 pm4 an4 (.ref cd4) ct4), (PySem.W.fnX "_law_lowest" "_law_lowest" (defArgs (top 30)) (defBody (top 30)) (defScope (top 30)) [] .none kV5 doc5 pm5 an5 (.ref cd5) ct5), (PySem.W.fnX "_law_given" "_law_given" (defArgs (top 27)) (defBody (top 27)) (defScope (top 27)) [] .none kV6 doc6 pm6 an6 (.ref cd6) ct6), (PySem.W.fnX "_law_drawn_problem" "_law_drawn_problem" (defArgs (top 26)) (defBody (top 26)) (defScope (top 26)) [] .none kV7 doc7 pm7 an7 (.ref cd7) ct7), (PySem.W.fnX "_law_source" "_law_source" (defArgs (top 23)) (defBody (top 23)) (defScope (top 23)) [] .none kV8 doc8 pm8 an8 (.ref cd8) ct8), (PySem.W.fnX "__init__" "Problem.__init__" (defArgs (inClass (top 21) 0)) (defBody (inClass (top 21) 0)) (defScope (inClass (top 21) 0)) [] .none (.ref D9) doc9 pm9 an9 (.ref cd9) ct9), (PySem.W.fnX "cost_of_row" "Problem.cost_of_row" (defArgs (inClass (top 21) 3)) (defBody (inClass (top 21) 3)) (defScope (inClass (top 21) 3)) [] .none kV10 doc10 pm10 an10 (.ref cd10) ct10), (PySem.W.fnX "is_feasible" "Problem.is_feasible" (defArgs (inClass (top 21) 2)) (defBody (inClass (top 21) 2)) (defScope (inClass (top 21) 2)) [] .none kV11 doc11 pm11 an11 (.ref cd11) ct11), (PySem.W.fnX "_law_pair_drawn" "_law_pair_drawn" (defArgs (top 25)) (defBody (top 25)) (defScope (top 25)) [] .none kV12 doc12 pm12 an12 (.ref cd12) ct12), (PySem.W.fnX "need_problem" "need_problem" (defArgs (top 19)) (defBody (top 19)) (defScope (top 19)) [] .none kV13 doc13 pm13 an13 (.ref cd13) ct13), (PySem.W.fnX "is_row_of" "is_row_of" (defArgs (top 13)) (defBody (top 13)) (defScope (top 13)) [] .none kV14 doc14 pm14 an14 (.ref cd14) ct14), (PySem.W.fnX "least_sum" "Problem.least_sum" (defArgs (inClass (top 21) 4)) (defBody (inClass (top 21) 4)) (defScope (inClass (top 21) 4)) [] .none kV15 doc15 pm15 an15 (.ref cd15) ct15), (PySem.W.fnX "has_ring" "has_ring" (defArgs (top 17)) (defBody (top 17)) (defScope (top 17)) [] .none kV16 doc16 pm16 an16 (.ref cd16) ct16), (PySem.W.fnX "are_rows" "are_rows" (defArgs (top 18)) (defBody (top 18)) (defScope (top 18)) [] .none kV17 doc17 pm17 an17 (.ref cd17) ct17), (PySem.W.fnX "is_term" "is_term" (defArgs (top 16)) (defBody (top 16)) (defScope (top 16)) [] .none kV18 doc18 pm18 an18 (.ref cd18) ct18), (PySem.W.fnX "is_bound" "is_bound" (defArgs (top 15)) (defBody (top 15)) (defScope (top 15)) [] .none kV19 doc19 pm19 an19 (.ref cd19) ct19), (PySem.W.fnX "is_among" "is_among" (defArgs (top 7)) (defBody (top 7)) (defScope (top 7)) [] .none kV20 doc20 pm20 an20 (.ref cd20) ct20), (PySem.W.fnX "is_integer" "is_integer" (defArgs (top 6)) (defBody (top 6)) (defScope (top 6)) [] .none kV21 doc21 pm21 an21 (.ref cd21) ct21), (PySem.W.fnX "cost_of_term" "cost_of_term" (defArgs (top 20)) (defBody (top 20)) (defScope (top 20)) [] .none kV22 doc22 pm22 an22 (.ref cd22) ct22), (PySem.W.fnX "is_pair_of" "is_pair_of" (defArgs (top 14)) (defBody (top 14)) (defScope (top 14)) [] .none kV23 doc23 pm23 an23 (.ref cd23) ct23)].getD f (PySem.W.fnX "law" "law" (defArgs (top 32)) (defBody (top 32)) (defScope (top 32)) [] .none kV0 doc0 pm0 an0 (.ref cd0) ct0), wps, [(P0, ((("law" : Str) ++ ".<locals>.") ++ "<lambda>" : Str))], lams⟩
  have y_len : mg ("len" : Str) = none := PySem.W.mg_none_of X GG z_len
  have y_max : mg ("max" : Str) = none := PySem.W.mg_none_of X GG z_max
  have y_min : mg ("min" : Str) = none := PySem.W.mg_none_of X GG z_min
  have y_str : mg ("str" : Str) = none := PySem.W.mg_none_of X GG z_str
  have y_int : mg ("int" : Str) = none := PySem.W.mg_none_of X GG z_int
  have y_tuple : mg ("tuple" : Str) = none := PySem.W.mg_none_of X GG z_tuple
  have y_list : mg ("list" : Str) = none := PySem.W.mg_none_of X GG z_list
  have y_sum : mg ("sum" : Str) = none := PySem.W.mg_none_of X GG z_sum
  have y_all : mg ("all" : Str) = none := PySem.W.mg_none_of X GG z_all
  have y_any : mg ("any" : Str) = none := PySem.W.mg_none_of X GG z_any
  have y_abs : mg ("abs" : Str) = none := PySem.W.mg_none_of X GG z_abs
  have y_range : mg ("range" : Str) = none := PySem.W.mg_none_of X GG z_range
  have y_enumerate : mg ("enumerate" : Str) = none := PySem.W.mg_none_of X GG z_enumerate
  have y_zip : mg ("zip" : Str) = none := PySem.W.mg_none_of X GG z_zip
  have y_isinstance : mg ("isinstance" : Str) = none := PySem.W.mg_none_of X GG z_isinstance
  have y_repr : mg ("repr" : Str) = none := PySem.W.mg_none_of X GG z_repr
  have y_bool : mg ("bool" : Str) = none := PySem.W.mg_none_of X GG z_bool
  have y_super : mg ("super" : Str) = none := PySem.W.mg_none_of X GG z_super
  have xc1 : ExcC K C1 := ⟨xga1, xgg1, xec1, xhd1, xki1, gsK, tkK, xmo1⟩
  have xt1 : ExT l.prog K mg "ValueError" "ValueError.__new__" "ValueError.__init__" [.type "ValueError", .type "Exception", .type "BaseException", .type "object"] C1 C3 xI1 ("reason" : Str) := ⟨⟨_, _, _, _, _, _, _, _, _, _, _, _, _, _, xL1⟩, xsa1, xnp1, xin1, xti1, xkc1, xec1, xty1, xsu1, xsb1, opq, y_super, stop, by decide, ⟨_, _, _, _, xcc1, xcd1, _, _, _, _, _, _, _, _, _, xl1, xcd_1, by first | rfl | decide +kernel, K28.scx1, by first | rfl | decide +kernel, by first | rfl | decide +kernel, (fun us hl => match us, hl with | [_, _], _ => rfl), ⟨_, _, _, xx1⟩, ⟨_, _, _, _, xy1, rfl, xz1, xw1⟩, ⟨_, rfl, rfl⟩⟩⟩
  have xk1 : MkX l.prog w K mg C1 ("reason" : Str) := mkx_of xbV xt1
  have xc0 : ExcC K C0 := ⟨xga0, xgg0, xec0, xhd0, xki0, gsK, tkK, xmo0⟩
  have xt0 : ExT l.prog K mg "ValueError" "ValueError.__new__" "ValueError.__init__" [.type "ValueError", .type "Exception", .type "BaseException", .type "object"] C0 C3 xI0 ("reason" : Str) := ⟨⟨_, _, _, _, _, _, _, _, _, _, _, _, _, _, xL0⟩, xsa0, xnp0, xin0, xti0, xkc0, xec0, xty0, xsu0, xsb0, opq, y_super, stop, by decide, ⟨_, _, _, _, xcc0, xcd0, _, _, _, _, _, _, _, _, _, xl0, xcd_0, by first | rfl | decide +kernel, K28.scx0, by first | rfl | decide +kernel, by first | rfl | decide +kernel, (fun us hl => match us, hl with | [_, _], _ => rfl), ⟨_, _, _, xx0⟩, ⟨_, _, _, _, xy0, rfl, xz0, xw0⟩, ⟨_, rfl, rfl⟩⟩⟩
  have xk0 : MkX l.prog w K mg C0 ("reason" : Str) := mkx_of xbV xt0
  have cls2 : Cls K C2 := ⟨pgC2, hdC2, poC2, saC2⟩
  have B1_0 : ∃ gg, KBn K (PySem.W.fnX "_law_cost" "_law_cost" (defArgs (top 28)) (defBody (top 28)) (defScope (top 28)) [] .none kV1 doc1 pm1 an1 (.ref cd1) ct1) ["_law_plain", "_law_row"] 2 [] gg fun vs zs => srcV vs zs [.p 0, .p 1] := F1.kbnN 2 [] [.p 0, .p 1] [.p 0, .p 1] (fun _ _ _ _ _ _ us ws h1 h2 => match us, h1, ws, h2 with | [_, _], _, [], _ => rfl) (fun _ _ => rfl)
  have B3_0 : ∃ gg, KBn K (PySem.W.fnX "_law_meets" "_law_meets" (defArgs (top 29)) (defBody (top 29)) (defScope (top 29)) [] .none kV3 doc3 pm3 an3 (.ref cd3) ct3) ["_law_plain", "_law_row"] 2 [] gg fun vs zs => srcV vs zs [.p 0, .p 1] := F3.kbnN 2 [] [.p 0, .p 1] [.p 0, .p 1] (fun _ _ _ _ _ _ us ws h1 h2 => match us, h1, ws, h2 with | [_, _], _, [], _ => rfl) (fun _ _ => rfl)
  have B4_0 : ∃ gg, KBn K (PySem.W.fnX "_law_next" "_law_next" (defArgs (top 24)) (defBody (top 24)) (defScope (top 24)) [] .none kV4 doc4 pm4 an4 (.ref cd4) ct4) ["_law_source_here", "_law_many"] 2 [] gg fun vs zs => srcV vs zs [.p 0, .p 1] := F4.kbnN 2 [] [.p 0, .p 1] [.p 0, .p 1] (fun _ _ _ _ _ _ us ws h1 h2 => match us, h1, ws, h2 with | [_, _], _, [], _ => rfl) (fun _ _ => rfl)
  have B5_0 : ∃ gg, KBn K (PySem.W.fnX "_law_lowest" "_law_lowest" (defArgs (top 30)) (defBody (top 30)) (defScope (top 30)) [] .none kV5 doc5 pm5 an5 (.ref cd5) ct5) ["_law_plain"] 1 [] gg fun vs zs => srcV vs zs [.p 0] := F5.kbnN 1 [] [.p 0] [.p 0] (fun _ _ _ _ _ _ us ws h1 h2 => match us, h1, ws, h2 with | [_], _, [], _ => rfl) (fun _ _ => rfl)
  have B6_0 : ∃ gg, KBn K (PySem.W.fnX "_law_given" "_law_given" (defArgs (top 27)) (defBody (top 27)) (defScope (top 27)) [] .none kV6 doc6 pm6 an6 (.ref cd6) ct6) ["_law_plain"] 1 [] gg fun vs zs => srcV vs zs [.p 0] := F6.kbnN 1 [] [.p 0] [.p 0] (fun _ _ _ _ _ _ us ws h1 h2 => match us, h1, ws, h2 with | [_], _, [], _ => rfl) (fun _ _ => rfl)
  have B7_0 : ∃ gg, KBn K (PySem.W.fnX "_law_drawn_problem" "_law_drawn_problem" (defArgs (top 26)) (defBody (top 26)) (defScope (top 26)) [] .none kV7 doc7 pm7 an7 (.ref cd7) ct7) ["_law_source_here", "_law_size", "_law_far"] 3 [] gg fun vs zs => srcV vs zs [.p 0, .p 1, .p 2] := F7.kbnN 3 [] [.p 0, .p 1, .p 2] [.p 0, .p 1, .p 2] (fun _ _ _ _ _ _ us ws h1 h2 => match us, h1, ws, h2 with | [_, _, _], _, [], _ => rfl) (fun _ _ => rfl)
  have B8_0 : ∃ gg, KBn K (PySem.W.fnX "_law_source" "_law_source" (defArgs (top 23)) (defBody (top 23)) (defScope (top 23)) [] .none kV8 doc8 pm8 an8 (.ref cd8) ct8) ["_law_script", "_law_k"] 2 [] gg fun vs zs => srcV vs zs [.p 0, .p 1] := F8.kbnN 2 [] [.p 0, .p 1] [.p 0, .p 1] (fun _ _ _ _ _ _ us ws h1 h2 => match us, h1, ws, h2 with | [_, _], _, [], _ => rfl) (fun _ _ => rfl)
  have B9_0 : ∃ gg, KBn K (PySem.W.fnX "__init__" "Problem.__init__" (defArgs (inClass (top 21) 0)) (defBody (inClass (top 21) 0)) (defScope (inClass (top 21) 0)) [] .none (.ref D9) doc9 pm9 an9 (.ref cd9) ct9) ["self", "size", "bounds", "lows", "terms"] 2 ["bounds", "lows", "terms"] gg fun vs zs => srcV vs zs [.p 0, .p 1, .k 0, .k 1, .k 2] := F9.kbnN 2 ["bounds", "lows", "terms"] [.p 0, .p 1, .k 0, .k 1, .k 2] [.p 0, .p 1, .k 0, .k 1, .k 2] (fun _ _ _ _ _ _ us ws h1 h2 => match us, h1, ws, h2 with | [_, _], _, [_, _, _], _ => rfl) (fun _ _ => rfl)
  have B12_0 : ∃ gg, KBn K (PySem.W.fnX "_law_pair_drawn" "_law_pair_drawn" (defArgs (top 25)) (defBody (top 25)) (defScope (top 25)) [] .none kV12 doc12 pm12 an12 (.ref cd12) ct12) ["_law_source_here", "_law_size"] 2 [] gg fun vs zs => srcV vs zs [.p 0, .p 1] := F12.kbnN 2 [] [.p 0, .p 1] [.p 0, .p 1] (fun _ _ _ _ _ _ us ws h1 h2 => match us, h1, ws, h2 with | [_, _], _, [], _ => rfl) (fun _ _ => rfl)
  have B13_0 : ∃ gg, KBn K (PySem.W.fnX "need_problem" "need_problem" (defArgs (top 19)) (defBody (top 19)) (defScope (top 19)) [] .none kV13 doc13 pm13 an13 (.ref cd13) ct13) ["size", "bounds", "lows", "terms"] 4 [] gg fun vs zs => srcV vs zs [.p 0, .p 1, .p 2, .p 3] := F13.kbnN 4 [] [.p 0, .p 1, .p 2, .p 3] [.p 0, .p 1, .p 2, .p 3] (fun _ _ _ _ _ _ us ws h1 h2 => match us, h1, ws, h2 with | [_, _, _, _], _, [], _ => rfl) (fun _ _ => rfl)
  have B14_0 : ∃ gg, KBn K (PySem.W.fnX "is_row_of" "is_row_of" (defArgs (top 13)) (defBody (top 13)) (defScope (top 13)) [] .none kV14 doc14 pm14 an14 (.ref cd14) ct14) ["value", "many"] 2 [] gg fun vs zs => srcV vs zs [.p 0, .p 1] := F14.kbnN 2 [] [.p 0, .p 1] [.p 0, .p 1] (fun _ _ _ _ _ _ us ws h1 h2 => match us, h1, ws, h2 with | [_, _], _, [], _ => rfl) (fun _ _ => rfl)
  have B16_0 : ∃ gg, KBn K (PySem.W.fnX "has_ring" "has_ring" (defArgs (top 17)) (defBody (top 17)) (defScope (top 17)) [] .none kV16 doc16 pm16 an16 (.ref cd16) ct16) ["size", "bounds"] 2 [] gg fun vs zs => srcV vs zs [.p 0, .p 1] := F16.kbnN 2 [] [.p 0, .p 1] [.p 0, .p 1] (fun _ _ _ _ _ _ us ws h1 h2 => match us, h1, ws, h2 with | [_, _], _, [], _ => rfl) (fun _ _ => rfl)
  have B17_0 : ∃ gg, KBn K (PySem.W.fnX "are_rows" "are_rows" (defArgs (top 18)) (defBody (top 18)) (defScope (top 18)) [] .none kV17 doc17 pm17 an17 (.ref cd17) ct17) ["value", "size", "is_right"] 3 [] gg fun vs zs => srcV vs zs [.p 0, .p 1, .p 2] := F17.kbnN 3 [] [.p 0, .p 1, .p 2] [.p 0, .p 1, .p 2] (fun _ _ _ _ _ _ us ws h1 h2 => match us, h1, ws, h2 with | [_, _, _], _, [], _ => rfl) (fun _ _ => rfl)
  have B18_0 : ∃ gg, KBn K (PySem.W.fnX "is_term" "is_term" (defArgs (top 16)) (defBody (top 16)) (defScope (top 16)) [] .none kV18 doc18 pm18 an18 (.ref cd18) ct18) ["value", "size"] 2 [] gg fun vs zs => srcV vs zs [.p 0, .p 1] := F18.kbnN 2 [] [.p 0, .p 1] [.p 0, .p 1] (fun _ _ _ _ _ _ us ws h1 h2 => match us, h1, ws, h2 with | [_, _], _, [], _ => rfl) (fun _ _ => rfl)
  have B19_0 : ∃ gg, KBn K (PySem.W.fnX "is_bound" "is_bound" (defArgs (top 15)) (defBody (top 15)) (defScope (top 15)) [] .none kV19 doc19 pm19 an19 (.ref cd19) ct19) ["value", "size"] 2 [] gg fun vs zs => srcV vs zs [.p 0, .p 1] := F19.kbnN 2 [] [.p 0, .p 1] [.p 0, .p 1] (fun _ _ _ _ _ _ us ws h1 h2 => match us, h1, ws, h2 with | [_, _], _, [], _ => rfl) (fun _ _ => rfl)
  have B20_0 : ∃ gg, KBn K (PySem.W.fnX "is_among" "is_among" (defArgs (top 7)) (defBody (top 7)) (defScope (top 7)) [] .none kV20 doc20 pm20 an20 (.ref cd20) ct20) ["value", "least", "most"] 3 [] gg fun vs zs => srcV vs zs [.p 0, .p 1, .p 2] := F20.kbnN 3 [] [.p 0, .p 1, .p 2] [.p 0, .p 1, .p 2] (fun _ _ _ _ _ _ us ws h1 h2 => match us, h1, ws, h2 with | [_, _, _], _, [], _ => rfl) (fun _ _ => rfl)
  have B21_0 : ∃ gg, KBn K (PySem.W.fnX "is_integer" "is_integer" (defArgs (top 6)) (defBody (top 6)) (defScope (top 6)) [] .none kV21 doc21 pm21 an21 (.ref cd21) ct21) ["value"] 1 [] gg fun vs zs => srcV vs zs [.p 0] := F21.kbnN 1 [] [.p 0] [.p 0] (fun _ _ _ _ _ _ us ws h1 h2 => match us, h1, ws, h2 with | [_], _, [], _ => rfl) (fun _ _ => rfl)
  have B22_0 : ∃ gg, KBn K (PySem.W.fnX "cost_of_term" "cost_of_term" (defArgs (top 20)) (defBody (top 20)) (defScope (top 20)) [] .none kV22 doc22 pm22 an22 (.ref cd22) ct22) ["term", "row"] 2 [] gg fun vs zs => srcV vs zs [.p 0, .p 1] := F22.kbnN 2 [] [.p 0, .p 1] [.p 0, .p 1] (fun _ _ _ _ _ _ us ws h1 h2 => match us, h1, ws, h2 with | [_, _], _, [], _ => rfl) (fun _ _ => rfl)
  have B23_0 : ∃ gg, KBn K (PySem.W.fnX "is_pair_of" "is_pair_of" (defArgs (top 14)) (defBody (top 14)) (defScope (top 14)) [] .none kV23 doc23 pm23 an23 (.ref cd23) ct23) ["size", "i", "j"] 3 [] gg fun vs zs => srcV vs zs [.p 0, .p 1, .p 2] := F23.kbnN 3 [] [.p 0, .p 1, .p 2] [.p 0, .p 1, .p 2] (fun _ _ _ _ _ _ us ws h1 h2 => match us, h1, ws, h2 with | [_, _, _], _, [], _ => rfl) (fun _ _ => rfl)
  have bb10 : Binds K (PySem.W.fnX "cost_of_row" "Problem.cost_of_row" (defArgs (inClass (top 21) 3)) (defBody (inClass (top 21) 3)) (defScope (inClass (top 21) 3)) [] .none kV10 doc10 pm10 an10 (.ref cd10) ct10) ["self", "row"] [] := F10.binds fun _ _ _ _ _ _ us hl => match us, hl with | [_, _], _ => rfl
  have bb11 : Binds K (PySem.W.fnX "is_feasible" "Problem.is_feasible" (defArgs (inClass (top 21) 2)) (defBody (inClass (top 21) 2)) (defScope (inClass (top 21) 2)) [] .none kV11 doc11 pm11 an11 (.ref cd11) ct11) ["self", "row"] [] := F11.binds fun _ _ _ _ _ _ us hl => match us, hl with | [_, _], _ => rfl
  have bb15 : Binds K (PySem.W.fnX "least_sum" "Problem.least_sum" (defArgs (inClass (top 21) 4)) (defBody (inClass (top 21) 4)) (defScope (inClass (top 21) 4)) [] .none kV15 doc15 pm15 an15 (.ref cd15) ct15) ["self", "row"] [] := F15.binds fun _ _ _ _ _ _ us hl => match us, hl with | [_, _], _ => rfl
  have FS : Fst g tab.st := by
    refine ⟨?nm, ?pat, fun f => ?npar, ?gd, ?bi, ⟨y_range, y_enumerate, y_zip, y_isinstance⟩, y_repr, ⟨y_int, y_str, y_bool, y_tuple, y_list⟩, ?cnm, ?mk, ?fld, ?meth, ?sup, ?prop, ?kit, ?kitc, ?kitx, ?exk, rfl, ?oeq, ?one, ?cmt, ?patv, ?oin, ?exm⟩
    case nm => exact getD_imp (P := fun f x => g.mg x = some (.ref (g.fa f)) ∧ PySem.W.keepIn g.K (.ref (g.fa f)) = true) (l := lfnm) ⟨⟨PySem.W.mg_of X GG a0, k0⟩, ⟨PySem.W.mg_of X GG a1, k1⟩, ⟨PySem.W.mg_of X GG a2, k2⟩, ⟨PySem.W.mg_of X GG a3, k3⟩, ⟨PySem.W.mg_of X GG a4, k4⟩, ⟨PySem.W.mg_of X GG a5, k5⟩, ⟨PySem.W.mg_of X GG a6, k6⟩, ⟨PySem.W.mg_of X GG a7, k7⟩, ⟨PySem.W.mg_of X GG a8, k8⟩, ⟨PySem.W.mg_of X GG a12, k12⟩, ⟨PySem.W.mg_of X GG a13, k13⟩, ⟨PySem.W.mg_of X GG a14, k14⟩, ⟨PySem.W.mg_of X GG a16, k16⟩, ⟨PySem.W.mg_of X GG a17, k17⟩, ⟨PySem.W.mg_of X GG a18, k18⟩, ⟨PySem.W.mg_of X GG a19, k19⟩, ⟨PySem.W.mg_of X GG a20, k20⟩, ⟨PySem.W.mg_of X GG a21, k21⟩, ⟨PySem.W.mg_of X GG a22, k22⟩, ⟨PySem.W.mg_of X GG a23, k23⟩, trivial⟩
    case pat =>
      intro f p n ks pm e
      refine AllP.get (P := fun (q : Nat × Nat) (y : Nat × List Str × List Src) => (∀ x, Src.d x ∈ y.2.2 → (flatV? x).isSome = true) ∧ y.2.2.length = (g.ps q.1).length ∧ ∃ gg, KBn g.K (g.fd q.1) (g.ps q.1) y.1 y.2.1 gg fun vs zs => srcV vs zs y.2.2) (l := lpat) ?_ (f, p) (n, ks, pm) e
      exact ⟨⟨by simp [flatV?], rfl, B1_0⟩, ⟨by simp [flatV?], rfl, B3_0⟩, ⟨by simp [flatV?], rfl, B4_0⟩, ⟨by simp [flatV?], rfl, B5_0⟩, ⟨by simp [flatV?], rfl, B6_0⟩, ⟨by simp [flatV?], rfl, B7_0⟩, ⟨by simp [flatV?], rfl, B8_0⟩, ⟨by simp [flatV?], rfl, B9_0⟩, ⟨by simp [flatV?], rfl, B12_0⟩, ⟨by simp [flatV?], rfl, B13_0⟩, ⟨by simp [flatV?], rfl, B14_0⟩, ⟨by simp [flatV?], rfl, B16_0⟩, ⟨by simp [flatV?], rfl, B17_0⟩, ⟨by simp [flatV?], rfl, B18_0⟩, ⟨by simp [flatV?], rfl, B19_0⟩, ⟨by simp [flatV?], rfl, B20_0⟩, ⟨by simp [flatV?], rfl, B21_0⟩, ⟨by simp [flatV?], rfl, B22_0⟩, ⟨by simp [flatV?], rfl, B23_0⟩, trivial⟩
    case npar => show lnpar.getD f 0 = (lps.getD f []).length; rw [show lnpar = lps.map List.length from rfl, List.getD_eq_getElem?_getD, List.getElem?_map, List.getD_eq_getElem?_getD]; cases lps[f]? <;> rfl
    case gd =>
      intro x d e
      exact AllP.get (P := fun x d => ∃ u v, g.mg x = some u ∧ RelV v u ∧ ∀ F, Rep g F d v) (l := lgd) (⟨⟨_, (.int 1000000), PySem.W.mg_of X GG g0, ⟨_, rfl⟩, fun F => .int _⟩, ⟨_, (.int 12), PySem.W.mg_of X GG g1, ⟨_, rfl⟩, fun F => .int _⟩, ⟨_, (.int 40), PySem.W.mg_of X GG g2, ⟨_, rfl⟩, fun F => .int _⟩, ⟨_, (.int 100), PySem.W.mg_of X GG g3, ⟨_, rfl⟩, fun F => .int _⟩, ⟨_, .ref f18, PySem.W.mg_of X GG a18, rfl, fun F => .fn 18⟩, ⟨_, .ref f19, PySem.W.mg_of X GG a19, rfl, fun F => .fn 19⟩, trivial⟩) x d e
    case bi => intro b; cases b <;> assumption
    case cnm => exact getD_imp (P := fun c x => g.mg x = some (.ref (g.ca c))) (l := lcnm) ⟨PySem.W.mg_of X GG aC0, PySem.W.mg_of X GG aC1, PySem.W.mg_of X GG aC2, PySem.W.mg_of X GG aC3, trivial⟩
    case mk => exact getD_imp (P := fun c f => Mk g.K (g.ca c) (g.fa f)) (l := linit) ⟨⟨mkC2, inC2, i9, kpC2⟩, trivial⟩
    case fld =>
      intro c f e
      obtain ⟨u, e⟩ := Option.isSome_iff_exists.mp e
      exact AllP.get (P := fun (q : Nat × Str) (_ : Unit) => Cls g.K (g.ca q.1) ∧ NoAttr g.K (g.ca q.1) q.2) (l := lfldk) (⟨⟨cls2, n0⟩, ⟨cls2, n1⟩, ⟨cls2, n2⟩, ⟨cls2, n3⟩, ⟨cls2, n4⟩, trivial⟩) (c, f) u e
    case meth =>
      intro c m f e
      exact AllP.get (P := fun (q : Nat × Str) (f : Nat) => Cls g.K (g.ca q.1) ∧ Meth g.K (g.ca q.1) q.2 (g.fa f) ∧ Binds g.K (g.fd f) (g.ps f) []) (l := lmeth) (⟨⟨cls2, ⟨m0, i10, k10⟩, bb10⟩, ⟨cls2, ⟨m1, i11, k11⟩, bb11⟩, ⟨cls2, ⟨m2, i15, k15⟩, bb15⟩, trivial⟩) (c, m) f e
    case sup =>
      intro d c m f e
      exact AllP.get (P := fun (q : Nat × Nat × Str) (f : Nat) => PySem.W.mroIn g.K (g.ca q.2.1) (.ref (g.ca q.1)) = some true ∧ PySem.W.ks_superIn g.K (g.ca q.2.1) (g.ca q.1) q.2.2 = some (some (.ref (g.fa f))) ∧ PySem.W.typeIn g.K (.ref (g.fa f)) = some (.type "function") ∧ PySem.W.fnIn g.K (g.fa f) = true ∧ Binds g.K (g.fd f) (g.ps f) []) (l := lsup) (trivial) (d, c, m) f e
    case prop =>
      intro c m f e
      exact AllP.get (P := fun (q : Nat × Str) (f : Nat) => Cls g.K (g.ca q.1) ∧ (∃ p, PropOf g.K (g.ca q.1) q.2 p (g.fa f)) ∧ (g.ps f).length = 1 ∧ Binds g.K (g.fd f) (g.ps f) []) (l := lprop) (trivial) (c, m) f e
    case kit =>
      intro t u b e
      exact AllP.get (P := fun (q : Ty × Ty) (b : Bool) => PySem.W.kitOne g.K (tyVal g q.1) (tyVal g q.2) = some b) (l := lkit) (⟨kt0, kt1, kt2, kt3, kt4, kt5, kt6, kt7, kt8, kt9, kt10, kt11, kt12, kt13, kt14, kt15, kt16, kt17, kt18, kt19, kt20, kt21, kt22, kt23, kt24, kt25, kt26, kt27, kt28, kt29, kt30, kt31, kt32, kt33, trivial⟩) (t, u) b e
    case kitc =>
      intro c u b e
      have e : wkit (.c c) u = some b := e
      unfold wkit at e
      exact AllP.get (P := fun (q : Ty × Ty) (_ : Bool) => ∀ c, q.1 = .c c → Cls g.K (g.ca c) ∧ PySem.W.findIn g.K (.ref (g.ca c)) "__class__" = some (some (.builtin "object.__class__")) ∧ PySem.W.specialIn g.K (.builtin "object.__class__") "__get__" = some (some (.builtin "getset_descriptor.__get__")) ∧ PySem.W.takesIn g.K (.builtin "object.__class__") = some true ∧ PySem.W.mroIn g.K (g.ca c) (.type "object") = some true) (l := lkit) (⟨(fun c e => by cases e), (fun c e => by cases e), (fun c e => by cases e), (fun c e => by cases e), (fun c e => by cases e), (fun c e => by cases e), (fun c e => by cases e), (fun c e => by cases e), (fun c e => by cases e), (fun c e => by cases e), (fun c e => by cases e), (fun c e => by cases e), (fun c e => by cases e), (fun c e => by cases e), (fun c e => by cases e), (fun c e => by cases e), (fun c e => by cases e), (fun c e => by cases e), (fun c e => by cases e), (fun c e => by cases e), (fun c e => by cases e), (fun c e => by cases e), (fun c e => by cases e), (fun c e => by cases e), (fun c e => by cases e), (fun c e => by cases e), (fun c e => by cases e), (fun c e => by cases e), (fun c e => by cases e; exact ⟨cls2, kiC2, gsK, tkK, moC2⟩), (fun c e => by cases e; exact ⟨cls2, kiC2, gsK, tkK, moC2⟩), (fun c e => by cases e; exact ⟨cls2, kiC2, gsK, tkK, moC2⟩), (fun c e => by cases e; exact ⟨cls2, kiC2, gsK, tkK, moC2⟩), (fun c e => by cases e), (fun c e => by cases e), trivial⟩) (.c c, u) b e c rfl
    case kitx =>
      intro c u b e
      have e : wkit (.x c) u = some b := e
      unfold wkit at e
      exact AllP.get (P := fun (q : Ty × Ty) (_ : Bool) => ∀ c, q.1 = .x c → ExcC g.K (g.ca c)) (l := lkit) (⟨(fun c e => by cases e), (fun c e => by cases e), (fun c e => by cases e), (fun c e => by cases e), (fun c e => by cases e), (fun c e => by cases e), (fun c e => by cases e), (fun c e => by cases e), (fun c e => by cases e), (fun c e => by cases e), (fun c e => by cases e), (fun c e => by cases e), (fun c e => by cases e), (fun c e => by cases e), (fun c e => by cases e), (fun c e => by cases e), (fun c e => by cases e), (fun c e => by cases e), (fun c e => by cases e), (fun c e => by cases e), (fun c e => by cases e), (fun c e => by cases e), (fun c e => by cases e), (fun c e => by cases e), (fun c e => by cases e), (fun c e => by cases e), (fun c e => by cases e), (fun c e => by cases e), (fun c e => by cases e), (fun c e => by cases e), (fun c e => by cases e), (fun c e => by cases e), (fun c e => by cases e; exact xc1), (fun c e => by cases e; exact xc0), trivial⟩) (.x c, u) b e c rfl
    case exk =>
      intro c x p e
      exact getD_imp (P := fun c (y : Str × Str) => y.2 = g.efld c ∧ g.mg y.1 = some (.ref (g.ca c)) ∧ PySem.W.keepIn g.K (.ref (g.ca c)) = true ∧ MkX g.P g.w g.K g.mg (g.ca c) y.2 ∧ PySem.W.typeIn g.K (.ref (g.ca c)) = some (.type "type") ∧ ExcC g.K (g.ca c) ∧ PySem.W.findIn g.K (.ref (g.ca c)) y.2 = some none) (l := lexk) (⟨⟨rfl, PySem.W.mg_of X GG aC0, xkc0, xk0, xty0, xc0, xnp0⟩, ⟨rfl, PySem.W.mg_of X GG aC1, xkc1, xk1, xty1, xc1, xnp1⟩, trivial⟩) c (x, p) e
    case oeq =>
      intro c t f e
      exact AllP.get (P := fun (q : Nat × Ty) (f : Nat) => PySem.W.findIn g.K (.ref (g.ca q.1)) "__eq__" = some (some (.ref (g.fa f))) ∧ PySem.W.isFn g.K (.ref (g.fa f)) = true ∧ Binds g.K (g.fd f) (g.ps f) [] ∧ (g.ps f).length = 2 ∧ PySem.W.notFirst g.K (g.ca q.1) (tyVal g q.2) = true) (l := loeq) (trivial) (c, t) f e
    case one =>
      intro c t f e
      exact AllP.get (P := fun (q : Nat × Ty) (f : Nat) => (PySem.W.findIn g.K (.ref (g.ca q.1)) "__eq__" = some (some (.ref (g.fa f))) ∧ PySem.W.isFn g.K (.ref (g.fa f)) = true ∧ Binds g.K (g.fd f) (g.ps f) [] ∧ (g.ps f).length = 2 ∧ PySem.W.notFirst g.K (g.ca q.1) (tyVal g q.2) = true) ∧ PySem.W.findIn g.K (.ref (g.ca q.1)) "__ne__" = some (some (.builtin "object.__ne__")) ∧ PySem.W.subIn g.K (.ref (g.ca q.1)) (.type "object") = some true) (l := lone) (trivial) (c, t) f e
    case cmt =>
      intro c m f e
      exact AllP.get (P := fun (q : Nat × Str) (f : Nat) => ∃ mc p, ClX.CRead g.K (g.ca q.1) mc ∧ ClX.CMet g.K (g.ca q.1) mc q.2 p (g.fa f)) (l := lcmt) (trivial) (c, m) f e
    case patv =>
      intro f p n ks pm e
      exact AllP.get (P := fun (q : Nat × Nat) (y : Nat × List Str × List Src) => (∀ x, Src.d x ∈ y.2.2 → (flatV? x).isSome = true) ∧ y.2.2.length = (g.ps q.1).length ∧ ∃ gg, KBv g.K (g.fd q.1) (g.ps q.1) y.1 y.2.1 gg fun vs zs => srcV vs zs y.2.2) (l := lpatv) (trivial) (f, p) (n, ks, pm) e
    case oin =>
      intro c f e
      exact getD_imp (P := fun c f => PySem.W.findIn g.K (.ref (g.ca c)) "__contains__" = some (some (.ref (g.fa f))) ∧ PySem.W.isFn g.K (.ref (g.fa f)) = true ∧ Binds g.K (g.fd f) (g.ps f) [] ∧ (g.ps f).length = 2) (l := loin) (trivial) c f e
    case exm =>
      intro ks c b e
      exact AllP.get (P := fun (q : List Nat × Nat) (b : Bool) => PySem.W.exmAny g.K (.ref (g.ca q.2)) (q.1.map fun k => .ref (g.ca k)) = some b) (l := lexm) (⟨xm0, xm1, trivial⟩) (ks, c) b e
  have lu0 : ∀ p ∈ g.T, p.1 = P0 → p.2 = ((("law" : Str) ++ ".<locals>.") ++ "<lambda>" : Str) := fun p hp e => by
    simp only [g, List.mem_cons, List.not_mem_nil, or_false] at hp
    subst hp
    rfl
  have td2 : FnTD2 g tab 2 d2 := by
    obtain ⟨te, rest, pv, pw, ptt, cp, cq, ptv, ap, pr, p1, p2, p3, pv2, pm, pa, ph, pp, kt, kv, cj, ck, hb, h1, h2⟩ := K28.b2
    have D : FunD g.K "_law_refused" "_law_refused" (defArgs (top 31)) (.Assign [.Tuple [.Name "_law_caught" pv, .Name "_law_found" pw] kt ptt] (.Tuple [.Constant .none cj cp, .Constant .none ck cq] kv ptv) ap :: .Try [.Assign [.Name "_law_found" pr] (.Call (.Name "_law_deed" p1) [] [] p2) p3] [.ExceptHandler (some te) (some "error") [.Assign [.Name "_law_caught" pv2] (.Name "error" pm) pa] ph] [] [] pp :: rest) (defScope (top 31)) [] [] (g.fa 2) (g.fd 2) := by
      rw [← hb]
      exact F2.funD
    exact ⟨["_law_deed", "error", "_law_caught", "_law_found"], _, _, _, _, _, _, "_law_deed", "_law_caught", "_law_found", "error", 3, te, rest, pv, pw, ptt, cp, cq, ptv, ap, pr, p1, p2, p3, pv2, pm, pa, ph, pp, kt, kv, cj, ck, D, K28.sc2, rfl, F2.binds (fun _ _ _ _ _ _ us hl => match us, hl with | [_], _ => rfl), rfl, rfl, by decide, rfl, rfl, rfl, rfl, by first | rfl | decide +kernel, by first | rfl | decide +kernel, by first | rfl | decide +kernel, by first | rfl | decide +kernel, by decide +kernel, by decide +kernel, h1, h2, K28.nl2⟩
  have FX := Tab.fx (g := g) (T := tab) (n := 400) FS (fun f s nl e => getD_imp (P := fun f y => FnT g tab f y.1 y.2 ∨ FnTS g tab f y.1 y.2) (l := lfn) (by
    exact ⟨.inl ⟨⟨_, _, _, _, _, _, _, _, F0.funD, K28.sc0, rfl, K28.c0, fun _ => ⟨cd0, P0, rfl, TB (cd0, P0) (by simp), by simp [g], lu0⟩⟩⟩, .inl ⟨⟨_, _, _, _, _, _, _, _, F1.funD, K28.sc1, rfl, K28.c1, fun h => absurd h K28.nl1⟩⟩, .inl ⟨⟨_, _, _, _, _, _, _, _, F3.funD, K28.sc3, rfl, K28.c3, fun h => absurd h K28.nl3⟩⟩, .inl ⟨⟨_, _, _, _, _, _, _, _, F4.funD, K28.sc4, rfl, K28.c4, fun h => absurd h K28.nl4⟩⟩, .inl ⟨⟨_, _, _, _, _, _, _, _, F5.funD, K28.sc5, rfl, K28.c5, fun h => absurd h K28.nl5⟩⟩, .inl ⟨⟨_, _, _, _, _, _, _, _, F6.funD, K28.sc6, rfl, K28.c6, fun h => absurd h K28.nl6⟩⟩, .inl ⟨⟨_, _, _, _, _, _, _, _, F7.funD, K28.sc7, rfl, K28.c7, fun h => absurd h K28.nl7⟩⟩, .inl ⟨⟨_, _, _, _, _, _, _, _, F8.funD, K28.sc8, rfl, K28.c8, fun h => absurd h K28.nl8⟩⟩, .inl ⟨⟨_, _, _, _, _, _, _, _, F9.funD, K28.sc9, rfl, K28.c9, fun h => absurd h K28.nl9⟩⟩, .inl ⟨⟨_, _, _, _, _, _, _, _, F10.funD, K28.sc10, rfl, K28.c10, fun h => absurd h K28.nl10⟩⟩, .inl ⟨⟨_, _, _, _, _, _, _, _, F11.funD, K28.sc11, rfl, K28.c11, fun h => absurd h K28.nl11⟩⟩, .inl ⟨⟨_, _, _, _, _, _, _, _, F12.funD, K28.sc12, rfl, K28.c12, fun h => absurd h K28.nl12⟩⟩, .inl ⟨⟨_, _, _, _, _, _, _, _, F13.funD, K28.sc13, rfl, K28.c13, fun h => absurd h K28.nl13⟩⟩, .inl ⟨⟨_, _, _, _, _, _, _, _, F14.funD, K28.sc14, rfl, K28.c14, fun h => absurd h K28.nl14⟩⟩, .inl ⟨⟨_, _, _, _, _, _, _, _, F15.funD, K28.sc15, rfl, K28.c15, fun h => absurd h K28.nl15⟩⟩, .inl ⟨⟨_, _, _, _, _, _, _, _, F16.funD, K28.sc16, rfl, K28.c16, fun h => absurd h K28.nl16⟩⟩, .inl ⟨⟨_, _, _, _, _, _, _, _, F17.funD, K28.sc17, rfl, K28.c17, fun h => absurd h K28.nl17⟩⟩, .inl ⟨⟨_, _, _, _, _, _, _, _, F18.funD, K28.sc18, rfl, K28.c18, fun h => absurd h K28.nl18⟩⟩, .inl ⟨⟨_, _, _, _, _, _, _, _, F19.funD, K28.sc19, rfl, K28.c19, fun h => absurd h K28.nl19⟩⟩, .inl ⟨⟨_, _, _, _, _, _, _, _, F20.funD, K28.sc20, rfl, K28.c20, fun h => absurd h K28.nl20⟩⟩, .inl ⟨⟨_, _, _, _, _, _, _, _, F21.funD, K28.sc21, rfl, K28.c21, fun h => absurd h K28.nl21⟩⟩, .inl ⟨⟨_, _, _, _, _, _, _, _, F22.funD, K28.sc22, rfl, K28.c22, fun h => absurd h K28.nl22⟩⟩, .inl ⟨⟨_, _, _, _, _, _, _, _, F23.funD, K28.sc23, rfl, K28.c23, fun h => absurd h K28.nl23⟩⟩, trivial⟩) f (s, nl) e) (fun wd k f d F est e => Or.elim (getD_imp (P := fun f d => FnTD g tab f d ∨ FnTD2 g tab f d) (l := ldn) ⟨.inr td2, trivial⟩ f d e) (ok_fnD F est) (ok_fnD2 F est)) 20
  exact law_end FX rfl plain
end K28
namespace K28
open PySem L2 BV
/-! ### problems by value -/
abbrev Lk := Int × Int × Int
inductive Co
  | line (i j w : Int) | bend (i j d w : Int)
def lkD (p : Lk) : D := .tup [.int p.1, .int p.2.1, .int p.2.2]
def coD : Co → D
  | .line i j w => .tup [.str "line", .int i, .int j, .int w]
  | .bend i j d w => .tup [.str "bend", .int i, .int j, .int d, .int w]
structure Pb where
  n : Nat
  L : List Lk
  F : List Int
  C : List Co
def Pb.d (P : Pb) : D := .dct [("size", .int (P.n : Int)), ("links", .tup (P.L.map lkD)), ("floor", .tup (P.F.map .int)), ("costs", .tup (P.C.map coD))]
def Pb.fs (P : Pb) : List (Str × D) := [("size", .int (P.n : Int)), ("bounds", .tup (P.L.map lkD)), ("lows", .tup (P.F.map .int)), ("terms", .tup (P.C.map coD)), ("known_flows", .non)]
def inR (n : Nat) (i : Int) : Prop := 0 ≤ i ∧ i < n
def coOk (P : Pb) : Co → Prop
  | .line i j w => (∃ d, (i, j, d) ∈ P.L) ∧ 1 ≤ w ∧ w ≤ 5
  | .bend i j d w => inR P.n i ∧ inR P.n j ∧ i ≠ j ∧ -9 ≤ d ∧ d ≤ 9 ∧ 1 ≤ w ∧ w ≤ 5
structure Pb.Ok (P : Pb) (pos : Int → Nat) : Prop where
  n1 : 1 ≤ P.n
  n6 : P.n ≤ 6
  Fl : P.F.length = P.n
  F9 : ∀ f ∈ P.F, 0 ≤ f ∧ f ≤ 9
  Ll : P.L.length ≤ 12
  lk : ∀ p ∈ P.L, inR P.n p.1 ∧ inR P.n p.2.1 ∧ pos p.1 < pos p.2.1 ∧ 0 ≤ p.2.2 ∧ p.2.2 ≤ 9
  ps : ∀ i, inR P.n i → pos i < P.n
  Cl : P.C.length ≤ 12
  co : ∀ c ∈ P.C, coOk P c
theorem all_run {α : Type} (f : α → Bool) (l : List α) (cs : Cells) : wBi .all [.d (.lst (l.map fun c => D.bl (f c)))] cs = .ok (.d (.bl (l.all f))) cs := by
  rw [wBi]
  simp only [dl, Option.bind_some, blsOf_map]
  have : (l.map f).all id = l.all f := by rw [List.all_map]; rfl
  simp [this]
theorem lookup_size (P : Pb) (cs : Cells) : dixW (.d P.d) "size" cs = .ok (.d (.int (P.n : Int))) cs := rfl
theorem lookup_links (P : Pb) (cs : Cells) : dixW (.d P.d) "links" cs = .ok (.d (.tup (P.L.map lkD))) cs := rfl
theorem lookup_floor (P : Pb) (cs : Cells) : dixW (.d P.d) "floor" cs = .ok (.d (.tup (P.F.map .int))) cs := rfl
theorem lookup_costs (P : Pb) (cs : Cells) : dixW (.d P.d) "costs" cs = .ok (.d (.tup (P.C.map coD))) cs := rfl
section
variable {n j : Nat} {cs : Cells}
/-! ### integers, numbers among some -/
def isIntD : D → Bool
  | .int _ => true
  | _ => false
inductive Pl : D → Prop
  | non : Pl .non | bl (b : Bool) : Pl (.bl b) | int (i : Int) : Pl (.int i) | str (x : Str) : Pl (.str x) | tup (xs : List D) : Pl (.tup xs) | lst (xs : List D) : Pl (.lst xs) | dct (xs : List (Str × D)) : Pl (.dct xs)
theorem int_run {d : D} (h : Pl d) (cs : Cells) : (tab.at n (j+1)).phi 21 [.d d] cs = .ok (.bl (isIntD d)) cs := by
  rw [Tab.phi_s (s := s21) (nl := 1) rfl]
  unfold fnRun s21
  cases h <;> simp [wIsi, kitAnyD, tyOf, isIntD]
theorem among_run (i a b : Int) (cs : Cells) : (tab.at n (j+2)).phi 20 [.d (.int i), .d (.int a), .d (.int b)] cs = .ok (.bl (decide (a ≤ i) && decide (i ≤ b))) cs := by
  have h := fun cs => int_run (n := n) (j := j) (.int i) cs
  rw [Tab.phi_s (s := s20) (nl := 3) rfl]
  unfold fnRun s20
  by_cases h1 : a ≤ i <;> simp [srcs, callW, h, isIntD, h1]
theorem pair_run (k i l : Int) (cs : Cells) : (tab.at n (j+3)).phi 23 [.d (.int k), .d (.int i), .d (.int l)] cs = .ok (.bl ((decide (0 ≤ i) && decide (i ≤ k - 1)) && (decide (0 ≤ l) && decide (l ≤ k - 1)) && !(i == l))) cs := by
  have h := fun i a b cs => among_run (n := n) (j := j) i a b cs
  rw [Tab.phi_s (s := s23) (nl := 3) rfl]
  unfold fnRun s23
  cases h1 : (decide (0 ≤ i) && decide (i ≤ k - 1)) with
  | true =>
    cases h2 : (decide (0 ≤ l) && decide (l ≤ k - 1)) with
    | true => simp [srcs, callW, h, h1, h2, -Bool.decide_and, -Bool.and_eq_true]
    | false => simp [srcs, callW, h, h1, h2, -Bool.decide_and, -Bool.and_eq_true]
  | false => simp [srcs, callW, h, h1, -Bool.decide_and, -Bool.and_eq_true]
end
end K28
namespace K28
open PySem L2 BV
theorem a4_0 (x y z u : D) : atI [x, y, z, u] 0 = some x := rfl
theorem a4_1 (x y z u : D) : atI [x, y, z, u] 1 = some y := rfl
theorem a4_2 (x y z u : D) : atI [x, y, z, u] 2 = some z := rfl
theorem a4_3 (x y z u : D) : atI [x, y, z, u] 3 = some u := rfl
theorem a4_m (x y z u : D) : atI [x, y, z, u] (-1) = some u := rfl
theorem a5_0 (x y z u v : D) : atI [x, y, z, u, v] 0 = some x := rfl
theorem a5_1 (x y z u v : D) : atI [x, y, z, u, v] 1 = some y := rfl
theorem a5_2 (x y z u v : D) : atI [x, y, z, u, v] 2 = some z := rfl
theorem a5_3 (x y z u v : D) : atI [x, y, z, u, v] 3 = some u := rfl
theorem a5_4 (x y z u v : D) : atI [x, y, z, u, v] 4 = some v := rfl
theorem a5_m (x y z u v : D) : atI [x, y, z, u, v] (-1) = some v := rfl
theorem tx_line : Tx ("line" : Str) 4 := .lit (by decide +kernel)
theorem tx_bend : Tx ("bend" : Str) 4 := .lit (by decide +kernel)
theorem ne_ll (cs : Cells) : wCmp .NotEq (.d (.str "line")) (.d (.str "line")) cs = .ok (.d (.bl false)) cs := by rw [wCmp_ne_str tx_line tx_line]; simp
theorem ne_bb (cs : Cells) : wCmp .NotEq (.d (.str "bend")) (.d (.str "bend")) cs = .ok (.d (.bl false)) cs := by rw [wCmp_ne_str tx_bend tx_bend]; simp
theorem eq_ll (cs : Cells) : wCmp .Eq (.d (.str "line")) (.d (.str "line")) cs = .ok (.d (.bl true)) cs := by rw [wCmp_eq_str tx_line tx_line]; simp
theorem eq_bl (cs : Cells) : wCmp .Eq (.d (.str "bend")) (.d (.str "line")) cs = .ok (.d (.bl false)) cs := by rw [wCmp_eq_str tx_bend tx_line, show (("bend" : Str) == "line") = false by decide +kernel]
theorem nin_4 (cs : Cells) : wCmp .NotIn (.d (.int 4)) (.d (.tup [.int 4, .int 5])) cs = .ok (.d (.bl false)) cs := rfl
theorem nin_5 (cs : Cells) : wCmp .NotIn (.d (.int 5)) (.d (.tup [.int 4, .int 5])) cs = .ok (.d (.bl false)) cs := rfl
theorem ix_tup {xs : List D} {i : Int} {d : D} (h : atI xs i = some d) (cs : Cells) : wIx (.d (.tup xs)) (.d (.int i)) cs = .ok (.d d) cs := by simp only [wIx, h]
section
variable {n j : Nat} {cs : Cells}
theorem bound_run {k : Nat} {p : Lk} (h1 : inR k p.1) (h2 : inR k p.2.1) (h3 : p.1 ≠ p.2.1) (h4 : 0 ≤ p.2.2) (h5 : p.2.2 ≤ 9) (cs : Cells) : (tab.at n (j+4)).phi 19 [.d (lkD p), .d (.int k)] cs = .ok (.bl true) cs := by
  have hp := fun i l cs => pair_run (n := n) (j := j) (k : Int) i l cs
  have ha := fun i a b cs => among_run (n := n) (j := j + 1) i a b cs
  obtain ⟨i, l, d⟩ := p
  unfold inR at h1 h2
  simp only at h1 h2 h3 h4 h5
  rw [Tab.phi_s (s := s19) (nl := 2) rfl]
  unfold fnRun s19 lkD
  have c1 : (0 ≤ i) = True := eq_true h1.1
  have c2 : (i ≤ (k:Int) - 1) = True := eq_true (by omega)
  have c3 : (0 ≤ l) = True := eq_true h2.1
  have c4 : (l ≤ (k:Int) - 1) = True := eq_true (by omega)
  have c5 : (i == l) = false := by simpa using h3
  have c6 : (d ≤ 1000000) = True := eq_true (by omega)
  simp [wIsi, kitAnyD, tyOf, wBi, dl, ix_tup (at0 _ _ _), ix_tup (at1 _ _ _), ix_tup (at2 _ _ _), srcs, callW, hp, ha, c1, c2, c3, c4, c5, h4, c6]
theorem term_run {P : Pb} {pos : Int → Nat} (ok : P.Ok pos) {c : Co} (hc : coOk P c) (cs : Cells) : (tab.at n (j+4)).phi 18 [.d (coD c), .d (.int P.n)] cs = .ok (.bl true) cs := by
  have hp := fun i l cs => pair_run (n := n) (j := j) (P.n : Int) i l cs
  have ha := fun i a b cs => among_run (n := n) (j := j + 1) i a b cs
  rw [Tab.phi_s (s := s18) (nl := 2) rfl]
  unfold fnRun s18
  cases c with
  | line i l w =>
    obtain ⟨⟨d, hd⟩, w1, w2⟩ := hc
    obtain ⟨q1, q2, q3, _, _⟩ := ok.lk _ hd
    unfold inR at q1 q2
    simp only at q1 q2 q3
    have c1 : (0 ≤ i) = True := eq_true q1.1
    have c2 : (i ≤ (P.n:Int) - 1) = True := eq_true (by omega)
    have c3 : (0 ≤ l) = True := eq_true q2.1
    have c4 : (l ≤ (P.n:Int) - 1) = True := eq_true (by omega)
    have c5 : (i == l) = false := by
      simp only [beq_eq_false_iff_ne, ne_eq]
      intro e
      rw [e] at q3
      omega
    have c6 : (w ≤ 100) = True := eq_true (by omega)
    simp [coD, wIsi, kitAnyD, tyOf, wBi, dl, tupW, pureDs, lit, nin_4, ix_tup (a4_0 _ _ _ _), ix_tup (a4_1 _ _ _ _), ix_tup (a4_2 _ _ _ _), ix_tup (a4_m _ _ _ _), ne_ll, srcs, callW, hp, ha, c1, c2, c3, c4, c5, w1, c6]
  | bend i l d w =>
    obtain ⟨q1, q2, q3, d1, d2, w1, w2⟩ := hc
    unfold inR at q1 q2
    have c1 : (0 ≤ i) = True := eq_true q1.1
    have c2 : (i ≤ (P.n:Int) - 1) = True := eq_true (by omega)
    have c3 : (0 ≤ l) = True := eq_true q2.1
    have c4 : (l ≤ (P.n:Int) - 1) = True := eq_true (by omega)
    have c5 : (i == l) = false := by simpa using q3
    have c6 : (w ≤ 100) = True := eq_true (by omega)
    have c7 : (-1000000 ≤ d) = True := eq_true (by omega)
    have c8 : (d ≤ 1000000) = True := eq_true (by omega)
    simp [coD, wIsi, kitAnyD, tyOf, wBi, dl, tupW, pureDs, lit, nin_5, ix_tup (a5_0 _ _ _ _ _), ix_tup (a5_1 _ _ _ _ _), ix_tup (a5_2 _ _ _ _ _), ix_tup (a5_3 _ _ _ _ _), ix_tup (a5_m _ _ _ _ _), ne_bb, srcs, callW, hp, ha, c1, c2, c3, c4, c5, w1, c6, c7, c8]
theorem row_run {ds : List D} {k : Int} (h : ∀ d ∈ ds, Pl d) (hl : ds.length ≤ 1000) (cs : Cells) : (tab.at n (j+2)).phi 14 [.d (.tup ds), .d (.int k)] cs = .ok (.bl (((ds.length : Int) == k) && ds.all isIntD)) cs := by
  have hc := ev_lcF (wd := tab.at n (j+1)) (elt := .call 21 0 (.cons (.var 2) .nil) .nil) (it := .itt (.var 0)) (tg := [2]) (one := true) (own := [("item", 2)]) (fr := [some (.d (.tup ds)), some (.d (.int k)), none]) (cs := cs) (c1 := cs) ds (fun d => d) (fun d => D.bl (isIntD d)) (by simp) (fun d hd => ⟨_, rfl, fun acc => by
    have hi := int_run (n := n) (j := j) (h d hd) (cs ++ [some (.lst acc)])
    simp [wipeF, srcs, callW, hi]⟩) (by omega)
  have ha := all_run isIntD ds cs
  rw [Tab.phi_s (s := s14) (nl := 3) rfl]
  unfold fnRun s14
  by_cases e : (ds.length : Int) = k
  · subst e
    simp [wIsi, kitAnyD, tyOf, wBi, dl] at hc ha ⊢
    rw [hc]
    simp [ha]
  · simp [wIsi, kitAnyD, tyOf, wBi, dl, e]
theorem row_odd {d : D} (h : Pl d) (hn : ∀ xs, d ≠ .tup xs) (k : Int) (cs : Cells) : (tab.at n (j+2)).phi 14 [.d d, .d (.int k)] cs = .ok (.bl false) cs := by
  rw [Tab.phi_s (s := s14) (nl := 3) rfl]
  unfold fnRun s14
  cases h <;> first | (exact absurd rfl (hn _)) | simp [wIsi, kitAnyD, tyOf]
/-- all items of a tuple are of a kind -/
theorem rows_run {ds : List D} {k : Int} {f : Nat} (hf : okFn tab.st f 0 2 = true) (hp : tab.st.pat f 0 = some (2, [], [.p 0, .p 1])) (h : ∀ d ∈ ds, ∀ cs, (tab.at n j).phi f [.d d, .d (.int k)] cs = .ok (.bl true) cs) (hl : ds.length ≤ 40) (cs : Cells) : (tab.at n (j+1)).phi 17 [.d (.tup ds), .d (.int k), .d (.fn f)] cs = .ok (.bl true) cs := by
  have hc := ev_lcF (wd := tab.at n j) (elt := .callv 2 0 2 (.cons (.var 3) (.cons (.var 1) .nil))) (it := .itt (.var 0)) (tg := [3]) (one := true) (own := [("item", 3)]) (fr := [some (.d (.tup ds)), some (.d (.int k)), some (.d (.fn f)), none]) (cs := cs) (c1 := cs) ds (fun d => d) (fun d => D.bl true) (by simp) (fun d hd => ⟨_, rfl, fun acc => by
    have hi := h d hd (cs ++ [some (.lst acc)])
    simp [wipeF, hf, hp, srcs, callW, hi]⟩) (by omega)
  have ha := all_run (fun _ => true) ds cs
  have e : ds.all (fun _ => true) = true := by simp
  rw [e] at ha
  have hle : ((ds.length : Int) ≤ 40) = True := eq_true (by omega)
  rw [Tab.phi_s (s := s17) (nl := 4) rfl]
  unfold fnRun s17
  simp [wIsi, kitAnyD, tyOf, wBi, dl, hle] at hc ha ⊢
  rw [hc]
  simp [ha]
end
end K28
namespace K28
open PySem L2 BV
/-- a while loop over states; each turn makes m less -/
theorem wh_st {σ : Type} {t : Fra → Cells → R Bool} {f : Fra → Cells → RS} (I : σ → Fra → Cells → Prop) (b : σ → Bool) (m : σ → Nat) (ht : ∀ s fr cs, I s fr cs → t fr cs = .ok (b s) cs)
    (hs : ∀ s fr cs, I s fr cs → b s = true → ∃ s2 fr2 cs2, f fr cs = .nx fr2 cs2 ∧ I s2 fr2 cs2 ∧ m s2 < m s) :
    ∀ (n : Nat) (s : σ) (fr : Fra) (cs : Cells), I s fr cs → m s < n → ∃ s' fr' cs', whGo t f n fr cs = .nx fr' cs' ∧ I s' fr' cs' ∧ b s' = false
  | 0, s, fr, cs, _, h => absurd h (Nat.not_lt_zero _)
  | n + 1, s, fr, cs, i, h => by
    rw [whGo, ht s fr cs i, onE_ok]
    cases hb : b s with
    | false => exact ⟨s, fr, cs, by simp, i, hb⟩
    | true =>
      obtain ⟨s2, fr2, cs2, e, i2, h2⟩ := hs s fr cs i hb
      obtain ⟨s', fr', cs', q1, q2, q3⟩ := wh_st I b m ht hs n s2 fr2 cs2 i2 (by omega)
      exact ⟨s', fr', cs', by simp only [if_true, e, loop_nx, q1], q2, q3⟩
theorem evL_lcQ {ι : Type} {wd : Wd} {elt it conds : E} {tg : List Nat} {one : Bool} {own : List (Str × Nat)} {fr : Fra} {cs c1 : Cells} (l : List ι) (e f : ι → D) (p : ι → Bool) (hi : evI wd it fr cs = .ok (l.map e) c1)
    (h : ∀ i ∈ l, ∃ fr1, setTg tg one (e i) (wipeF fr (own.map (·.2))) = some fr1 ∧ ∀ acc, asB (evAnd wd conds fr1 (c1 ++ [some (.lst acc)])) = .ok (p i) (c1 ++ [some (.lst acc)]) ∧ (p i = true → ev wd elt fr1 (c1 ++ [some (.lst acc)]) = .ok (.d (f i)) (c1 ++ [some (.lst acc)]))) (hl : l.length < 16777216) :
    evL wd (.lc elt it conds tg one own) fr cs = .ok () (c1 ++ [some (.lst ((l.filter p).map f))]) := by
  show (evI wd it fr cs).bind _ = _
  rw [hi, bind_ok, lcGo_fun e f p l [] h (by simpa using hl)]
  simp
theorem any_ints (x : Int) : ∀ ys : List Int, ((ys.map PyData.int).any fun z => PyData.eqv z (.int x)) = ys.contains x
  | [] => rfl
  | y :: ys => by rw [List.map_cons, List.any_cons, any_ints x ys, List.contains_cons, eqv_int, Bool.beq_comm]
theorem in_ints (x : Int) (l : List Int) (cs : Cells) : wCmp .In (.d (.int x)) (.d (.lst (l.map .int))) cs = .ok (.d (.bl (l.contains x))) cs := by
  have e0 : wCmp .In (.d (.int x)) (.d (.lst (l.map .int))) cs = wIn false (.d (.int x)) (.d (.lst (l.map .int))) cs := rfl
  rw [e0]
  simp only [wIn, wPy, toPy, dl, toPyL_ints, shaped_int, shaped_ints, and_self, if_true, any_ints]
  simp
theorem nin_ints (x : Int) (l : List Int) (cs : Cells) : wCmp .NotIn (.d (.int x)) (.d (.lst (l.map .int))) cs = .ok (.d (.bl (!l.contains x))) cs := by
  have e0 : wCmp .NotIn (.d (.int x)) (.d (.lst (l.map .int))) cs = wIn true (.d (.int x)) (.d (.lst (l.map .int))) cs := rfl
  rw [e0]
  simp only [wIn, wPy, toPy, dl, toPyL_ints, shaped_int, shaped_ints, and_self, if_true, any_ints]
theorem ne_nil_ints (l : List Int) (cs : Cells) : wCmp .NotEq (.d (.lst (l.map .int))) (.d (.lst [])) cs = .ok (.d (.bl (!l.isEmpty))) cs := by
  have h := wCmp_ne_ints l [] cs
  simp only [List.map_nil] at h
  rw [h]
  cases l <;> simp
/-! ### no ring -/
def endsL (L : List Lk) (rest : List Int) : List Int := (L.filter fun p => rest.contains p.1).map (·.2.1)
def freeL (L : List Lk) (rest : List Int) : List Int := rest.filter fun v => !(endsL L rest).contains v
def restL (L : List Lk) (rest : List Int) : List Int := rest.filter fun v => !(freeL L rest).contains v
theorem free_nil {L : List Lk} {pos : Int → Nat} (h : ∀ p ∈ L, pos p.1 < pos p.2.1) {rest : List Int} (hf : freeL L rest = []) : rest = [] := by
  have key : ∀ v ∈ rest, ∃ u ∈ rest, pos u < pos v := fun v hv => by
    have h1 : v ∉ freeL L rest := by rw [hf]; simp
    unfold freeL at h1
    rw [List.mem_filter] at h1
    have h2 : (endsL L rest).contains v = true := by
      cases e : (endsL L rest).contains v with
      | true => rfl
      | false => exact absurd ⟨hv, by rw [e]; rfl⟩ h1
    have h2 : v ∈ endsL L rest := by simpa using h2
    unfold endsL at h2
    obtain ⟨p, hp, e⟩ := List.mem_map.mp h2
    obtain ⟨hp1, hp2⟩ := List.mem_filter.mp hp
    exact ⟨p.1, by simpa using hp2, by rw [← e]; exact h p hp1⟩
  have none : ∀ (k : Nat) (v : Int), v ∈ rest → pos v ≤ k → False := by
    intro k
    induction k with
    | zero =>
      intro v hv hk
      obtain ⟨u, _, hu⟩ := key v hv
      omega
    | succ k ih =>
      intro v hv hk
      obtain ⟨u, hu, hlt⟩ := key v hv
      exact ih u hu (by omega)
  cases rest with
  | nil => rfl
  | cons v r => exact (none (pos v) v (List.mem_cons_self ..) (Nat.le_refl _)).elim
theorem rest_lt {L : List Lk} {rest : List Int} (hf : freeL L rest ≠ []) : (restL L rest).length < rest.length := by
  obtain ⟨v, hv⟩ := List.exists_mem_of_ne_nil _ hf
  unfold restL
  refine List.length_filter_lt_length_iff_exists.mpr ⟨v, ?_, by simpa using hv⟩
  unfold freeL at hv
  exact (List.mem_filter.mp hv).1
theorem rest_same {L : List Lk} {rest : List Int} (hf : freeL L rest = []) : restL L rest = rest := by
  unfold restL
  rw [hf]
  simp
def Fz (o : Option W) : Prop := ∀ n xs, frzW n xs o = o
theorem fz_none : Fz none := fun _ _ => rfl
theorem fz_d (d : D) : Fz (some (.d d)) := fun _ _ => rfl
section
variable {n j b : Nat} {cs : Cells}
def sRing : S := (.cons (.setL 6 (.lc (.var 8) (.itt (.var 1)) (.cons (.cmp .In (.var 7) (.var 2)) .nil) [7, 8, 9] false [("i", 7), ("j", 8), ("d", 9)])) (.cons (.frz 6) (.cons (.setL 5 (.lc (.var 4) (.itl (.var 2)) (.cons (.cmp .NotIn (.var 4) (.var 6)) .nil) [4] true [("v", 4)])) (.cons (.frz 5) (.cons (.set 3 (.cmp .NotEq (.var 5) (.lst .nil))) (.cons (.setL 2 (.lc (.var 4) (.itl (.var 2)) (.cons (.cmp .NotIn (.var 4) (.var 5)) .nil) [4] true [("v", 4)])) (.cons (.frz 2) .nil)))))))
def fR (k : Int) (L : List Lk) (rest : List Int) (less : Bool) (o5 o6 : Option W) : Fra := [some (.d (.int k)), some (.d (.tup (L.map lkD))), some (.d (.lst (rest.map .int))), some (.d (.bl less)), none, o5, o6, none, none, none]
theorem ring_turn {k : Int} {L : List Lk} {rest : List Int} {less : Bool} {o5 o6 : Option W} (h5 : Fz o5) (h6 : Fz o6) (hb : b ≤ cs.length) (hL : L.length ≤ 100) (hr : rest.length ≤ 100) :
    exS (tab.at n j) n b sRing (fR k L rest less o5 o6) cs = .nx (fR k L (restL L rest) (!(freeL L rest).isEmpty) (some (.d (.lst ((freeL L rest).map .int)))) (some (.d (.lst ((endsL L rest).map .int))))) (cs ++ [none] ++ [none] ++ [none]) := by
  have l1 := evL_lcQ (wd := tab.at n j) (elt := .var 8) (it := .itt (.var 1)) (conds := .cons (.cmp .In (.var 7) (.var 2)) .nil) (tg := [7, 8, 9]) (one := false) (own := [("i", 7), ("j", 8), ("d", 9)]) (fr := fR k L rest less o5 o6) (cs := cs) (c1 := cs) L lkD (fun p => D.int p.2.1) (fun p => rest.contains p.1) (by simp [fR]) (fun p hp => ⟨_, rfl, fun acc => ⟨by simp [fR, wipeF, in_ints], fun _ => by simp [fR, wipeF]⟩⟩) (by omega)
  have e1 : ((L.filter fun p => rest.contains p.1).map fun p => D.int p.2.1) = (endsL L rest).map .int := by unfold endsL; rw [List.map_map]; rfl
  rw [e1] at l1
  have l2 := evL_lcQ (wd := tab.at n j) (elt := .var 4) (it := .itl (.var 2)) (conds := .cons (.cmp .NotIn (.var 4) (.var 6)) .nil) (tg := [4]) (one := true) (own := [("v", 4)]) (fr := fR k L rest less o5 (some (.d (.lst ((endsL L rest).map .int))))) (cs := cs ++ [none]) (c1 := cs ++ [none]) rest D.int D.int (fun v => !(endsL L rest).contains v) (by simp [fR]) (fun p hp => ⟨_, rfl, fun acc => ⟨by simp [fR, wipeF, nin_ints], fun _ => by simp [fR, wipeF]⟩⟩) (by omega)
  have l3 := evL_lcQ (wd := tab.at n j) (elt := .var 4) (it := .itl (.var 2)) (conds := .cons (.cmp .NotIn (.var 4) (.var 5)) .nil) (tg := [4]) (one := true) (own := [("v", 4)]) (fr := fR k L rest (!(freeL L rest).isEmpty) (some (.d (.lst ((freeL L rest).map .int)))) (some (.d (.lst ((endsL L rest).map .int))))) (cs := cs ++ [none] ++ [none]) (c1 := cs ++ [none] ++ [none]) rest D.int D.int (fun v => !(freeL L rest).contains v) (by simp [fR]) (fun p hp => ⟨_, rfl, fun acc => ⟨by simp [fR, wipeF, nin_ints], fun _ => by simp [fR, wipeF]⟩⟩) (by omega)
  have g1 : (rest.filter fun v => !(endsL L rest).contains v) = freeL L rest := rfl
  have g2 : (rest.filter fun v => !(freeL L rest).contains v) = restL L rest := rfl
  rw [g1] at l2
  rw [g2] at l3
  have f1 : frzR b 6 [some (.d (.int k)), some (.d (.tup (L.map lkD))), some (.d (.lst (rest.map .int))), some (.d (.bl less)), none, o5, some (.loc cs.length), none, none, none] (cs ++ [some (.lst ((endsL L rest).map .int))]) = .nx (fR k L rest less o5 (some (.d (.lst ((endsL L rest).map .int))))) (cs ++ [none]) := by
    simp [frzR, celL, hb, fR, frzW]
    exact h5 _ _
  have f2 : frzR b 5 [some (.d (.int k)), some (.d (.tup (L.map lkD))), some (.d (.lst (rest.map .int))), some (.d (.bl less)), none, some (.loc (cs ++ [none]).length), some (.d (.lst ((endsL L rest).map .int))), none, none, none] (cs ++ [none] ++ [some (.lst ((freeL L rest).map .int))]) = .nx (fR k L rest less (some (.d (.lst ((freeL L rest).map .int)))) (some (.d (.lst ((endsL L rest).map .int))))) (cs ++ [none] ++ [none]) := by
    generalize hc : cs ++ [none] = c1
    have hb1 : b ≤ c1.length := by rw [← hc, List.length_append]; omega
    simp [frzR, celL, hb1, fR, frzW]
  have f3 : frzR b 2 [some (.d (.int k)), some (.d (.tup (L.map lkD))), some (.loc (cs ++ [none] ++ [none]).length), some (.d (.bl (!(freeL L rest).isEmpty))), none, some (.d (.lst ((freeL L rest).map .int))), some (.d (.lst ((endsL L rest).map .int))), none, none, none] (cs ++ [none] ++ [none] ++ [some (.lst ((restL L rest).map .int))]) = .nx (fR k L (restL L rest) (!(freeL L rest).isEmpty) (some (.d (.lst ((freeL L rest).map .int)))) (some (.d (.lst ((endsL L rest).map .int))))) (cs ++ [none] ++ [none] ++ [none]) := by
    generalize hc : cs ++ [none] ++ [none] = c1
    have hb1 : b ≤ c1.length := by rw [← hc, List.length_append, List.length_append]; omega
    simp [frzR, celL, hb1, fR, frzW]
  have set5 : ∀ w : Option W, (fR k L rest less o5 (some (.d (.lst ((endsL L rest).map .int))))).set 5 w = [some (.d (.int k)), some (.d (.tup (L.map lkD))), some (.d (.lst (rest.map .int))), some (.d (.bl less)), none, w, some (.d (.lst ((endsL L rest).map .int))), none, none, none] := fun _ => rfl
  have set2 : ∀ w : Option W, (fR k L rest (!(freeL L rest).isEmpty) (some (.d (.lst ((freeL L rest).map .int)))) (some (.d (.lst ((endsL L rest).map .int))))).set 2 w = [some (.d (.int k)), some (.d (.tup (L.map lkD))), w, some (.d (.bl (!(freeL L rest).isEmpty))), none, some (.d (.lst ((freeL L rest).map .int))), some (.d (.lst ((endsL L rest).map .int))), none, none, none] := fun _ => rfl
  unfold sRing
  rw [x_cons, x_setL, l1, onE_ok, sbind_nx, x_cons, x_frz]
  have len1 : ∀ (c : Cells) (x : Option Cell), (c ++ [x]).length - 1 = c.length := fun c x => by simp
  rw [len1]
  rw [show (fR k L rest less o5 o6).set 6 (some (.loc cs.length)) = [some (.d (.int k)), some (.d (.tup (L.map lkD))), some (.d (.lst (rest.map .int))), some (.d (.bl less)), none, o5, some (.loc cs.length), none, none, none] from rfl, f1, sbind_nx]
  rw [x_cons, x_setL, l2, onE_ok, sbind_nx, x_cons, x_frz, len1]
  rw [set5, f2, sbind_nx]
  have s3 : exS (tab.at n j) n b (.set 3 (.cmp .NotEq (.var 5) (.lst .nil))) (fR k L rest less (some (.d (.lst ((freeL L rest).map .int)))) (some (.d (.lst ((endsL L rest).map .int))))) (cs ++ [none] ++ [none]) = .nx (fR k L rest (!(freeL L rest).isEmpty) (some (.d (.lst ((freeL L rest).map .int)))) (some (.d (.lst ((endsL L rest).map .int))))) (cs ++ [none] ++ [none]) := by
    simp [fR, lstW, pureDs, lit, ne_nil_ints]
  rw [x_cons, s3, sbind_nx, x_cons, x_setL, l3, onE_ok, sbind_nx, x_cons, x_frz, len1]
  rw [set2, f3, sbind_nx, x_nil]
theorem rngD_ints (k : Nat) : rngD 0 (k : Int) = ((List.range k).map fun i : Nat => (i : Int)).map D.int := by
  rw [rngD0, List.map_map]
  rfl
theorem small_of {k : Nat} (hk : k ≤ 100) : (small62 (k : Int) && decide ((k : Int) ≤ 16777216)) = true := by
  have h1 : (k : Int) ≤ 100 := by omega
  have h2 : (0 : Int) ≤ k := by omega
  unfold small62
  rw [Bool.and_eq_true, decide_eq_true_eq, decide_eq_true_eq]
  exact ⟨⟨Int.le_trans (by decide) h2, Int.lt_of_le_of_lt h1 (by decide)⟩, Int.le_trans h1 (by decide)⟩
theorem lrng_run {k : Nat} (hk : k ≤ 100) (cs : Cells) (fr : Fra) : ev (tab.at n j) (.lrng (.var 0)) ((some (.d (.int k))) :: fr) cs = .ok (.d (.lst (rngD 0 k))) cs := by
  have h := small_of hk
  rw [v_lrng, v_var, List.getElem?_cons_zero]
  dsimp only
  rw [asI_ok, bind_ok, if_pos h]
theorem ring_start {L : List Lk} {k : Nat} (hk : k ≤ 100) (cs : Cells) : exS (tab.at n j) n b (.set 2 (.lrng (.var 0))) [some (.d (.int k)), some (.d (.tup (L.map lkD))), none, none, none, none, none, none, none, none] cs = .nx [some (.d (.int k)), some (.d (.tup (L.map lkD))), some (.d (.lst (((List.range k).map fun i : Nat => (i : Int)).map D.int))), none, none, none, none, none, none, none] cs := by
  rw [x_set, lrng_run hk, onE_ok, rngD_ints]
  simp only [List.set_cons_succ, List.set_cons_zero]
theorem ring_loop {L : List Lk} {k : Nat} (hL : L.length ≤ 100) (hk : k ≤ 100) (hn : 110 ≤ n) (cs : Cells) (b : Nat) (hb : b = cs.length) : ∃ rest o5 o6 ext, whGo (tst (tab.at n j) (.var 3)) (exS (tab.at n j) n b sRing) n (fR k L ((List.range k).map fun i : Nat => (i : Int)) true none none) cs = .nx (fR k L rest false o5 o6) (cs ++ ext) ∧ freeL L rest = [] := by
  obtain ⟨s, fr', cs', q1, ⟨o5, o6, ext, hf, hc, h5, h6, hr, hz⟩, q3⟩ := wh_st (t := tst (tab.at n j) (.var 3)) (f := exS (tab.at n j) n b sRing) (fun (s : List Int × Bool) fr c => ∃ o5 o6 ext, fr = fR k L s.1 s.2 o5 o6 ∧ c = cs ++ ext ∧ Fz o5 ∧ Fz o6 ∧ s.1.length ≤ 100 ∧ (s.2 = false → freeL L s.1 = [])) (fun s => s.2) (fun s => s.1.length + if s.2 then 1 else 0)
    (fun s fr c ⟨o5, o6, ext, hf, hc, _⟩ => by
      subst hf
      simp [tst, fR])
    (fun s fr c ⟨o5, o6, ext, hf, hc, h5, h6, hr, hz⟩ hs => by
      subst hf hc
      obtain ⟨rest, less⟩ := s
      simp only at hs hr hz
      subst hs
      refine ⟨(restL L rest, !(freeL L rest).isEmpty), _, _, ring_turn h5 h6 (by rw [List.length_append]; omega) hL hr, ⟨_, _, ext ++ [none] ++ [none] ++ [none], rfl, by simp, fz_d _, fz_d _, ?_, ?_⟩, ?_⟩
      · exact Nat.le_trans (List.length_filter_le _ _) hr
      · intro e
        have e : freeL L rest = [] := by simpa using e
        simp only [rest_same e, e]
      · by_cases e : freeL L rest = []
        · simp [rest_same e, e]
        · have := rest_lt e
          cases e2 : freeL L rest with
          | nil => exact absurd e2 e
          | cons _ _ => simp; exact this)
    n ((List.range k).map fun i : Nat => (i : Int), true) (fR k L ((List.range k).map fun i : Nat => (i : Int)) true none none) cs ⟨none, none, [], rfl, by simp, fz_none, fz_none, by simpa using hk, fun e => by cases e⟩ (by simp; omega)
  subst hf hc
  obtain ⟨rest, less⟩ := s
  simp only at q3 hz
  subst q3
  exact ⟨rest, o5, o6, ext, q1, hz rfl⟩
theorem ring_run {L : List Lk} {pos : Int → Nat} {k : Nat} (h : ∀ p ∈ L, pos p.1 < pos p.2.1) (hL : L.length ≤ 100) (hk : k ≤ 100) (hn : 110 ≤ n) (cs : Cells) : (tab.at n (j+1)).phi 16 [.d (.int k), .d (.tup (L.map lkD))] cs = .ok (.bl false) cs := by
  obtain ⟨rest, o5, o6, ext, q1, q2⟩ := ring_loop (n := n) (j := j) hL hk hn cs cs.length rfl
  have hn0 : rest = [] := free_nil h q2
  subst hn0
  have hne := ne_nil_ints [] (cs ++ ext)
  simp only [List.map_nil, List.isEmpty_nil, Bool.not_true] at hne
  rw [Tab.phi_s (s := s16) (nl := 10) rfl]
  unfold fnRun s16
  rw [← sRing, show startF 10 [.d (.int k), .d (.tup (L.map lkD))] = [some (.d (.int k)), some (.d (.tup (L.map lkD))), none, none, none, none, none, none, none, none] from rfl]
  have st1 := ring_start (n := n) (j := j) (b := cs.length) (L := L) hk cs
  have set3 : ∀ (w v : Option W), ([some (.d (.int k)), some (.d (.tup (L.map lkD))), w, none, none, none, none, none, none, none] : Fra).set 3 v = [some (.d (.int k)), some (.d (.tup (L.map lkD))), w, v, none, none, none, none, none, none] := fun _ _ => rfl
  rw [fR] at q1
  rw [x_cons, st1, sbind_nx, x_cons, x_set, v_cst, onE_ok, sbind_nx, x_cons, x_wh, set3, q1, sbind_nx]
  simp [fR, lstW, pureDs, lit, hne]
end
end K28
namespace K28
open PySem L2 BV
def prD (p : Lk) : D := .tup [.int p.1, .int p.2.1]
def prP (p : Lk) : PyData := .tuple [.int p.1, .int p.2.1]
theorem toPyL_prs : ∀ L : List Lk, toPyL (L.map prD) = some (L.map prP)
  | [] => rfl
  | p :: L => by
    have h := toPyL_prs L
    rw [List.map_cons, toPyL, h]
    rfl
theorem shaped_prs (L : List Lk) : SeqAt.shaped (.list (L.map prP)) = true := by
  have h1 : ∀ L : List Lk, PyData.canLayAll0 (L.map prP) = true := fun L => by
    induction L with
    | nil => rfl
    | cons n ns ih => rw [List.map_cons, PyData.canLayAll0, ih]; rfl
  have h2 : ∀ L : List Lk, PyData.depthAll (L.map prP) ≤ 2 := fun L => by
    induction L with
    | nil => decide
    | cons n ns ih => rw [List.map_cons, PyData.depthAll]; exact Nat.max_le.mpr ⟨Nat.le_of_lt_succ (by show PyData.depth (.tuple [.int _, .int _]) < 3; simp [PyData.depth, PyData.depthAll]), ih⟩
  simp only [SeqAt.shaped, PyData.canLay0, PyData.depth, h1, Bool.true_and, decide_eq_true_eq]
  have h3 := h2 L
  refine decide_eq_true ?_
  omega
theorem in_prs {i l d : Int} {L : List Lk} (h : (i, l, d) ∈ L) (cs : Cells) : wCmp .In (.d (.tup [.int i, .int l])) (.d (.lst (L.map prD))) cs = .ok (.d (.bl true)) cs := by
  have e0 : wCmp .In (.d (.tup [.int i, .int l])) (.d (.lst (L.map prD))) cs = wIn false (.d (.tup [.int i, .int l])) (.d (.lst (L.map prD))) cs := rfl
  have hs : SeqAt.shaped (.tuple [.int i, .int l]) = true := rfl
  have ha : ((L.map prP).any fun z => PyData.eqv z (.tuple [.int i, .int l])) = true := by
    rw [List.any_eq_true]
    exact ⟨prP (i, l, d), List.mem_map.mpr ⟨_, h, rfl⟩, by simp [prP, PyData.eqv, PyData.eqvAll]⟩
  rw [e0]
  simp only [wIn, wPy, toPy, toPyL, dl, toPyL_prs, hs, shaped_prs, and_self, if_true, ha, Option.map_some]
  rfl
/-- a call with two variables, the table out of sight (the kernel would run it) -/
theorem call2 {wd : Wd} {f p i l : Nat} {fr : Fra} {cs c1 : Cells} {w1 w2 : W} {d : D} (h1 : fr[i]? = some (some w1)) (h2 : fr[l]? = some (some w2)) (hp : wd.pat f p = some (2, [], [.p 0, .p 1])) (h : wd.phi f [w1, w2] cs = .ok d c1) : ev wd (.call f p (.cons (.var i) (.cons (.var l) .nil)) .nil) fr cs = .ok (.d d) c1 := by
  rw [v_call, vA_cons, v_var, h1]
  simp only [bind_ok]
  rw [vA_cons, v_var, h2]
  simp only [bind_ok, vA_nil, hp, Option.bind_some]
  simp [srcs, callW, h]
section
variable {n j : Nat} {cs : Cells} {P : Pb} {pos : Int → Nat}
theorem all_int : ∀ r : List Int, (r.map D.int).all isIntD = true
  | [] => rfl
  | _ :: r => all_int r
theorem row_good {r : List Int} {k : Nat} (hl : r.length = k) (hk : k ≤ 100) (cs : Cells) : (tab.at n (j+2)).phi 14 [.d (.tup (r.map .int)), .d (.int k)] cs = .ok (.bl true) cs := by
  have hr := row_run (n := n) (j := j) (ds := r.map D.int) (k := (k : Int)) (fun d hd => by
    obtain ⟨f, _, rfl⟩ := List.mem_map.mp hd
    exact .int f) (by rw [List.length_map]; omega) cs
  rw [all_int, List.length_map, hl] at hr
  simpa using hr
theorem lows_run (ok : P.Ok pos) {fr : Fra} (h2 : fr[2]? = some (some (.d (.tup (P.F.map .int))))) (h9 : 9 < fr.length) (cs : Cells) : ev (tab.at n j) (.bi .all (.cons (.lc (.chain .LtE .LtE (.cst (.int 0)) (.var 9) (.gv "MAX_NUMBER")) (.itt (.var 2)) .nil [9] true [("low", 9)]) .nil)) fr cs = .ok (.d (.bl true)) cs := by
  have hc := ev_lcF (wd := tab.at n j) (elt := .chain .LtE .LtE (.cst (.int 0)) (.var 9) (.gv "MAX_NUMBER")) (it := .itt (.var 2)) (tg := [9]) (one := true) (own := [("low", 9)]) (fr := fr) (cs := cs) (c1 := cs) P.F D.int (fun _ => D.bl true) (by simp [h2]) (fun f hf => ⟨_, rfl, fun acc => by
    obtain ⟨a, b⟩ := ok.F9 f hf
    have a' : (0 ≤ f) = True := eq_true a
    have b' : (f ≤ 1000000) = True := eq_true (by omega)
    simp [wipeF, h9, a', b']⟩) (by rw [ok.Fl]; have := ok.n6; omega)
  have ha := all_run (fun _ => true) P.F cs
  have e : P.F.all (fun _ => true) = true := by simp
  rw [e] at ha
  rw [v_bi, vA_cons, hc]
  simp [ha]
theorem lines_run (ok : P.Ok pos) {fr : Fra} (h3 : fr[3]? = some (some (.d (.tup (P.C.map coD))))) (h5 : fr[5]? = some (some (.d (.lst (P.L.map prD))))) (h4 : 4 < fr.length) (cs : Cells) : ev (tab.at n j) (.bi .all (.cons (.lc (.cmp .In (.sl (.var 4) (.cons (.cst (.int 1)) .nil) (.cons (.cst (.int 3)) .nil)) (.var 5)) (.itt (.var 3)) (.cons (.cmp .Eq (.ix (.var 4) (.cst (.int 0))) (.cst (.str "line"))) .nil) [4] true [("term", 4)]) .nil)) fr cs = .ok (.d (.bl true)) cs := by
  have h5' : (fr.set 4 none)[5]? = some (some (.d (.lst (P.L.map prD)))) := by rw [List.getElem?_set_ne (by decide)]; exact h5
  have hc := ev_lcP (wd := tab.at n j) (elt := .cmp .In (.sl (.var 4) (.cons (.cst (.int 1)) .nil) (.cons (.cst (.int 3)) .nil)) (.var 5)) (it := .itt (.var 3)) (conds := .cons (.cmp .Eq (.ix (.var 4) (.cst (.int 0))) (.cst (.str "line"))) .nil) (tg := [4]) (one := true) (own := [("term", 4)]) (fr := fr) (cs := cs) (c1 := cs) P.C coD (fun _ => D.bl true) (fun c => match c with | .line .. => true | .bend .. => false) (by simp [h3]) (fun c hc => ⟨_, rfl, fun acc => by
    have hok := ok.co c hc
    cases c with
    | line i l w =>
      obtain ⟨⟨d, hd⟩, _⟩ := hok
      have hsl : ∀ cs, wSl (.d (.tup [.str "line", .int i, .int l, .int w])) (some 1) (some 3) cs = .ok (.d (.tup [.int i, .int l])) cs := fun _ => rfl
      refine ⟨?_, fun _ => ?_⟩
      · simp [wipeF, h4, coD, ix_tup (a4_0 _ _ _ _), eq_ll]
      · simp [wipeF, h4, coD, hsl, List.getElem?_set, h5, in_prs hd]
    | bend i l d w =>
      refine ⟨?_, fun e => by cases e⟩
      simp [wipeF, h4, coD, ix_tup (a5_0 _ _ _ _ _), eq_bl]⟩) (by have := ok.Cl; omega)
  have ha := all_run (fun _ => true) (P.C.filter fun c => match c with | .line .. => true | .bend .. => false) cs
  have e : (P.C.filter fun c => match c with | .line .. => true | .bend .. => false).all (fun _ => true) = true := by simp
  rw [e] at ha
  rw [v_bi, vA_cons, hc]
  simp [ha]
theorem need_run (ok : P.Ok pos) (hn : 110 ≤ n) (cs : Cells) : (tab.at n (j+6)).phi 13 [.d (.int P.n), .d (.tup (P.L.map lkD)), .d (.tup (P.F.map .int)), .d (.tup (P.C.map coD))] cs = .ok .non cs := by
  have hsz := fun cs => among_run (n := n) (j := j + 3) (P.n : Int) 0 12 cs
  have hb := fun cs => rows_run (n := n) (j := j + 4) (ds := P.L.map lkD) (k := (P.n : Int)) (f := 19) (by kernel_rfl) (by simp) (fun d hd cs => by
    obtain ⟨p, hp, rfl⟩ := List.mem_map.mp hd
    obtain ⟨q1, q2, q3, q4, q5⟩ := ok.lk p hp
    exact bound_run q1 q2 (fun e => by rw [e] at q3; omega) q4 q5 cs) (by rw [List.length_map]; have := ok.Ll; omega) cs
  have ht := fun cs => rows_run (n := n) (j := j + 4) (ds := P.C.map coD) (k := (P.n : Int)) (f := 18) (by kernel_rfl) (by simp) (fun d hd cs => by
    obtain ⟨c, hc, rfl⟩ := List.mem_map.mp hd
    exact term_run ok (ok.co c hc) cs) (by rw [List.length_map]; have := ok.Cl; omega) cs
  have hr := fun cs => row_good (n := n) (j := j + 3) ok.Fl (by have := ok.n6; omega) cs
  have hring := fun cs => ring_run (n := n) (j := j + 4) (L := P.L) (pos := pos) (k := P.n) (fun p hp => (ok.lk p hp).2.2.1) (by have := ok.Ll; omega) (by have := ok.n6; omega) hn cs
  have hlc := evL_lcQ (wd := tab.at n (j+5)) (elt := .tup (.cons (.var 6) (.cons (.var 7) .nil))) (it := .itt (.var 1)) (conds := .nil) (tg := [6, 7, 8]) (one := false) (own := [("i", 6), ("j", 7), ("d", 8)]) (fr := [some (.d (.int P.n)), some (.d (.tup (P.L.map lkD))), some (.d (.tup (P.F.map .int))), some (.d (.tup (P.C.map coD))), none, none, none, none, none, none]) (cs := cs) (c1 := cs) P.L lkD prD (fun _ => true) (by simp) (fun p hp => ⟨_, rfl, fun acc => ⟨by simp, fun _ => by simp [wipeF, tupW, pureDs, lit, prD]⟩⟩) (by have := ok.Ll; omega)
  have e0 : (P.L.filter fun _ => true) = P.L := List.filter_eq_self.mpr fun _ _ => rfl
  rw [e0] at hlc
  have n1 : (0 ≤ (P.n : Int)) = True := eq_true (by omega)
  have n2 : ((P.n : Int) ≤ 12) = True := eq_true (by have := ok.n6; omega)
  have hlow := fun cs => lows_run (n := n) (j := j + 5) ok (fr := [some (.d (.int P.n)), some (.d (.tup (P.L.map lkD))), some (.d (.tup (P.F.map .int))), some (.d (.tup (P.C.map coD))), none, none, none, none, none, none]) rfl (by simp) cs
  have hlin := fun cs => lines_run (n := n) (j := j + 5) ok (fr := [some (.d (.int P.n)), some (.d (.tup (P.L.map lkD))), some (.d (.tup (P.F.map .int))), some (.d (.tup (P.C.map coD))), none, some (.d (.lst (P.L.map prD))), none, none, none, none]) rfl rfl (by simp) cs
  have isn : ∀ (xs : List D) cs, wCmp .IsNot (.d (.tup xs)) (.d .non) cs = .ok (.d (.bl true)) cs := fun _ _ => rfl
  have t0 : exS (tab.at n (j+5)) n cs.length (.ife (.not (.call 20 0 (.cons (.var 0) (.cons (.cst (.int 0)) (.cons (.gv "MAX_SIZE") .nil))) .nil)) (.cons (.raise 0 (.cst (.str "no number of variables"))) .nil) .nil) [some (.d (.int P.n)), some (.d (.tup (P.L.map lkD))), some (.d (.tup (P.F.map .int))), some (.d (.tup (P.C.map coD))), none, none, none, none, none, none] cs = .nx [some (.d (.int P.n)), some (.d (.tup (P.L.map lkD))), some (.d (.tup (P.F.map .int))), some (.d (.tup (P.C.map coD))), none, none, none, none, none, none] cs := by
    simp [srcs, callW, hsz, n1, n2]
  have t1 : exS (tab.at n (j+5)) n cs.length (.ife (.not (.call 17 0 (.cons (.var 1) (.cons (.var 0) (.cons (.gv "is_bound") .nil))) .nil)) (.cons (.raise 0 (.cst (.str "no bounds"))) .nil) .nil) [some (.d (.int P.n)), some (.d (.tup (P.L.map lkD))), some (.d (.tup (P.F.map .int))), some (.d (.tup (P.C.map coD))), none, none, none, none, none, none] cs = .nx [some (.d (.int P.n)), some (.d (.tup (P.L.map lkD))), some (.d (.tup (P.F.map .int))), some (.d (.tup (P.C.map coD))), none, none, none, none, none, none] cs := by
    simp [srcs, callW, hb]
  have t2 : exS (tab.at n (j+5)) n cs.length (.ife (.and (.cons (.cmp .IsNot (.var 2) (.cst .non)) (.cons (.not (.and (.cons (.call 14 0 (.cons (.var 2) (.cons (.var 0) .nil)) .nil) (.cons (.bi .all (.cons (.lc (.chain .LtE .LtE (.cst (.int 0)) (.var 9) (.gv "MAX_NUMBER")) (.itt (.var 2)) .nil [9] true [("low", 9)]) .nil)) .nil)))) .nil))) (.cons (.raise 0 (.cst (.str "no lows"))) .nil) .nil) [some (.d (.int P.n)), some (.d (.tup (P.L.map lkD))), some (.d (.tup (P.F.map .int))), some (.d (.tup (P.C.map coD))), none, none, none, none, none, none] cs = .nx [some (.d (.int P.n)), some (.d (.tup (P.L.map lkD))), some (.d (.tup (P.F.map .int))), some (.d (.tup (P.C.map coD))), none, none, none, none, none, none] cs := by
    simp [srcs, callW, hr, isn, hlow, -v_bi]
  have t3 : exS (tab.at n (j+5)) n cs.length (.ife (.not (.call 17 0 (.cons (.var 3) (.cons (.var 0) (.cons (.gv "is_term") .nil))) .nil)) (.cons (.raise 0 (.cst (.str "no terms"))) .nil) .nil) [some (.d (.int P.n)), some (.d (.tup (P.L.map lkD))), some (.d (.tup (P.F.map .int))), some (.d (.tup (P.C.map coD))), none, none, none, none, none, none] cs = .nx [some (.d (.int P.n)), some (.d (.tup (P.L.map lkD))), some (.d (.tup (P.F.map .int))), some (.d (.tup (P.C.map coD))), none, none, none, none, none, none] cs := by
    simp [srcs, callW, ht]
  have t4 : exS (tab.at n (j+5)) n cs.length (.setL 5 (.lc (.tup (.cons (.var 6) (.cons (.var 7) .nil))) (.itt (.var 1)) .nil [6, 7, 8] false [("i", 6), ("j", 7), ("d", 8)])) [some (.d (.int P.n)), some (.d (.tup (P.L.map lkD))), some (.d (.tup (P.F.map .int))), some (.d (.tup (P.C.map coD))), none, none, none, none, none, none] cs = .nx [some (.d (.int P.n)), some (.d (.tup (P.L.map lkD))), some (.d (.tup (P.F.map .int))), some (.d (.tup (P.C.map coD))), none, some (.loc cs.length), none, none, none, none] (cs ++ [some (.lst (P.L.map prD))]) := by
    rw [x_setL, hlc, onE_ok]
    simp
  have t5 : exS (tab.at n (j+5)) n cs.length (.frz 5) [some (.d (.int P.n)), some (.d (.tup (P.L.map lkD))), some (.d (.tup (P.F.map .int))), some (.d (.tup (P.C.map coD))), none, some (.loc cs.length), none, none, none, none] (cs ++ [some (.lst (P.L.map prD))]) = .nx [some (.d (.int P.n)), some (.d (.tup (P.L.map lkD))), some (.d (.tup (P.F.map .int))), some (.d (.tup (P.C.map coD))), none, some (.d (.lst (P.L.map prD))), none, none, none, none] (cs ++ [none]) := by
    simp [frzR, celL, frzW]
  have t6 : exS (tab.at n (j+5)) n cs.length (.ife (.not (.bi .all (.cons (.lc (.cmp .In (.sl (.var 4) (.cons (.cst (.int 1)) .nil) (.cons (.cst (.int 3)) .nil)) (.var 5)) (.itt (.var 3)) (.cons (.cmp .Eq (.ix (.var 4) (.cst (.int 0))) (.cst (.str "line"))) .nil) [4] true [("term", 4)]) .nil))) (.cons (.raise 0 (.cst (.str "a line term without a bound"))) .nil) .nil) [some (.d (.int P.n)), some (.d (.tup (P.L.map lkD))), some (.d (.tup (P.F.map .int))), some (.d (.tup (P.C.map coD))), none, some (.d (.lst (P.L.map prD))), none, none, none, none] (cs ++ [none]) = .nx [some (.d (.int P.n)), some (.d (.tup (P.L.map lkD))), some (.d (.tup (P.F.map .int))), some (.d (.tup (P.C.map coD))), none, some (.d (.lst (P.L.map prD))), none, none, none, none] (cs ++ [none]) := by
    simp [hlin, -v_bi]
  have t7 : exS (tab.at n (j+5)) n cs.length (.ife (.call 16 0 (.cons (.var 0) (.cons (.var 1) .nil)) .nil) (.cons (.raise 0 (.cst (.str "a ring of bounds"))) .nil) .nil) [some (.d (.int P.n)), some (.d (.tup (P.L.map lkD))), some (.d (.tup (P.F.map .int))), some (.d (.tup (P.C.map coD))), none, some (.d (.lst (P.L.map prD))), none, none, none, none] (cs ++ [none]) = .nx [some (.d (.int P.n)), some (.d (.tup (P.L.map lkD))), some (.d (.tup (P.F.map .int))), some (.d (.tup (P.C.map coD))), none, some (.d (.lst (P.L.map prD))), none, none, none, none] (cs ++ [none]) := by
    have hc := call2 (wd := tab.at n (j+5)) (f := 16) (p := 0) (i := 0) (l := 1) (fr := [some (.d (.int P.n)), some (.d (.tup (P.L.map lkD))), some (.d (.tup (P.F.map .int))), some (.d (.tup (P.C.map coD))), none, some (.d (.lst (P.L.map prD))), none, none, none, none]) rfl rfl (by simp) (hring (cs ++ [none]))
    rw [x_ife, hc, asB_ok, onE_ok, if_neg (by decide), x_nil]
  rw [Tab.phi_s (s := s13) (nl := 10) rfl]
  unfold fnRun s13
  rw [show startF 10 [.d (.int P.n), .d (.tup (P.L.map lkD)), .d (.tup (P.F.map .int)), .d (.tup (P.C.map coD))] = [some (.d (.int P.n)), some (.d (.tup (P.L.map lkD))), some (.d (.tup (P.F.map .int))), some (.d (.tup (P.C.map coD))), none, none, none, none, none, none] from rfl]
  rw [x_cons, t0, sbind_nx, x_cons, t1, sbind_nx, x_cons, t2, sbind_nx, x_cons, t3, sbind_nx, x_cons, t4, sbind_nx, x_cons, t5, sbind_nx, x_cons, t6, sbind_nx, x_cons, t7, sbind_nx, x_nil]
  simp
theorem make_run (ok : P.Ok pos) (hn : 110 ≤ n) (cs : Cells) : makeW (tab.at n (j+7)) 2 0 [.d (.int P.n)] [.d (.tup (P.L.map lkD)), .d (.tup (P.F.map .int)), .d (.tup (P.C.map coD))] cs = .ok (.d (.ins 2 P.fs)) cs := by
  have hnd := fun cs => need_run (n := n) (j := j) ok hn cs
  have isn : ∀ (xs : List D) cs, wCmp .Is (.d (.tup xs)) (.d .non) cs = .ok (.d (.bl false)) cs := fun _ _ => rfl
  have run : (tab.at n (j+7)).phi 9 [.loc cs.length, .d (.int P.n), .d (.tup (P.L.map lkD)), .d (.tup (P.F.map .int)), .d (.tup (P.C.map coD))] (cs ++ [some (.ins 2 [])]) = .ok .non (cs ++ [some (.ins 2 P.fs)]) := by
    rw [Tab.phi_s (s := s9) (nl := 5) rfl]
    unfold fnRun s9
    simp [srcs, callW, hnd, fldR, putD, ofString_inj, isn, Pb.fs]
  simp [makeW, srcs, run, R.trim, madeW]
theorem given_run (ok : P.Ok pos) (hn : 110 ≤ n) (cs : Cells) : (tab.at n (j+8)).phi 6 [.d P.d] cs = .ok (.ins 2 P.fs) cs := by
  have hm := fun cs => make_run (n := n) (j := j) ok hn cs
  rw [Tab.phi_s (s := s6) (nl := 1) rfl]
  unfold fnRun s6
  simp [lookup_size, lookup_links, lookup_floor, lookup_costs, hm]
end
end K28
namespace K28
open PySem L2 BV
/-! ### a row of integers: is it feasible, what does it cost -/
def at' (r : List Int) (i : Int) : Int := r.getD i.toNat 0
def lowsB (F r : List Int) : Bool := (r.zip F).all fun p => decide (p.2 ≤ p.1)
def linksB (L : List Lk) (r : List Int) : Bool := L.all fun p => decide (p.2.2 ≤ at' r p.2.1 - at' r p.1)
def Pb.feas (P : Pb) (r : List Int) : Bool := lowsB P.F r && linksB P.L r
def Co.cost (r : List Int) : Co → Int
  | .line i j w => w * (at' r j - at' r i)
  | .bend i j d w => w * ((at' r j - at' r i - d).natAbs : Int)
def Pb.cost (P : Pb) (r : List Int) : Int := (P.C.map (Co.cost r)).sum
/-- the row as a tuple or a list -/
inductive Rw (r : List Int) : D → Prop
  | tup : Rw r (.tup (r.map .int))
  | lst : Rw r (.lst (r.map .int))
theorem atI_row {r : List Int} {i : Int} {n : Nat} (hl : r.length = n) (h : inR n i) : atI (r.map D.int) i = some (.int (at' r i)) := by
  unfold inR at h
  unfold L2.atI L2.ixN at'
  rw [if_pos h.1, if_pos (by rw [List.length_map]; omega)]
  have : i.toNat < r.length := by omega
  simp [List.getD, this]
theorem ix_row {r : List Int} {d : D} {i : Int} {n : Nat} (hr : Rw r d) (hl : r.length = n) (h : inR n i) (cs : Cells) : wIx (.d d) (.d (.int i)) cs = .ok (.d (.int (at' r i))) cs := by
  cases hr with
  | tup => exact ix_tup (atI_row hl h) cs
  | lst => exact wIx_at (atI_row hl h)
/-- numbers are not greater than that -/
def Sm (r : List Int) : Prop := ∀ v ∈ r, v.natAbs ≤ 2 * 10 ^ 30
theorem sm_at {r : List Int} (h : Sm r) (i : Int) : (at' r i).natAbs ≤ 2 * 10 ^ 30 := by
  unfold at' List.getD
  cases e : r[i.toNat]? with
  | none => simp
  | some v => exact h v (List.mem_of_getElem? e)
theorem mul_ok {w z : Int} (h1 : 1 ≤ w) (h2 : w ≤ 5) (hz : z.natAbs ≤ 5 * 10 ^ 30) (cs : Cells) : wOp .Mult (.d (.int w)) (.d (.int z)) cs = .ok (.d (.int (w * z))) cs := by
  have l1 : w.natAbs.log2 ≤ 5 := Nat.le_trans (Nat.log2_le_self _) (by omega)
  have l2 : z.natAbs.log2 ≤ 200 := by
    by_cases h0 : z.natAbs = 0
    · rw [h0]; decide
    · have h3 : z.natAbs < 2 ^ 200 := Nat.lt_of_le_of_lt hz (by decide)
      exact Nat.le_of_lt ((Nat.log2_lt h0).mpr h3)
  simp [wOp, wMul, wI, fMul, show w.natAbs.log2 + z.natAbs.log2 < 1000000 by omega]
theorem abs_run (z : Int) (cs : Cells) : wBi .abs [.d (.int z)] cs = .ok (.d (.int (z.natAbs : Int))) cs := by
  simp [wBi]
  split <;> omega
section
variable {n j : Nat} {cs : Cells} {P : Pb} {pos : Int → Nat}
theorem co_in (ok : P.Ok pos) {c : Co} (hc : c ∈ P.C) : match c with
    | .line i l w => inR P.n i ∧ inR P.n l ∧ 1 ≤ w ∧ w ≤ 5
    | .bend i l d w => inR P.n i ∧ inR P.n l ∧ -9 ≤ d ∧ d ≤ 9 ∧ 1 ≤ w ∧ w ≤ 5 := by
  have h := ok.co c hc
  cases c with
  | line i l w =>
    obtain ⟨⟨d, hd⟩, w1, w2⟩ := h
    obtain ⟨q1, q2, _⟩ := ok.lk _ hd
    exact ⟨q1, q2, w1, w2⟩
  | bend i l d w =>
    obtain ⟨q1, q2, _, q3, q4, q5, q6⟩ := h
    exact ⟨q1, q2, q3, q4, q5, q6⟩
/-- the program's cost of a term -/
theorem term_cost (ok : P.Ok pos) {c : Co} (hc : c ∈ P.C) {r : List Int} (hl : r.length = P.n) (hs : Sm r) (cs : Cells) : (tab.at n (j+1)).phi 22 [.d (coD c), .d (.tup (r.map .int))] cs = .ok (.int (c.cost r)) cs := by
  have h := co_in ok hc
  have ix := fun i h cs => ix_row (i := i) (.tup (r := r)) hl h cs
  rw [Tab.phi_s (s := s22) (nl := 3) rfl]
  unfold fnRun s22
  cases c with
  | line i l w =>
    obtain ⟨q1, q2, w1, w2⟩ := h
    have s1 := sm_at hs i
    have s2 := sm_at hs l
    have hm := fun cs => mul_ok w1 w2 (z := at' r l - at' r i) (by omega) cs
    simp [coD, ix_tup (a4_0 _ _ _ _), ix_tup (a4_1 _ _ _ _), ix_tup (a4_2 _ _ _ _), ix_tup (a4_3 _ _ _ _), ix i q1, ix l q2, eq_ll, hm, Co.cost]
  | bend i l d w =>
    obtain ⟨q1, q2, d1, d2, w1, w2⟩ := h
    have s1 := sm_at hs i
    have s2 := sm_at hs l
    have hm := fun cs => mul_ok w1 w2 (z := ((at' r l - at' r i - d).natAbs : Int)) (by omega) cs
    have ha := fun cs => abs_run (at' r l - at' r i - d) cs
    simp [coD, ix_tup (a5_0 _ _ _ _ _), ix_tup (a5_1 _ _ _ _ _), ix_tup (a5_2 _ _ _ _ _), ix_tup (a5_3 _ _ _ _ _), ix_tup (a5_4 _ _ _ _ _), ix i q1, ix l q2, eq_bl, ha, hm, Co.cost]
theorem intsOf_map {α : Type} (f : α → Int) (l : List α) : intsOf (l.map fun c => D.int (f c)) = some (l.map f) := by
  induction l with
  | nil => rfl
  | cons c l ih => simp [intsOf, ih]
theorem sum_run (ok : P.Ok pos) {r : List Int} (hl : r.length = P.n) (hs : Sm r) (cs : Cells) : (tab.at n (j+2)).phi 15 [.d (.ins 2 P.fs), .d (.tup (r.map .int))] cs = .ok (.int (P.cost r)) cs := by
  have hf : ∀ cs, fldW (tab.at n (j+1)) (.d (.ins 2 P.fs)) "terms" cs = .ok (.d (.tup (P.C.map coD))) cs := fun cs => by
    simp [fldW, clsOf, Pb.fs, List.lookup_cons, ofString_beq]
  have hc := ev_lcF (wd := tab.at n (j+1)) (elt := .call 22 0 (.cons (.var 2) (.cons (.var 1) .nil)) .nil) (it := .itt (.fld (.var 0) "terms")) (tg := [2]) (one := true) (own := [("term", 2)]) (fr := [some (.d (.ins 2 P.fs)), some (.d (.tup (r.map .int))), none]) (cs := cs) (c1 := cs) P.C coD (fun c => D.int (c.cost r)) (by simp [hf]) (fun c hcm => ⟨_, rfl, fun acc => by
    have h := term_cost (n := n) (j := j) ok hcm hl hs (cs ++ [some (.lst acc)])
    simp [wipeF, srcs, callW, h]⟩) (by have := ok.Cl; omega)
  rw [Tab.phi_s (s := s15) (nl := 3) rfl]
  unfold fnRun s15
  rw [show startF 3 [.d (.ins 2 P.fs), .d (.tup (r.map .int))] = [some (.d (.ins 2 P.fs)), some (.d (.tup (r.map .int))), none] from rfl, x_cons, x_ret, v_bi, vA_cons, hc]
  have hsum : wBi .sum [.d (.lst (P.C.map fun c => D.int (c.cost r)))] cs = .ok (.d (.int (P.cost r))) cs := by
    rw [wBi]
    simp only [dl, Option.bind_some, intsOf_map]
    rfl
  simp [hsum]
end
end K28
namespace K28
open PySem L2 BV
theorem zipD_ints (r F : List Int) : zipD (r.map D.int) (F.map D.int) = (r.zip F).map fun p => D.tup [.int p.1, .int p.2] := by
  unfold zipD
  rw [List.zip_map, List.map_map]
  rfl
theorem eq_nil_ints (l : List Int) (cs : Cells) : wCmp .Eq (.d (.lst (l.map .int))) (.d (.lst [])) cs = .ok (.d (.bl l.isEmpty)) cs := by
  have h := wCmp_eq_ints l [] cs
  simp only [List.map_nil] at h
  rw [h]
  cases l <;> simp
theorem filter_nil_all {α : Type} (p q : α → Bool) (l : List α) (h : ∀ a ∈ l, q a = !p a) : (l.filter q).isEmpty = l.all p := by
  induction l with
  | nil => rfl
  | cons a l ih =>
    have h1 := h a (List.mem_cons_self ..)
    have h2 := ih fun b hb => h b (List.mem_cons_of_mem _ hb)
    cases hp : p a with
    | true => rw [hp] at h1; rw [List.filter_cons_of_neg (by simp [h1]), h2]; simp [hp]
    | false => rw [hp] at h1; rw [List.filter_cons_of_pos (by simp [h1])]; simp [hp]
section
variable {n j : Nat} {cs : Cells} {P : Pb} {pos : Int → Nat}
theorem fs_size (P : Pb) (cs : Cells) : fldW (tab.at n j) (.d (.ins 2 P.fs)) "size" cs = .ok (.d (.int P.n)) cs := by simp [fldW, clsOf, Pb.fs, List.lookup_cons, ofString_beq]
theorem fs_bounds (P : Pb) (cs : Cells) : fldW (tab.at n j) (.d (.ins 2 P.fs)) "bounds" cs = .ok (.d (.tup (P.L.map lkD))) cs := by simp [fldW, clsOf, Pb.fs, List.lookup_cons, ofString_beq]
theorem fs_lows (P : Pb) (cs : Cells) : fldW (tab.at n j) (.d (.ins 2 P.fs)) "lows" cs = .ok (.d (.tup (P.F.map .int))) cs := by simp [fldW, clsOf, Pb.fs, List.lookup_cons, ofString_beq]
theorem feas_run (ok : P.Ok pos) {r : List Int} (hl : r.length = P.n) (cs : Cells) : (tab.at n (j+3)).phi 11 [.d (.ins 2 P.fs), .d (.tup (r.map .int))] cs = .ok (.bl (P.feas r)) cs := by
  have hr := fun cs => row_good (n := n) (j := j) hl (by have := ok.n6; omega) cs
  have ix := fun i h cs => ix_row (i := i) (.tup (r := r)) hl h cs
  have hz : (r.zip P.F).length ≤ 6 := by rw [List.length_zip, hl]; have := ok.n6; omega
  have hc1 := ev_lcF (wd := tab.at n (j+2)) (elt := .cmp .GtE (.var 5) (.var 6)) (it := .zip (.var 1) (.fld (.var 0) "lows")) (tg := [5, 6]) (one := false) (own := [("value", 5), ("low", 6)]) (fr := [some (.d (.ins 2 P.fs)), some (.d (.tup (r.map .int))), none, none, none, none, none]) (cs := cs) (c1 := cs) (r.zip P.F) (fun p => D.tup [.int p.1, .int p.2]) (fun p => D.bl (decide (p.2 ≤ p.1))) (by simp [fs_lows, zipW, zipD_ints]) (fun p hp => ⟨_, rfl, fun acc => by simp [wipeF]⟩) (by omega)
  have ha1 := all_run (fun p : Int × Int => decide (p.2 ≤ p.1)) (r.zip P.F) cs
  have hc2 := ev_lcF (wd := tab.at n (j+2)) (elt := .cmp .GtE (.op .Sub (.ix (.var 1) (.var 3)) (.ix (.var 1) (.var 2))) (.var 4)) (it := .itt (.fld (.var 0) "bounds")) (tg := [2, 3, 4]) (one := false) (own := [("i", 2), ("j", 3), ("d", 4)]) (fr := [some (.d (.ins 2 P.fs)), some (.d (.tup (r.map .int))), none, none, none, none, none]) (cs := cs) (c1 := cs) P.L lkD (fun p => D.bl (decide (p.2.2 ≤ at' r p.2.1 - at' r p.1))) (by simp [fs_bounds]) (fun p hp => ⟨_, rfl, fun acc => by
    obtain ⟨q1, q2, _⟩ := ok.lk p hp
    simp [wipeF, ix _ q1, ix _ q2]⟩) (by have := ok.Ll; omega)
  have ha2 := all_run (fun p : Lk => decide (p.2.2 ≤ at' r p.2.1 - at' r p.1)) P.L cs
  have b1 : ((r.zip P.F).all fun p => decide (p.2 ≤ p.1)) = lowsB P.F r := rfl
  have b2 : (P.L.all fun p => decide (p.2.2 ≤ at' r p.2.1 - at' r p.1)) = linksB P.L r := rfl
  rw [b1] at ha1
  rw [b2] at ha2
  rw [Tab.phi_s (s := s11) (nl := 7) rfl]
  unfold fnRun s11 Pb.feas
  rw [show startF 7 [.d (.ins 2 P.fs), .d (.tup (r.map .int))] = [some (.d (.ins 2 P.fs)), some (.d (.tup (r.map .int))), none, none, none, none, none] from rfl]
  have e1 : ev (tab.at n (j+2)) (.bi .all (.cons (.lc (.cmp .GtE (.var 5) (.var 6)) (.zip (.var 1) (.fld (.var 0) "lows")) .nil [5, 6] false [("value", 5), ("low", 6)]) .nil)) [some (.d (.ins 2 P.fs)), some (.d (.tup (r.map .int))), none, none, none, none, none] cs = .ok (.d (.bl (lowsB P.F r))) cs := by
    rw [v_bi, vA_cons, hc1]
    simp [ha1]
  have e2 : ev (tab.at n (j+2)) (.bi .all (.cons (.lc (.cmp .GtE (.op .Sub (.ix (.var 1) (.var 3)) (.ix (.var 1) (.var 2))) (.var 4)) (.itt (.fld (.var 0) "bounds")) .nil [2, 3, 4] false [("i", 2), ("j", 3), ("d", 4)]) .nil)) [some (.d (.ins 2 P.fs)), some (.d (.tup (r.map .int))), none, none, none, none, none] cs = .ok (.d (.bl (linksB P.L r))) cs := by
    rw [v_bi, vA_cons, hc2]
    simp [ha2]
  cases hb : lowsB P.F r with
  | true =>
    rw [hb] at e1
    simp [fs_size, srcs, callW, hr, e1, e2, -v_bi]
  | false =>
    rw [hb] at e1
    simp [fs_size, srcs, callW, hr, e1, -v_bi]
theorem feas_odd {d : D} (h : ∀ cs, (tab.at n (j+2)).phi 14 [.d d, .d (.int P.n)] cs = .ok (.bl false) cs) (cs : Cells) : (tab.at n (j+3)).phi 11 [.d (.ins 2 P.fs), .d d] cs = .ok (.bl false) cs := by
  rw [Tab.phi_s (s := s11) (nl := 7) rfl]
  unfold fnRun s11
  simp [fs_size, srcs, callW, h]
theorem costr_run (ok : P.Ok pos) {r : List Int} (hl : r.length = P.n) (hs : Sm r) (cs : Cells) : (tab.at n (j+3)).phi 10 [.d (.ins 2 P.fs), .d (.tup (r.map .int))] cs = .ok (.int (P.cost r)) cs := by
  have hr := fun cs => row_good (n := n) (j := j) hl (by have := ok.n6; omega) cs
  have hsum := fun cs => sum_run (n := n) (j := j) ok hl hs cs
  rw [Tab.phi_s (s := s10) (nl := 2) rfl]
  unfold fnRun s10
  have hmt : mthW (tab.at n (j+2)) (.d (.ins 2 P.fs)) "least_sum" cs = some 15 := by simp [mthW, clsOf, Pb.fs, List.lookup_cons, ofString_beq]
  simp [fs_size, srcs, callW, hr, hmt, hsum]
theorem costr_odd {d : D} (h : ∀ cs, (tab.at n (j+2)).phi 14 [.d d, .d (.int P.n)] cs = .ok (.bl false) cs) (cs : Cells) : (tab.at n (j+3)).phi 10 [.d (.ins 2 P.fs), .d d] cs = .exc 1 (.str "no row of values") cs := by
  rw [Tab.phi_s (s := s10) (nl := 2) rfl]
  unfold fnRun s10
  simp [fs_size, srcs, callW, h, raiseR]
/-- the law's cost -/
def sCost : S := (.cons (.set 4 (.op .Sub (.ix (.var 1) (.ix (.var 3) (.cst (.int 2)))) (.ix (.var 1) (.ix (.var 3) (.cst (.int 1)))))) (.cons (.ife (.cmp .Eq (.ix (.var 3) (.cst (.int 0))) (.cst (.str "line"))) (.cons (.set 2 (.op .Add (.var 2) (.op .Mult (.ix (.var 3) (.cst (.int 3))) (.var 4)))) .nil) (.cons (.set 2 (.op .Add (.var 2) (.op .Mult (.ix (.var 3) (.cst (.int 4))) (.bi .abs (.cons (.op .Sub (.var 4) (.ix (.var 3) (.cst (.int 3)))) .nil))))) .nil)) .nil))
theorem cost_step (ok : P.Ok pos) {c : Co} (hc : c ∈ P.C) {r : List Int} {d : D} (hr : Rw r d) (hl : r.length = P.n) (hs : Sm r) {b : Nat} (s : Int) (o4 : Option W) (cs : Cells) : ∃ q, exS (tab.at n j) n b sCost [some (.d P.d), some (.d d), some (.d (.int s)), some (.d (coD c)), o4] cs = .nx [some (.d P.d), some (.d d), some (.d (.int (s + c.cost r))), some (.d (coD c)), q] cs := by
  have h := co_in ok hc
  have ix := fun i h cs => ix_row (i := i) hr hl h cs
  cases c with
  | line i l w =>
    obtain ⟨q1, q2, w1, w2⟩ := h
    have s1 := sm_at hs i
    have s2 := sm_at hs l
    have hm := fun cs => mul_ok w1 w2 (z := at' r l - at' r i) (by omega) cs
    exact ⟨some (.d (.int (at' r l - at' r i))), by simp [sCost, coD, ix_tup (a4_0 _ _ _ _), ix_tup (a4_1 _ _ _ _), ix_tup (a4_2 _ _ _ _), ix_tup (a4_3 _ _ _ _), ix i q1, ix l q2, eq_ll, hm, Co.cost]⟩
  | bend i l d w =>
    obtain ⟨q1, q2, d1, d2, w1, w2⟩ := h
    have s1 := sm_at hs i
    have s2 := sm_at hs l
    have hm := fun cs => mul_ok w1 w2 (z := ((at' r l - at' r i - d).natAbs : Int)) (by omega) cs
    have ha := fun cs => abs_run (at' r l - at' r i - d) cs
    exact ⟨some (.d (.int (at' r l - at' r i))), by simp [sCost, coD, ix_tup (a5_0 _ _ _ _ _), ix_tup (a5_1 _ _ _ _ _), ix_tup (a5_2 _ _ _ _ _), ix_tup (a5_3 _ _ _ _ _), ix_tup (a5_4 _ _ _ _ _), ix i q1, ix l q2, eq_bl, ha, hm, Co.cost]⟩
theorem foldl_sum {α : Type} (f : α → Int) : ∀ (l : List α) (s : Int), l.foldl (fun s c => s + f c) s = s + (l.map f).sum
  | [], s => by simp
  | a :: l, s => by rw [List.foldl_cons, foldl_sum f l, List.map_cons, List.sum_cons]; omega
theorem lawcost_run (ok : P.Ok pos) {r : List Int} {d : D} (hr : Rw r d) (hl : r.length = P.n) (hs : Sm r) (cs : Cells) : (tab.at n (j+1)).phi 1 [.d P.d, .d d] cs = .ok (.int (P.cost r)) cs := by
  obtain ⟨fr', q1, o3, o4, rfl⟩ := for_fold (f := exS (tab.at n j) n cs.length sCost) (tg := [3]) (one := true) (cs := cs) 20 coD (fun (s : Int) c => s + c.cost r) (fun i s fr => ∃ o3 o4, fr = [some (.d P.d), some (.d d), some (.d (.int s)), o3, o4]) P.C 0 0 [some (.d P.d), some (.d d), some (.d (.int 0)), none, none] (fun c hc i s fr hi ⟨o3, o4, hfr⟩ => by
    subst hfr
    obtain ⟨q, h⟩ := cost_step (n := n) (j := j) (b := cs.length) ok hc hr hl hs s o4 cs
    exact ⟨_, _, rfl, .inl h, _, _, rfl⟩) (by have := ok.Cl; omega) ⟨_, _, rfl⟩
  rw [Tab.phi_s (s := s1) (nl := 5) rfl]
  unfold fnRun s1
  rw [← sCost, show startF 5 [.d P.d, .d d] = [some (.d P.d), some (.d d), none, none, none] from rfl, x_cons, x_set, v_cst, onE_ok, sbind_nx, x_cons, x_loop]
  have hi : evI (tab.at n j) (.itt (.dix (.var 0) "costs")) ([some (.d P.d), some (.d d), none, none, none].set 2 (some (.d (.int 0)))) cs = .ok (P.C.map coD) cs := by simp [lookup_costs]
  rw [hi, onE_ok, show ([some (W.d P.d), some (.d d), none, none, none].set 2 (some (.d (.int 0)))) = [some (.d P.d), some (.d d), some (.d (.int 0)), none, none] from rfl, q1, sbind_nx]
  have := foldl_sum (Co.cost r) P.C 0
  simp [this, Pb.cost]
theorem meets_run (ok : P.Ok pos) {r : List Int} (hl : r.length = P.n) (cs : Cells) : (tab.at n (j+1)).phi 3 [.d P.d, .d (.lst (r.map .int))] cs = .ok (.bl (P.feas r)) cs := by
  have ix := fun i h cs => ix_row (i := i) (.lst (r := r)) hl h cs
  have hz : (r.zip P.F).length ≤ 6 := by rw [List.length_zip, hl]; have := ok.n6; omega
  have hc1 := ev_lcP (wd := tab.at n j) (elt := .cst (.int 1)) (it := .zip (.var 1) (.dix (.var 0) "floor")) (conds := .cons (.cmp .Lt (.var 5) (.var 6)) .nil) (tg := [5, 6]) (one := false) (own := [("_law_value", 5), ("_law_low", 6)]) (fr := [some (.d P.d), some (.d (.lst (r.map .int))), none, none, none, none, none]) (cs := cs) (c1 := cs) (r.zip P.F) (fun p => D.tup [.int p.1, .int p.2]) (fun p => D.int 1) (fun p => decide (p.1 < p.2)) (by simp [lookup_floor, zipW, zipD_ints]) (fun p hp => ⟨_, rfl, fun acc => ⟨by simp [wipeF], fun _ => by simp⟩⟩) (by omega)
  have hc2 := ev_lcP (wd := tab.at n j) (elt := .cst (.int 1)) (it := .itt (.dix (.var 0) "links")) (conds := .cons (.cmp .Lt (.op .Sub (.ix (.var 1) (.var 3)) (.ix (.var 1) (.var 2))) (.var 4)) .nil) (tg := [2, 3, 4]) (one := false) (own := [("_law_i", 2), ("_law_j", 3), ("_law_d", 4)]) (fr := [some (.d P.d), some (.d (.lst (r.map .int))), none, none, none, none, none]) (cs := cs) (c1 := cs) P.L lkD (fun p => D.int 1) (fun p => decide (at' r p.2.1 - at' r p.1 < p.2.2)) (by simp [lookup_links]) (fun p hp => ⟨_, rfl, fun acc => ⟨by
    obtain ⟨q1, q2, _⟩ := ok.lk p hp
    simp [wipeF, ix _ q1, ix _ q2], fun _ => by simp⟩⟩) (by have := ok.Ll; omega)
  have m1 : (((r.zip P.F).filter fun p => decide (p.1 < p.2)).map fun _ => D.int 1) = (((r.zip P.F).filter fun p => decide (p.1 < p.2)).map fun _ => (1 : Int)).map D.int := by rw [List.map_map]; rfl
  have m2 : ((P.L.filter fun p => decide (at' r p.2.1 - at' r p.1 < p.2.2)).map fun _ => D.int 1) = ((P.L.filter fun p => decide (at' r p.2.1 - at' r p.1 < p.2.2)).map fun _ => (1 : Int)).map D.int := by rw [List.map_map]; rfl
  rw [m1] at hc1
  rw [m2] at hc2
  have n1 := ne_nil_ints (((r.zip P.F).filter fun p => decide (p.1 < p.2)).map fun _ => (1 : Int)) cs
  have n2 := eq_nil_ints ((P.L.filter fun p => decide (at' r p.2.1 - at' r p.1 < p.2.2)).map fun _ => (1 : Int)) cs
  have b1 : (((r.zip P.F).filter fun p => decide (p.1 < p.2)).map fun _ => (1 : Int)).isEmpty = lowsB P.F r := by
    rw [List.isEmpty_map]
    exact filter_nil_all _ _ _ fun p _ => by rw [Bool.eq_iff_iff]; simp
  have b2 : ((P.L.filter fun p => decide (at' r p.2.1 - at' r p.1 < p.2.2)).map fun _ => (1 : Int)).isEmpty = linksB P.L r := by
    rw [List.isEmpty_map]
    exact filter_nil_all _ _ _ fun p _ => by rw [Bool.eq_iff_iff]; simp
  rw [b1] at n1
  rw [b2] at n2
  rw [Tab.phi_s (s := s3) (nl := 7) rfl]
  unfold fnRun s3 Pb.feas
  have lnil : ∀ cs, ev (tab.at n j) (.lst .nil) [some (.d P.d), some (.d (.lst (r.map .int))), none, none, none, none, none] cs = .ok (.d (.lst [])) cs := fun cs => by simp [lstW, pureDs, lit]
  have k1 : ev (tab.at n j) (.cmp .NotEq (.lc (.cst (.int 1)) (.zip (.var 1) (.dix (.var 0) "floor")) (.cons (.cmp .Lt (.var 5) (.var 6)) .nil) [5, 6] false [("_law_value", 5), ("_law_low", 6)]) (.lst .nil)) [some (.d P.d), some (.d (.lst (r.map .int))), none, none, none, none, none] cs = .ok (.d (.bl (!lowsB P.F r))) cs := by rw [v_cmp, hc1, bind_ok, lnil, bind_ok, n1]
  have k2 : ev (tab.at n j) (.cmp .Eq (.lc (.cst (.int 1)) (.itt (.dix (.var 0) "links")) (.cons (.cmp .Lt (.op .Sub (.ix (.var 1) (.var 3)) (.ix (.var 1) (.var 2))) (.var 4)) .nil) [2, 3, 4] false [("_law_i", 2), ("_law_j", 3), ("_law_d", 4)]) (.lst .nil)) [some (.d P.d), some (.d (.lst (r.map .int))), none, none, none, none, none] cs = .ok (.d (.bl (linksB P.L r))) cs := by rw [v_cmp, hc2, bind_ok, lnil, bind_ok, n2]
  rw [show startF 7 [.d P.d, .d (.lst (r.map .int))] = [some (.d P.d), some (.d (.lst (r.map .int))), none, none, none, none, none] from rfl]
  cases hb : lowsB P.F r with
  | true =>
    rw [hb] at k1
    simp [k1, k2, -v_cmp]
  | false =>
    rw [hb] at k1
    simp [k1, -v_cmp]
end
end K28
namespace K28
open PySem L2 BV
/-! ### the least row, as the law finds it -/
theorem set_end {α : Type} (l : List α) (x y : α) : (l ++ [x]).set l.length y = l ++ [y] := by simp
theorem ixN_nat {len : Nat} {i : Int} (h0 : 0 ≤ i) (h : i < len) : ixN len i = some i.toNat := by
  unfold L2.ixN
  rw [if_pos h0, if_pos h]
def stepR (s : List Int × Bool) (p : Lk) : List Int × Bool := if at' s.1 p.2.1 < at' s.1 p.1 + p.2.2 then (s.1.set p.2.1.toNat (at' s.1 p.1 + p.2.2), true) else s
theorem at_set {r : List Int} {i k v : Int} (hi : 0 ≤ i) (hk : 0 ≤ k) (hl : i < r.length) : at' (r.set i.toNat v) k = if k = i then v else at' r k := by
  unfold at' List.getD
  by_cases e : k = i
  · subst e
    have : k.toNat < r.length := by omega
    simp [this]
  · have : i.toNat ≠ k.toNat := by omega
    rw [List.getElem?_set_ne this, if_neg e]
theorem sum_set : ∀ (l : List Int) (k : Nat) (v : Int), k < l.length → (l.set k v).sum + l.getD k 0 = l.sum + v
  | [], k, v, h => absurd h (Nat.not_lt_zero _)
  | a :: l, 0, v, h => by simp [List.getD]; omega
  | a :: l, k + 1, v, h => by
    have ih := sum_set l k v (by simpa using h)
    simp only [List.set_cons_succ, List.sum_cons, List.getD_cons_succ]
    omega
/-- a row on the way -/
structure RI (P : Pb) (pos : Int → Nat) (r : List Int) : Prop where
  len : r.length = P.n
  lo : ∀ i, inR P.n i → at' P.F i ≤ at' r i
  hi : ∀ i, inR P.n i → at' r i ≤ 9 + 9 * (pos i : Int)
theorem RI.step {P : Pb} {pos : Int → Nat} (ok : P.Ok pos) {r : List Int} (h : RI P pos r) {p : Lk} (hp : p ∈ P.L) (hlt : at' r p.2.1 < at' r p.1 + p.2.2) : RI P pos (r.set p.2.1.toNat (at' r p.1 + p.2.2)) := by
  obtain ⟨q1, q2, q3, q4, q5⟩ := ok.lk p hp
  have hb := h.hi p.1 q1
  have hl := h.len
  unfold inR at q1 q2
  refine ⟨by rw [List.length_set]; exact hl, fun i hi => ?_, fun i hi => ?_⟩
  · rw [at_set q2.1 hi.1 (by omega)]
    have := h.lo i hi
    split
    · rename_i e; subst e; omega
    · exact this
  · rw [at_set q2.1 hi.1 (by omega)]
    have := h.hi i hi
    split
    · rename_i e; subst e; omega
    · exact this
/-- a pass over the links -/
theorem pass {P : Pb} {pos : Int → Nat} (ok : P.Ok pos) : ∀ (l : List Lk) (s : List Int × Bool), (∀ p ∈ l, p ∈ P.L) → RI P pos s.1 → RI P pos (l.foldl stepR s).1 ∧ s.1.sum ≤ (l.foldl stepR s).1.sum ∧ ((l.foldl stepR s).2 = true → s.2 = true ∨ s.1.sum < (l.foldl stepR s).1.sum) ∧ ((l.foldl stepR s).2 = false → (l.foldl stepR s).1 = s.1 ∧ s.2 = false ∧ ∀ p ∈ l, ¬ at' s.1 p.2.1 < at' s.1 p.1 + p.2.2)
  | [], s, _, h => ⟨h, Int.le_refl _, fun e => .inl e, fun e => ⟨rfl, e, fun p hp => by cases hp⟩⟩
  | p :: l, s, hl, h => by
    have hp := hl p (List.mem_cons_self ..)
    obtain ⟨q1, q2, q3, q4, q5⟩ := ok.lk p hp
    rw [List.foldl_cons]
    by_cases hlt : at' s.1 p.2.1 < at' s.1 p.1 + p.2.2
    · have e : stepR s p = (s.1.set p.2.1.toNat (at' s.1 p.1 + p.2.2), true) := by unfold stepR; rw [if_pos hlt]
      have h1 := h.step ok hp hlt
      obtain ⟨a1, a2, a3, a4⟩ := pass ok l (stepR s p) (fun p hp => hl p (List.mem_cons_of_mem _ hp)) (by rw [e]; exact h1)
      have hlen := h.len
      unfold inR at q2
      have hs := sum_set s.1 p.2.1.toNat (at' s.1 p.1 + p.2.2) (by omega)
      have hg : s.1.getD p.2.1.toNat 0 = at' s.1 p.2.1 := rfl
      rw [hg] at hs
      have e1 : (stepR s p).1.sum = (s.1.set p.2.1.toNat (at' s.1 p.1 + p.2.2)).sum := by rw [e]
      have e2 : (stepR s p).2 = true := by rw [e]
      refine ⟨a1, by omega, fun _ => .inr (by omega), fun ef => ?_⟩
      have := (a4 ef).2.1
      rw [e2] at this
      cases this
    · have e : stepR s p = s := by unfold stepR; rw [if_neg hlt]
      rw [e]
      obtain ⟨a1, a2, a3, a4⟩ := pass ok l s (fun p hp => hl p (List.mem_cons_of_mem _ hp)) h
      refine ⟨a1, a2, a3, fun ef => ?_⟩
      obtain ⟨b1, b2, b3⟩ := a4 ef
      refine ⟨b1, b2, fun p' hp' => ?_⟩
      rcases List.mem_cons.mp hp' with rfl | hp'
      · exact hlt
      · exact b3 p' hp'
theorem sum_le : ∀ (r : List Int) (b : Int), 0 ≤ b → (∀ v ∈ r, v ≤ b) → r.sum ≤ r.length * b
  | [], b, h0, h => by simp
  | a :: r, b, h0, h => by
    have h1 := sum_le r b h0 fun v hv => h v (List.mem_cons_of_mem _ hv)
    have h2 := h a (List.mem_cons_self ..)
    rw [List.sum_cons, List.length_cons]
    have : ((r.length + 1 : Nat) : Int) * b = r.length * b + b := by rw [Int.natCast_add, Int.add_mul]; simp
    omega
theorem RI.mem {P : Pb} {pos : Int → Nat} (ok : P.Ok pos) {r : List Int} (h : RI P pos r) : ∀ v ∈ r, 0 ≤ v ∧ v ≤ 63 := fun v hv => by
  obtain ⟨k, hk, e⟩ := List.getElem_of_mem hv
  have hl := h.len
  have n6 := ok.n6
  have hin : inR P.n (k : Int) := ⟨by omega, by omega⟩
  have ev : at' r (k : Int) = v := by unfold at' List.getD; simp [hk, e]
  have h1 := h.lo _ hin
  have h2 := h.hi _ hin
  have h3 := ok.ps _ hin
  have h4 : 0 ≤ at' P.F (k : Int) := by
    have hkF : k < P.F.length := by rw [ok.Fl]; omega
    have : at' P.F (k : Int) = P.F[k] := by unfold at' List.getD; simp [hkF]
    rw [this]
    exact (ok.F9 _ (List.getElem_mem hkF)).1
  omega
theorem RI.sum {P : Pb} {pos : Int → Nat} (ok : P.Ok pos) {r : List Int} (h : RI P pos r) : r.sum ≤ 378 := by
  have h1 := sum_le r 63 (by decide) fun v hv => (h.mem ok v hv).2
  have hl := h.len
  have := ok.n6
  omega
theorem RI.start {P : Pb} {pos : Int → Nat} (ok : P.Ok pos) : RI P pos P.F := ⟨ok.Fl, fun i _ => Int.le_refl _, fun i hi => by
  unfold inR at hi
  have hk : i.toNat < P.F.length := by rw [ok.Fl]; omega
  have : at' P.F i = P.F[i.toNat] := by unfold at' List.getD; simp [hk]
  rw [this]
  have := (ok.F9 _ (List.getElem_mem hk)).2
  omega⟩
/-- the row is feasible -/
theorem RI.feas {P : Pb} {pos : Int → Nat} (ok : P.Ok pos) {r : List Int} (h : RI P pos r) (hl : ∀ p ∈ P.L, ¬ at' r p.2.1 < at' r p.1 + p.2.2) : P.feas r = true := by
  unfold Pb.feas
  rw [Bool.and_eq_true]
  constructor
  · unfold lowsB
    rw [List.all_eq_true]
    intro p hp
    obtain ⟨k, hk, e⟩ := List.getElem_of_mem hp
    rw [List.length_zip] at hk
    have hr := h.len
    have hF := ok.Fl
    have hin : inR P.n (k : Int) := ⟨by omega, by omega⟩
    have h1 := h.lo _ hin
    have e1 : at' r (k : Int) = r[k]'(by omega) := by unfold at' List.getD; simp [show k < r.length by omega]
    have e2 : at' P.F (k : Int) = P.F[k]'(by omega) := by unfold at' List.getD; simp [show k < P.F.length by omega]
    rw [List.getElem_zip] at e
    subst e
    rw [e1, e2] at h1
    simpa using h1
  · unfold linksB
    rw [List.all_eq_true]
    intro p hp
    have := hl p hp
    simp only [decide_eq_true_eq]
    omega
section
variable {n j b : Nat} {cs : Cells} {P : Pb} {pos : Int → Nat}
def sIn : S := (.cons (.ife (.cmp .Lt (.ix (.var 1) (.var 4)) (.op .Add (.ix (.var 1) (.var 3)) (.var 5))) (.cons (.putT (.var 1) (.var 4) 2 (.tup (.cons (.op .Add (.ix (.var 1) (.var 3)) (.var 5)) (.cons (.cst (.bl true)) .nil)))) .nil) .nil) .nil)
def sLow : S := (.cons (.set 2 (.cst (.bl false))) (.cons (.loop (.itt (.dix (.var 0) "links")) [3, 4, 5] false (.cons (.ife (.cmp .Lt (.ix (.var 1) (.var 4)) (.op .Add (.ix (.var 1) (.var 3)) (.var 5))) (.cons (.putT (.var 1) (.var 4) 2 (.tup (.cons (.op .Add (.ix (.var 1) (.var 3)) (.var 5)) (.cons (.cst (.bl true)) .nil)))) .nil) .nil) .nil)) .nil))
def fL (P : Pb) (m : Nat) (new : Bool) (o3 o4 o5 : Option W) : Fra := [some (.d P.d), some (.loc m), some (.d (.bl new)), o3, o4, o5]
theorem low_in (ok : P.Ok pos) {p : Lk} (hp : p ∈ P.L) {s : List Int × Bool} (hl : s.1.length = P.n) : exS (tab.at n j) n b sIn (fL P cs.length s.2 (some (.d (.int p.1))) (some (.d (.int p.2.1))) (some (.d (.int p.2.2)))) (cs ++ [some (.lst (s.1.map .int))]) = .nx (fL P cs.length (stepR s p).2 (some (.d (.int p.1))) (some (.d (.int p.2.1))) (some (.d (.int p.2.2)))) (cs ++ [some (.lst ((stepR s p).1.map .int))]) := by
  obtain ⟨q1, q2, _⟩ := ok.lk p hp
  have hc : (cs ++ [some (Cell.lst (s.1.map .int))])[cs.length]? = some (some (.lst (s.1.map .int))) := by simp
  have i1 := wIx_loc hc (atI_row hl q1)
  have i2 := wIx_loc hc (atI_row hl q2)
  have hpt := fun fr => putR_loc (fr := fr) (d := .int (at' s.1 p.1 + p.2.2)) hc (by rw [List.length_map]; exact ixN_nat q2.1 (by unfold inR at q2; omega))
  rw [set_end] at hpt
  by_cases hlt : at' s.1 p.2.1 < at' s.1 p.1 + p.2.2
  · have e : stepR s p = (s.1.set p.2.1.toNat (at' s.1 p.1 + p.2.2), true) := by unfold stepR; rw [if_pos hlt]
    rw [e, List.map_set]
    simp [sIn, fL, i1, i2, hlt, tupW, pureDs, lit, hpt, RS.bind, setTg]
  · have e : stepR s p = s := by unfold stepR; rw [if_neg hlt]
    rw [e]
    simp [sIn, fL, i1, i2, hlt]
theorem step_len (s : List Int × Bool) (p : Lk) : (stepR s p).1.length = s.1.length := by
  unfold stepR
  split
  · rw [List.length_set]
  · rfl
theorem low_pass (ok : P.Ok pos) {r : List Int} (hl : r.length = P.n) {new : Bool} {o3 o4 o5 : Option W} : ∃ p3 p4 p5, exS (tab.at n j) n b sLow (fL P cs.length new o3 o4 o5) (cs ++ [some (.lst (r.map .int))]) = .nx (fL P cs.length (P.L.foldl stepR (r, false)).2 p3 p4 p5) (cs ++ [some (.lst ((P.L.foldl stepR (r, false)).1.map .int))]) := by
  obtain ⟨fr', cs', q1, o3', o4', o5', rfl, rfl, _⟩ := for_foldC (f := exS (tab.at n j) n b sIn) (tg := [3, 4, 5]) (one := false) 12 lkD stepR (fun i (s : List Int × Bool) fr c => ∃ o3 o4 o5, fr = fL P cs.length s.2 o3 o4 o5 ∧ c = cs ++ [some (.lst (s.1.map .int))] ∧ s.1.length = P.n) P.L 0 (r, false) (fL P cs.length false o3 o4 o5) (cs ++ [some (.lst (r.map .int))]) (fun p hp i s fr c hi ⟨o3, o4, o5, hf, hc, hs⟩ => by
    subst hf hc
    exact ⟨_, _, _, rfl, .inl (low_in ok hp hs), _, _, _, rfl, rfl, by rw [step_len]; exact hs⟩) (by have := ok.Ll; omega) ⟨_, _, _, rfl, rfl, hl⟩
  refine ⟨o3', o4', o5', ?_⟩
  have hi : ∀ c, evI (tab.at n j) (.itt (.dix (.var 0) "links")) (fL P cs.length false o3 o4 o5) c = .ok (P.L.map lkD) c := fun c => by simp [fL, lookup_links]
  unfold sLow
  rw [← sIn, x_cons, x_set, v_cst, onE_ok, sbind_nx, show (fL P cs.length new o3 o4 o5).set 2 (some (.d (.bl false))) = fL P cs.length false o3 o4 o5 from rfl, x_cons, x_loop, hi, onE_ok, q1, sbind_nx, x_nil]
theorem low_run (ok : P.Ok pos) (hn : 400 ≤ n) (cs : Cells) : ∃ r, (tab.at n (j+1)).phi 5 [.d P.d] cs = .ok (.lst (r.map .int)) cs ∧ RI P pos r ∧ P.feas r = true := by
  obtain ⟨s', fr', cs', q1, ⟨o3, o4, o5, rfl, rfl, hR, hz⟩, q3⟩ := wh_st (t := tst (tab.at n j) (.var 2)) (f := exS (tab.at n j) n cs.length sLow) (fun (s : List Int × Bool) fr c => ∃ o3 o4 o5, fr = fL P cs.length s.2 o3 o4 o5 ∧ c = cs ++ [some (.lst (s.1.map .int))] ∧ RI P pos s.1 ∧ (s.2 = false → ∀ p ∈ P.L, ¬ at' s.1 p.2.1 < at' s.1 p.1 + p.2.2)) (fun s => s.2) (fun s => (378 - s.1.sum).toNat + if s.2 then 1 else 0)
    (fun s fr c ⟨o3, o4, o5, hf, hc, _⟩ => by
      subst hf
      simp [tst, fL])
    (fun s fr c ⟨o3, o4, o5, hf, hc, hR, hz⟩ hs => by
      subst hf hc
      obtain ⟨p3, p4, p5, e⟩ := low_pass (n := n) (j := j) (b := cs.length) (cs := cs) ok hR.len (new := s.2) (o3 := o3) (o4 := o4) (o5 := o5)
      obtain ⟨a1, a2, a3, a4⟩ := pass ok P.L (s.1, false) (fun p hp => hp) hR
      have s1 := a1.sum ok
      refine ⟨P.L.foldl stepR (s.1, false), _, _, e, ⟨_, _, _, rfl, rfl, a1, fun ef p hp => ?_⟩, ?_⟩
      · obtain ⟨b1, _, b3⟩ := a4 ef
        rw [b1]
        exact b3 p hp
      · rw [hs]
        cases e2 : (P.L.foldl stepR (s.1, false)).2 with
        | true =>
          rcases a3 e2 with h | h
          · cases h
          · simp only [if_true] at h ⊢
            omega
        | false =>
          obtain ⟨b1, _, _⟩ := a4 e2
          rw [b1]
          simp)
    n (P.F, true) (fL P cs.length true none none none) (cs ++ [some (.lst (P.F.map .int))]) ⟨none, none, none, rfl, rfl, RI.start ok, fun e => by cases e⟩ (by
      have hs : 0 ≤ P.F.sum := by
        have : ∀ l : List Int, (∀ v ∈ l, 0 ≤ v) → 0 ≤ l.sum := fun l => by
          induction l with
          | nil => intro _; simp
          | cons a l ih =>
            intro h
            have h1 := h a (List.mem_cons_self ..)
            have h2 := ih fun v hv => h v (List.mem_cons_of_mem _ hv)
            rw [List.sum_cons]
            omega
        exact this _ fun v hv => (ok.F9 v hv).1
      simp only [if_true]
      omega)
  refine ⟨s'.1, ?_, hR, hR.feas ok (hz q3)⟩
  have st1 : exS (tab.at n j) n cs.length (.parL [1, 2] [.l (.ofl (.dix (.var 0) "floor")), .e (.cst (.bl true))]) [some (.d P.d), none, none, none, none, none] cs = .nx (fL P cs.length true none none none) (cs ++ [some (.lst (P.F.map .int))]) := by
    simp [lookup_floor, oflW, seqOf, setWs, fL]
  rw [Tab.phi_s (s := s5) (nl := 6) rfl]
  unfold fnRun s5
  rw [← sLow, show startF 6 [.d P.d] = [some (.d P.d), none, none, none, none, none] from rfl, x_cons, st1, sbind_nx, x_cons, x_wh, q1, sbind_nx]
  simp [fL, retD]
end
end K28
namespace K28
open PySem L2 BV
/-! ### a drawn order -/
theorem flatL_ints : ∀ l : List Int, flatL? (l.map D.int) = some (l.map V.int)
  | [] => rfl
  | a :: l => by
    have h := flatL_ints l
    rw [List.map_cons, flatL?, h]
    rfl
theorem idxV_ints (i : Int) : ∀ l : List Int, i ∈ l → idxV (.int i) (l.map V.int) = some (l.idxOf i)
  | a :: l, h => by
    rw [List.map_cons, idxV, List.idxOf_cons]
    by_cases e : a = i
    · subst e
      simp [eqV]
    · have h2 : i ∈ l := by
        rcases List.mem_cons.mp h with h | h
        · exact absurd h.symm e
        · exact h
      have e1 : (eqV (V.int a) (.int i) = true) = False := by simp [eqV, e]
      have e2 : (a == i) = false := by simpa using e
      rw [idxV_ints i l h2]
      simp [e1, e2]
theorem index_run {q : Nat} {l : List Int} {i : Int} {cs : Cells} (hc : cs[q]? = some (some (.lst (l.map .int)))) (hi : i ∈ l) : wBm .index (.loc q) [.d (.int i)] cs = .ok (.d (.int (l.idxOf i : Nat))) cs := by
  simp [wBm, dl, celL, hc, flatL_ints, flatV?, idxV_ints i l hi]
theorem er_map {α β : Type} (f : α → β) : ∀ (l : List α) (k : Nat), (l.map f).eraseIdx k = (l.eraseIdx k).map f
  | [], k => rfl
  | a :: l, 0 => rfl
  | a :: l, k + 1 => by rw [List.map_cons, List.eraseIdx_cons_succ, List.eraseIdx_cons_succ, List.map_cons, er_map f l k]
theorem perm_er : ∀ (l : List Int) (k : Nat) (h : k < l.length), (l[k] :: l.eraseIdx k).Perm l
  | [], k, h => absurd h (Nat.not_lt_zero _)
  | a :: l, 0, h => .refl _
  | a :: l, k + 1, h => by
    rw [List.eraseIdx_cons_succ, List.getElem_cons_succ]
    exact (List.Perm.swap _ _ _).trans (.cons _ (perm_er l k (by simpa using h)))
theorem pop_run {q : Nat} {l : List Int} {r : Int} {cs : Cells} (hc : cs[q]? = some (some (.lst (l.map .int)))) (h0 : 0 ≤ r) (h1 : r < l.length) (hz : l.length ≤ 1000) : wBm .popAt (.loc q) [.d (.int r)] cs = .ok (.d (.int (at' l r))) (cs.set q (some (.lst ((l.eraseIdx r.toNat).map .int)))) := by
  have hs := (ixN_seq (ixN_nat h0 h1)).1
  have hk : r.toNat < l.length := by omega
  have ha : (l.map D.int)[r.toNat]? = some (.int (at' l r)) := by
    unfold at' List.getD
    simp [hk]
  have hm : (l.map D.int).eraseIdx r.toNat = (l.eraseIdx r.toNat).map .int := er_map _ _ _
  simp only [wBm, celL, hc]
  rw [if_pos (by omega), List.length_map, hs]
  simp only [ha, hm]
theorem ne_loc {m : Nat} {l : List Int} {cs : Cells} (hc : cs[m]? = some (some (.lst (l.map .int)))) : wCmp .NotEq (.loc m) (.d (.lst [])) cs = .ok (.d (.bl (!l.isEmpty))) cs := by
  rw [wCmp_ne (p := .list (l.map .int)) (q := .list []) (by simp [wPy, celL, hc, toPyL_ints]) (by simp [wPy, toPy, toPyL]) (shaped_ints l) (shaped_ints [])]
  cases l <;> rfl
/-- a place behind the caller's cells -/
theorem get_b {c1 : Cells} {e : Cells} {b k : Nat} {x : Option Cell} (hb : c1.length = b) (he : e[k]? = some x) : (c1 ++ e)[b + k]? = some x := by
  rw [List.getElem?_append_right (by omega), show b + k - c1.length = k by omega]
  exact he
theorem set_b {c1 : Cells} {e : Cells} {b k : Nat} {x : Option Cell} (hb : c1.length = b) : (c1 ++ e).set (b + k) x = c1 ++ e.set k x := by
  rw [List.set_append_right _ _ (by omega), show b + k - c1.length = k by omega]
section
variable {n j m : Nat} {cs : Cells} {t : Int}
theorem nx4 : Nx (tab.at n (j+1)) 4 := ⟨by simp, fun h ht h0 h1 => by
  rw [Tab.phi_s (s := s4) (nl := 5) rfl]
  exact next_run h ht h0 h1⟩
def sOrd : S := (.cons (.expr (.bm .append (.var 12) (.cons (.bm .popAt (.var 13) (.cons (.call 4 0 (.cons (.var 0) (.cons (.bi .len (.cons (.var 13) .nil)) .nil)) .nil) .nil)) .nil))) .nil)
def fO (m b : Nat) (k : Int) : Fra := [some (.loc m), some (.d (.int k)), some (.d (.int 9)), none, none, none, none, none, none, none, none, none, some (.loc b), some (.loc (b + 1))]
theorem ord_turn {b : Nat} {k : Int} {c1 : Cells} {order rest : List Int} (hb : c1.length = b) (hs : SrcAt c1 m t) (ht : t ≤ 900000) (hr : rest ≠ []) (hz : rest.length ≤ 100) (ho : order.length ≤ 100) : ∃ (r : Int) (c2 : Cells), 0 ≤ r ∧ r < (rest.length : Int) ∧ exS (tab.at n (j+1)) n b sOrd (fO m b k) (c1 ++ [some (.lst (order.map .int)), some (.lst (rest.map .int))]) = .nx (fO m b k) (c2 ++ [some (.lst ((order ++ [at' rest r]).map .int)), some (.lst ((rest.eraseIdx r.toNat).map .int))]) ∧ Drawn m (t + 1) c1 c2 := by
  have hlen : 0 < rest.length := List.length_pos_iff.mpr hr
  have hb0 : ∀ (c : Cells), c.length = b → ∀ x y, (c ++ [x, y])[b]? = some x := fun c hc x y => get_b (k := 0) hc rfl
  have hb1 : ∀ (c : Cells), c.length = b → ∀ x y, (c ++ [x, y])[b + 1]? = some y := fun c hc x y => get_b (k := 1) hc rfl
  obtain ⟨r, c', e1, d1, r0, r1⟩ := ev_next (fr := fO m b k) (i := 0) (e := .bi .len (.cons (.var 13) .nil)) (many := (rest.length : Int)) (cs := c1 ++ [some (.lst (order.map .int)), some (.lst (rest.map .int))]) (nx4 (n := n) (j := j)) rfl (by
    have h := hb1 c1 hb (some (.lst (order.map .int))) (some (.lst (rest.map .int)))
    simp [fO, wBi, dl, celL, h]) hs.app (by omega) (by omega) (by omega)
  obtain ⟨c2, rfl, d2⟩ := d1.app hs.lt
  have hb2 : c2.length = b := d2.len.trans hb
  have hp := pop_run (q := b + 1) (l := rest) (r := r) (cs := c2 ++ [some (.lst (order.map .int)), some (.lst (rest.map .int))]) (hb1 c2 hb2 _ _) r0 r1 (by omega)
  rw [set_b hb2] at hp
  have ha := wBm_append (m := b) (xs := order.map .int) (d := .int (at' rest r)) (cs := c2 ++ [some (.lst (order.map .int)), some (.lst ((rest.eraseIdx r.toNat).map .int))]) (hb0 c2 hb2 _ _) (by rw [List.length_map]; omega)
  rw [show b = b + 0 from rfl, set_b hb2] at ha
  have ty1 : wTy .append (.loc b) (c1 ++ [some (.lst (order.map .int)), some (.lst (rest.map .int))]) = true := by simp [wTy, dl, celL, hb0 c1 hb]
  have ty2 : wTy .popAt (.loc (b + 1)) (c1 ++ [some (.lst (order.map .int)), some (.lst (rest.map .int))]) = true := by simp [wTy, dl, celL, hb1 c1 hb]
  refine ⟨r, c2, r0, r1, ?_, d2⟩
  have v12 : ∀ c, ev (tab.at n (j+1)) (.var 12) (fO m b k) c = .ok (.loc b) c := fun c => by simp [fO]
  have v13 : ∀ c, ev (tab.at n (j+1)) (.var 13) (fO m b k) c = .ok (.loc (b + 1)) c := fun c => by simp [fO]
  unfold sOrd
  rw [x_cons, x_expr, v_bm, v12]
  simp only [bind_ok, ty1, if_true]
  rw [vA_cons, v_bm, v13]
  simp only [bind_ok, ty2, if_true]
  rw [vA_cons, e1]
  simp only [bind_ok, vA_nil]
  rw [hp]
  simp only [bind_ok, vA_nil, List.set_cons_succ, List.set_cons_zero]
  rw [show b + 0 = b from rfl] at ha
  rw [ha]
  simp
theorem ord_run {k : Nat} (hk : k ≤ 10) (hs : SrcAt cs m t) (ht : t ≤ 800000) (hn : 100 ≤ n) : ∃ (order : List Int) (c1 : Cells), exS (tab.at n (j+1)) n cs.length (.wh (.cmp .NotEq (.var 13) (.lst .nil)) (.cons (.expr (.bm .append (.var 12) (.cons (.bm .popAt (.var 13) (.cons (.call 4 0 (.cons (.var 0) (.cons (.bi .len (.cons (.var 13) .nil)) .nil)) .nil) .nil)) .nil))) .nil)) (fO m cs.length k) (cs ++ [some (.lst []), some (.lst (((List.range k).map fun i : Nat => (i : Int)).map .int))]) = .nx (fO m cs.length k) (c1 ++ [some (.lst (order.map .int)), some (.lst [])]) ∧ Drawn m (t + 20) cs c1 ∧ order.Perm ((List.range k).map fun i : Nat => (i : Int)) := by
  obtain ⟨s', fr', cs', q1, ⟨c1, rfl, rfl, hd, hp⟩, q3⟩ := wh_st (t := tst (tab.at n (j+1)) (.cmp .NotEq (.var 13) (.lst .nil))) (f := exS (tab.at n (j+1)) n cs.length sOrd) (fun (s : List Int × List Int) fr c => ∃ c1, fr = fO m cs.length k ∧ c = c1 ++ [some (.lst (s.1.map .int)), some (.lst (s.2.map .int))] ∧ Drawn m (t + (s.1.length : Int)) cs c1 ∧ (s.1 ++ s.2).Perm ((List.range k).map fun i : Nat => (i : Int))) (fun s => !s.2.isEmpty) (fun s => s.2.length)
    (fun s fr c ⟨c1, hf, hc, hd, hp⟩ => by
      subst hf hc
      have hb1 : (c1 ++ [some (Cell.lst (s.1.map .int)), some (.lst (s.2.map .int))])[cs.length + 1]? = some (some (.lst (s.2.map .int))) := get_b (k := 1) hd.len rfl
      have hne := ne_loc (m := cs.length + 1) hb1
      simp [tst, fO, lstW, pureDs, lit, hne])
    (fun s fr c ⟨c1, hf, hc, hd, hp⟩ hb => by
      subst hf hc
      have hlen := hp.length_eq
      rw [List.length_append, List.length_map, List.length_range] at hlen
      obtain ⟨r, c2, r0, r1, e, d2⟩ := ord_turn (n := n) (j := j) (m := m) (t := t + (s.1.length : Int)) (k := (k : Int)) (order := s.1) (rest := s.2) hd.len hd.src (by omega) (by simpa using hb) (by omega) (by omega)
      refine ⟨(s.1 ++ [at' s.2 r], s.2.eraseIdx r.toNat), _, _, e, ⟨c2, rfl, rfl, (hd.trans d2).mono (by rw [List.length_append]; simp; omega), ?_⟩, ?_⟩
      · have hk' : r.toNat < s.2.length := by omega
        have e1 : at' s.2 r = s.2[r.toNat] := by unfold at' List.getD; simp [hk']
        rw [e1, List.append_assoc]
        exact ((perm_er s.2 _ hk').append_left s.1).trans hp
      · simp only []
        rw [List.length_eraseIdx_of_lt (by omega)]
        omega)
    n ([], (List.range k).map fun i : Nat => (i : Int)) (fO m cs.length k) (cs ++ [some (.lst []), some (.lst (((List.range k).map fun i : Nat => (i : Int)).map .int))]) ⟨cs, rfl, rfl, (Drawn.refl hs).mono (by simp), by simp⟩ (by simp; omega)
  have e2 : s'.2 = [] := by simpa using q3
  rw [e2] at hp q1
  rw [List.append_nil] at hp
  have hlen := hp.length_eq
  rw [List.length_map, List.length_range] at hlen
  refine ⟨s'.1, c1, ?_, hd.mono (by omega), hp⟩
  rw [x_wh, ← sOrd, q1]
  rfl
end
end K28
namespace K28
open PySem L2 BV
/-! ### drawn pairs, drawn links -/
theorem idx_inj : ∀ (o : List Int) (i l : Int), i ∈ o → l ∈ o → o.idxOf i = o.idxOf l → i = l
  | a :: o, i, l, hi, hl, e => by
    rw [List.idxOf_cons, List.idxOf_cons] at e
    by_cases h1 : a = i
    · by_cases h2 : a = l
      · rw [← h1, ← h2]
      · have e2 : (a == l) = false := by simpa using h2
        have e1 : (a == i) = true := by simpa using h1
        rw [e1, e2] at e
        simp at e
    · have e1 : (a == i) = false := by simpa using h1
      by_cases h2 : a = l
      · have e2 : (a == l) = true := by simpa using h2
        rw [e1, e2] at e
        simp at e
      · have e2 : (a == l) = false := by simpa using h2
        rw [e1, e2] at e
        have hi' : i ∈ o := by
          rcases List.mem_cons.mp hi with h | h
          · exact absurd h.symm h1
          · exact h
        have hl' : l ∈ o := by
          rcases List.mem_cons.mp hl with h | h
          · exact absurd h.symm h2
          · exact h
        exact idx_inj o i l hi' hl' (by simpa using e)
section
variable {n j m b : Nat} {cs : Cells} {t : Int}
theorem drawp_run {k : Nat} (k2 : 2 ≤ k) (k6 : k ≤ 6) (hs : SrcAt cs m t) (ht : t ≤ 900000) : ∃ (i l : Int) (c' : Cells), (tab.at n (j+2)).phi 12 [.loc m, .d (.int k)] cs = .ok (.tup [.int i, .int l]) c' ∧ inR k i ∧ inR k l ∧ i ≠ l ∧ Drawn m (t + 2) cs c' := by
  obtain ⟨i, c1, e1, d1, i0, i1⟩ := ev_next (fr := [some (.loc m), some (.d (.int k)), none]) (i := 0) (e := .var 1) (many := (k : Int)) (cs := cs) (nx4 (n := n) (j := j)) rfl (by simp) hs (by omega) (by omega) (by omega)
  obtain ⟨r, c2, e2, d2, r0, r1⟩ := ev_next (fr := [some (.loc m), some (.d (.int k)), some (.d (.int i))]) (i := 0) (e := .op .Sub (.var 1) (.cst (.int 1))) (many := (k : Int) - 1) (cs := c1) (nx4 (n := n) (j := j)) rfl (by simp) d1.src (by omega) (by omega) (by omega)
  have hk : (k = 2 ∨ k = 3) ∨ (k = 4 ∨ k = 5) ∨ k = 6 := by omega
  have hm := fun cs => wOp_mod (i := i + 1 + r) (j := (k : Int)) (by omega) cs
  refine ⟨i, (i + 1 + r) % k, c2, ?_, ⟨i0, i1⟩, ⟨Int.emod_nonneg _ (by omega), Int.emod_lt_of_pos _ (by omega)⟩, ?_, (d1.trans d2).mono (by omega)⟩
  · rw [Tab.phi_s (s := s12) (nl := 3) rfl]
    unfold fnRun s12
    rw [show startF 3 [.loc m, .d (.int k)] = [some (.loc m), some (.d (.int k)), none] from rfl, x_cons, x_set, e1, onE_ok, sbind_nx]
    simp only [List.set_cons_succ, List.set_cons_zero]
    rw [x_cons, x_ret, v_tup, vA_cons, v_var]
    simp only [List.getElem?_cons_succ, List.getElem?_cons_zero, bind_ok]
    rw [vA_cons, v_op, v_op, v_op, v_var]
    simp only [List.getElem?_cons_succ, List.getElem?_cons_zero, bind_ok, v_cst, wOp_add]
    rw [e2]
    simp [hm, tupW, pureDs, lit]
    rw [← (d1.trans d2).len, List.take_length]
  · rcases hk with (rfl | rfl) | (rfl | rfl) | rfl <;> omega
def sLk : S := (.cons (.setT [9, 8] (.call 12 0 (.cons (.var 0) (.cons (.var 1) .nil)) .nil)) (.cons (.ife (.cmp .Gt (.bm .index (.var 12) (.cons (.var 9) .nil)) (.bm .index (.var 12) (.cons (.var 8) .nil))) (.cons (.par [9, 8] (.cons (.var 8) (.cons (.var 9) .nil))) .nil) .nil) (.cons (.expr (.bm .append (.var 3) (.cons (.tup (.cons (.var 9) (.cons (.var 8) (.cons (.call 4 0 (.cons (.var 0) (.cons (.op .Add (.var 2) (.cst (.int 1))) .nil)) .nil) .nil)))) .nil))) .nil)))
def fB (m b : Nat) (k : Int) (o7 o8 o9 : Option W) : Fra := [some (.loc m), some (.d (.int k)), some (.d (.int 9)), some (.loc (b + 2)), none, some (.loc (b + 3)), none, o7, o8, o9, none, none, some (.loc b), some (.loc (b + 1))]
def e4 (order : List Int) (L : List Lk) : Cells := [some (.lst (order.map .int)), some (.lst []), some (.lst (L.map lkD)), some (.lst [])]
/-- which of the two stands first -/
theorem lk_swap {c1 : Cells} {order : List Int} {L : List Lk} {k i l : Int} {o7 : Option W} (hb : c1.length = b) (hi : i ∈ order) (hl : l ∈ order) (hne : i ≠ l) : ∃ i' l', ((i' = i ∧ l' = l) ∨ (i' = l ∧ l' = i)) ∧ order.idxOf i' < order.idxOf l' ∧ exS (tab.at n j) n b (.ife (.cmp .Gt (.bm .index (.var 12) (.cons (.var 9) .nil)) (.bm .index (.var 12) (.cons (.var 8) .nil))) (.cons (.par [9, 8] (.cons (.var 8) (.cons (.var 9) .nil))) .nil) .nil) (fB m b k o7 (some (.d (.int l))) (some (.d (.int i)))) (c1 ++ e4 order L) = .nx (fB m b k o7 (some (.d (.int l'))) (some (.d (.int i')))) (c1 ++ e4 order L) := by
  have hc : (c1 ++ e4 order L)[b]? = some (some (.lst (order.map .int))) := get_b (k := 0) hb rfl
  have x1 := index_run hc hi
  have x2 := index_run hc hl
  have ty : wTy .index (.loc b) (c1 ++ e4 order L) = true := by simp [wTy, dl, celL, hc]
  have hd : order.idxOf i ≠ order.idxOf l := fun e => hne (idx_inj order i l hi hl e)
  by_cases hlt : order.idxOf l < order.idxOf i
  · refine ⟨l, i, .inr ⟨rfl, rfl⟩, hlt, ?_⟩
    simp [fB, ty, x1, x2, hlt, setWs]
  · refine ⟨i, l, .inl ⟨rfl, rfl⟩, by omega, ?_⟩
    simp [fB, ty, x1, x2, hlt]
theorem lk_turn {c1 : Cells} {order : List Int} {L : List Lk} {k : Nat} {o7 o8 o9 : Option W} (hb : c1.length = b) (k2 : 2 ≤ k) (k6 : k ≤ 6) (ho : ∀ i, inR k i → i ∈ order) (hs : SrcAt c1 m t) (ht : t ≤ 800000) (hL : L.length ≤ 100) : ∃ (p : Lk) (q8 q9 : Option W) (c2 : Cells), exS (tab.at n (j+3)) n b sLk (fB m b k o7 o8 o9) (c1 ++ e4 order L) = .nx (fB m b k o7 q8 q9) (c2 ++ e4 order (L ++ [p])) ∧ Drawn m (t + 3) c1 c2 ∧ inR k p.1 ∧ inR k p.2.1 ∧ order.idxOf p.1 < order.idxOf p.2.1 ∧ 0 ≤ p.2.2 ∧ p.2.2 ≤ 9 := by
  obtain ⟨i, l, c', e1, hi, hl, hne, d1⟩ := drawp_run (n := n) (j := j + 1) (cs := c1 ++ e4 order L) k2 k6 hs.app (by omega)
  obtain ⟨c2, rfl, d2⟩ := d1.app hs.lt
  have hb2 : c2.length = b := d2.len.trans hb
  obtain ⟨i', l', hil, hlt, e2⟩ := lk_swap (n := n) (j := j + 3) (m := m) (b := b) (c1 := c2) (order := order) (L := L) (k := (k : Int)) (o7 := o7) hb2 (ho i hi) (ho l hl) hne
  obtain ⟨d, c'', e3, d3, d0, d9⟩ := ev_next (fr := fB m b k o7 (some (.d (.int l'))) (some (.d (.int i')))) (i := 0) (e := .op .Add (.var 2) (.cst (.int 1))) (many := 10) (cs := c2 ++ e4 order L) (nx4 (n := n) (j := j + 2)) rfl (by simp [fB]) d2.src.app (by omega) (by omega) (by omega)
  obtain ⟨c3, rfl, d4⟩ := d3.app d2.src.lt
  have hb3 : c3.length = b := d4.len.trans hb2
  have hc : (c3 ++ e4 order L)[b + 2]? = some (some (.lst (L.map lkD))) := get_b (k := 2) hb3 rfl
  have ha := wBm_append (d := lkD (i', l', d)) hc (by rw [List.length_map]; omega)
  rw [set_b hb3] at ha
  have ty : wTy .append (.loc (b + 2)) (c2 ++ e4 order L) = true := by
    have hc : (c2 ++ e4 order L)[b + 2]? = some (some (.lst (L.map lkD))) := get_b (k := 2) hb2 rfl
    simp [wTy, dl, celL, hc]
  have es : (e4 order L).set 2 (some (.lst (L.map lkD ++ [lkD (i', l', d)]))) = e4 order (L ++ [(i', l', d)]) := by simp [e4]
  rw [es] at ha
  refine ⟨(i', l', d), some (.d (.int l')), some (.d (.int i')), c3, ?_, (d2.trans d4).mono (by omega), ?_, ?_, hlt, d0, show d ≤ 9 by omega⟩
  · have s0 : exS (tab.at n (j+3)) n b (.setT [9, 8] (.call 12 0 (.cons (.var 0) (.cons (.var 1) .nil)) .nil)) (fB m b k o7 o8 o9) (c1 ++ e4 order L) = .nx (fB m b k o7 (some (.d (.int l))) (some (.d (.int i)))) (c2 ++ e4 order L) := by
      have hv := call2 (wd := tab.at n (j+3)) (f := 12) (p := 0) (i := 0) (l := 1) (fr := fB m b k o7 o8 o9) rfl rfl (by simp) e1
      rw [x_setT, hv, onE_ok]
      rfl
    have s2 : exS (tab.at n (j+3)) n b (.expr (.bm .append (.var 3) (.cons (.tup (.cons (.var 9) (.cons (.var 8) (.cons (.call 4 0 (.cons (.var 0) (.cons (.op .Add (.var 2) (.cst (.int 1))) .nil)) .nil) .nil)))) .nil))) (fB m b k o7 (some (.d (.int l'))) (some (.d (.int i')))) (c2 ++ e4 order L) = .nx (fB m b k o7 (some (.d (.int l'))) (some (.d (.int i')))) (c3 ++ e4 order (L ++ [(i', l', d)])) := by
      have v3 : ∀ c, ev (tab.at n (j+3)) (.var 3) (fB m b k o7 (some (.d (.int l'))) (some (.d (.int i')))) c = .ok (.loc (b + 2)) c := fun c => by simp [fB]
      have v9 : ∀ c, ev (tab.at n (j+3)) (.var 9) (fB m b k o7 (some (.d (.int l'))) (some (.d (.int i')))) c = .ok (.d (.int i')) c := fun c => by simp [fB]
      have v8 : ∀ c, ev (tab.at n (j+3)) (.var 8) (fB m b k o7 (some (.d (.int l'))) (some (.d (.int i')))) c = .ok (.d (.int l')) c := fun c => by simp [fB]
      rw [x_expr, v_bm, v3]
      simp only [bind_ok, ty, if_true]
      rw [vA_cons, v_tup, vA_cons, v9]
      simp only [bind_ok]
      rw [vA_cons, v8]
      simp only [bind_ok]
      rw [vA_cons, e3]
      simp only [bind_ok, vA_nil]
      have ht : tupW [W.d (.int i'), .d (.int l'), .d (.int d)] (c3 ++ e4 order L) = .ok (.d (lkD (i', l', d))) (c3 ++ e4 order L) := by simp [tupW, pureDs, lit, lkD]
      rw [ht]
      simp only [bind_ok]
      rw [ha]
      simp
    unfold sLk
    rw [x_cons, s0, sbind_nx, x_cons, e2, sbind_nx, x_cons, s2, sbind_nx, x_nil]
  · rcases hil with ⟨rfl, rfl⟩ | ⟨rfl, rfl⟩
    · exact hi
    · exact hl
  · rcases hil with ⟨rfl, rfl⟩ | ⟨rfl, rfl⟩
    · exact hl
    · exact hi
structure LkOk (k : Nat) (order : List Int) (L : List Lk) : Prop where
  all : ∀ p ∈ L, inR k p.1 ∧ inR k p.2.1 ∧ order.idxOf p.1 < order.idxOf p.2.1 ∧ 0 ≤ p.2.2 ∧ p.2.2 ≤ 9
/-- how many turns -/
theorem many_run {fr : Fra} {k : Nat} (h0 : fr[0]? = some (some (.loc m))) (h1 : fr[1]? = some (some (.d (.int k)))) (k1 : 1 ≤ k) (k6 : k ≤ 6) (hs : SrcAt cs m t) (ht : t ≤ 900000) : ∃ (v : Nat) (c' : Cells), evI (tab.at n (j+1)) (.rng1 (.ife (.cmp .Gt (.var 1) (.cst (.int 1))) (.call 4 0 (.cons (.var 0) (.cons (.op .Mult (.cst (.int 2)) (.var 1)) .nil)) .nil) (.cst (.int 0)))) fr cs = .ok ((List.range v).map fun i : Nat => D.int (i : Int)) c' ∧ Drawn m (t + 1) cs c' ∧ v ≤ 11 ∧ (0 < v → 2 ≤ k) := by
  have hv1 : ∀ c, ev (tab.at n (j+1)) (.var 1) fr c = .ok (.d (.int k)) c := fun c => by simp [h1]
  by_cases hk : 1 < (k : Int)
  · have hm := fun cs => wOp_mul (i := 2) (j := (k : Int)) (by decide) (by omega) cs
    obtain ⟨r, c', e1, d1, r0, r1⟩ := ev_next (fr := fr) (i := 0) (e := .op .Mult (.cst (.int 2)) (.var 1)) (many := 2 * (k : Int)) (cs := cs) (nx4 (n := n) (j := j)) h0 (by
      rw [v_op, v_cst, bind_ok, hv1, bind_ok, hm]) hs (by omega) (by omega) (by omega)
    refine ⟨r.toNat, c', ?_, d1, by omega, fun _ => by omega⟩
    have hsm : small62 r = true := by
      unfold small62
      rw [decide_eq_true_eq]
      omega
    have hc : ev (tab.at n (j+1)) (.cmp .Gt (.var 1) (.cst (.int 1))) fr cs = .ok (.d (.bl true)) cs := by
      rw [v_cmp, hv1, bind_ok, v_cst, bind_ok, wCmp_gt]
      simp [hk]
    rw [vI_rng1, v_ife, hc, asB_ok, bind_ok, if_pos rfl, e1, asI_ok, bind_ok, if_pos hsm, rngD0]
  · refine ⟨0, cs, ?_, (Drawn.refl hs).mono (by omega), by omega, fun h => absurd h (Nat.lt_irrefl _)⟩
    have hc : ev (tab.at n (j+1)) (.cmp .Gt (.var 1) (.cst (.int 1))) fr cs = .ok (.d (.bl false)) cs := by
      rw [v_cmp, hv1, bind_ok, v_cst, bind_ok, wCmp_gt]
      simp [hk]
    rw [vI_rng1, v_ife, hc, asB_ok, bind_ok, if_neg (by decide), v_cst, asI_ok, bind_ok, if_pos (by decide), rngD0]
    rfl
theorem links_run {c1 : Cells} {order : List Int} {k : Nat} (hb : c1.length = b) (k1 : 1 ≤ k) (k6 : k ≤ 6) (ho : ∀ i, inR k i → i ∈ order) (hs : SrcAt c1 m t) (ht : t ≤ 700000) : ∃ (L : List Lk) (o7 o8 o9 : Option W) (c2 : Cells), exS (tab.at n (j+3)) n b (.loop (.rng1 (.ife (.cmp .Gt (.var 1) (.cst (.int 1))) (.call 4 0 (.cons (.var 0) (.cons (.op .Mult (.cst (.int 2)) (.var 1)) .nil)) .nil) (.cst (.int 0)))) [7] true (.cons (.setT [9, 8] (.call 12 0 (.cons (.var 0) (.cons (.var 1) .nil)) .nil)) (.cons (.ife (.cmp .Gt (.bm .index (.var 12) (.cons (.var 9) .nil)) (.bm .index (.var 12) (.cons (.var 8) .nil))) (.cons (.par [9, 8] (.cons (.var 8) (.cons (.var 9) .nil))) .nil) .nil) (.cons (.expr (.bm .append (.var 3) (.cons (.tup (.cons (.var 9) (.cons (.var 8) (.cons (.call 4 0 (.cons (.var 0) (.cons (.op .Add (.var 2) (.cst (.int 1))) .nil)) .nil) .nil)))) .nil))) .nil)))) (fB m b k none none none) (c1 ++ e4 order []) = .nx (fB m b k o7 o8 o9) (c2 ++ e4 order L) ∧ Drawn m (t + 40) c1 c2 ∧ L.length ≤ 11 ∧ LkOk k order L := by
  obtain ⟨v, c', e1, d1, v1, v2⟩ := many_run (n := n) (j := j + 2) (m := m) (t := t) (cs := c1 ++ e4 order []) (fr := fB m b k none none none) rfl rfl k1 k6 hs.app (by omega)
  obtain ⟨c2, rfl, d2⟩ := d1.app hs.lt
  obtain ⟨fr', cs', q1, L, o7, o8, o9, c3, rfl, rfl, d3, hl, hok⟩ := for_foldC (f := exS (tab.at n (j+3)) n b sLk) (tg := [7]) (one := true) 11 (fun i : Nat => D.int (i : Int)) (fun (u : Unit) _ => u)
    (fun i _ fr c => ∃ (L : List Lk) (o7 o8 o9 : Option W) (c3 : Cells), fr = fB m b k o7 o8 o9 ∧ c = c3 ++ e4 order L ∧ Drawn m (t + 1 + 3 * i) c1 c3 ∧ L.length = i ∧ LkOk k order L) (List.range v) 0 ()
    (fB m b k none none none) (c2 ++ e4 order []) (fun d hd i _ fr c hi ⟨L, o7, o8, o9, c3, hf, hc, d3, hl, hok⟩ => by
      subst hf hc
      have hd := List.mem_range.mp hd
      obtain ⟨p, q8, q9, c4, e, d4, p1, p2, p3, p4, p5⟩ := lk_turn (n := n) (j := j) (m := m) (b := b) (t := t + 1 + 3 * i) (c1 := c3) (order := order) (L := L) (k := k) (o7 := some (.d (.int (d : Int)))) (o8 := o8) (o9 := o9) (d3.len.trans hb) (v2 (by omega)) k6 ho d3.src (by omega) (by omega)
      refine ⟨_, _, _, rfl, .inl e, L ++ [p], _, q8, q9, c4, rfl, rfl, (d3.trans d4).mono (by omega), by rw [List.length_append, hl]; rfl, ⟨fun p' hp' => ?_⟩⟩
      rcases List.mem_append.mp hp' with h | h
      · exact hok.all p' h
      · rw [List.mem_singleton.mp h]
        exact ⟨p1, p2, p3, p4, p5⟩) (by simp; omega) ⟨[], none, none, none, c2, rfl, rfl, d2.mono (by omega), rfl, ⟨fun p hp => by cases hp⟩⟩
  simp only [List.length_range, Nat.zero_add] at d3 hl
  refine ⟨L, o7, o8, o9, c3, ?_, d3.mono (by omega), by omega, hok⟩
  rw [x_loop, e1, onE_ok, ← sLk, q1]
end
end K28
namespace K28
open PySem L2 BV
/-! ### drawn costs -/
def cOk (k : Nat) (L : List Lk) : Co → Prop
  | .line i j w => (∃ d, (i, j, d) ∈ L) ∧ 1 ≤ w ∧ w ≤ 5
  | .bend i j d w => inR k i ∧ inR k j ∧ i ≠ j ∧ -9 ≤ d ∧ d ≤ 9 ∧ 1 ≤ w ∧ w ≤ 5
theorem in_prsB (i l : Int) (L : List Lk) (cs : Cells) : wCmp .In (.d (.tup [.int i, .int l])) (.d (.lst (L.map prD))) cs = .ok (.d (.bl (L.any fun p => p.1 == i && p.2.1 == l))) cs := by
  have e0 : wCmp .In (.d (.tup [.int i, .int l])) (.d (.lst (L.map prD))) cs = wIn false (.d (.tup [.int i, .int l])) (.d (.lst (L.map prD))) cs := rfl
  have hs : SeqAt.shaped (.tuple [.int i, .int l]) = true := rfl
  have ha : ((L.map prP).any fun z => PyData.eqv z (.tuple [.int i, .int l])) = L.any fun p => p.1 == i && p.2.1 == l := by
    rw [List.any_map]
    congr 1
    funext p
    simp [prP, PyData.eqv, PyData.eqvAll, Function.comp]
  rw [e0]
  simp only [wIn, wPy, toPy, toPyL, dl, toPyL_prs, hs, shaped_prs, and_self, if_true, ha, Option.map_some]
  rfl
theorem ne_prs (L : List Lk) (cs : Cells) : wCmp .NotEq (.d (.lst (L.map prD))) (.d (.lst [])) cs = .ok (.d (.bl (!L.isEmpty))) cs := by
  rw [wCmp_ne (p := .list (L.map prP)) (q := .list []) (by simp [wPy, toPy, toPyL_prs]) (by simp [wPy, toPy, toPyL]) (shaped_prs L) (by decide +kernel)]
  cases L <;> rfl
def e5 (order : List Int) (C : List Co) (dead : Cells) : Cells := some (.lst (order.map .int)) :: some (.lst []) :: none :: some (.lst (C.map coD)) :: dead
section
variable {n j m b : Nat} {cs : Cells} {t : Int}
/-- a draw, ahead of some cells -/
theorem nextE {fr : Fra} {e : E} {many : Int} {c1 ext : Cells} (h0 : fr[0]? = some (some (.loc m))) (he : ∀ c, ev (tab.at n (j+1)) e fr c = .ok (.d (.int many)) c) (hs : SrcAt c1 m t) (ht : t ≤ 990000) (m0 : 0 < many) (m1 : many ≤ 1000) : ∃ (r : Int) (c2 : Cells), ev (tab.at n (j+1)) (.call 4 0 (.cons (.var 0) (.cons e .nil)) .nil) fr (c1 ++ ext) = .ok (.d (.int r)) (c2 ++ ext) ∧ Drawn m (t + 1) c1 c2 ∧ 0 ≤ r ∧ r < many := by
  obtain ⟨r, c', e1, d1, r0, r1⟩ := ev_next (i := 0) (nx4 (n := n) (j := j)) h0 (he (c1 ++ ext)) hs.app (by omega) m0 (by omega)
  obtain ⟨c2, rfl, d2⟩ := d1.app hs.lt
  exact ⟨r, c2, e1, d2, r0, r1⟩
theorem app_stmt {wd : Wd} {fr : Fra} {e : E} {c1 c2 dead : Cells} {order : List Int} {C : List Co} {c : Co} (h5 : fr[5]? = some (some (.loc (b + 3)))) (hb1 : c1.length = b) (hb2 : c2.length = b) (hC : C.length ≤ 100) (he : ev wd e fr (c1 ++ e5 order C dead) = .ok (.d (coD c)) (c2 ++ e5 order C dead)) : exS wd n b (.expr (.bm .append (.var 5) (.cons e .nil))) fr (c1 ++ e5 order C dead) = .nx fr (c2 ++ e5 order (C ++ [c]) dead) := by
  have hc1 : (c1 ++ e5 order C dead)[b + 3]? = some (some (.lst (C.map coD))) := get_b (k := 3) hb1 rfl
  have hc2 : (c2 ++ e5 order C dead)[b + 3]? = some (some (.lst (C.map coD))) := get_b (k := 3) hb2 rfl
  have ha := wBm_append (d := coD c) hc2 (by rw [List.length_map]; omega)
  rw [set_b hb2, show (e5 order C dead).set 3 (some (.lst (C.map coD ++ [coD c]))) = e5 order (C ++ [c]) dead by simp [e5]] at ha
  have ty : wTy .append (.loc (b + 3)) (c1 ++ e5 order C dead) = true := by simp [wTy, dl, celL, hc1]
  rw [x_expr, v_bm, v_var, h5]
  simp only [bind_ok, ty, if_true]
  rw [vA_cons, he]
  simp only [bind_ok, vA_nil]
  rw [ha]
  rfl
def fC (m b : Nat) (k : Int) (L : List Lk) (o7 o8 o9 o10 : Option W) : Fra := [some (.loc m), some (.d (.int k)), some (.d (.int 9)), some (.d (.lst (L.map lkD))), none, some (.loc (b + 3)), none, o7, o8, o9, o10, none, some (.loc b), some (.loc (b + 1))]
theorem cost_stmt {c1 dead : Cells} {order : List Int} {C : List Co} {L : List Lk} {k : Nat} {i l : Int} {o7 : Option W} (hb : c1.length = b) (hs : SrcAt c1 m t) (ht : t ≤ 800000) (hC : C.length ≤ 100) (hL : L.length ≤ 100) (hi : inR k i) (hl : inR k l) (hne : i ≠ l) : ∃ (c : Co) (c2 : Cells), exS (tab.at n (j+1)) n b (.ife (.and (.cons (.cmp .In (.tup (.cons (.var 9) (.cons (.var 8) .nil))) (.var 10)) (.cons (.cmp .Gt (.call 4 0 (.cons (.var 0) (.cons (.cst (.int 3)) .nil)) .nil) (.cst (.int 0))) .nil))) (.cons (.expr (.bm .append (.var 5) (.cons (.tup (.cons (.cst (.str "line")) (.cons (.var 9) (.cons (.var 8) (.cons (.op .Add (.cst (.int 1)) (.call 4 0 (.cons (.var 0) (.cons (.cst (.int 5)) .nil)) .nil)) .nil))))) .nil))) .nil) (.cons (.ife (.and (.cons (.cmp .NotEq (.var 10) (.lst .nil)) (.cons (.cmp .Eq (.call 4 0 (.cons (.var 0) (.cons (.cst (.int 4)) .nil)) .nil) (.cst (.int 0))) .nil))) (.cons (.expr (.bm .append (.var 5) (.cons (.op .Add (.op .Add (.tup (.cons (.cst (.str "line")) .nil)) (.ix (.var 10) (.call 4 0 (.cons (.var 0) (.cons (.bi .len (.cons (.var 10) .nil)) .nil)) .nil))) (.tup (.cons (.op .Add (.cst (.int 1)) (.call 4 0 (.cons (.var 0) (.cons (.cst (.int 5)) .nil)) .nil)) .nil))) .nil))) .nil) (.cons (.expr (.bm .append (.var 5) (.cons (.tup (.cons (.cst (.str "bend")) (.cons (.var 9) (.cons (.var 8) (.cons (.op .Sub (.call 4 0 (.cons (.var 0) (.cons (.op .Add (.op .Mult (.cst (.int 2)) (.var 2)) (.cst (.int 1))) .nil)) .nil) (.var 2)) (.cons (.op .Add (.cst (.int 1)) (.call 4 0 (.cons (.var 0) (.cons (.cst (.int 5)) .nil)) .nil)) .nil)))))) .nil))) .nil)) .nil)) (fC m b k L o7 (some (.d (.int l))) (some (.d (.int i))) (some (.d (.lst (L.map prD))))) (c1 ++ e5 order C dead) = .nx (fC m b k L o7 (some (.d (.int l))) (some (.d (.int i))) (some (.d (.lst (L.map prD))))) (c2 ++ e5 order (C ++ [c]) dead) ∧ Drawn m (t + 6) c1 c2 ∧ cOk k L c := by
  generalize hfr : fC m b k L o7 (some (.d (.int l))) (some (.d (.int i))) (some (.d (.lst (L.map prD)))) = fr
  have f0 : fr[0]? = some (some (.loc m)) := by rw [← hfr]; rfl
  have f2 : fr[2]? = some (some (.d (.int 9))) := by rw [← hfr]; rfl
  have f5 : fr[5]? = some (some (.loc (b + 3))) := by rw [← hfr]; rfl
  have f8 : fr[8]? = some (some (.d (.int l))) := by rw [← hfr]; rfl
  have f9 : fr[9]? = some (some (.d (.int i))) := by rw [← hfr]; rfl
  have f10 : fr[10]? = some (some (.d (.lst (L.map prD)))) := by rw [← hfr]; rfl
  have v8 : ∀ c, ev (tab.at n (j+1)) (.var 8) fr c = .ok (.d (.int l)) c := fun c => by rw [v_var, f8]
  have v9 : ∀ c, ev (tab.at n (j+1)) (.var 9) fr c = .ok (.d (.int i)) c := fun c => by rw [v_var, f9]
  have v10 : ∀ c, ev (tab.at n (j+1)) (.var 10) fr c = .ok (.d (.lst (L.map prD))) c := fun c => by rw [v_var, f10]
  have vpr : ∀ c, ev (tab.at n (j+1)) (.tup (.cons (.var 9) (.cons (.var 8) .nil))) fr c = .ok (.d (.tup [.int i, .int l])) c := fun c => by
    rw [v_tup, vA_cons, v9]
    simp only [bind_ok]
    rw [vA_cons, v8]
    simp [tupW, pureDs, lit]
  have vin : ∀ c, ev (tab.at n (j+1)) (.cmp .In (.tup (.cons (.var 9) (.cons (.var 8) .nil))) (.var 10)) fr c = .ok (.d (.bl (L.any fun p => p.1 == i && p.2.1 == l))) c := fun c => by
    rw [v_cmp, vpr, bind_ok, v10, bind_ok, in_prsB]
  have vne : ∀ c, ev (tab.at n (j+1)) (.cmp .NotEq (.var 10) (.lst .nil)) fr c = .ok (.d (.bl (!L.isEmpty))) c := fun c => by
    have hnil : ev (tab.at n (j+1)) (.lst .nil) fr c = .ok (.d (.lst [])) c := by simp [lstW, pureDs, lit]
    rw [v_cmp, v10, bind_ok, hnil, bind_ok, ne_prs]
  have w5 : ∀ {c1 : Cells} {t : Int}, SrcAt c1 m t → t ≤ 950000 → ∃ (w : Int) (c2 : Cells), ev (tab.at n (j+1)) (.op .Add (.cst (.int 1)) (.call 4 0 (.cons (.var 0) (.cons (.cst (.int 5)) .nil)) .nil)) fr (c1 ++ e5 order C dead) = .ok (.d (.int w)) (c2 ++ e5 order C dead) ∧ Drawn m (t + 1) c1 c2 ∧ 1 ≤ w ∧ w ≤ 5 := fun {c1 t} hs ht => by
    obtain ⟨r, c2, e, d, r0, r1⟩ := nextE (n := n) (j := j) (e := .cst (.int 5)) (many := 5) (ext := e5 order C dead) f0 (fun c => by rw [v_cst]) hs (by omega) (by decide) (by decide)
    refine ⟨1 + r, c2, ?_, d, by omega, by omega⟩
    rw [v_op, v_cst, bind_ok, e, bind_ok, wOp_add]
  have caseC : ∀ {c1 : Cells} {t : Int}, c1.length = b → SrcAt c1 m t → t ≤ 900000 → ∃ (c : Co) (c2 : Cells), exS (tab.at n (j+1)) n b (.expr (.bm .append (.var 5) (.cons (.tup (.cons (.cst (.str "bend")) (.cons (.var 9) (.cons (.var 8) (.cons (.op .Sub (.call 4 0 (.cons (.var 0) (.cons (.op .Add (.op .Mult (.cst (.int 2)) (.var 2)) (.cst (.int 1))) .nil)) .nil) (.var 2)) (.cons (.op .Add (.cst (.int 1)) (.call 4 0 (.cons (.var 0) (.cons (.cst (.int 5)) .nil)) .nil)) .nil)))))) .nil))) fr (c1 ++ e5 order C dead) = .nx fr (c2 ++ e5 order (C ++ [c]) dead) ∧ Drawn m (t + 2) c1 c2 ∧ cOk k L c := fun {c1 t} hb hs ht => by
    have hm := fun cs => wOp_mul (i := 2) (j := 9) (by decide) (by decide) cs
    obtain ⟨r, c2, e, d, r0, r1⟩ := nextE (n := n) (j := j) (e := .op .Add (.op .Mult (.cst (.int 2)) (.var 2)) (.cst (.int 1))) (many := 19) (ext := e5 order C dead) f0 (fun c => by
      rw [v_op, v_op, v_cst, bind_ok, v_var, f2]
      simp only [bind_ok, hm, v_cst, wOp_add]
      rfl) hs (by omega) (by decide) (by decide)
    obtain ⟨w, c3, e3, d3, w1, w2⟩ := w5 d.src (by omega)
    refine ⟨.bend i l (r - 9) w, c3, ?_, (d.trans d3).mono (by omega), hi, hl, hne, by omega, by omega, w1, w2⟩
    refine app_stmt f5 hb ((d.trans d3).len.trans hb) hC ?_
    have eM : ev (tab.at n (j+1)) (.op .Sub (.call 4 0 (.cons (.var 0) (.cons (.op .Add (.op .Mult (.cst (.int 2)) (.var 2)) (.cst (.int 1))) .nil)) .nil) (.var 2)) fr (c1 ++ e5 order C dead) = .ok (.d (.int (r - 9))) (c2 ++ e5 order C dead) := by
      rw [v_op, e, bind_ok, v_var, f2]
      simp only [bind_ok, wOp_sub]
    rw [v_tup, vA_cons, v_cst, bind_ok, vA_cons, v9, bind_ok, vA_cons, v8, bind_ok, vA_cons, eM, bind_ok, vA_cons, e3, bind_ok, vA_nil]
    simp [tupW, pureDs, lit, coD]
  have caseB : ∀ {c1 : Cells} {t : Int}, c1.length = b → SrcAt c1 m t → t ≤ 900000 → L ≠ [] → ∃ (c : Co) (c2 : Cells), exS (tab.at n (j+1)) n b (.expr (.bm .append (.var 5) (.cons (.op .Add (.op .Add (.tup (.cons (.cst (.str "line")) .nil)) (.ix (.var 10) (.call 4 0 (.cons (.var 0) (.cons (.bi .len (.cons (.var 10) .nil)) .nil)) .nil))) (.tup (.cons (.op .Add (.cst (.int 1)) (.call 4 0 (.cons (.var 0) (.cons (.cst (.int 5)) .nil)) .nil)) .nil))) .nil))) fr (c1 ++ e5 order C dead) = .nx fr (c2 ++ e5 order (C ++ [c]) dead) ∧ Drawn m (t + 2) c1 c2 ∧ cOk k L c := fun {c1 t} hb hs ht hLn => by
    have hpos : 0 < L.length := List.length_pos_iff.mpr hLn
    obtain ⟨r, c2, e, d, r0, r1⟩ := nextE (n := n) (j := j) (e := .bi .len (.cons (.var 10) .nil)) (many := (L.length : Int)) (ext := e5 order C dead) f0 (fun c => by
      rw [v_bi, vA_cons, v10]
      simp [wBi, dl]) hs (by omega) (by omega) (by omega)
    obtain ⟨w, c3, e3, d3, w1, w2⟩ := w5 d.src (by omega)
    have hk : r.toNat < L.length := by omega
    have hat : atI (L.map prD) r = some (prD L[r.toNat]) := by
      unfold L2.atI
      rw [List.length_map, ixN_nat r0 r1]
      simp [hk]
    refine ⟨.line L[r.toNat].1 L[r.toNat].2.1 w, c3, ?_, (d.trans d3).mono (by omega), ⟨L[r.toNat].2.2, List.getElem_mem hk⟩, w1, w2⟩
    refine app_stmt f5 hb ((d.trans d3).len.trans hb) hC ?_
    have eX : ev (tab.at n (j+1)) (.ix (.var 10) (.call 4 0 (.cons (.var 0) (.cons (.bi .len (.cons (.var 10) .nil)) .nil)) .nil)) fr (c1 ++ e5 order C dead) = .ok (.d (prD L[r.toNat])) (c2 ++ e5 order C dead) := by
      rw [v_ix, v10, bind_ok, e, bind_ok, wIx_at hat]
    have eL : ∀ c, ev (tab.at n (j+1)) (.tup (.cons (.cst (.str "line")) .nil)) fr c = .ok (.d (.tup [.str "line"])) c := fun c => by simp [tupW, pureDs, lit]
    have eW : ev (tab.at n (j+1)) (.tup (.cons (.op .Add (.cst (.int 1)) (.call 4 0 (.cons (.var 0) (.cons (.cst (.int 5)) .nil)) .nil)) .nil)) fr (c2 ++ e5 order C dead) = .ok (.d (.tup [.int w])) (c3 ++ e5 order C dead) := by
      rw [v_tup, vA_cons, e3, bind_ok, vA_nil]
      simp [tupW, pureDs, lit]
    rw [v_op, v_op, eL, bind_ok, eX, bind_ok]
    have p1 : ∀ (p : Lk) c, wOp .Add (.d (.tup [.str "line"])) (.d (prD p)) c = .ok (.d (.tup [.str "line", .int p.1, .int p.2.1])) c := fun p c => by simp [wOp, wAdd, lit, prD]
    rw [p1, bind_ok, eW, bind_ok]
    simp [wOp, wAdd, lit, coD]
  have caseA : ∀ {c1 : Cells} {t : Int}, c1.length = b → SrcAt c1 m t → t ≤ 900000 → (L.any fun p => p.1 == i && p.2.1 == l) = true → ∃ (c : Co) (c2 : Cells), exS (tab.at n (j+1)) n b (.expr (.bm .append (.var 5) (.cons (.tup (.cons (.cst (.str "line")) (.cons (.var 9) (.cons (.var 8) (.cons (.op .Add (.cst (.int 1)) (.call 4 0 (.cons (.var 0) (.cons (.cst (.int 5)) .nil)) .nil)) .nil))))) .nil))) fr (c1 ++ e5 order C dead) = .nx fr (c2 ++ e5 order (C ++ [c]) dead) ∧ Drawn m (t + 2) c1 c2 ∧ cOk k L c := fun {c1 t} hb hs ht ha => by
    obtain ⟨w, c3, e3, d3, w1, w2⟩ := w5 hs (by omega)
    obtain ⟨p, hp, hq⟩ := List.any_eq_true.mp ha
    simp only [Bool.and_eq_true, beq_iff_eq] at hq
    refine ⟨.line i l w, c3, ?_, d3.mono (by omega), ⟨p.2.2, by rw [← hq.1, ← hq.2]; exact hp⟩, w1, w2⟩
    refine app_stmt f5 hb (d3.len.trans hb) hC ?_
    rw [v_tup, vA_cons, v_cst, bind_ok, vA_cons, v9, bind_ok, vA_cons, v8, bind_ok, vA_cons, e3, bind_ok, vA_nil]
    simp [tupW, pureDs, lit, coD]
  have caseE : ∀ {c1 : Cells} {t : Int}, c1.length = b → SrcAt c1 m t → t ≤ 890000 → ∃ (c : Co) (c2 : Cells), exS (tab.at n (j+1)) n b (.ife (.and (.cons (.cmp .NotEq (.var 10) (.lst .nil)) (.cons (.cmp .Eq (.call 4 0 (.cons (.var 0) (.cons (.cst (.int 4)) .nil)) .nil) (.cst (.int 0))) .nil))) (.cons (.expr (.bm .append (.var 5) (.cons (.op .Add (.op .Add (.tup (.cons (.cst (.str "line")) .nil)) (.ix (.var 10) (.call 4 0 (.cons (.var 0) (.cons (.bi .len (.cons (.var 10) .nil)) .nil)) .nil))) (.tup (.cons (.op .Add (.cst (.int 1)) (.call 4 0 (.cons (.var 0) (.cons (.cst (.int 5)) .nil)) .nil)) .nil))) .nil))) .nil) (.cons (.expr (.bm .append (.var 5) (.cons (.tup (.cons (.cst (.str "bend")) (.cons (.var 9) (.cons (.var 8) (.cons (.op .Sub (.call 4 0 (.cons (.var 0) (.cons (.op .Add (.op .Mult (.cst (.int 2)) (.var 2)) (.cst (.int 1))) .nil)) .nil) (.var 2)) (.cons (.op .Add (.cst (.int 1)) (.call 4 0 (.cons (.var 0) (.cons (.cst (.int 5)) .nil)) .nil)) .nil)))))) .nil))) .nil)) fr (c1 ++ e5 order C dead) = .nx fr (c2 ++ e5 order (C ++ [c]) dead) ∧ Drawn m (t + 4) c1 c2 ∧ cOk k L c := fun {c1 t} hb hs ht => by
    by_cases hLn : L = []
    · obtain ⟨c, c2, e, d, h⟩ := caseC hb hs (by omega)
      refine ⟨c, c2, ?_, d.mono (by omega), h⟩
      have hv : ev (tab.at n (j+1)) (.and (.cons (.cmp .NotEq (.var 10) (.lst .nil)) (.cons (.cmp .Eq (.call 4 0 (.cons (.var 0) (.cons (.cst (.int 4)) .nil)) .nil) (.cst (.int 0))) .nil))) fr (c1 ++ e5 order C dead) = .ok (.d (.bl false)) (c1 ++ e5 order C dead) := by
        rw [v_and, vAnd_cons, vne, hLn]
        simp
      rw [x_ife, hv, asB_ok, onE_ok, if_neg (by decide), x_cons, e, sbind_nx, x_nil]
    · have hLe : (!L.isEmpty) = true := by cases L with
        | nil => exact absurd rfl hLn
        | cons _ _ => rfl
      obtain ⟨r, c2, e, d, r0, r1⟩ := nextE (n := n) (j := j) (e := .cst (.int 4)) (many := 4) (ext := e5 order C dead) f0 (fun c => by rw [v_cst]) hs (by omega) (by decide) (by decide)
      have hv : ev (tab.at n (j+1)) (.and (.cons (.cmp .NotEq (.var 10) (.lst .nil)) (.cons (.cmp .Eq (.call 4 0 (.cons (.var 0) (.cons (.cst (.int 4)) .nil)) .nil) (.cst (.int 0))) .nil))) fr (c1 ++ e5 order C dead) = .ok (.d (.bl (r == 0))) (c2 ++ e5 order C dead) := by
        rw [v_and, vAnd_cons, vne, hLe]
        simp only [asB_ok, bind_ok, if_true]
        rw [vAnd_cons, v_cmp, e]
        simp only [bind_ok, v_cst, wCmp_eq_int, asB_ok, vAnd_nil]
        cases (r == 0) <;> rfl
      have hb2 : c2.length = b := d.len.trans hb
      cases hr : (r == 0) with
      | true =>
        rw [hr] at hv
        obtain ⟨c, c3, e3, d3, h⟩ := caseB hb2 d.src (by omega) hLn
        refine ⟨c, c3, ?_, (d.trans d3).mono (by omega), h⟩
        rw [x_ife, hv, asB_ok, onE_ok, if_pos rfl, x_cons, e3, sbind_nx, x_nil]
      | false =>
        rw [hr] at hv
        obtain ⟨c, c3, e3, d3, h⟩ := caseC hb2 d.src (by omega)
        refine ⟨c, c3, ?_, (d.trans d3).mono (by omega), h⟩
        rw [x_ife, hv, asB_ok, onE_ok, if_neg (by decide), x_cons, e3, sbind_nx, x_nil]
  cases ha : (L.any fun p => p.1 == i && p.2.1 == l) with
  | false =>
    obtain ⟨c, c2, e, d, h⟩ := caseE hb hs (by omega)
    refine ⟨c, c2, ?_, d.mono (by omega), h⟩
    have hv : ev (tab.at n (j+1)) (.and (.cons (.cmp .In (.tup (.cons (.var 9) (.cons (.var 8) .nil))) (.var 10)) (.cons (.cmp .Gt (.call 4 0 (.cons (.var 0) (.cons (.cst (.int 3)) .nil)) .nil) (.cst (.int 0))) .nil))) fr (c1 ++ e5 order C dead) = .ok (.d (.bl false)) (c1 ++ e5 order C dead) := by
      rw [v_and, vAnd_cons, vin, ha]
      simp
    rw [x_ife, hv, asB_ok, onE_ok, if_neg (by decide), x_cons, e, sbind_nx, x_nil]
  | true =>
    obtain ⟨r, c2, e, d, r0, r1⟩ := nextE (n := n) (j := j) (e := .cst (.int 3)) (many := 3) (ext := e5 order C dead) f0 (fun c => by rw [v_cst]) hs (by omega) (by decide) (by decide)
    have hv : ev (tab.at n (j+1)) (.and (.cons (.cmp .In (.tup (.cons (.var 9) (.cons (.var 8) .nil))) (.var 10)) (.cons (.cmp .Gt (.call 4 0 (.cons (.var 0) (.cons (.cst (.int 3)) .nil)) .nil) (.cst (.int 0))) .nil))) fr (c1 ++ e5 order C dead) = .ok (.d (.bl (decide (0 < r)))) (c2 ++ e5 order C dead) := by
      rw [v_and, vAnd_cons, vin, ha]
      simp only [asB_ok, bind_ok, if_true]
      rw [vAnd_cons, v_cmp, e]
      simp only [bind_ok, v_cst, wCmp_gt, asB_ok, vAnd_nil]
      by_cases h : 0 < r <;> simp [h]
    have hb2 : c2.length = b := d.len.trans hb
    by_cases hr : 0 < r
    · rw [show decide (0 < r) = true by simpa using hr] at hv
      obtain ⟨c, c3, e3, d3, h⟩ := caseA hb2 d.src (by omega) ha
      refine ⟨c, c3, ?_, (d.trans d3).mono (by omega), h⟩
      rw [x_ife, hv, asB_ok, onE_ok, if_pos rfl, x_cons, e3, sbind_nx, x_nil]
    · rw [show decide (0 < r) = false by simpa using hr] at hv
      obtain ⟨c, c3, e3, d3, h⟩ := caseE hb2 d.src (by omega)
      refine ⟨c, c3, ?_, (d.trans d3).mono (by omega), h⟩
      rw [x_ife, hv, asB_ok, onE_ok, if_neg (by decide), x_cons, e3, sbind_nx, x_nil]
end
end K28
namespace K28
open PySem L2 BV
theorem e5_app (order : List Int) (C : List Co) (dead : Cells) (x : Option Cell) : e5 order C dead ++ [x] = e5 order C (dead ++ [x]) := rfl
theorem ints_of {xs : List D} (h : ∀ x ∈ xs, ∃ f : Int, x = .int f ∧ 0 ≤ f ∧ f ≤ 9) : ∃ F : List Int, xs = F.map .int ∧ ∀ f ∈ F, 0 ≤ f ∧ f ≤ 9 := by
  induction xs with
  | nil => exact ⟨[], rfl, fun f hf => by cases hf⟩
  | cons x xs ih =>
    obtain ⟨f, rfl, h0, h1⟩ := h x (List.mem_cons_self ..)
    obtain ⟨F, rfl, hF⟩ := ih fun y hy => h y (List.mem_cons_of_mem _ hy)
    refine ⟨f :: F, rfl, fun g hg => ?_⟩
    rcases List.mem_cons.mp hg with rfl | hg
    · exact ⟨h0, h1⟩
    · exact hF g hg
section
variable {n j m b : Nat} {cs : Cells} {t : Int}
def sCo : S := (.cons (.setT [9, 8] (.call 12 0 (.cons (.var 0) (.cons (.var 1) .nil)) .nil)) (.cons (.setL 10 (.lc (.sl (.var 11) .nil (.cons (.cst (.int 2)) .nil)) (.itl (.var 3)) .nil [11] true [("_law_link", 11)])) (.cons (.frz 10) (.cons (.ife (.and (.cons (.cmp .In (.tup (.cons (.var 9) (.cons (.var 8) .nil))) (.var 10)) (.cons (.cmp .Gt (.call 4 0 (.cons (.var 0) (.cons (.cst (.int 3)) .nil)) .nil) (.cst (.int 0))) .nil))) (.cons (.expr (.bm .append (.var 5) (.cons (.tup (.cons (.cst (.str "line")) (.cons (.var 9) (.cons (.var 8) (.cons (.op .Add (.cst (.int 1)) (.call 4 0 (.cons (.var 0) (.cons (.cst (.int 5)) .nil)) .nil)) .nil))))) .nil))) .nil) (.cons (.ife (.and (.cons (.cmp .NotEq (.var 10) (.lst .nil)) (.cons (.cmp .Eq (.call 4 0 (.cons (.var 0) (.cons (.cst (.int 4)) .nil)) .nil) (.cst (.int 0))) .nil))) (.cons (.expr (.bm .append (.var 5) (.cons (.op .Add (.op .Add (.tup (.cons (.cst (.str "line")) .nil)) (.ix (.var 10) (.call 4 0 (.cons (.var 0) (.cons (.bi .len (.cons (.var 10) .nil)) .nil)) .nil))) (.tup (.cons (.op .Add (.cst (.int 1)) (.call 4 0 (.cons (.var 0) (.cons (.cst (.int 5)) .nil)) .nil)) .nil))) .nil))) .nil) (.cons (.expr (.bm .append (.var 5) (.cons (.tup (.cons (.cst (.str "bend")) (.cons (.var 9) (.cons (.var 8) (.cons (.op .Sub (.call 4 0 (.cons (.var 0) (.cons (.op .Add (.op .Mult (.cst (.int 2)) (.var 2)) (.cst (.int 1))) .nil)) .nil) (.var 2)) (.cons (.op .Add (.cst (.int 1)) (.call 4 0 (.cons (.var 0) (.cons (.cst (.int 5)) .nil)) .nil)) .nil)))))) .nil))) .nil)) .nil)) .nil))))
theorem co_turn {c1 dead : Cells} {order : List Int} {C : List Co} {L : List Lk} {k : Nat} {d : D} {o8 o9 o10 : Option W} (hb : c1.length = b) (hm : m < b) (k2 : 2 ≤ k) (k6 : k ≤ 6) (hs : SrcAt c1 m t) (ht : t ≤ 700000) (hC : C.length ≤ 100) (hL : L.length ≤ 100) : ∃ (c : Co) (q8 q9 q10 : Option W) (c2 dead2 : Cells), exS (tab.at n (j+3)) n b sCo (fC m b k L (some (.d d)) o8 o9 o10) (c1 ++ e5 order C dead) = .nx (fC m b k L (some (.d d)) q8 q9 q10) (c2 ++ e5 order (C ++ [c]) dead2) ∧ Drawn m (t + 8) c1 c2 ∧ cOk k L c := by
  obtain ⟨i, l, c', e1, hi, hl, hne, d1⟩ := drawp_run (n := n) (j := j + 1) (cs := c1 ++ e5 order C dead) k2 k6 hs.app (by omega)
  obtain ⟨c2, rfl, d2⟩ := d1.app hs.lt
  have hb2 : c2.length = b := d2.len.trans hb
  have s0 : exS (tab.at n (j+3)) n b (.setT [9, 8] (.call 12 0 (.cons (.var 0) (.cons (.var 1) .nil)) .nil)) (fC m b k L (some (.d d)) o8 o9 o10) (c1 ++ e5 order C dead) = .nx (fC m b k L (some (.d d)) (some (.d (.int l))) (some (.d (.int i))) o10) (c2 ++ e5 order C dead) := by
    have hv := call2 (wd := tab.at n (j+3)) (f := 12) (p := 0) (i := 0) (l := 1) (fr := fC m b k L (some (.d d)) o8 o9 o10) rfl rfl (by simp) e1
    rw [x_setT, hv, onE_ok]
    rfl
  have hN : (c2 ++ e5 order C dead).length = b + 4 + dead.length := by
    rw [List.length_append, hb2]
    simp only [e5, List.length_cons]
    omega
  have l1 := evL_lcQ (wd := tab.at n (j+3)) (elt := .sl (.var 11) .nil (.cons (.cst (.int 2)) .nil)) (it := .itl (.var 3)) (conds := .nil) (tg := [11]) (one := true) (own := [("_law_link", 11)]) (fr := fC m b k L (some (.d d)) (some (.d (.int l))) (some (.d (.int i))) o10) (cs := c2 ++ e5 order C dead) (c1 := c2 ++ e5 order C dead) L lkD prD (fun _ => true) (by simp [fC]) (fun p hp => ⟨_, rfl, fun acc => ⟨by simp, fun _ => by
    have hsl : ∀ cs, wSl (.d (lkD p)) none (some 2) cs = .ok (.d (prD p)) cs := fun _ => rfl
    simp [fC, wipeF, hsl]⟩⟩) (by omega)
  have e0 : (L.filter fun _ => true) = L := List.filter_eq_self.mpr fun _ _ => rfl
  rw [e0] at l1
  have s1 : exS (tab.at n (j+3)) n b (.setL 10 (.lc (.sl (.var 11) .nil (.cons (.cst (.int 2)) .nil)) (.itl (.var 3)) .nil [11] true [("_law_link", 11)])) (fC m b k L (some (.d d)) (some (.d (.int l))) (some (.d (.int i))) o10) (c2 ++ e5 order C dead) = .nx (fC m b k L (some (.d d)) (some (.d (.int l))) (some (.d (.int i))) (some (.loc (c2 ++ e5 order C dead).length))) ((c2 ++ e5 order C dead) ++ [some (.lst (L.map prD))]) := by
    rw [x_setL, l1, onE_ok]
    have : ((c2 ++ e5 order C dead) ++ [some (Cell.lst (L.map prD))]).length - 1 = (c2 ++ e5 order C dead).length := by simp
    rw [this]
    rfl
  have s2 : exS (tab.at n (j+3)) n b (.frz 10) (fC m b k L (some (.d d)) (some (.d (.int l))) (some (.d (.int i))) (some (.loc (c2 ++ e5 order C dead).length))) ((c2 ++ e5 order C dead) ++ [some (.lst (L.map prD))]) = .nx (fC m b k L (some (.d d)) (some (.d (.int l))) (some (.d (.int i))) (some (.d (.lst (L.map prD))))) (c2 ++ e5 order C (dead ++ [none])) := by
    have hx : (c2 ++ e5 order C dead) ++ [none] = c2 ++ e5 order C (dead ++ [none]) := by rw [List.append_assoc, e5_app]
    rw [← hx, x_frz]
    generalize hc : c2 ++ e5 order C dead = cc at hN
    have h1 : b ≤ cc.length := by omega
    have n1 : ¬ m = cc.length := by omega
    have n2 : ¬ b = cc.length := by omega
    have n3 : ¬ b + 1 = cc.length := by omega
    have n4 : ¬ b + 3 = cc.length := by omega
    simp [frzR, celL, fC, frzW, h1, n1, n2, n3, n4]
  obtain ⟨c, c3, e3, d3, hc⟩ := cost_stmt (n := n) (j := j + 2) (m := m) (b := b) (t := t + 2) (c1 := c2) (dead := dead ++ [none]) (order := order) (C := C) (L := L) (k := k) (i := i) (l := l) (o7 := some (.d d)) hb2 d2.src (by omega) hC hL hi hl hne
  refine ⟨c, some (.d (.int l)), some (.d (.int i)), some (.d (.lst (L.map prD))), c3, dead ++ [none], ?_, (d2.trans d3).mono (by omega), hc⟩
  unfold sCo
  rw [x_cons, s0, sbind_nx, x_cons, s1, sbind_nx, x_cons, s2, sbind_nx, x_cons, e3, sbind_nx, x_nil]
theorem costs_run {c1 dead : Cells} {order : List Int} {L : List Lk} {k : Nat} {o7 o8 o9 o10 : Option W} (hb : c1.length = b) (hm : m < b) (k1 : 1 ≤ k) (k6 : k ≤ 6) (hs : SrcAt c1 m t) (ht : t ≤ 600000) (hL : L.length ≤ 100) : ∃ (C : List Co) (q7 q8 q9 q10 : Option W) (c2 dead2 : Cells), exS (tab.at n (j+3)) n b (.loop (.rng1 (.ife (.cmp .Gt (.var 1) (.cst (.int 1))) (.call 4 0 (.cons (.var 0) (.cons (.op .Mult (.cst (.int 2)) (.var 1)) .nil)) .nil) (.cst (.int 0)))) [7] true (.cons (.setT [9, 8] (.call 12 0 (.cons (.var 0) (.cons (.var 1) .nil)) .nil)) (.cons (.setL 10 (.lc (.sl (.var 11) .nil (.cons (.cst (.int 2)) .nil)) (.itl (.var 3)) .nil [11] true [("_law_link", 11)])) (.cons (.frz 10) (.cons (.ife (.and (.cons (.cmp .In (.tup (.cons (.var 9) (.cons (.var 8) .nil))) (.var 10)) (.cons (.cmp .Gt (.call 4 0 (.cons (.var 0) (.cons (.cst (.int 3)) .nil)) .nil) (.cst (.int 0))) .nil))) (.cons (.expr (.bm .append (.var 5) (.cons (.tup (.cons (.cst (.str "line")) (.cons (.var 9) (.cons (.var 8) (.cons (.op .Add (.cst (.int 1)) (.call 4 0 (.cons (.var 0) (.cons (.cst (.int 5)) .nil)) .nil)) .nil))))) .nil))) .nil) (.cons (.ife (.and (.cons (.cmp .NotEq (.var 10) (.lst .nil)) (.cons (.cmp .Eq (.call 4 0 (.cons (.var 0) (.cons (.cst (.int 4)) .nil)) .nil) (.cst (.int 0))) .nil))) (.cons (.expr (.bm .append (.var 5) (.cons (.op .Add (.op .Add (.tup (.cons (.cst (.str "line")) .nil)) (.ix (.var 10) (.call 4 0 (.cons (.var 0) (.cons (.bi .len (.cons (.var 10) .nil)) .nil)) .nil))) (.tup (.cons (.op .Add (.cst (.int 1)) (.call 4 0 (.cons (.var 0) (.cons (.cst (.int 5)) .nil)) .nil)) .nil))) .nil))) .nil) (.cons (.expr (.bm .append (.var 5) (.cons (.tup (.cons (.cst (.str "bend")) (.cons (.var 9) (.cons (.var 8) (.cons (.op .Sub (.call 4 0 (.cons (.var 0) (.cons (.op .Add (.op .Mult (.cst (.int 2)) (.var 2)) (.cst (.int 1))) .nil)) .nil) (.var 2)) (.cons (.op .Add (.cst (.int 1)) (.call 4 0 (.cons (.var 0) (.cons (.cst (.int 5)) .nil)) .nil)) .nil)))))) .nil))) .nil)) .nil)) .nil))))) (fC m b k L o7 o8 o9 o10) (c1 ++ e5 order [] dead) = .nx (fC m b k L q7 q8 q9 q10) (c2 ++ e5 order C dead2) ∧ Drawn m (t + 100) c1 c2 ∧ C.length ≤ 11 ∧ ∀ c ∈ C, cOk k L c := by
  obtain ⟨v, c', e1, d1, v1, v2⟩ := many_run (n := n) (j := j + 2) (m := m) (t := t) (cs := c1 ++ e5 order [] dead) (fr := fC m b k L o7 o8 o9 o10) rfl rfl k1 k6 hs.app (by omega)
  obtain ⟨c2, rfl, d2⟩ := d1.app hs.lt
  obtain ⟨fr', cs', q1, C, q7, q8, q9, q10, c3, dead3, rfl, rfl, d3, hl, hok⟩ := for_foldC (f := exS (tab.at n (j+3)) n b sCo) (tg := [7]) (one := true) 11 (fun i : Nat => D.int (i : Int)) (fun (u : Unit) _ => u)
    (fun i _ fr c => ∃ (C : List Co) (o7 o8 o9 o10 : Option W) (c3 dead3 : Cells), fr = fC m b k L o7 o8 o9 o10 ∧ c = c3 ++ e5 order C dead3 ∧ Drawn m (t + 1 + 8 * i) c1 c3 ∧ C.length = i ∧ ∀ c ∈ C, cOk k L c) (List.range v) 0 ()
    (fC m b k L o7 o8 o9 o10) (c2 ++ e5 order [] dead) (fun d hd i _ fr c hi ⟨C, o7, o8, o9, o10, c3, dead3, hf, hc, d3, hl, hok⟩ => by
      subst hf hc
      have hd := List.mem_range.mp hd
      obtain ⟨co, q8, q9, q10, c4, dead4, e, d4, hco⟩ := co_turn (n := n) (j := j) (m := m) (b := b) (t := t + 1 + 8 * i) (c1 := c3) (dead := dead3) (order := order) (C := C) (L := L) (k := k) (d := .int (d : Int)) (o8 := o8) (o9 := o9) (o10 := o10) (d3.len.trans hb) hm (v2 (by omega)) k6 d3.src (by omega) (by omega) hL
      refine ⟨_, _, _, rfl, .inl e, C ++ [co], _, q8, q9, q10, c4, dead4, rfl, rfl, (d3.trans d4).mono (by omega), by rw [List.length_append, hl]; rfl, fun p' hp' => ?_⟩
      rcases List.mem_append.mp hp' with h | h
      · exact hok p' h
      · rw [List.mem_singleton.mp h]
        exact hco) (by simp; omega) ⟨[], o7, o8, o9, o10, c2, dead, rfl, rfl, d2.mono (by omega), rfl, fun p hp => by cases hp⟩
  simp only [List.length_range, Nat.zero_add] at d3 hl
  refine ⟨C, q7, q8, q9, q10, c3, dead3, ?_, d3.mono (by omega), by omega, hok⟩
  rw [x_loop, e1, onE_ok, ← sCo, q1]
/-- the floor -/
theorem floor_run {c1 dead : Cells} {order : List Int} {C : List Co} {L : List Lk} {k : Nat} {o7 o8 o9 o10 : Option W} (hb : c1.length = b) (hm : m < b) (k6 : k ≤ 6) (hs : SrcAt c1 m t) (ht : t ≤ 600000) : ∃ (F : List Int) (q7 q8 q9 q10 : Option W) (c2 : Cells), exS (tab.at n (j+1)) n b (.cons (.setL 4 (.lc (.ife (.cmp .Eq (.call 4 0 (.cons (.var 0) (.cons (.cst (.int 2)) .nil)) .nil) (.cst (.int 0))) (.call 4 0 (.cons (.var 0) (.cons (.op .Add (.var 2) (.cst (.int 1))) .nil)) .nil) (.cst (.int 0))) (.rng1 (.var 1)) .nil [6] true [("_law_v", 6)])) (.cons (.frz 4) .nil)) (fC m b k L o7 o8 o9 o10) (c1 ++ e5 order C dead) = .nx [some (.loc m), some (.d (.int k)), some (.d (.int 9)), some (.d (.lst (L.map lkD))), some (.d (.lst (F.map .int))), some (.loc (b + 3)), none, q7, q8, q9, q10, none, some (.loc b), some (.loc (b + 1))] (c2 ++ e5 order C (dead ++ [none])) ∧ Drawn m (t + 20) c1 c2 ∧ F.length = k ∧ ∀ f ∈ F, 0 ≤ f ∧ f ≤ 9 := by
  have hk : small62 (k : Int) = true := by
    unfold small62
    rw [decide_eq_true_eq]
    omega
  have hi : evI (tab.at n (j+1)) (.rng1 (.var 1)) (fC m b k L o7 o8 o9 o10) (c1 ++ e5 order C dead) = .ok ((List.range k).map fun i : Nat => D.int (i : Int)) (c1 ++ e5 order C dead) := by
    have hv : ∀ c, ev (tab.at n (j+1)) (.var 1) (fC m b k L o7 o8 o9 o10) c = .ok (.d (.int k)) c := fun c => by simp [fC]
    rw [vI_rng1, hv, asI_ok, bind_ok, if_pos hk, rngD0]
    rfl
  obtain ⟨xs, c', e1, hl, hP, ⟨c2, rfl, d2⟩, _⟩ := evL_lcD (wd := tab.at n (j+1)) (elt := (.ife (.cmp .Eq (.call 4 0 (.cons (.var 0) (.cons (.cst (.int 2)) .nil)) .nil) (.cst (.int 0))) (.call 4 0 (.cons (.var 0) (.cons (.op .Add (.var 2) (.cst (.int 1))) .nil)) .nil) (.cst (.int 0)))) (it := (.rng1 (.var 1))) (conds := .nil) (tg := [6]) (one := true) (own := [("_law_v", 6)]) (fr := fC m b k L o7 o8 o9 o10) 6 (fun i c => ∃ c2, c = c2 ++ e5 order C dead ∧ Drawn m (t + 2 * (i : Int)) c1 c2) (fun x => ∃ f : Int, x = .int f ∧ 0 ≤ f ∧ f ≤ 9) 0 hi ⟨c1, rfl, (Drawn.refl hs).mono (by omega)⟩ (fun d hd i cs acc hi ⟨c2, hc, d2⟩ => by
    subst hc
    have h6 : ∃ fr1, setTg [6] true d (wipeF (fC m b k L o7 o8 o9 o10) [6]) = some fr1 ∧ fr1[0]? = some (some (.loc m)) ∧ fr1[2]? = some (some (.d (.int 9))) := ⟨_, rfl, rfl, rfl⟩
    obtain ⟨fr1, hset, f0, f2⟩ := h6
    have ex : (c2 ++ e5 order C dead) ++ [some (Cell.lst acc)] = c2 ++ (e5 order C dead ++ [some (.lst acc)]) := List.append_assoc ..
    obtain ⟨r, c3, e1, d3, r0, r1⟩ := nextE (n := n) (j := j) (fr := fr1) (e := .cst (.int 2)) (many := 2) (ext := e5 order C dead ++ [some (.lst acc)]) f0 (fun c => by rw [v_cst]) d2.src (by omega) (by decide) (by decide)
    have hc : ev (tab.at n (j+1)) (.cmp .Eq (.call 4 0 (.cons (.var 0) (.cons (.cst (.int 2)) .nil)) .nil) (.cst (.int 0))) fr1 (c2 ++ (e5 order C dead ++ [some (.lst acc)])) = .ok (.d (.bl (r == 0))) (c3 ++ (e5 order C dead ++ [some (.lst acc)])) := by
      rw [v_cmp, e1, bind_ok, v_cst, bind_ok, wCmp_eq_int]
    cases hr : (r == 0) with
    | true =>
      rw [hr] at hc
      obtain ⟨f, c4, e4, d4, g0, g1⟩ := nextE (n := n) (j := j) (fr := fr1) (e := .op .Add (.var 2) (.cst (.int 1))) (many := 10) (ext := e5 order C dead ++ [some (.lst acc)]) f0 (fun c => by
        rw [v_op, v_var, f2]
        simp only [bind_ok, v_cst, wOp_add]
        rfl) d3.src (by omega) (by decide) (by decide)
      refine ⟨fr1, .int f, c4 ++ e5 order C dead, hset, by simp, ?_, ?_, ⟨c4, rfl, ((d2.trans d3).trans d4).mono (by omega)⟩, f, rfl, g0, by omega⟩
      · rw [ex, v_ife, hc, asB_ok, bind_ok, if_pos rfl, e4, List.append_assoc]
      · rw [List.length_append, List.length_append, (d3.trans d4).len]
    | false =>
      rw [hr] at hc
      refine ⟨fr1, .int 0, c3 ++ e5 order C dead, hset, by simp, ?_, ?_, ⟨c3, rfl, (d2.trans d3).mono (by omega)⟩, 0, rfl, by decide, by decide⟩
      · rw [ex, v_ife, hc, asB_ok, bind_ok, if_neg (by decide), v_cst, List.append_assoc]
      · rw [List.length_append, List.length_append, d3.len]) (by simp; omega) (by simp; omega)
  obtain ⟨F, rfl, hF⟩ := ints_of hP
  have hb2 : c2.length = b := d2.len.trans hb
  have hlF : F.length = k := by simpa using hl
  refine ⟨F, frzW (c2 ++ e5 order C dead).length (F.map .int) o7, frzW (c2 ++ e5 order C dead).length (F.map .int) o8, frzW (c2 ++ e5 order C dead).length (F.map .int) o9, frzW (c2 ++ e5 order C dead).length (F.map .int) o10, c2, ?_, d2.mono (by simp; omega), hlF, hF⟩
  have hN : (c2 ++ e5 order C dead).length = b + 4 + dead.length := by
    rw [List.length_append, hb2]
    simp only [e5, List.length_cons]
    omega
  have hx : (c2 ++ e5 order C dead) ++ [none] = c2 ++ e5 order C (dead ++ [none]) := by rw [List.append_assoc, e5_app]
  rw [x_cons, x_setL, e1, onE_ok, sbind_nx, x_cons, x_frz, ← hx]
  generalize hc : c2 ++ e5 order C dead = cc at hN
  have h1 : b ≤ cc.length := by omega
  have n1 : ¬ m = cc.length := by omega
  have n2 : ¬ b = cc.length := by omega
  have n3 : ¬ b + 1 = cc.length := by omega
  have n4 : ¬ b + 3 = cc.length := by omega
  have hl1 : (cc ++ [some (Cell.lst (F.map .int))]).length - 1 = cc.length := by simp
  rw [hl1]
  simp [frzR, celL, fC, frzW, h1, n1, n2, n3, n4]
end
end K28
namespace K28
open PySem L2 BV
theorem seq2 {wd : Wd} {n b : Nat} {a a2 r : S} {fr fr' : Fra} {cs c' : Cells} (h : exS wd n b (.cons a (.cons a2 .nil)) fr cs = .nx fr' c') : exS wd n b (.cons a (.cons a2 r)) fr cs = exS wd n b r fr' c' := by
  rw [x_cons] at h ⊢
  cases h1 : exS wd n b a fr cs with
  | nx fr1 c1 =>
    rw [h1, sbind_nx, x_cons] at h
    rw [sbind_nx, x_cons]
    cases h2 : exS wd n b a2 fr1 c1 with
    | nx fr2 c2 =>
      rw [h2, sbind_nx, x_nil] at h
      injection h with h3 h4
      subst h3 h4
      rw [sbind_nx]
    | _ => rw [h2] at h; cases h
  | _ => rw [h1] at h; cases h
theorem evL_nil {wd : Wd} (fr : Fra) (c : Cells) : evL wd (.lst .nil) fr c = .ok () (c ++ [some (.lst [])]) := by
  show (evA wd .nil fr c).bind (fun ws c1 => lstL ws c1) = _
  rw [vA_nil, bind_ok]
  simp [lstL, pureDs, lit]
theorem evL_rng {wd : Wd} {fr : Fra} {k : Nat} (h1 : fr[1]? = some (some (.d (.int k)))) (hk : k ≤ 100) (c : Cells) : evL wd (.rng (.var 1)) fr c = .ok () (c ++ [some (.lst (((List.range k).map fun i : Nat => (i : Int)).map .int))]) := by
  have h := small_of hk
  rw [vL_rng, v_var, h1]
  dsimp only
  rw [asI_ok, bind_ok, if_pos h, rngD_ints]
theorem len1 (c : Cells) (x : Option Cell) : (c ++ [x]).length - 1 = c.length := by simp
/-- the dict of a problem, displayed -/
theorem dct_run {wd : Wd} {fr : Fra} {b k : Nat} {L : List Lk} {F : List Int} {C : List Co} {c : Cells} (h1 : fr[1]? = some (some (.d (.int k)))) (h3 : fr[3]? = some (some (.d (.lst (L.map lkD))))) (h4 : fr[4]? = some (some (.d (.lst (F.map .int))))) (h5 : fr[5]? = some (some (.loc b))) (hc : c[b]? = some (some (.lst (C.map coD)))) : ev wd (.dct4 "size" "links" "floor" "costs" (.var 1) (.bi .tuple (.cons (.var 3) .nil)) (.bi .tuple (.cons (.var 4) .nil)) (.bi .tuple (.cons (.var 5) .nil))) fr c = .ok (.d (Pb.d ⟨k, L, F, C⟩)) c := by
  have t3 : ∀ c, ev wd (.bi .tuple (.cons (.var 3) .nil)) fr c = .ok (.d (.tup (L.map lkD))) c := fun c => by
    rw [v_bi, vA_cons, v_var, h3]
    simp only [bind_ok, vA_nil]
    rfl
  have t4 : ∀ c, ev wd (.bi .tuple (.cons (.var 4) .nil)) fr c = .ok (.d (.tup (F.map .int))) c := fun c => by
    rw [v_bi, vA_cons, v_var, h4]
    simp only [bind_ok, vA_nil]
    rfl
  have hc2 : (c ++ [some (Cell.dct [])])[b]? = some (some (.lst (C.map coD))) := by
    rw [List.getElem?_append_left (List.getElem?_eq_some_iff.mp hc).1]
    exact hc
  have t5 : ev wd (.bi .tuple (.cons (.var 5) .nil)) fr (c ++ [some (.dct [])]) = .ok (.d (.tup (C.map coD))) (c ++ [some (.dct [])]) := by
    rw [v_bi, vA_cons, v_var, h5]
    simp only [bind_ok, vA_nil]
    simp [wBi, seqOf, dl, celL, hc2]
  rw [v_dct4, v_var, h1]
  simp only [nox_ok, bind_ok]
  rw [t3, nox_ok, bind_ok, t4, nox_ok, bind_ok, t5, nox_ok, bind_ok]
  have hl : (c ++ [some (Cell.dct [])])[c.length]? = some (some (.dct [])) := by simp
  unfold dctE
  simp only [pureDs, hl]
  rw [List.take_left]
  rfl
section
variable {n j m : Nat} {cs : Cells} {t : Int}
theorem drawn_run {k : Nat} (k1 : 1 ≤ k) (k6 : k ≤ 6) (hs : SrcAt cs m t) (ht : t ≤ 500000) (hn : 100 ≤ n) : ∃ (P : Pb) (pos : Int → Nat) (c' : Cells), (tab.at n (j+4)).phi 7 [.loc m, .d (.int k), .d (.int 9)] cs = .ok P.d c' ∧ P.Ok pos ∧ P.n = k ∧ Drawn m (t + 300) cs c' := by
  have hm := hs.lt
  obtain ⟨order, c1, e1, d1, hp⟩ := ord_run (n := n) (j := j + 2) (k := k) (by omega) hs (by omega) hn
  have hb1 : c1.length = cs.length := d1.len
  have ho : ∀ i, inR k i → i ∈ order := fun i hi => by
    rw [hp.mem_iff, List.mem_map]
    unfold inR at hi
    exact ⟨i.toNat, List.mem_range.mpr (by omega), by omega⟩
  have hol : order.length = k := by
    have := hp.length_eq
    simpa using this
  obtain ⟨L, o7, o8, o9, c2, e2, d2, hL, hLk⟩ := links_run (n := n) (j := j) (m := m) (b := cs.length) (c1 := c1) (order := order) (k := k) hb1 k1 k6 ho d1.src (by omega)
  have hb2 : c2.length = cs.length := d2.len.trans hb1
  obtain ⟨C, q7, q8, q9, q10, c3, dead, e3, d3, hC, hCo⟩ := costs_run (n := n) (j := j) (m := m) (b := cs.length) (c1 := c2) (dead := []) (order := order) (L := L) (k := k) (o7 := frzW (cs.length + 2) (L.map lkD) o7) (o8 := frzW (cs.length + 2) (L.map lkD) o8) (o9 := frzW (cs.length + 2) (L.map lkD) o9) (o10 := none) hb2 hm k1 k6 d2.src (by omega) (by omega)
  have hb3 : c3.length = cs.length := d3.len.trans hb2
  obtain ⟨F, r7, r8, r9, r10, c4, e4', d4, hF, hF9⟩ := floor_run (n := n) (j := j + 2) (m := m) (b := cs.length) (c1 := c3) (dead := dead) (order := order) (C := C) (L := L) (k := k) (o7 := q7) (o8 := q8) (o9 := q9) (o10 := q10) hb3 hm k6 d3.src (by omega)
  have hb4 : c4.length = cs.length := d4.len.trans hb3
  have s0 : exS (tab.at n (j+3)) n cs.length (.parL [12, 13] [.l (.lst .nil), .l (.rng (.var 1))]) [some (.loc m), some (.d (.int k)), some (.d (.int 9)), none, none, none, none, none, none, none, none, none, none, none] cs = .nx (fO m cs.length k) (cs ++ [some (.lst []), some (.lst (((List.range k).map fun i : Nat => (i : Int)).map .int))]) := by
    rw [x_parL, vPL_l, evL_nil, bind_ok, vPL_l, evL_rng rfl (by omega), bind_ok, vPL_nil, bind_ok, bind_ok, onE_ok, len1, len1, List.append_assoc]
    simp [setWs, fO]
  have s2 : exS (tab.at n (j+3)) n cs.length (.parL [3, 5] [.l (.lst .nil), .l (.lst .nil)]) (fO m cs.length k) (c1 ++ [some (.lst (order.map .int)), some (.lst [])]) = .nx (fB m cs.length k none none none) (c1 ++ e4 order []) := by
    rw [x_parL, vPL_l, evL_nil, bind_ok, vPL_l, evL_nil, bind_ok, vPL_nil, bind_ok, bind_ok, onE_ok, len1, len1, List.append_assoc, List.append_assoc]
    simp [setWs, fO, fB, e4, hb1]
  have s4 : exS (tab.at n (j+3)) n cs.length (.frz 3) (fB m cs.length k o7 o8 o9) (c2 ++ e4 order L) = .nx (fC m cs.length k L (frzW (cs.length + 2) (L.map lkD) o7) (frzW (cs.length + 2) (L.map lkD) o8) (frzW (cs.length + 2) (L.map lkD) o9) none) (c2 ++ e5 order [] []) := by
    have hc : (c2 ++ e4 order L)[cs.length + 2]? = some (some (.lst (L.map lkD))) := get_b (k := 2) hb2 rfl
    have hset : (c2 ++ e4 order L).set (cs.length + 2) none = c2 ++ e5 order [] [] := by
      rw [set_b hb2]
      rfl
    have n1 : ¬ m = cs.length + 2 := by omega
    rw [x_frz]
    simp [frzR, celL, fB, fC, frzW, hc, hset, n1]
  refine ⟨⟨k, L, F, C⟩, fun i => order.idxOf i, c4, ?_, ?_, rfl, ((d1.trans d2).trans (d3.trans d4)).mono (by omega)⟩
  · have hc5 : (c4 ++ e5 order C (dead ++ [none]))[cs.length + 3]? = some (some (.lst (C.map coD))) := get_b (k := 3) hb4 rfl
    have s8 := dct_run (wd := tab.at n (j+3)) (fr := [some (.loc m), some (.d (.int k)), some (.d (.int 9)), some (.d (.lst (L.map lkD))), some (.d (.lst (F.map .int))), some (.loc (cs.length + 3)), none, r7, r8, r9, r10, none, some (.loc cs.length), some (.loc (cs.length + 1))]) (b := cs.length + 3) (k := k) (L := L) (F := F) (C := C) rfl rfl rfl rfl hc5
    rw [x_cons] at e4'
    rw [Tab.phi_s (s := s7) (nl := 14) rfl]
    unfold fnRun s7
    rw [show startF 14 [.loc m, .d (.int k), .d (.int 9)] = [some (.loc m), some (.d (.int k)), some (.d (.int 9)), none, none, none, none, none, none, none, none, none, none, none] from rfl]
    rw [x_cons, s0, sbind_nx, x_cons, e1, sbind_nx, x_cons, s2, sbind_nx, x_cons, e2, sbind_nx, x_cons, s4, sbind_nx, x_cons, e3, sbind_nx, seq2 (by rw [x_cons]; exact e4'), x_cons, x_ret, s8, onE_ok, sbind_rt, endD_rt, retD_d, ← hb4, List.take_left]
  · refine ⟨k1, k6, hF, hF9, by show L.length ≤ 12; omega, fun p hp => hLk.all p hp, fun i hi => ?_, by show C.length ≤ 12; omega, fun c hc => ?_⟩
    · show order.idxOf i < k
      rw [← hol]
      exact List.idxOf_lt_length_of_mem (ho i hi)
    · have h := hCo c hc
      cases c with
      | line i l w => exact h
      | bend i l d w => exact h
end
end K28
namespace K28
open PySem L2 BV
/-! ### drawn rows -/
/-- a method, the table out of sight -/
theorem methv {wd : Wd} {nm : Str} {e : E} {fr : Fra} {cs c1 c2 : Cells} {c f : Nat} {fs : List (Str × D)} {w : W} {d : D} (h2 : fr[2]? = some (some (.d (.ins c fs)))) (hm : mthW wd (.d (.ins c fs)) nm cs = some f) (hn : wd.npar f = 2) (he : ev wd e fr cs = .ok w c1) (hf : wd.phi f [.d (.ins c fs), w] c1 = .ok d c2) : ev wd (.meth (.var 2) nm (.cons e .nil)) fr cs = .ok (.d d) c2 := by
  rw [v_meth, v_var, h2]
  dsimp only
  rw [bind_ok, hm]
  dsimp only
  rw [vA_cons, he, bind_ok, vA_nil, bind_ok, bind_ok, hn]
  simp only [List.length_cons, List.length_nil, if_true, callW, hf]
  rfl
section
variable {n j m b : Nat} {cs : Cells} {t : Int} {P : Pb} {pos : Int → Nat} {low : List Int}
theorem m_feas (P : Pb) (cs : Cells) : mthW (tab.at n j) (.d (.ins 2 P.fs)) "is_feasible" cs = some 11 := by simp [mthW, clsOf, Pb.fs, List.lookup_cons, ofString_beq]
theorem m_cost (P : Pb) (cs : Cells) : mthW (tab.at n j) (.d (.ins 2 P.fs)) "cost_of_row" cs = some 10 := by simp [mthW, clsOf, Pb.fs, List.lookup_cons, ofString_beq]
theorem row_word {e : D} {th : Cells → R D} (h : th cs = .exc 1 e cs) : (tab.at n (j+1)).phd 2 th cs = .ok (.str "row") cs := by
  rw [Tab.phd_s (d := d2) rfl]
  unfold fnRunD d2 r2
  simp [h, deedR, preF, holdR, wIsi, kitAnyD, tyOf, show ∀ (c : Nat) (x : D) cs, wCmp .Is (.d (.exc c x)) (.d .non) cs = .ok (.d (.bl false)) cs from fun _ _ _ => rfl]
/-- a list of drawn numbers, one for each of the least row -/
theorem rows_lc {elt : E} {fr : Fra} (hlen : 11 < fr.length) (h4 : fr[4]? = some (some (.d (.lst (low.map .int))))) (h12 : fr[12]? = some (some (.loc m))) (hlow : ∀ v ∈ low, 0 ≤ v ∧ v ≤ 63) (hll : low.length ≤ 6) (hs : SrcAt cs m t) (ht : t ≤ 800000)
    (helt : ∀ (fr1 : Fra) (v : Int) (c : Cells) (t' : Int), fr1[11]? = some (some (.d (.int v))) → fr1[12]? = some (some (.loc m)) → 0 ≤ v → v ≤ 63 → SrcAt c m t' → t' ≤ 900000 → ∃ (f : Int) (c' : Cells), ev (tab.at n (j+1)) elt fr1 c = .ok (.d (.int f)) c' ∧ f.natAbs ≤ 200 ∧ Drawn m (t' + 1) c c') :
    ∃ (r : List Int) (c2 : Cells), evL (tab.at n (j+1)) (.lc elt (.itl (.var 4)) .nil [11] true [("_law_value", 11)]) fr cs = .ok () (c2 ++ [some (.lst (r.map .int))]) ∧ Drawn m (t + 6) cs c2 ∧ r.length = low.length ∧ ∀ v ∈ r, v.natAbs ≤ 200 := by
  have hi : evI (tab.at n (j+1)) (.itl (.var 4)) fr cs = .ok (low.map .int) cs := by
    rw [vI_itl, v_var, h4]
    rfl
  obtain ⟨xs, c2, e1, hl, hP, d2, _⟩ := evL_lcD (wd := tab.at n (j+1)) (elt := elt) (it := .itl (.var 4)) (conds := .nil) (tg := [11]) (one := true) (own := [("_law_value", 11)]) (fr := fr) 6 (fun i c => Drawn m (t + (i : Int)) cs c) (fun x => ∃ f : Int, x = .int f ∧ f.natAbs ≤ 200) 0 hi ((Drawn.refl hs).mono (by omega)) (fun d hd i c acc hi d1 => by
    obtain ⟨v, hv, rfl⟩ := List.mem_map.mp hd
    obtain ⟨v0, v1⟩ := hlow v hv
    have g11 : ((fr.set 11 none).set 11 (some (.d (.int v))))[11]? = some (some (.d (.int v))) := by simp [hlen]
    have g12 : ((fr.set 11 none).set 11 (some (.d (.int v))))[12]? = some (some (.loc m)) := by rw [List.getElem?_set_ne (by decide), List.getElem?_set_ne (by decide)]; exact h12
    obtain ⟨f, c', e, hf, d3⟩ := helt _ v (c ++ [some (.lst acc)]) (t + (i : Int)) g11 g12 v0 v1 d1.src.app (by omega)
    obtain ⟨c3, rfl, d4⟩ := d3.app d1.src.lt
    exact ⟨_, .int f, c3, rfl, by simp, e, d4.len, (d1.trans d4).mono (by omega), f, rfl, hf⟩) (by rw [List.length_map]; omega) (by rw [List.length_map]; omega)
  have hx : ∃ r : List Int, xs = r.map .int ∧ ∀ v ∈ r, v.natAbs ≤ 200 := by
    clear e1 hl d2
    induction xs with
    | nil => exact ⟨[], rfl, fun v hv => by cases hv⟩
    | cons x xs ih =>
      obtain ⟨f, rfl, hf⟩ := hP x (List.mem_cons_self ..)
      obtain ⟨r, rfl, hr⟩ := ih fun y hy => hP y (List.mem_cons_of_mem _ hy)
      refine ⟨f :: r, rfl, fun v hv => ?_⟩
      rcases List.mem_cons.mp hv with rfl | hv
      · exact hf
      · exact hr v hv
  obtain ⟨r, rfl, hr⟩ := hx
  refine ⟨r, c2, e1, d2.mono (by rw [List.length_map]; omega), by simpa using hl, hr⟩
theorem elt1 (fr1 : Fra) (v : Int) (c : Cells) (t' : Int) (h11 : fr1[11]? = some (some (.d (.int v)))) (h12 : fr1[12]? = some (some (.loc m))) (v0 : 0 ≤ v) (v1 : v ≤ 63) (hs : SrcAt c m t') (ht : t' ≤ 900000) : ∃ (f : Int) (c' : Cells), ev (tab.at n (j+1)) (.op .Add (.var 11) (.call 4 0 (.cons (.var 12) (.cons (.cst (.int 4)) .nil)) .nil)) fr1 c = .ok (.d (.int f)) c' ∧ f.natAbs ≤ 200 ∧ Drawn m (t' + 1) c c' := by
  obtain ⟨r, c', e, d, r0, r1⟩ := ev_next (i := 12) (e := .cst (.int 4)) (many := 4) (nx4 (n := n) (j := j)) h12 (by rw [v_cst]) hs (by omega) (by decide) (by decide)
  refine ⟨v + r, c', ?_, by omega, d⟩
  rw [v_op, v_var, h11]
  dsimp only
  rw [bind_ok, e, bind_ok, wOp_add]
theorem elt2 (fr1 : Fra) (v : Int) (c : Cells) (t' : Int) (h11 : fr1[11]? = some (some (.d (.int v)))) (h12 : fr1[12]? = some (some (.loc m))) (v0 : 0 ≤ v) (v1 : v ≤ 63) (hs : SrcAt c m t') (ht : t' ≤ 900000) : ∃ (f : Int) (c' : Cells), ev (tab.at n (j+1)) (.op .Sub (.call 4 0 (.cons (.var 12) (.cons (.cst (.int 60)) .nil)) .nil) (.cst (.int 10))) fr1 c = .ok (.d (.int f)) c' ∧ f.natAbs ≤ 200 ∧ Drawn m (t' + 1) c c' := by
  obtain ⟨r, c', e, d, r0, r1⟩ := ev_next (i := 12) (e := .cst (.int 60)) (many := 60) (nx4 (n := n) (j := j)) h12 (by rw [v_cst]) hs (by omega) (by decide) (by decide)
  refine ⟨r - 10, c', ?_, by omega, d⟩
  rw [v_op, e, bind_ok, v_cst, bind_ok, wOp_sub]
def fW (m : Nat) (P : Pb) (low : List Int) (o0 o1 o3 o6 o7 o8 o9 o10 o11 : Option W) : Fra := [o0, o1, some (.d (.ins 2 P.fs)), o3, some (.d (.lst (low.map .int))), some (.d P.d), o6, o7, o8, o9, o10, o11, some (.loc m)]
/-- a row lies in a cell -/
structure RowAt (cs : Cells) (q m n : Nat) (r : List Int) : Prop where
  at_ : cs[q]? = some (some (.lst (r.map .int)))
  ne : q ≠ m
  len : r.length = n
  sm : Sm r
theorem sm200 {r : List Int} (h : ∀ v ∈ r, v.natAbs ≤ 200) : Sm r := fun v hv => Nat.le_trans (h v hv) (by decide)
theorem put_stmt {o0 o1 o6 o7 o8 o9 o11 : Option W} {q : Nat} {r : List Int} {c : Cells} {o10 : Option W} (n1 : 1 ≤ P.n) (n6 : P.n ≤ 6) (hr : RowAt c q m P.n r) (hs : SrcAt c m t) (ht : t ≤ 800000) : ∃ (r2 : List Int) (c2 : Cells), exS (tab.at n (j+1)) n b (.put (.var 3) (.call 4 0 (.cons (.var 12) (.cons (.bi .len (.cons (.var 3) .nil)) .nil)) .nil) (.op .Pow (.cst (.int 10)) (.cst (.int 30)))) (fW m P low o0 o1 (some (.loc q)) o6 o7 o8 o9 o10 o11) c = .nx (fW m P low o0 o1 (some (.loc q)) o6 o7 o8 o9 o10 o11) c2 ∧ RowAt c2 q m P.n r2 ∧ SrcAt c2 m (t + 1) := by
  have hl := hr.len
  obtain ⟨x, c', e, d, x0, x1⟩ := ev_next (fr := fW m P low o0 o1 (some (.loc q)) o6 o7 o8 o9 o10 o11) (i := 12) (e := .bi .len (.cons (.var 3) .nil)) (many := (r.length : Int)) (cs := c) (nx4 (n := n) (j := j)) rfl (by
    have h := hr.at_
    simp [fW, wBi, dl, celL, h]) hs (by omega) (by omega) (by omega)
  have hc' : c'[q]? = some (some (.lst (r.map .int))) := by rw [d.get (x := none) hr.ne]; exact hr.at_
  have hv : ∀ c, ev (tab.at n (j+1)) (.op .Pow (.cst (.int 10)) (.cst (.int 30))) (fW m P low o0 o1 (some (.loc q)) o6 o7 o8 o9 o10 o11) c = .ok (.d (.int (10 ^ 30))) c := fun c => by
    rw [v_op, v_cst, bind_ok, v_cst, bind_ok, wOp_pow (by decide) (by decide) (by decide)]
    rfl
  have hp := fun fr => putR_loc (fr := fr) (d := .int (10 ^ 30)) hc' (by rw [List.length_map]; exact ixN_nat x0 x1)
  refine ⟨r.set x.toNat (10 ^ 30), c'.set q (some (.lst ((r.map .int).set x.toNat (.int (10 ^ 30))))), ?_, ⟨?_, hr.ne, by rw [List.length_set]; exact hl, fun v hv => ?_⟩, ?_⟩
  · have v3 : ∀ c, ev (tab.at n (j+1)) (.var 3) (fW m P low o0 o1 (some (.loc q)) o6 o7 o8 o9 o10 o11) c = .ok (.loc q) c := fun c => by simp [fW]
    rw [x_put, hv, onE_ok, v3, onE_ok, e, onE_ok, hp]
  · rw [set_get hc', List.map_set]
  · rcases List.mem_or_eq_of_mem_set hv with hv | rfl
    · exact hr.sm v hv
    · decide
  · obtain ⟨a, b', c0, e1, h1, h2, h3⟩ := d.src.ex
    exact ⟨a, b', c0, by rw [List.getElem?_set_ne hr.ne]; exact e1, h1, h2, h3⟩
theorem made_run {o0 o1 o3 o6 o7 o8 o9 o10 o11 : Option W} (n1 : 1 ≤ P.n) (n6 : P.n ≤ 6) (hlow : ∀ v ∈ low, 0 ≤ v ∧ v ≤ 63) (hll : low.length = P.n) (hs : SrcAt cs m t) (ht : t ≤ 700000) : ∃ (r : List Int) (p0 p1 p6 p7 p8 p9 p10 p11 : Option W) (c' : Cells), exS (tab.at n (j+1)) n 0 (.cons (.set 10 (.call 4 0 (.cons (.var 12) (.cons (.cst (.int 3)) .nil)) .nil)) (.cons (.setL 3 (.lc (.op .Add (.var 11) (.call 4 0 (.cons (.var 12) (.cons (.cst (.int 4)) .nil)) .nil)) (.itl (.var 4)) .nil [11] true [("_law_value", 11)])) (.cons (.ife (.cmp .Eq (.var 10) (.cst (.int 1))) (.cons (.setL 3 (.lc (.op .Sub (.call 4 0 (.cons (.var 12) (.cons (.cst (.int 60)) .nil)) .nil) (.cst (.int 10))) (.itl (.var 4)) .nil [11] true [("_law_value", 11)])) .nil) (.cons (.ife (.cmp .Eq (.var 10) (.cst (.int 2))) (.cons (.put (.var 3) (.call 4 0 (.cons (.var 12) (.cons (.bi .len (.cons (.var 3) .nil)) .nil)) .nil) (.op .Pow (.cst (.int 10)) (.cst (.int 30)))) .nil) .nil) .nil)) (.cons (.frz 3) .nil)))) (fW m P low o0 o1 o3 o6 o7 o8 o9 o10 o11) cs = .nx (fW m P low p0 p1 (some (.d (.lst (r.map .int)))) p6 p7 p8 p9 p10 p11) c' ∧ r.length = P.n ∧ Sm r ∧ SrcAt c' m (t + 20) ∧ ∀ d, o0 = some (.d d) → p0 = o0 := by
  obtain ⟨w, c1, e0, d0, w0, w1⟩ := ev_next (fr := fW m P low o0 o1 o3 o6 o7 o8 o9 o10 o11) (i := 12) (e := .cst (.int 3)) (many := 3) (cs := cs) (nx4 (n := n) (j := j)) rfl (by rw [v_cst]) hs (by omega) (by decide) (by decide)
  obtain ⟨r1, c2, e1, d1, l1, h1⟩ := rows_lc (n := n) (j := j) (low := low) (m := m) (t := t + 1) (cs := c1) (fr := fW m P low o0 o1 o3 o6 o7 o8 o9 (some (.d (.int w))) o11) (by simp [fW]) rfl rfl hlow (by omega) d0.src (by omega) elt1
  have hm2 : m < c2.length := d1.src.lt
  have r1at : RowAt (c2 ++ [some (.lst (r1.map .int))]) c2.length m P.n r1 := ⟨by simp, by omega, by rw [l1, hll], sm200 h1⟩
  have key : ∃ (q : Nat) (r : List Int) (c3 : Cells), exS (tab.at n (j+1)) n 0 (.ife (.cmp .Eq (.var 10) (.cst (.int 1))) (.cons (.setL 3 (.lc (.op .Sub (.call 4 0 (.cons (.var 12) (.cons (.cst (.int 60)) .nil)) .nil) (.cst (.int 10))) (.itl (.var 4)) .nil [11] true [("_law_value", 11)])) .nil) (.cons (.ife (.cmp .Eq (.var 10) (.cst (.int 2))) (.cons (.put (.var 3) (.call 4 0 (.cons (.var 12) (.cons (.bi .len (.cons (.var 3) .nil)) .nil)) .nil) (.op .Pow (.cst (.int 10)) (.cst (.int 30)))) .nil) .nil) .nil)) (fW m P low o0 o1 (some (.loc c2.length)) o6 o7 o8 o9 (some (.d (.int w))) o11) (c2 ++ [some (.lst (r1.map .int))]) = .nx (fW m P low o0 o1 (some (.loc q)) o6 o7 o8 o9 (some (.d (.int w))) o11) c3 ∧ RowAt c3 q m P.n r ∧ SrcAt c3 m (t + 20) := by
    have q10 : ∀ c, ev (tab.at n (j+1)) (.var 10) (fW m P low o0 o1 (some (.loc c2.length)) o6 o7 o8 o9 (some (.d (.int w))) o11) c = .ok (.d (.int w)) c := fun c => by simp [fW]
    have t1 : ∀ c, ev (tab.at n (j+1)) (.cmp .Eq (.var 10) (.cst (.int 1))) (fW m P low o0 o1 (some (.loc c2.length)) o6 o7 o8 o9 (some (.d (.int w))) o11) c = .ok (.d (.bl (w == 1))) c := fun c => by rw [v_cmp, q10, bind_ok, v_cst, bind_ok, wCmp_eq_int]
    have t2 : ∀ c, ev (tab.at n (j+1)) (.cmp .Eq (.var 10) (.cst (.int 2))) (fW m P low o0 o1 (some (.loc c2.length)) o6 o7 o8 o9 (some (.d (.int w))) o11) c = .ok (.d (.bl (w == 2))) c := fun c => by rw [v_cmp, q10, bind_ok, v_cst, bind_ok, wCmp_eq_int]
    have s2 : SrcAt (c2 ++ [some (Cell.lst (r1.map .int))]) m (t + 7) := (d1.src.mono (by omega)).app
    cases hw : (w == 1) with
    | true =>
      rw [hw] at t1
      obtain ⟨r2, c4, e2, d2, l2, h2⟩ := rows_lc (n := n) (j := j) (low := low) (m := m) (t := t + 7) (cs := c2 ++ [some (.lst (r1.map .int))]) (fr := fW m P low o0 o1 (some (.loc c2.length)) o6 o7 o8 o9 (some (.d (.int w))) o11) (by simp [fW]) rfl rfl hlow (by omega) s2 (by omega) elt2
      have hm4 : m < c4.length := d2.src.lt
      refine ⟨c4.length, r2, c4 ++ [some (.lst (r2.map .int))], ?_, ⟨by simp, by omega, by rw [l2, hll], sm200 h2⟩, (d2.src.mono (by omega)).app⟩
      rw [x_ife, t1, asB_ok, onE_ok, if_pos rfl, x_cons, x_setL, e2, onE_ok, sbind_nx, x_nil, len1]
      rfl
    | false =>
      rw [hw] at t1
      cases hw2 : (w == 2) with
      | true =>
        rw [hw2] at t2
        obtain ⟨r2, c4, e2, ra, s4⟩ := put_stmt (n := n) (j := j) (m := m) (b := 0) (t := t + 7) (P := P) (low := low) (o0 := o0) (o1 := o1) (o6 := o6) (o7 := o7) (o8 := o8) (o9 := o9) (o10 := some (.d (.int w))) (o11 := o11) n1 n6 r1at s2 (by omega)
        refine ⟨c2.length, r2, c4, ?_, ra, s4.mono (by omega)⟩
        rw [x_ife, t1, asB_ok, onE_ok, if_neg (by decide), x_cons, x_ife, t2, asB_ok, onE_ok, if_pos rfl, x_cons, e2, sbind_nx, x_nil, sbind_nx, x_nil]
      | false =>
        rw [hw2] at t2
        refine ⟨c2.length, r1, _, ?_, r1at, s2.mono (by omega)⟩
        rw [x_ife, t1, asB_ok, onE_ok, if_neg (by decide), x_cons, x_ife, t2, asB_ok, onE_ok, if_neg (by decide), x_nil, sbind_nx, x_nil]
  obtain ⟨q, r, c3, e2, ra, s3⟩ := key
  have hn := ra.ne
  have hat := ra.at_
  refine ⟨r, frzW q (r.map .int) o0, frzW q (r.map .int) o1, frzW q (r.map .int) o6, frzW q (r.map .int) o7, frzW q (r.map .int) o8, frzW q (r.map .int) o9, some (.d (.int w)), frzW q (r.map .int) o11, c3.set q none, ?_, ra.len, ra.sm, ?_, fun d e => by subst e; rfl⟩
  · have hf : exS (tab.at n (j+1)) n 0 (.frz 3) (fW m P low o0 o1 (some (.loc q)) o6 o7 o8 o9 (some (.d (.int w))) o11) c3 = .nx (fW m P low (frzW q (r.map .int) o0) (frzW q (r.map .int) o1) (some (.d (.lst (r.map .int)))) (frzW q (r.map .int) o6) (frzW q (r.map .int) o7) (frzW q (r.map .int) o8) (frzW q (r.map .int) o9) (some (.d (.int w))) (frzW q (r.map .int) o11)) (c3.set q none) := by
      have n1 : ¬ m = q := fun e => hn e.symm
      rw [x_frz]
      simp [frzR, celL, hat, fW, frzW, n1]
    rw [x_cons, x_set, e0, onE_ok, sbind_nx, show (fW m P low o0 o1 o3 o6 o7 o8 o9 o10 o11).set 10 (some (.d (.int w))) = fW m P low o0 o1 o3 o6 o7 o8 o9 (some (.d (.int w))) o11 from rfl, x_cons, x_setL, e1, onE_ok, sbind_nx, len1, show (fW m P low o0 o1 o3 o6 o7 o8 o9 (some (.d (.int w))) o11).set 3 (some (.loc c2.length)) = fW m P low o0 o1 (some (.loc c2.length)) o6 o7 o8 o9 (some (.d (.int w))) o11 from rfl, x_cons, e2, sbind_nx, x_cons, hf, sbind_nx, x_nil]
  · obtain ⟨a, b', c0, e1, g1, g2, g3⟩ := s3.ex
    exact ⟨a, b', c0, by rw [List.getElem?_set_ne hn]; exact e1, g1, g2, g3⟩
end
end K28
namespace K28
open PySem L2 BV
/-! ### what is told of a row -/
theorem log_200 {z : Int} (h : z.natAbs < 2 ^ 200) : z.natAbs.log2 < 200 := by
  by_cases h0 : z.natAbs = 0
  · rw [h0]; decide
  · exact (Nat.log2_lt h0).mpr h
theorem rep_pair (b : Bool) {z : Int} (h : z.natAbs < 2 ^ 200) (cs : Cells) : repW (.d (.lst [.bl b, .int z])) cs = .ok (.d (.str (PyData.list [.bool b, .int z]).shown)) cs := by
  have hl := log_200 h
  have h2 : (numS z).length ≤ 201 := by
    unfold numS
    rw [PySem.ofString_length]
    exact int_text_length_le (by decide) hl
  refine repW_ok (by simp [wPr, pyD, pyDs]) ?_ (by simp [PyData.depth, PyData.depthAll]) (by simp [PyData.canLay0, PyData.canLayAll0]) ?_
  · simp only [PyData.showable, PyData.showableAll, Bool.and_true, Bool.true_and, decide_eq_true_eq]
    omega
  · simp only [rsz, rszAll]
    omega
theorem sum_abs (B : Nat) : ∀ l : List Int, (∀ v ∈ l, v.natAbs ≤ B) → l.sum.natAbs ≤ l.length * B
  | [], _ => by simp
  | a :: l, h => by
    have h1 := sum_abs B l fun v hv => h v (List.mem_cons_of_mem _ hv)
    have h2 := h a (List.mem_cons_self ..)
    rw [List.sum_cons, List.length_cons, Nat.succ_mul]
    omega
section
variable {n j m b : Nat} {cs : Cells} {t : Int} {P : Pb} {pos : Int → Nat} {low : List Int}
theorem cost_small (ok : P.Ok pos) {r : List Int} (hs : Sm r) : (P.cost r).natAbs < 2 ^ 200 := by
  have h := sum_abs (3 * 10 ^ 31) (P.C.map (Co.cost r)) fun v hv => by
    obtain ⟨c, hc, rfl⟩ := List.mem_map.mp hv
    have hin := co_in ok hc
    cases c with
    | line i l w =>
      obtain ⟨_, _, w1, w2⟩ := hin
      have a := sm_at hs i
      have b := sm_at hs l
      unfold Co.cost
      rw [Int.natAbs_mul]
      exact Nat.le_trans (Nat.mul_le_mul (show w.natAbs ≤ 5 by omega) (show (at' r l - at' r i).natAbs ≤ 4 * 10 ^ 30 by omega)) (by decide)
    | bend i l d w =>
      obtain ⟨_, _, d1, d2, w1, w2⟩ := hin
      have a := sm_at hs i
      have b := sm_at hs l
      unfold Co.cost
      rw [Int.natAbs_mul]
      exact Nat.le_trans (Nat.mul_le_mul (show w.natAbs ≤ 5 by omega) (show ((at' r l - at' r i - d).natAbs : Int).natAbs ≤ 5 * 10 ^ 30 by omega)) (by decide)
  rw [List.length_map] at h
  have hC := ok.Cl
  have h2 : P.C.length * (3 * 10 ^ 31) ≤ 12 * (3 * 10 ^ 31) := Nat.mul_le_mul_right _ hC
  exact Nat.lt_of_le_of_lt (Nat.le_trans h h2) (by decide)
theorem tup_var {wd : Wd} {fr : Fra} {r : List Int} (h3 : fr[3]? = some (some (.d (.lst (r.map .int))))) (cs : Cells) : ev wd (.bi .tuple (.cons (.var 3) .nil)) fr cs = .ok (.d (.tup (r.map .int))) cs := by
  rw [v_bi, vA_cons, v_var, h3]
  dsimp only
  rw [bind_ok, vA_nil, bind_ok, bind_ok]
  rfl
theorem told_run {o0 o1 o6 o7 o8 o9 o10 o11 : Option W} (ok : P.Ok pos) {r : List Int} (hl : r.length = P.n) (hs : Sm r) (cs : Cells) : ∃ p9, exS (tab.at n (j+4)) n 0 (.cons (.set 9 (.lst (.cons (.meth (.var 2) "is_feasible" (.cons (.bi .tuple (.cons (.var 3) .nil)) .nil)) (.cons (.meth (.var 2) "cost_of_row" (.cons (.bi .tuple (.cons (.var 3) .nil)) .nil)) .nil)))) (.cons (.ife (.cmp .NotEq (.rep (.var 9)) (.rep (.lst (.cons (.call 3 0 (.cons (.var 5) (.cons (.var 3) .nil)) .nil) (.cons (.call 1 0 (.cons (.var 5) (.cons (.var 3) .nil)) .nil) .nil))))) (.cons (.ret (.cst (.bl false))) .nil) .nil) .nil)) (fW m P low o0 o1 (some (.d (.lst (r.map .int)))) o6 o7 o8 o9 o10 o11) cs = .nx (fW m P low o0 o1 (some (.d (.lst (r.map .int)))) o6 o7 o8 p9 o10 o11) cs := by
  have hz := cost_small ok hs
  have e1 : ∀ o9, ev (tab.at n (j+4)) (.meth (.var 2) "is_feasible" (.cons (.bi .tuple (.cons (.var 3) .nil)) .nil)) (fW m P low o0 o1 (some (.d (.lst (r.map .int)))) o6 o7 o8 o9 o10 o11) cs = .ok (.d (.bl (P.feas r))) cs := fun o9 => methv rfl (m_feas P cs) (by simp) (tup_var rfl cs) (feas_run (j := j + 1) ok hl cs)
  have e2 : ∀ o9, ev (tab.at n (j+4)) (.meth (.var 2) "cost_of_row" (.cons (.bi .tuple (.cons (.var 3) .nil)) .nil)) (fW m P low o0 o1 (some (.d (.lst (r.map .int)))) o6 o7 o8 o9 o10 o11) cs = .ok (.d (.int (P.cost r))) cs := fun o9 => methv rfl (m_cost P cs) (by simp) (tup_var rfl cs) (costr_run (j := j + 1) ok hl hs cs)
  have s4 : exS (tab.at n (j+4)) n 0 (.set 9 (.lst (.cons (.meth (.var 2) "is_feasible" (.cons (.bi .tuple (.cons (.var 3) .nil)) .nil)) (.cons (.meth (.var 2) "cost_of_row" (.cons (.bi .tuple (.cons (.var 3) .nil)) .nil)) .nil)))) (fW m P low o0 o1 (some (.d (.lst (r.map .int)))) o6 o7 o8 o9 o10 o11) cs = .nx (fW m P low o0 o1 (some (.d (.lst (r.map .int)))) o6 o7 o8 (some (.d (.lst [.bl (P.feas r), .int (P.cost r)]))) o10 o11) cs := by
    rw [x_set, v_lst, vA_cons, e1, bind_ok, vA_cons, e2, bind_ok, vA_nil, bind_ok, bind_ok, bind_ok]
    simp [lstW, pureDs, lit, fW]
  have k1 : ev (tab.at n (j+4)) (.call 3 0 (.cons (.var 5) (.cons (.var 3) .nil)) .nil) (fW m P low o0 o1 (some (.d (.lst (r.map .int)))) o6 o7 o8 (some (.d (.lst [.bl (P.feas r), .int (P.cost r)]))) o10 o11) cs = .ok (.d (.bl (P.feas r))) cs := call2 rfl rfl (by simp) (meets_run (j := j + 3) ok hl cs)
  have k2 : ev (tab.at n (j+4)) (.call 1 0 (.cons (.var 5) (.cons (.var 3) .nil)) .nil) (fW m P low o0 o1 (some (.d (.lst (r.map .int)))) o6 o7 o8 (some (.d (.lst [.bl (P.feas r), .int (P.cost r)]))) o10 o11) cs = .ok (.d (.int (P.cost r))) cs := call2 rfl rfl (by simp) (lawcost_run (j := j + 3) ok .lst hl hs cs)
  have k3 : ev (tab.at n (j+4)) (.lst (.cons (.call 3 0 (.cons (.var 5) (.cons (.var 3) .nil)) .nil) (.cons (.call 1 0 (.cons (.var 5) (.cons (.var 3) .nil)) .nil) .nil))) (fW m P low o0 o1 (some (.d (.lst (r.map .int)))) o6 o7 o8 (some (.d (.lst [.bl (P.feas r), .int (P.cost r)]))) o10 o11) cs = .ok (.d (.lst [.bl (P.feas r), .int (P.cost r)])) cs := by
    rw [v_lst, vA_cons, k1, bind_ok, vA_cons, k2, bind_ok, vA_nil, bind_ok, bind_ok, bind_ok]
    simp [lstW, pureDs, lit]
  have hlay : (PyData.list [.bool (P.feas r), .int (P.cost r)]).canLay0 = true := by simp [PyData.canLay0, PyData.canLayAll0]
  have k4 : ev (tab.at n (j+4)) (.cmp .NotEq (.rep (.var 9)) (.rep (.lst (.cons (.call 3 0 (.cons (.var 5) (.cons (.var 3) .nil)) .nil) (.cons (.call 1 0 (.cons (.var 5) (.cons (.var 3) .nil)) .nil) .nil))))) (fW m P low o0 o1 (some (.d (.lst (r.map .int)))) o6 o7 o8 (some (.d (.lst [.bl (P.feas r), .int (P.cost r)]))) o10 o11) cs = .ok (.d (.bl false)) cs := by
    have v9 : ev (tab.at n (j+4)) (.var 9) (fW m P low o0 o1 (some (.d (.lst (r.map .int)))) o6 o7 o8 (some (.d (.lst [.bl (P.feas r), .int (P.cost r)]))) o10 o11) cs = .ok (.d (.lst [.bl (P.feas r), .int (P.cost r)])) cs := by rw [v_var]; rfl
    rw [v_cmp, v_rep, v9, bind_ok, rep_pair _ hz, bind_ok, v_rep, k3, bind_ok, rep_pair _ hz, bind_ok, cmp_rep hlay hlay]
    simp
  refine ⟨some (.d (.lst [.bl (P.feas r), .int (P.cost r)])), ?_⟩
  rw [x_cons, s4, sbind_nx, x_cons, x_ife, k4, asB_ok, onE_ok, if_neg (by decide), x_nil, sbind_nx, x_nil]
def sInn : S := (.cons (.set 10 (.call 4 0 (.cons (.var 12) (.cons (.cst (.int 3)) .nil)) .nil)) (.cons (.setL 3 (.lc (.op .Add (.var 11) (.call 4 0 (.cons (.var 12) (.cons (.cst (.int 4)) .nil)) .nil)) (.itl (.var 4)) .nil [11] true [("_law_value", 11)])) (.cons (.ife (.cmp .Eq (.var 10) (.cst (.int 1))) (.cons (.setL 3 (.lc (.op .Sub (.call 4 0 (.cons (.var 12) (.cons (.cst (.int 60)) .nil)) .nil) (.cst (.int 10))) (.itl (.var 4)) .nil [11] true [("_law_value", 11)])) .nil) (.cons (.ife (.cmp .Eq (.var 10) (.cst (.int 2))) (.cons (.put (.var 3) (.call 4 0 (.cons (.var 12) (.cons (.bi .len (.cons (.var 3) .nil)) .nil)) .nil) (.op .Pow (.cst (.int 10)) (.cst (.int 30)))) .nil) .nil) .nil)) (.cons (.frz 3) (.cons (.set 9 (.lst (.cons (.meth (.var 2) "is_feasible" (.cons (.bi .tuple (.cons (.var 3) .nil)) .nil)) (.cons (.meth (.var 2) "cost_of_row" (.cons (.bi .tuple (.cons (.var 3) .nil)) .nil)) .nil)))) (.cons (.ife (.cmp .NotEq (.rep (.var 9)) (.rep (.lst (.cons (.call 3 0 (.cons (.var 5) (.cons (.var 3) .nil)) .nil) (.cons (.call 1 0 (.cons (.var 5) (.cons (.var 3) .nil)) .nil) .nil))))) (.cons (.ret (.cst (.bl false))) .nil) .nil) .nil))))))
theorem seq4 {wd : Wd} {n b : Nat} {a a2 a3 a4 r : S} {fr fr' : Fra} {cs c' : Cells} (h : exS wd n b (.cons a (.cons a2 (.cons a3 (.cons a4 .nil)))) fr cs = .nx fr' c') : exS wd n b (.cons a (.cons a2 (.cons a3 (.cons a4 r)))) fr cs = exS wd n b r fr' c' := by
  rw [x_cons] at h ⊢
  cases h1 : exS wd n b a fr cs with
  | nx fr1 c1 =>
    rw [h1, sbind_nx, x_cons] at h
    rw [sbind_nx, x_cons]
    cases h2 : exS wd n b a2 fr1 c1 with
    | nx fr2 c2 =>
      rw [h2, sbind_nx] at h
      rw [sbind_nx]
      exact seq2 h
    | _ => rw [h2] at h; cases h
  | _ => rw [h1] at h; cases h
theorem inn_turn {o0 o1 o3 o6 o7 o8 o9 o10 o11 : Option W} (ok : P.Ok pos) (hlow : ∀ v ∈ low, 0 ≤ v ∧ v ≤ 63) (hll : low.length = P.n) (hs : SrcAt cs m t) (ht : t ≤ 700000) : ∃ (p0 p1 p3 p6 p7 p8 p9 p10 p11 : Option W) (c' : Cells), exS (tab.at n (j+4)) n 0 sInn (fW m P low o0 o1 o3 o6 o7 o8 o9 o10 o11) cs = .nx (fW m P low p0 p1 p3 p6 p7 p8 p9 p10 p11) c' ∧ SrcAt c' m (t + 20) ∧ ∀ d, o0 = some (.d d) → p0 = o0 := by
  obtain ⟨r, p0, p1, p6, p7, p8, p9, p10, p11, c', e1, hl, hsm, s1, h0⟩ := made_run (n := n) (j := j + 3) (m := m) (P := P) (low := low) (o0 := o0) (o1 := o1) (o3 := o3) (o6 := o6) (o7 := o7) (o8 := o8) (o9 := o9) (o10 := o10) (o11 := o11) ok.n1 ok.n6 hlow hll hs ht
  obtain ⟨q9, e2⟩ := told_run (n := n) (j := j) (m := m) (low := low) (o0 := p0) (o1 := p1) (o6 := p6) (o7 := p7) (o8 := p8) (o9 := p9) (o10 := p10) (o11 := p11) ok hl hsm c'
  refine ⟨p0, p1, some (.d (.lst (r.map .int))), p6, p7, p8, q9, p10, p11, c', ?_, s1, h0⟩
  unfold sInn
  rw [seq4 e1]
  exact e2
end
end K28
namespace K28
open PySem L2 BV
/-! ### what is no row -/
def odds (P : Pb) (low : List Int) : List D := [.non, .int 5, .lst (low.map .int), .tup (cutD (low.map .int) none (some (-1))), .tup (low.map .int ++ [.int 0]), .tup (List.replicate P.n (.bl true)), .tup (List.replicate P.n .non), .str "", .dct [], .tup [.tup (low.map .int)]]
def odds2 (P : Pb) (low : List Int) : List D := [.tup (List.replicate P.n (.str "0")), .tup [.lst (low.map .int)]]
theorem rep_flat (x : D) : ∀ k : Nat, (List.replicate k [x]).flatten = List.replicate k x
  | 0 => rfl
  | k + 1 => by rw [List.replicate_succ, List.flatten_cons, rep_flat x k]; rfl
theorem mul_tup {x : D} {k : Nat} (k1 : 1 ≤ k) (k6 : k ≤ 6) (cs : Cells) : wOp .Mult (.d (.tup [x])) (.d (.int k)) cs = .ok (.d (.tup (List.replicate k x))) cs := by
  by_cases e : k = 1
  · subst e
    rfl
  · have e1 : ¬ (k : Int) = 1 := by omega
    have e2 : (2 : Int) ≤ k := by omega
    have e3 : (k : Int) ≤ 1000 := by omega
    simp [wOp, wMul, e1, e2, e3, rep_flat]
theorem cut_mem {xs : List D} {d : D} (h : d ∈ cutD xs none (some (-1))) : d ∈ xs := by
  unfold cutD at h
  exact List.mem_of_mem_drop (List.mem_of_mem_take h)
theorem cut_len {xs : List D} (h : 1 ≤ xs.length) : (cutD xs none (some (-1))).length = xs.length - 1 := by
  unfold cutD
  rw [List.length_take, List.length_drop]
  have e1 : HT.sIx xs.length xs.length (some (-1)) = xs.length - 1 := by simp only [HT.sIx]; split <;> omega
  have e2 : HT.sIx xs.length 0 none = 0 := rfl
  rw [e1, e2]
  omega
section
variable {n j m b : Nat} {cs : Cells} {t : Int} {P : Pb} {pos : Int → Nat} {low : List Int}
theorem pl_ints {d : D} {r : List Int} (h : d ∈ r.map D.int) : Pl d := by
  obtain ⟨f, _, rfl⟩ := List.mem_map.mp h
  exact .int f
theorem odd_row (n1 : 1 ≤ P.n) (n6 : P.n ≤ 6) (hl : low.length = P.n) {d : D} (hd : d ∈ odds P low ++ odds2 P low) (cs : Cells) : (tab.at n (j+2)).phi 14 [.d d, .d (.int P.n)] cs = .ok (.bl false) cs := by
  have tp : ∀ {ds : List D}, (∀ d ∈ ds, Pl d) → ds.length ≤ 1000 → ((ds.length ≠ P.n) ∨ ∃ d ∈ ds, isIntD d = false) → (tab.at n (j+2)).phi 14 [.d (.tup ds), .d (.int P.n)] cs = .ok (.bl false) cs := fun {ds} h1 h2 h3 => by
    rw [row_run h1 h2]
    have : (((ds.length : Int) == (P.n : Int)) && ds.all isIntD) = false := by
      rcases h3 with h | ⟨d, hd, e⟩
      · have : ((ds.length : Int) == (P.n : Int)) = false := by simp only [beq_eq_false_iff_ne, ne_eq]; omega
        rw [this]; rfl
      · have : ds.all isIntD = false := by
          rw [List.all_eq_false]
          exact ⟨d, hd, by rw [e]; decide⟩
        rw [this, Bool.and_false]
    rw [this]
  have repl : ∀ {x : D}, Pl x → isIntD x = false → (tab.at n (j+2)).phi 14 [.d (.tup (List.replicate P.n x)), .d (.int P.n)] cs = .ok (.bl false) cs := fun {x} hx hi => tp (fun d hd => by rw [(List.mem_replicate.mp hd).2]; exact hx) (by rw [List.length_replicate]; omega) (.inr ⟨x, List.mem_replicate.mpr ⟨by omega, rfl⟩, hi⟩)
  simp only [odds, odds2, List.cons_append, List.nil_append, List.mem_cons, List.not_mem_nil, or_false] at hd
  rcases hd with rfl | rfl | rfl | rfl | rfl | rfl | rfl | rfl | rfl | rfl | rfl | rfl
  · exact row_odd .non (fun _ e => by cases e) _ cs
  · exact row_odd (.int 5) (fun _ e => by cases e) _ cs
  · exact row_odd (.lst _) (fun _ e => by cases e) _ cs
  · have hc := cut_len (xs := low.map D.int) (by rw [List.length_map]; omega)
    rw [List.length_map] at hc
    exact tp (fun d hd => pl_ints (cut_mem hd)) (by omega) (.inl (by omega))
  · refine tp (fun d hd => ?_) (by simp; omega) (.inl (by simp; omega))
    rcases List.mem_append.mp hd with h | h
    · exact pl_ints h
    · rw [List.mem_singleton.mp h]; exact .int 0
  · exact repl (.bl true) rfl
  · exact repl .non rfl
  · exact row_odd (.str "") (fun _ e => by cases e) _ cs
  · exact row_odd (.dct []) (fun _ e => by cases e) _ cs
  · exact tp (fun d hd => by rw [List.mem_singleton.mp hd]; exact .tup _) (by simp) (.inr ⟨_, List.mem_singleton.mpr rfl, rfl⟩)
  · exact repl (.str "0") rfl
  · exact tp (fun d hd => by rw [List.mem_singleton.mp hd]; exact .lst _) (by simp) (.inr ⟨_, List.mem_singleton.mpr rfl, rfl⟩)
theorem odds_run {o0 o1 o6 o7 o8 o9 o10 o11 : Option W} (n1 : 1 ≤ P.n) (n6 : P.n ≤ 6) (hl : low.length = P.n) (cs : Cells) : ev (tab.at n j) (.lst (.cons (.cst .non) (.cons (.cst (.int 5)) (.cons (.bi .list (.cons (.var 3) .nil)) (.cons (.sl (.var 3) .nil (.cons (.neg (.cst (.int 1))) .nil)) (.cons (.op .Add (.var 3) (.tup (.cons (.cst (.int 0)) .nil))) (.cons (.op .Mult (.tup (.cons (.cst (.bl true)) .nil)) (.bi .len (.cons (.var 3) .nil))) (.cons (.op .Mult (.tup (.cons (.cst .non) .nil)) (.bi .len (.cons (.var 3) .nil))) (.cons (.cst (.str "")) (.cons .dct0 (.cons (.tup (.cons (.var 3) .nil)) .nil))))))))))) (fW m P low o0 o1 (some (.d (.tup (low.map .int)))) o6 o7 o8 o9 o10 o11) cs = .ok (.d (.lst (odds P low))) cs := by
  have v3 : ∀ c, ev (tab.at n j) (.var 3) (fW m P low o0 o1 (some (.d (.tup (low.map .int)))) o6 o7 o8 o9 o10 o11) c = .ok (.d (.tup (low.map .int))) c := fun c => by rw [v_var]; rfl
  have hlen : ∀ c, ev (tab.at n j) (.bi .len (.cons (.var 3) .nil)) (fW m P low o0 o1 (some (.d (.tup (low.map .int)))) o6 o7 o8 o9 o10 o11) c = .ok (.d (.int P.n)) c := fun c => by
    rw [v_bi, vA_cons, v3, bind_ok, vA_nil, bind_ok, bind_ok]
    simp [wBi, dl, hl]
  have k2 : ∀ c, ev (tab.at n j) (.bi .list (.cons (.var 3) .nil)) (fW m P low o0 o1 (some (.d (.tup (low.map .int)))) o6 o7 o8 o9 o10 o11) c = .ok (.d (.lst (low.map .int))) c := fun c => by
    rw [v_bi, vA_cons, v3, bind_ok, vA_nil, bind_ok, bind_ok]
    rfl
  have k3 : ∀ c, ev (tab.at n j) (.sl (.var 3) .nil (.cons (.neg (.cst (.int 1))) .nil)) (fW m P low o0 o1 (some (.d (.tup (low.map .int)))) o6 o7 o8 o9 o10 o11) c = .ok (.d (.tup (cutD (low.map .int) none (some (-1))))) c := fun c => by
    rw [v_sl, v3, bind_ok]
    simp [wSl]
  have k4 : ∀ c, ev (tab.at n j) (.op .Add (.var 3) (.tup (.cons (.cst (.int 0)) .nil))) (fW m P low o0 o1 (some (.d (.tup (low.map .int)))) o6 o7 o8 o9 o10 o11) c = .ok (.d (.tup (low.map .int ++ [.int 0]))) c := fun c => by
    have h1 : low.length + 1 ≤ 16777216 := by omega
    rw [v_op, v3, bind_ok]
    simp [tupW, pureDs, lit, wOp, wAdd, h1]
  have k5 : ∀ c, ev (tab.at n j) (.op .Mult (.tup (.cons (.cst (.bl true)) .nil)) (.bi .len (.cons (.var 3) .nil))) (fW m P low o0 o1 (some (.d (.tup (low.map .int)))) o6 o7 o8 o9 o10 o11) c = .ok (.d (.tup (List.replicate P.n (.bl true)))) c := fun c => by
    have h0 : ∀ c, ev (tab.at n j) (.tup (.cons (.cst (.bl true)) .nil)) (fW m P low o0 o1 (some (.d (.tup (low.map .int)))) o6 o7 o8 o9 o10 o11) c = .ok (.d (.tup [.bl true])) c := fun c => by simp [tupW, pureDs, lit]
    rw [v_op, h0, bind_ok, hlen, bind_ok, mul_tup n1 n6]
  have k6 : ∀ c, ev (tab.at n j) (.op .Mult (.tup (.cons (.cst .non) .nil)) (.bi .len (.cons (.var 3) .nil))) (fW m P low o0 o1 (some (.d (.tup (low.map .int)))) o6 o7 o8 o9 o10 o11) c = .ok (.d (.tup (List.replicate P.n .non))) c := fun c => by
    have h0 : ∀ c, ev (tab.at n j) (.tup (.cons (.cst .non) .nil)) (fW m P low o0 o1 (some (.d (.tup (low.map .int)))) o6 o7 o8 o9 o10 o11) c = .ok (.d (.tup [.non])) c := fun c => by simp [tupW, pureDs, lit]
    rw [v_op, h0, bind_ok, hlen, bind_ok, mul_tup n1 n6]
  have k9 : ∀ c, ev (tab.at n j) (.tup (.cons (.var 3) .nil)) (fW m P low o0 o1 (some (.d (.tup (low.map .int)))) o6 o7 o8 o9 o10 o11) c = .ok (.d (.tup [.tup (low.map .int)])) c := fun c => by
    rw [v_tup, vA_cons, v3, bind_ok, vA_nil, bind_ok, bind_ok]
    simp [tupW, pureDs, lit]
  rw [v_lst, vA_cons, v_cst, bind_ok, vA_cons, v_cst, bind_ok, vA_cons, k2, bind_ok, vA_cons, k3, bind_ok, vA_cons, k4, bind_ok, vA_cons, k5, bind_ok, vA_cons, k6, bind_ok, vA_cons, v_cst, bind_ok, vA_cons, v_dct0, bind_ok, vA_cons, k9, bind_ok, vA_nil]
  simp [lstW, pureDs, lit, odds]
theorem odds2_run {o0 o1 o7 o8 o9 o10 o11 : Option W} (n1 : 1 ≤ P.n) (n6 : P.n ≤ 6) (hl : low.length = P.n) (cs : Cells) : ev (tab.at n j) (.op .Add (.var 6) (.lst (.cons (.op .Mult (.tup (.cons (.cst (.str "0")) .nil)) (.bi .len (.cons (.var 3) .nil))) (.cons (.tup (.cons (.var 4) .nil)) .nil)))) (fW m P low o0 o1 (some (.d (.tup (low.map .int)))) (some (.d (.lst (odds P low)))) o7 o8 o9 o10 o11) cs = .ok (.d (.lst (odds P low ++ odds2 P low))) cs := by
  have v3 : ∀ c, ev (tab.at n j) (.var 3) (fW m P low o0 o1 (some (.d (.tup (low.map .int)))) (some (.d (.lst (odds P low)))) o7 o8 o9 o10 o11) c = .ok (.d (.tup (low.map .int))) c := fun c => by rw [v_var]; rfl
  have v4 : ∀ c, ev (tab.at n j) (.var 4) (fW m P low o0 o1 (some (.d (.tup (low.map .int)))) (some (.d (.lst (odds P low)))) o7 o8 o9 o10 o11) c = .ok (.d (.lst (low.map .int))) c := fun c => by rw [v_var]; rfl
  have v6 : ∀ c, ev (tab.at n j) (.var 6) (fW m P low o0 o1 (some (.d (.tup (low.map .int)))) (some (.d (.lst (odds P low)))) o7 o8 o9 o10 o11) c = .ok (.d (.lst (odds P low))) c := fun c => by rw [v_var]; rfl
  have hlen : ∀ c, ev (tab.at n j) (.bi .len (.cons (.var 3) .nil)) (fW m P low o0 o1 (some (.d (.tup (low.map .int)))) (some (.d (.lst (odds P low)))) o7 o8 o9 o10 o11) c = .ok (.d (.int P.n)) c := fun c => by
    rw [v_bi, vA_cons, v3, bind_ok, vA_nil, bind_ok, bind_ok]
    simp [wBi, dl, hl]
  have k1 : ∀ c, ev (tab.at n j) (.op .Mult (.tup (.cons (.cst (.str "0")) .nil)) (.bi .len (.cons (.var 3) .nil))) (fW m P low o0 o1 (some (.d (.tup (low.map .int)))) (some (.d (.lst (odds P low)))) o7 o8 o9 o10 o11) c = .ok (.d (.tup (List.replicate P.n (.str "0")))) c := fun c => by
    have h0 : ∀ c, ev (tab.at n j) (.tup (.cons (.cst (.str "0")) .nil)) (fW m P low o0 o1 (some (.d (.tup (low.map .int)))) (some (.d (.lst (odds P low)))) o7 o8 o9 o10 o11) c = .ok (.d (.tup [.str "0"])) c := fun c => by simp [tupW, pureDs, lit]
    rw [v_op, h0, bind_ok, hlen, bind_ok, mul_tup n1 n6]
  have k2 : ∀ c, ev (tab.at n j) (.tup (.cons (.var 4) .nil)) (fW m P low o0 o1 (some (.d (.tup (low.map .int)))) (some (.d (.lst (odds P low)))) o7 o8 o9 o10 o11) c = .ok (.d (.tup [.lst (low.map .int)])) c := fun c => by
    rw [v_tup, vA_cons, v4, bind_ok, vA_nil, bind_ok, bind_ok]
    simp [tupW, pureDs, lit]
  have k3 : ∀ c, ev (tab.at n j) (.lst (.cons (.op .Mult (.tup (.cons (.cst (.str "0")) .nil)) (.bi .len (.cons (.var 3) .nil))) (.cons (.tup (.cons (.var 4) .nil)) .nil))) (fW m P low o0 o1 (some (.d (.tup (low.map .int)))) (some (.d (.lst (odds P low)))) o7 o8 o9 o10 o11) c = .ok (.d (.lst (odds2 P low))) c := fun c => by
    rw [v_lst, vA_cons, k1, bind_ok, vA_cons, k2, bind_ok, vA_nil, bind_ok, bind_ok, bind_ok]
    simp [lstW, pureDs, lit, odds2]
  rw [v_op, v6, bind_ok, k3, bind_ok]
  simp [wOp, wAdd, dlt, lit, odds, odds2]
theorem odd_turn {o0 o1 o3 o6 o8 o9 o10 o11 : Option W} {d : D} (hd : ∀ (j : Nat) cs, (tab.at n (j+2)).phi 14 [.d d, .d (.int P.n)] cs = .ok (.bl false) cs) (cs : Cells) : exS (tab.at n (j+6)) n 0 (.cons (.ife (.or (.cons (.cmp .IsNot (.meth (.var 2) "is_feasible" (.cons (.var 7) .nil)) (.cst (.bl false))) (.cons (.cmp .NotEq (.lam 2 (.meth (.var 2) "cost_of_row" (.cons (.var 7) .nil))) (.cst (.str "row"))) .nil))) (.cons (.ret (.cst (.bl false))) .nil) .nil) .nil) (fW m P low o0 o1 o3 o6 (some (.d d)) o8 o9 o10 o11) cs = .nx (fW m P low o0 o1 o3 o6 (some (.d d)) o8 o9 o10 o11) cs := by
  have v7 : ∀ (j : Nat) c, ev (tab.at n j) (.var 7) (fW m P low o0 o1 o3 o6 (some (.d d)) o8 o9 o10 o11) c = .ok (.d d) c := fun j c => by rw [v_var]; rfl
  have e1 : ev (tab.at n (j+6)) (.meth (.var 2) "is_feasible" (.cons (.var 7) .nil)) (fW m P low o0 o1 o3 o6 (some (.d d)) o8 o9 o10 o11) cs = .ok (.d (.bl false)) cs := methv rfl (m_feas P cs) (by simp) (v7 _ cs) (feas_odd (j := j + 3) (hd (j + 3)) cs)
  have key : (tab.at n (j+6)).phd 2 ((tab.at n (j+6)).phc (.meth (.var 2) "cost_of_row" (.cons (.var 7) .nil)) (fW m P low o0 o1 o3 o6 (some (.d d)) o8 o9 o10 o11)) cs = .ok (.str "row") cs := by
    refine row_word (j := j + 5) (e := .str "no row of values") ?_
    rw [Tab.phc_s]
    have hm : mthW (tab.at n (j+5)) (.d (.ins 2 P.fs)) "cost_of_row" cs = some 10 := m_cost P cs
    have hc := costr_odd (n := n) (j := j + 2) (P := P) (hd (j + 2)) cs
    have v2 : ∀ c, ev (tab.at n (j+5)) (.var 2) (fW m P low o0 o1 o3 o6 (some (.d d)) o8 o9 o10 o11) c = .ok (.d (.ins 2 P.fs)) c := fun c => by rw [v_var]; rfl
    rw [v_meth, v2, bind_ok, hm]
    dsimp only
    rw [vA_cons, v7, bind_ok, vA_nil, bind_ok, bind_ok, show (tab.at n (j+5)).npar 10 = 2 by simp]
    simp only [List.length_cons, List.length_nil, if_true, callW, hc]
    rfl
  have e2 : ev (tab.at n (j+6)) (.lam 2 (.meth (.var 2) "cost_of_row" (.cons (.var 7) .nil))) (fW m P low o0 o1 o3 o6 (some (.d d)) o8 o9 o10 o11) cs = .ok (.d (.str "row")) cs := by
    rw [v_lam, key]
    rfl
  have tr : Tx ("row" : Str) 3 := .lit (by decide +kernel)
  have e3 : ev (tab.at n (j+6)) (.or (.cons (.cmp .IsNot (.meth (.var 2) "is_feasible" (.cons (.var 7) .nil)) (.cst (.bl false))) (.cons (.cmp .NotEq (.lam 2 (.meth (.var 2) "cost_of_row" (.cons (.var 7) .nil))) (.cst (.str "row"))) .nil))) (fW m P low o0 o1 o3 o6 (some (.d d)) o8 o9 o10 o11) cs = .ok (.d (.bl false)) cs := by
    rw [v_or, vOr_cons, v_cmp, e1, bind_ok, v_cst, bind_ok, show wCmp .IsNot (.d (.bl false)) (.d (.bl false)) cs = .ok (.d (.bl false)) cs from rfl, asB_ok, bind_ok, if_neg (by decide), vOr_cons, v_cmp, e2, bind_ok, v_cst, bind_ok, wCmp_ne_str tr tr]
    simp
  rw [x_cons, x_ife, e3, asB_ok, onE_ok, if_neg (by decide), x_nil, sbind_nx, x_nil]
end
end K28
namespace K28
open PySem L2 BV
/-! ### the law -/
theorem callL2 {wd : Wd} {f i l : Nat} {fr : Fra} {cs c1 : Cells} {w1 w2 : W} (h1 : fr[i]? = some (some w1)) (h2 : fr[l]? = some (some w2)) (hp : wd.pat f 0 = some (2, [], [.p 0, .p 1])) (h : wd.phl f [w1, w2] cs = .ok () c1) : evL wd (.call f 0 (.cons (.var i) (.cons (.var l) .nil)) .nil) fr cs = .ok () c1 := by
  simp [evL, evCallL, srcs, h1, h2, hp, h]
theorem call3 {wd : Wd} {f m : Nat} {k : Int} {e : E} {fr : Fra} {cs c1 c2 : Cells} {d : D} (h12 : fr[12]? = some (some (.loc m))) (he : ev wd e fr cs = .ok (.d (.int k)) c1) (hp : wd.pat f 0 = some (3, [], [.p 0, .p 1, .p 2])) (h : wd.phi f [.loc m, .d (.int k), .d (.int 9)] c1 = .ok d c2) : ev wd (.call f 0 (.cons (.var 12) (.cons e (.cons (.cst (.int 9)) .nil))) .nil) fr cs = .ok (.d d) c2 := by
  rw [v_call, vA_cons, v_var, h12]
  dsimp only
  rw [bind_ok, vA_cons, he, bind_ok, vA_cons, v_cst, bind_ok, vA_nil, bind_ok, bind_ok, bind_ok, bind_ok, vA_nil, bind_ok, hp]
  simp [srcs, callW, h]
theorem call1 {wd : Wd} {f i : Nat} {fr : Fra} {cs c1 : Cells} {w : W} {d : D} (h1 : fr[i]? = some (some w)) (hp : wd.pat f 0 = some (1, [], [.p 0])) (h : wd.phi f [w] cs = .ok d c1) : ev wd (.call f 0 (.cons (.var i) .nil) .nil) fr cs = .ok (.d d) c1 := by
  rw [v_call, vA_cons, v_var, h1]
  dsimp only
  rw [bind_ok, vA_nil, bind_ok, bind_ok, vA_nil, bind_ok, hp]
  simp [srcs, callW, h]
def bodyT : S := (.cons (.setL 12 (.call 8 0 (.cons (.var 0) (.cons (.var 1) .nil)) .nil)) (.cons (.set 5 (.call 7 0 (.cons (.var 12) (.cons (.op .Add (.cst (.int 1)) (.call 4 0 (.cons (.var 12) (.cons (.cst (.int 6)) .nil)) .nil)) (.cons (.cst (.int 9)) .nil))) .nil)) (.cons (.setT [2, 4] (.tup (.cons (.call 6 0 (.cons (.var 5) .nil) .nil) (.cons (.call 5 0 (.cons (.var 5) .nil) .nil) .nil)))) (.cons (.loop (.rng1 (.cst (.int 8))) [8] true (.cons (.set 10 (.call 4 0 (.cons (.var 12) (.cons (.cst (.int 3)) .nil)) .nil)) (.cons (.setL 3 (.lc (.op .Add (.var 11) (.call 4 0 (.cons (.var 12) (.cons (.cst (.int 4)) .nil)) .nil)) (.itl (.var 4)) .nil [11] true [("_law_value", 11)])) (.cons (.ife (.cmp .Eq (.var 10) (.cst (.int 1))) (.cons (.setL 3 (.lc (.op .Sub (.call 4 0 (.cons (.var 12) (.cons (.cst (.int 60)) .nil)) .nil) (.cst (.int 10))) (.itl (.var 4)) .nil [11] true [("_law_value", 11)])) .nil) (.cons (.ife (.cmp .Eq (.var 10) (.cst (.int 2))) (.cons (.put (.var 3) (.call 4 0 (.cons (.var 12) (.cons (.bi .len (.cons (.var 3) .nil)) .nil)) .nil) (.op .Pow (.cst (.int 10)) (.cst (.int 30)))) .nil) .nil) .nil)) (.cons (.frz 3) (.cons (.set 9 (.lst (.cons (.meth (.var 2) "is_feasible" (.cons (.bi .tuple (.cons (.var 3) .nil)) .nil)) (.cons (.meth (.var 2) "cost_of_row" (.cons (.bi .tuple (.cons (.var 3) .nil)) .nil)) .nil)))) (.cons (.ife (.cmp .NotEq (.rep (.var 9)) (.rep (.lst (.cons (.call 3 0 (.cons (.var 5) (.cons (.var 3) .nil)) .nil) (.cons (.call 1 0 (.cons (.var 5) (.cons (.var 3) .nil)) .nil) .nil))))) (.cons (.ret (.cst (.bl false))) .nil) .nil) .nil))))))) (.cons (.set 3 (.bi .tuple (.cons (.var 4) .nil))) (.cons (.set 6 (.lst (.cons (.cst .non) (.cons (.cst (.int 5)) (.cons (.bi .list (.cons (.var 3) .nil)) (.cons (.sl (.var 3) .nil (.cons (.neg (.cst (.int 1))) .nil)) (.cons (.op .Add (.var 3) (.tup (.cons (.cst (.int 0)) .nil))) (.cons (.op .Mult (.tup (.cons (.cst (.bl true)) .nil)) (.bi .len (.cons (.var 3) .nil))) (.cons (.op .Mult (.tup (.cons (.cst .non) .nil)) (.bi .len (.cons (.var 3) .nil))) (.cons (.cst (.str "")) (.cons .dct0 (.cons (.tup (.cons (.var 3) .nil)) .nil)))))))))))) (.cons (.loop (.itl (.op .Add (.var 6) (.lst (.cons (.op .Mult (.tup (.cons (.cst (.str "0")) .nil)) (.bi .len (.cons (.var 3) .nil))) (.cons (.tup (.cons (.var 4) .nil)) .nil))))) [7] true (.cons (.ife (.or (.cons (.cmp .IsNot (.meth (.var 2) "is_feasible" (.cons (.var 7) .nil)) (.cst (.bl false))) (.cons (.cmp .NotEq (.lam 2 (.meth (.var 2) "cost_of_row" (.cons (.var 7) .nil))) (.cst (.str "row"))) .nil))) (.cons (.ret (.cst (.bl false))) .nil) .nil) .nil)) (.cons (.ife (.or (.cons (.cmp .IsNot (.meth (.var 2) "is_feasible" (.cons (.var 3) .nil)) (.cst (.bl true))) (.cons (.cmp .NotEq (.meth (.var 2) "cost_of_row" (.cons (.var 3) .nil)) (.call 1 0 (.cons (.var 5) (.cons (.var 4) .nil)) .nil)) .nil))) (.cons (.ret (.cst (.bl false))) .nil) .nil) .nil))))))))
theorem law_eq : s0 = .cons (.loop (.rng1 (.bi .max (.cons (.cst (.int 1)) (.cons (.bi .min (.cons (.cst (.int 3)) (.cons (.bi .len (.cons (.var 0) .nil)) .nil))) .nil)))) [1] true bodyT) (.cons (.ret (.cst (.bl true))) .nil) := rfl
section
variable {n j m : Nat} {cs : Cells} {t : Int} {P : Pb} {pos : Int → Nat} {low : List Int}
theorem st_src {ns : List Int} {k : Int} {o2 o3 o4 o5 o6 o7 o8 o9 o10 o11 o12 : Option W} (h0 : 0 ≤ k) (h1 : k ≤ 8) : ∃ c', exS (tab.at n (j+8)) n 0 (.setL 12 (.call 8 0 (.cons (.var 0) (.cons (.var 1) .nil)) .nil)) [some (.d (.flst (ns.map .int))), some (.d (.int k)), o2, o3, o4, o5, o6, o7, o8, o9, o10, o11, o12] cs = .nx [some (.d (.flst (ns.map .int))), some (.d (.int k)), o2, o3, o4, o5, o6, o7, o8, o9, o10, o11, some (.loc cs.length)] c' ∧ SrcAt c' cs.length (3 * k) := by
  obtain ⟨a, c0, e1, hc⟩ := source_run (wd := tab.at n (j+7)) (n := n) (ns := ns) (k := k) (cs := cs) h0 (by omega)
  have e2 : (tab.at n (j+8)).phl 8 [.d (.flst (ns.map .int)), .d (.int k)] cs = .ok () (cs ++ [some (.lst [.int a, .int (3 * k), .int c0])]) := by
    rw [Tab.phl_s (s := s8) (nl := 3) rfl]
    exact e1
  refine ⟨cs ++ [some (.lst [.int a, .int (3 * k), .int c0])], ?_, ⟨a, 3 * k, c0, by simp, by omega, by omega, hc⟩⟩
  have e3 := callL2 (wd := tab.at n (j+8)) (f := 8) (i := 0) (l := 1) (fr := [some (.d (.flst (ns.map .int))), some (.d (.int k)), o2, o3, o4, o5, o6, o7, o8, o9, o10, o11, o12]) rfl rfl (by simp) e2
  rw [x_setL, e3, onE_ok, len1]
  rfl
theorem st_drawn {o0 o1 o2 o3 o4 o5 o6 o7 o8 o9 o10 o11 : Option W} (hs : SrcAt cs m t) (ht : t ≤ 400000) (hn : 100 ≤ n) : ∃ (P : Pb) (pos : Int → Nat) (c' : Cells), exS (tab.at n (j+8)) n 0 (.set 5 (.call 7 0 (.cons (.var 12) (.cons (.op .Add (.cst (.int 1)) (.call 4 0 (.cons (.var 12) (.cons (.cst (.int 6)) .nil)) .nil)) (.cons (.cst (.int 9)) .nil))) .nil)) [o0, o1, o2, o3, o4, o5, o6, o7, o8, o9, o10, o11, some (.loc m)] cs = .nx [o0, o1, o2, o3, o4, some (.d P.d), o6, o7, o8, o9, o10, o11, some (.loc m)] c' ∧ P.Ok pos ∧ SrcAt c' m (t + 301) := by
  obtain ⟨r, c1, e1, d1, r0, r1⟩ := ev_next (fr := [o0, o1, o2, o3, o4, o5, o6, o7, o8, o9, o10, o11, some (.loc m)]) (i := 12) (e := .cst (.int 6)) (many := 6) (cs := cs) (nx4 (n := n) (j := j + 7)) rfl (by rw [v_cst]) hs (by omega) (by decide) (by decide)
  have e2 : ev (tab.at n (j+8)) (.op .Add (.cst (.int 1)) (.call 4 0 (.cons (.var 12) (.cons (.cst (.int 6)) .nil)) .nil)) [o0, o1, o2, o3, o4, o5, o6, o7, o8, o9, o10, o11, some (.loc m)] cs = .ok (.d (.int ((r.toNat + 1 : Nat) : Int))) c1 := by
    rw [v_op, v_cst, bind_ok, e1, bind_ok, wOp_add]
    rw [show (1 : Int) + r = ((r.toNat + 1 : Nat) : Int) by omega]
  obtain ⟨P, pos, c2, e3, ok, _, d2⟩ := drawn_run (n := n) (j := j + 4) (k := r.toNat + 1) (m := m) (t := t + 1) (cs := c1) (by omega) (by omega) d1.src (by omega) hn
  have e4 := call3 (wd := tab.at n (j+8)) (f := 7) (fr := [o0, o1, o2, o3, o4, o5, o6, o7, o8, o9, o10, o11, some (.loc m)]) rfl e2 (by simp) e3
  refine ⟨P, pos, c2, ?_, ok, d2.src.mono (by omega)⟩
  rw [x_set, e4, onE_ok]
  rfl
theorem st_given {o0 o1 o2 o3 o4 o6 o7 o8 o9 o10 o11 : Option W} (ok : P.Ok pos) (hn : 400 ≤ n) : ∃ low, exS (tab.at n (j+8)) n 0 (.setT [2, 4] (.tup (.cons (.call 6 0 (.cons (.var 5) .nil) .nil) (.cons (.call 5 0 (.cons (.var 5) .nil) .nil) .nil)))) [o0, o1, o2, o3, o4, some (.d P.d), o6, o7, o8, o9, o10, o11, some (.loc m)] cs = .nx (fW m P low o0 o1 o3 o6 o7 o8 o9 o10 o11) cs ∧ RI P pos low ∧ P.feas low = true := by
  obtain ⟨low, e1, hR, hf⟩ := low_run (n := n) (j := j + 7) ok hn cs
  have e2 := given_run (n := n) (j := j) ok (by omega) cs
  have e3 := call1 (wd := tab.at n (j+8)) (f := 6) (i := 5) (fr := [o0, o1, o2, o3, o4, some (.d P.d), o6, o7, o8, o9, o10, o11, some (.loc m)]) rfl (by simp) e2
  have e4 := call1 (wd := tab.at n (j+8)) (f := 5) (i := 5) (fr := [o0, o1, o2, o3, o4, some (.d P.d), o6, o7, o8, o9, o10, o11, some (.loc m)]) rfl (by simp) e1
  refine ⟨low, ?_, hR, hf⟩
  have et : ∀ c, tupW [.d (.ins 2 P.fs), .d (.lst (low.map .int))] c = .ok (.d (.tup [.ins 2 P.fs, .lst (low.map .int)])) c := fun c => by simp [tupW, pureDs, lit]
  rw [x_setT, v_tup, vA_cons, e3, bind_ok, vA_cons, e4, bind_ok, vA_nil, bind_ok, bind_ok, bind_ok, et, onE_ok]
  rfl
theorem st_inn {x : D} {o1 o3 o6 o7 o8 o9 o10 o11 : Option W} (ok : P.Ok pos) (hR : RI P pos low) (hs : SrcAt cs m t) (ht : t ≤ 400000) : ∃ (p1 p3 p6 p7 p8 p9 p10 p11 : Option W) (c' : Cells), exS (tab.at n (j+8)) n 0 (.loop (.rng1 (.cst (.int 8))) [8] true (.cons (.set 10 (.call 4 0 (.cons (.var 12) (.cons (.cst (.int 3)) .nil)) .nil)) (.cons (.setL 3 (.lc (.op .Add (.var 11) (.call 4 0 (.cons (.var 12) (.cons (.cst (.int 4)) .nil)) .nil)) (.itl (.var 4)) .nil [11] true [("_law_value", 11)])) (.cons (.ife (.cmp .Eq (.var 10) (.cst (.int 1))) (.cons (.setL 3 (.lc (.op .Sub (.call 4 0 (.cons (.var 12) (.cons (.cst (.int 60)) .nil)) .nil) (.cst (.int 10))) (.itl (.var 4)) .nil [11] true [("_law_value", 11)])) .nil) (.cons (.ife (.cmp .Eq (.var 10) (.cst (.int 2))) (.cons (.put (.var 3) (.call 4 0 (.cons (.var 12) (.cons (.bi .len (.cons (.var 3) .nil)) .nil)) .nil) (.op .Pow (.cst (.int 10)) (.cst (.int 30)))) .nil) .nil) .nil)) (.cons (.frz 3) (.cons (.set 9 (.lst (.cons (.meth (.var 2) "is_feasible" (.cons (.bi .tuple (.cons (.var 3) .nil)) .nil)) (.cons (.meth (.var 2) "cost_of_row" (.cons (.bi .tuple (.cons (.var 3) .nil)) .nil)) .nil)))) (.cons (.ife (.cmp .NotEq (.rep (.var 9)) (.rep (.lst (.cons (.call 3 0 (.cons (.var 5) (.cons (.var 3) .nil)) .nil) (.cons (.call 1 0 (.cons (.var 5) (.cons (.var 3) .nil)) .nil) .nil))))) (.cons (.ret (.cst (.bl false))) .nil) .nil) .nil))))))) (fW m P low (some (.d x)) o1 o3 o6 o7 o8 o9 o10 o11) cs = .nx (fW m P low (some (.d x)) p1 p3 p6 p7 p8 p9 p10 p11) c' ∧ SrcAt c' m (t + 160) := by
  obtain ⟨fr', c1, q1, p1, p3, p6, p7, p8, p9, p10, p11, rfl, hs1⟩ := for_foldC (f := exS (tab.at n (j+8)) n 0 sInn) (tg := [8]) (one := true) 8 (fun i : Nat => D.int (i : Int)) (fun (u : Unit) _ => u)
    (fun i _ fr c => ∃ p1 p3 p6 p7 p8 p9 p10 p11, fr = fW m P low (some (.d x)) p1 p3 p6 p7 p8 p9 p10 p11 ∧ SrcAt c m (t + 20 * i)) (List.range 8) 0 ()
    (fW m P low (some (.d x)) o1 o3 o6 o7 o8 o9 o10 o11) cs (fun d hd i _ fr c hi ⟨p1, p3, p6, p7, p8, p9, p10, p11, hfr, hs⟩ => by
      subst hfr
      obtain ⟨q0, q1, q3, q6, q7, q8, q9, q10, q11, c', e, h1, h2⟩ := inn_turn (n := n) (j := j + 4) (m := m) (P := P) (pos := pos) (low := low) (o0 := some (.d x)) (o1 := p1) (o3 := p3) (o6 := p6) (o7 := p7) (o8 := some (.d (.int (d : Int)))) (o9 := p9) (o10 := p10) (o11 := p11) ok (hR.mem ok) hR.len hs (by omega)
      rw [h2 x rfl] at e
      exact ⟨_, _, c', rfl, .inl e, q1, q3, q6, q7, q8, q9, q10, q11, rfl, h1.mono (by omega)⟩) (by simp) ⟨_, _, _, _, _, _, _, _, rfl, hs.mono (by omega)⟩
  simp only [List.length_range, Nat.zero_add] at hs1
  refine ⟨p1, p3, p6, p7, p8, p9, p10, p11, c1, ?_, hs1.mono (by omega)⟩
  have h3 : evI (tab.at n (j+8)) (.rng1 (.cst (.int 8))) (fW m P low (some (.d x)) o1 o3 o6 o7 o8 o9 o10 o11) cs = .ok ((List.range 8).map fun i : Nat => D.int (i : Int)) cs := by
    rw [vI_rng1, v_cst, asI_ok, bind_ok, if_pos (by decide), rngD0]
    rfl
  rw [x_loop, h3, onE_ok]
  exact q1
theorem tup_var4 {wd : Wd} {fr : Fra} {r : List Int} (h4 : fr[4]? = some (some (.d (.lst (r.map .int))))) (cs : Cells) : ev wd (.bi .tuple (.cons (.var 4) .nil)) fr cs = .ok (.d (.tup (r.map .int))) cs := by
  rw [v_bi, vA_cons, v_var, h4]
  dsimp only
  rw [bind_ok, vA_nil, bind_ok, bind_ok]
  rfl
theorem st_row {o0 o1 o3 o6 o7 o8 o9 o10 o11 : Option W} : exS (tab.at n (j+8)) n 0 (.set 3 (.bi .tuple (.cons (.var 4) .nil))) (fW m P low o0 o1 o3 o6 o7 o8 o9 o10 o11) cs = .nx (fW m P low o0 o1 (some (.d (.tup (low.map .int)))) o6 o7 o8 o9 o10 o11) cs := by
  rw [x_set, tup_var4 (r := low) rfl, onE_ok]
  rfl
theorem st_odds {o0 o1 o6 o7 o8 o9 o10 o11 : Option W} (n1 : 1 ≤ P.n) (n6 : P.n ≤ 6) (hl : low.length = P.n) : exS (tab.at n (j+8)) n 0 (.set 6 (.lst (.cons (.cst .non) (.cons (.cst (.int 5)) (.cons (.bi .list (.cons (.var 3) .nil)) (.cons (.sl (.var 3) .nil (.cons (.neg (.cst (.int 1))) .nil)) (.cons (.op .Add (.var 3) (.tup (.cons (.cst (.int 0)) .nil))) (.cons (.op .Mult (.tup (.cons (.cst (.bl true)) .nil)) (.bi .len (.cons (.var 3) .nil))) (.cons (.op .Mult (.tup (.cons (.cst .non) .nil)) (.bi .len (.cons (.var 3) .nil))) (.cons (.cst (.str "")) (.cons .dct0 (.cons (.tup (.cons (.var 3) .nil)) .nil)))))))))))) (fW m P low o0 o1 (some (.d (.tup (low.map .int)))) o6 o7 o8 o9 o10 o11) cs = .nx (fW m P low o0 o1 (some (.d (.tup (low.map .int)))) (some (.d (.lst (odds P low)))) o7 o8 o9 o10 o11) cs := by
  rw [x_set, odds_run n1 n6 hl, onE_ok]
  rfl
theorem st_odd {o0 o1 o7 o8 o9 o10 o11 : Option W} (n1 : 1 ≤ P.n) (n6 : P.n ≤ 6) (hl : low.length = P.n) : ∃ p7, exS (tab.at n (j+8)) n 0 (.loop (.itl (.op .Add (.var 6) (.lst (.cons (.op .Mult (.tup (.cons (.cst (.str "0")) .nil)) (.bi .len (.cons (.var 3) .nil))) (.cons (.tup (.cons (.var 4) .nil)) .nil))))) [7] true (.cons (.ife (.or (.cons (.cmp .IsNot (.meth (.var 2) "is_feasible" (.cons (.var 7) .nil)) (.cst (.bl false))) (.cons (.cmp .NotEq (.lam 2 (.meth (.var 2) "cost_of_row" (.cons (.var 7) .nil))) (.cst (.str "row"))) .nil))) (.cons (.ret (.cst (.bl false))) .nil) .nil) .nil)) (fW m P low o0 o1 (some (.d (.tup (low.map .int)))) (some (.d (.lst (odds P low)))) o7 o8 o9 o10 o11) cs = .nx (fW m P low o0 o1 (some (.d (.tup (low.map .int)))) (some (.d (.lst (odds P low)))) p7 o8 o9 o10 o11) cs := by
  obtain ⟨fr', c1, q1, p7, rfl, rfl⟩ := for_foldC (f := exS (tab.at n (j+8)) n 0 (.cons (.ife (.or (.cons (.cmp .IsNot (.meth (.var 2) "is_feasible" (.cons (.var 7) .nil)) (.cst (.bl false))) (.cons (.cmp .NotEq (.lam 2 (.meth (.var 2) "cost_of_row" (.cons (.var 7) .nil))) (.cst (.str "row"))) .nil))) (.cons (.ret (.cst (.bl false))) .nil) .nil) .nil)) (tg := [7]) (one := true) 12 (fun d : D => d) (fun (u : Unit) _ => u)
    (fun i _ fr c => ∃ p7, fr = fW m P low o0 o1 (some (.d (.tup (low.map .int)))) (some (.d (.lst (odds P low)))) p7 o8 o9 o10 o11 ∧ c = cs) (odds P low ++ odds2 P low) 0 ()
    (fW m P low o0 o1 (some (.d (.tup (low.map .int)))) (some (.d (.lst (odds P low)))) o7 o8 o9 o10 o11) cs (fun d hd i _ fr c hi ⟨p7, hfr, hc⟩ => by
      subst hfr hc
      exact ⟨_, _, c, rfl, .inl (odd_turn (n := n) (j := j + 2) (m := m) (P := P) (low := low) (d := d) (fun j cs => odd_row n1 n6 hl hd cs) c), _, rfl, rfl⟩) (by simp [odds, odds2]) ⟨_, rfl, rfl⟩
  refine ⟨p7, ?_⟩
  rw [x_loop, vI_itl, odds2_run n1 n6 hl, bind_ok]
  dsimp only
  rw [onE_ok]
  rw [List.map_id'] at q1
  exact q1
theorem st_close {o0 o1 o6 o7 o8 o9 o10 o11 : Option W} (ok : P.Ok pos) (hR : RI P pos low) (hf : P.feas low = true) : exS (tab.at n (j+8)) n 0 (.ife (.or (.cons (.cmp .IsNot (.meth (.var 2) "is_feasible" (.cons (.var 3) .nil)) (.cst (.bl true))) (.cons (.cmp .NotEq (.meth (.var 2) "cost_of_row" (.cons (.var 3) .nil)) (.call 1 0 (.cons (.var 5) (.cons (.var 4) .nil)) .nil)) .nil))) (.cons (.ret (.cst (.bl false))) .nil) .nil) (fW m P low o0 o1 (some (.d (.tup (low.map .int)))) o6 o7 o8 o9 o10 o11) cs = .nx (fW m P low o0 o1 (some (.d (.tup (low.map .int)))) o6 o7 o8 o9 o10 o11) cs := by
  have hl := hR.len
  have hs : Sm low := sm200 fun v hv => by have := hR.mem ok v hv; omega
  have v3 : ∀ c, ev (tab.at n (j+8)) (.var 3) (fW m P low o0 o1 (some (.d (.tup (low.map .int)))) o6 o7 o8 o9 o10 o11) c = .ok (.d (.tup (low.map .int))) c := fun c => by rw [v_var]; rfl
  have e1 : ev (tab.at n (j+8)) (.meth (.var 2) "is_feasible" (.cons (.var 3) .nil)) (fW m P low o0 o1 (some (.d (.tup (low.map .int)))) o6 o7 o8 o9 o10 o11) cs = .ok (.d (.bl (P.feas low))) cs := methv rfl (m_feas P cs) (by simp) (v3 cs) (feas_run (j := j + 5) ok hl cs)
  have e2 : ev (tab.at n (j+8)) (.meth (.var 2) "cost_of_row" (.cons (.var 3) .nil)) (fW m P low o0 o1 (some (.d (.tup (low.map .int)))) o6 o7 o8 o9 o10 o11) cs = .ok (.d (.int (P.cost low))) cs := methv rfl (m_cost P cs) (by simp) (v3 cs) (costr_run (j := j + 5) ok hl hs cs)
  have e3 : ev (tab.at n (j+8)) (.call 1 0 (.cons (.var 5) (.cons (.var 4) .nil)) .nil) (fW m P low o0 o1 (some (.d (.tup (low.map .int)))) o6 o7 o8 o9 o10 o11) cs = .ok (.d (.int (P.cost low))) cs := call2 rfl rfl (by simp) (lawcost_run (j := j + 7) ok .lst hl hs cs)
  rw [hf] at e1
  have e4 : ev (tab.at n (j+8)) (.or (.cons (.cmp .IsNot (.meth (.var 2) "is_feasible" (.cons (.var 3) .nil)) (.cst (.bl true))) (.cons (.cmp .NotEq (.meth (.var 2) "cost_of_row" (.cons (.var 3) .nil)) (.call 1 0 (.cons (.var 5) (.cons (.var 4) .nil)) .nil)) .nil))) (fW m P low o0 o1 (some (.d (.tup (low.map .int)))) o6 o7 o8 o9 o10 o11) cs = .ok (.d (.bl false)) cs := by
    rw [v_or, vOr_cons, v_cmp, e1, bind_ok, v_cst, bind_ok, show wCmp .IsNot (.d (.bl true)) (.d (.bl true)) cs = .ok (.d (.bl false)) cs from rfl, asB_ok, bind_ok, if_neg (by decide), vOr_cons, v_cmp, e2, bind_ok, e3, bind_ok, wCmp_ne_int]
    simp
  rw [x_ife, e4, asB_ok, onE_ok, if_neg (by decide), x_nil]
theorem turnL {ns : List Int} {k : Int} {o2 o3 o4 o5 o6 o7 o8 o9 o10 o11 o12 : Option W} (h0 : 0 ≤ k) (h1 : k ≤ 8) (hn : 400 ≤ n) : ∃ p1 p2 p3 p4 p5 p6 p7 p8 p9 p10 p11 p12 c', exS (tab.at n (j+8)) n 0 bodyT [some (.d (.flst (ns.map .int))), some (.d (.int k)), o2, o3, o4, o5, o6, o7, o8, o9, o10, o11, o12] cs = .nx [some (.d (.flst (ns.map .int))), p1, p2, p3, p4, p5, p6, p7, p8, p9, p10, p11, p12] c' := by
  obtain ⟨c0, e0, s0⟩ := st_src (n := n) (j := j) (cs := cs) (ns := ns) (k := k) (o2 := o2) (o3 := o3) (o4 := o4) (o5 := o5) (o6 := o6) (o7 := o7) (o8 := o8) (o9 := o9) (o10 := o10) (o11 := o11) (o12 := o12) h0 h1
  obtain ⟨P, pos, c1, e1, ok, s1⟩ := st_drawn (n := n) (j := j) (m := cs.length) (o0 := some (.d (.flst (ns.map .int)))) (o1 := some (.d (.int k))) (o2 := o2) (o3 := o3) (o4 := o4) (o5 := o5) (o6 := o6) (o7 := o7) (o8 := o8) (o9 := o9) (o10 := o10) (o11 := o11) s0 (by omega) (by omega)
  obtain ⟨low, e2, hR, hf⟩ := st_given (n := n) (j := j) (m := cs.length) (cs := c1) (P := P) (pos := pos) (o0 := some (.d (.flst (ns.map .int)))) (o1 := some (.d (.int k))) (o2 := o2) (o3 := o3) (o4 := o4) (o6 := o6) (o7 := o7) (o8 := o8) (o9 := o9) (o10 := o10) (o11 := o11) ok hn
  obtain ⟨p1, p3, p6, p7, p8, p9, p10, p11, c2, e3, s3⟩ := st_inn (n := n) (j := j) (m := cs.length) (cs := c1) (P := P) (pos := pos) (low := low) (x := .flst (ns.map .int)) (o1 := some (.d (.int k))) (o3 := o3) (o6 := o6) (o7 := o7) (o8 := o8) (o9 := o9) (o10 := o10) (o11 := o11) ok hR s1 (by omega)
  have hl := hR.len
  obtain ⟨q7, e6⟩ := st_odd (n := n) (j := j) (m := cs.length) (cs := c2) (P := P) (low := low) (o0 := some (.d (.flst (ns.map .int)))) (o1 := p1) (o7 := p7) (o8 := p8) (o9 := p9) (o10 := p10) (o11 := p11) ok.n1 ok.n6 hl
  refine ⟨p1, some (.d (.ins 2 P.fs)), some (.d (.tup (low.map .int))), some (.d (.lst (low.map .int))), some (.d P.d), some (.d (.lst (odds P low))), q7, p8, p9, p10, p11, some (.loc cs.length), c2, ?_⟩
  rw [bodyT, x_cons, e0, sbind_nx, x_cons, e1, sbind_nx, x_cons, e2, sbind_nx, x_cons, e3, sbind_nx, x_cons, st_row, sbind_nx, x_cons, st_odds ok.n1 ok.n6 hl, sbind_nx, x_cons, e6, sbind_nx, x_cons, st_close ok hR hf, sbind_nx, x_nil]
  rfl
end
theorem plain : ∀ ns : List Int, ns.length ≤ 63 → ∃ cs, (tab.phs 400 20).1 0 [.d (.flst (ns.map D.int))] [] = .ok (.bl true) cs := fun ns hns => by
  have goal : ∃ cs, (tab.at 400 20).phi 0 [.d (.flst (ns.map D.int))] [] = .ok (.bl true) cs := by
    rw [Tab.phi_s (n := 400) (j := 19) (f := 0) (s := s0) (nl := 13) rfl]
    unfold fnRun
    rw [law_eq]
    obtain ⟨v, hv0, hv1, hv⟩ : ∃ v : Int, 1 ≤ v ∧ v ≤ 3 ∧ evI (tab.at 400 19) (.rng1 (.bi .max (.cons (.cst (.int 1)) (.cons (.bi .min (.cons (.cst (.int 3)) (.cons (.bi .len (.cons (.var 0) .nil)) .nil))) .nil)))) [some (.d (.flst (ns.map .int))), none, none, none, none, none, none, none, none, none, none, none, none] [] = .ok (rngD 0 v) [] := by
      refine ⟨if (if (ns.length : Int) < 3 then (ns.length : Int) else 3) > 1 then (if (ns.length : Int) < 3 then (ns.length : Int) else 3) else 1, by split <;> omega, by repeat' split <;> omega, ?_⟩
      simp [wBi, dl, small62]
      repeat' split
      all_goals omega
    obtain ⟨fr', cs', q1, p1, p2, p3, p4, p5, p6, p7, p8, p9, p10, p11, p12, rfl⟩ := for_foldC (f := exS (tab.at 400 19) 400 0 bodyT) (tg := [1]) (one := true) 3 (fun i : Nat => D.int (i : Int)) (fun (u : Unit) _ => u)
      (fun i _ fr cs' => ∃ p1 p2 p3 p4 p5 p6 p7 p8 p9 p10 p11 p12, fr = [some (.d (.flst (ns.map .int))), p1, p2, p3, p4, p5, p6, p7, p8, p9, p10, p11, p12]) (List.range v.toNat) 0 ()
      [some (.d (.flst (ns.map .int))), none, none, none, none, none, none, none, none, none, none, none, none] [] (fun d hd i _ fr cs1 hi ⟨p1, p2, p3, p4, p5, p6, p7, p8, p9, p10, p11, p12, hfr⟩ => by
        subst hfr
        have hd := List.mem_range.mp hd
        obtain ⟨r1, r2, r3, r4, r5, r6, r7, r8, r9, r10, r11, r12, cs2, e⟩ := turnL (n := 400) (j := 11) (ns := ns) (k := (d : Int)) (cs := cs1) (o2 := p2) (o3 := p3) (o4 := p4) (o5 := p5) (o6 := p6) (o7 := p7) (o8 := p8) (o9 := p9) (o10 := p10) (o11 := p11) (o12 := p12) (by omega) (by omega) (by omega)
        exact ⟨_, _, cs2, rfl, .inl e, r1, r2, r3, r4, r5, r6, r7, r8, r9, r10, r11, r12, rfl⟩) (by simp; omega) ⟨_, _, _, _, _, _, _, _, _, _, _, _, rfl⟩
    refine ⟨cs'.take 0, ?_⟩
    show endD 0 (exS (tab.at 400 19) 400 0 (.cons _ (.cons (.ret (.cst (.bl true))) .nil)) [some (.d (.flst (ns.map .int))), none, none, none, none, none, none, none, none, none, none, none, none] []) = _
    rw [x_cons, x_loop, hv, onE_ok, rngD0, q1, sbind_nx, x_cons, x_ret, v_cst, onE_ok, sbind_rt]
    rfl
  exact goal
end K28
open PySem PySem.W PyProof.Rows in
set_option maxRecDepth 100000 in
set_option maxHeartbeats 0 in
theorem PySem.Challenge.cw_diagramtext_k28_rows_and_costs_holds : PySem.Challenge.rw_diagramtext_k28_rows_and_costs.Holds := by
  w_on; o_law; k_head; (case hw => w_witness2)
  k_fill
  refine BV.walkG (l := PySem.Challenge.rw_diagramtext_k28_rows_and_costs) (k := 60) (x := "_law_script") rfl rfl ⟨rfl, by decide, by decide⟩ (fun w h Y => PySem.W.km_in_of Y) ?F
  case F =>
    intro w mg fa h KX G hmg Y
    refine' K28.all_mk rfl KX G hmg ?hyp_aC0 ?hyp_aC1 ?hyp_aC2 ?hyp_aC3 ?hyp_g0 ?hyp_g1 ?hyp_g2 ?hyp_g3 ?hyp_a0 ?hyp_l0 ?hyp_c0 ?hyp_k0 ?hyp_y0 ?hyp_z0 ?hyp_po0 ?hyp_ch0 ?hyp_te0 ?hyp_a1 ?hyp_l1 ?hyp_c1 ?hyp_k1 ?hyp_a2 ?hyp_l2 ?hyp_c2 ?hyp_k2 ?hyp_a3 ?hyp_l3 ?hyp_c3 ?hyp_k3 ?hyp_a4 ?hyp_l4 ?hyp_c4 ?hyp_k4 ?hyp_a5 ?hyp_l5 ?hyp_c5 ?hyp_k5 ?hyp_a6 ?hyp_l6 ?hyp_c6 ?hyp_k6 ?hyp_a7 ?hyp_l7 ?hyp_c7 ?hyp_k7 ?hyp_a8 ?hyp_l8 ?hyp_c8 ?hyp_k8 ?hyp_a9 ?hyp_l9 ?hyp_c9 ?hyp_k9 ?hyp_i9 ?hyp_D9_0 ?hyp_D9v0 ?hyp_D9_1 ?hyp_D9v1 ?hyp_D9_2 ?hyp_D9v2 ?hyp_a10 ?hyp_l10 ?hyp_c10 ?hyp_k10 ?hyp_i10 ?hyp_a11 ?hyp_l11 ?hyp_c11 ?hyp_k11 ?hyp_i11 ?hyp_a12 ?hyp_l12 ?hyp_c12 ?hyp_k12 ?hyp_a13 ?hyp_l13 ?hyp_c13 ?hyp_k13 ?hyp_a14 ?hyp_l14 ?hyp_c14 ?hyp_k14 ?hyp_a15 ?hyp_l15 ?hyp_c15 ?hyp_k15 ?hyp_i15 ?hyp_a16 ?hyp_l16 ?hyp_c16 ?hyp_k16 ?hyp_a17 ?hyp_l17 ?hyp_c17 ?hyp_k17 ?hyp_a18 ?hyp_l18 ?hyp_c18 ?hyp_k18 ?hyp_a19 ?hyp_l19 ?hyp_c19 ?hyp_k19 ?hyp_a20 ?hyp_l20 ?hyp_c20 ?hyp_k20 ?hyp_a21 ?hyp_l21 ?hyp_c21 ?hyp_k21 ?hyp_a22 ?hyp_l22 ?hyp_c22 ?hyp_k22 ?hyp_a23 ?hyp_l23 ?hyp_c23 ?hyp_k23 ?hyp_pgC2 ?hyp_hdC2 ?hyp_poC2 ?hyp_saC2 ?hyp_kiC2 ?hyp_moC2 ?hyp_gsK ?hyp_tkK ?hyp_xL1 ?hyp_xsa1 ?hyp_xnp1 ?hyp_xin1 ?hyp_xti1 ?hyp_xkc1 ?hyp_xec1 ?hyp_xty1 ?hyp_xsu1 ?hyp_xsb1 ?hyp_xga1 ?hyp_xgg1 ?hyp_xhd1 ?hyp_xki1 ?hyp_xmo1 ?hyp_xl1 ?hyp_xcd_1 ?hyp_xx1 ?hyp_xy1 ?hyp_xz1 ?hyp_xw1 ?hyp_xL0 ?hyp_xsa0 ?hyp_xnp0 ?hyp_xin0 ?hyp_xti0 ?hyp_xkc0 ?hyp_xec0 ?hyp_xty0 ?hyp_xsu0 ?hyp_xsb0 ?hyp_xga0 ?hyp_xgg0 ?hyp_xhd0 ?hyp_xki0 ?hyp_xmo0 ?hyp_xl0 ?hyp_xcd_0 ?hyp_xx0 ?hyp_xy0 ?hyp_xz0 ?hyp_xw0 ?hyp_xm0 ?hyp_xm1 ?hyp_mkC2 ?hyp_kpC2 ?hyp_inC2 ?hyp_n0 ?hyp_n1 ?hyp_n2 ?hyp_n3 ?hyp_n4 ?hyp_m0 ?hyp_m1 ?hyp_m2 ?hyp_kt0 ?hyp_kt1 ?hyp_kt2 ?hyp_kt3 ?hyp_kt4 ?hyp_kt5 ?hyp_kt6 ?hyp_kt7 ?hyp_kt8 ?hyp_kt9 ?hyp_kt10 ?hyp_kt11 ?hyp_kt12 ?hyp_kt13 ?hyp_kt14 ?hyp_kt15 ?hyp_kt16 ?hyp_kt17 ?hyp_kt18 ?hyp_kt19 ?hyp_kt20 ?hyp_kt21 ?hyp_kt22 ?hyp_kt23 ?hyp_kt24 ?hyp_kt25 ?hyp_kt26 ?hyp_kt27 ?hyp_kt28 ?hyp_kt29 ?hyp_kt30 ?hyp_kt31 ?hyp_kt32 ?hyp_kt33 ?hyp_z_len ?hyp_z_max ?hyp_z_min ?hyp_z_str ?hyp_z_int ?hyp_z_tuple ?hyp_z_list ?hyp_z_sum ?hyp_z_all ?hyp_z_any ?hyp_z_abs ?hyp_z_range ?hyp_z_enumerate ?hyp_z_zip ?hyp_z_isinstance ?hyp_z_repr ?hyp_z_bool ?hyp_z_super ?hyp_opq ?hyp_stop K28.plain
    (case hyp_aC0 => k_is)
    (case hyp_aC1 => k_is)
    (case hyp_aC2 => k_is)
    (case hyp_aC3 => k_is)
    (case hyp_g0 => k_is)
    (case hyp_g1 => k_is)
    (case hyp_g2 => k_is)
    (case hyp_g3 => k_is)
    (case hyp_a0 => k_is)
    (case hyp_l0 => k_is)
    (case hyp_c0 => k_is)
    (case hyp_k0 => k_is)
    (case hyp_y0 => k_is)
    (case hyp_z0 => rfl)
    (case hyp_po0 => first | k_is | kernel_rfl | rfl)
    (case hyp_ch0 => kernel_rfl)
    (case hyp_te0 => exact PySem.W.km_tabs_of Y _ (by first | decide | k_mem))
    (case hyp_a1 => k_is)
    (case hyp_l1 => k_is)
    (case hyp_c1 => k_is)
    (case hyp_k1 => k_is)
    (case hyp_a2 => k_is)
    (case hyp_l2 => k_is)
    (case hyp_c2 => k_is)
    (case hyp_k2 => k_is)
    (case hyp_a3 => k_is)
    (case hyp_l3 => k_is)
    (case hyp_c3 => k_is)
    (case hyp_k3 => k_is)
    (case hyp_a4 => k_is)
    (case hyp_l4 => k_is)
    (case hyp_c4 => k_is)
    (case hyp_k4 => k_is)
    (case hyp_a5 => k_is)
    (case hyp_l5 => k_is)
    (case hyp_c5 => k_is)
    (case hyp_k5 => k_is)
    (case hyp_a6 => k_is)
    (case hyp_l6 => k_is)
    (case hyp_c6 => k_is)
    (case hyp_k6 => k_is)
    (case hyp_a7 => k_is)
    (case hyp_l7 => k_is)
    (case hyp_c7 => k_is)
    (case hyp_k7 => k_is)
    (case hyp_a8 => k_is)
    (case hyp_l8 => k_is)
    (case hyp_c8 => k_is)
    (case hyp_k8 => k_is)
    (case hyp_a9 => k_is)
    (case hyp_l9 => k_is)
    (case hyp_c9 => k_is)
    (case hyp_k9 => k_is)
    (case hyp_i9 => k_is)
    (case hyp_D9_0 => k_is)
    (case hyp_D9v0 => exact rfl)
    (case hyp_D9_1 => k_is)
    (case hyp_D9v1 => exact rfl)
    (case hyp_D9_2 => k_is)
    (case hyp_D9v2 => exact rfl)
    (case hyp_a10 => k_is)
    (case hyp_l10 => k_is)
    (case hyp_c10 => k_is)
    (case hyp_k10 => k_is)
    (case hyp_i10 => k_is)
    (case hyp_a11 => k_is)
    (case hyp_l11 => k_is)
    (case hyp_c11 => k_is)
    (case hyp_k11 => k_is)
    (case hyp_i11 => k_is)
    (case hyp_a12 => k_is)
    (case hyp_l12 => k_is)
    (case hyp_c12 => k_is)
    (case hyp_k12 => k_is)
    (case hyp_a13 => k_is)
    (case hyp_l13 => k_is)
    (case hyp_c13 => k_is)
    (case hyp_k13 => k_is)
    (case hyp_a14 => k_is)
    (case hyp_l14 => k_is)
    (case hyp_c14 => k_is)
    (case hyp_k14 => k_is)
    (case hyp_a15 => k_is)
    (case hyp_l15 => k_is)
    (case hyp_c15 => k_is)
    (case hyp_k15 => k_is)
    (case hyp_i15 => k_is)
    (case hyp_a16 => k_is)
    (case hyp_l16 => k_is)
    (case hyp_c16 => k_is)
    (case hyp_k16 => k_is)
    (case hyp_a17 => k_is)
    (case hyp_l17 => k_is)
    (case hyp_c17 => k_is)
    (case hyp_k17 => k_is)
    (case hyp_a18 => k_is)
    (case hyp_l18 => k_is)
    (case hyp_c18 => k_is)
    (case hyp_k18 => k_is)
    (case hyp_a19 => k_is)
    (case hyp_l19 => k_is)
    (case hyp_c19 => k_is)
    (case hyp_k19 => k_is)
    (case hyp_a20 => k_is)
    (case hyp_l20 => k_is)
    (case hyp_c20 => k_is)
    (case hyp_k20 => k_is)
    (case hyp_a21 => k_is)
    (case hyp_l21 => k_is)
    (case hyp_c21 => k_is)
    (case hyp_k21 => k_is)
    (case hyp_a22 => k_is)
    (case hyp_l22 => k_is)
    (case hyp_c22 => k_is)
    (case hyp_k22 => k_is)
    (case hyp_a23 => k_is)
    (case hyp_l23 => k_is)
    (case hyp_c23 => k_is)
    (case hyp_k23 => k_is)
    (case hyp_pgC2 => k_is)
    (case hyp_hdC2 => k_is)
    (case hyp_poC2 => k_is)
    (case hyp_saC2 => k_is)
    (case hyp_kiC2 => k_is)
    (case hyp_moC2 => k_is)
    (case hyp_gsK => k_is)
    (case hyp_tkK => k_is)
    (case hyp_xL1 => k_is)
    (case hyp_xsa1 => k_is)
    (case hyp_xnp1 => k_is)
    (case hyp_xin1 => k_is)
    (case hyp_xti1 => k_is)
    (case hyp_xkc1 => k_is)
    (case hyp_xec1 => k_is)
    (case hyp_xty1 => k_is)
    (case hyp_xsu1 => kernel_rfl)
    (case hyp_xsb1 => k_is)
    (case hyp_xga1 => k_is)
    (case hyp_xgg1 => k_is)
    (case hyp_xhd1 => k_is)
    (case hyp_xki1 => k_is)
    (case hyp_xmo1 => k_is)
    (case hyp_xl1 => k_is)
    (case hyp_xcd_1 => k_is)
    (case hyp_xx1 => k_is)
    (case hyp_xy1 => k_is)
    (case hyp_xz1 => rfl)
    (case hyp_xw1 => kernel_rfl)
    (case hyp_xL0 => k_is)
    (case hyp_xsa0 => k_is)
    (case hyp_xnp0 => k_is)
    (case hyp_xin0 => k_is)
    (case hyp_xti0 => k_is)
    (case hyp_xkc0 => k_is)
    (case hyp_xec0 => k_is)
    (case hyp_xty0 => k_is)
    (case hyp_xsu0 => kernel_rfl)
    (case hyp_xsb0 => k_is)
    (case hyp_xga0 => k_is)
    (case hyp_xgg0 => k_is)
    (case hyp_xhd0 => k_is)
    (case hyp_xki0 => k_is)
    (case hyp_xmo0 => k_is)
    (case hyp_xl0 => k_is)
    (case hyp_xcd_0 => k_is)
    (case hyp_xx0 => k_is)
    (case hyp_xy0 => k_is)
    (case hyp_xz0 => rfl)
    (case hyp_xw0 => kernel_rfl)
    (case hyp_xm0 => kernel_rfl)
    (case hyp_xm1 => kernel_rfl)
    (case hyp_mkC2 => k_is)
    (case hyp_kpC2 => k_is)
    (case hyp_inC2 => k_is)
    (case hyp_n0 => k_is)
    (case hyp_n1 => k_is)
    (case hyp_n2 => k_is)
    (case hyp_n3 => k_is)
    (case hyp_n4 => k_is)
    (case hyp_m0 => k_is)
    (case hyp_m1 => k_is)
    (case hyp_m2 => k_is)
    (case hyp_kt0 => kernel_rfl)
    (case hyp_kt1 => kernel_rfl)
    (case hyp_kt2 => kernel_rfl)
    (case hyp_kt3 => kernel_rfl)
    (case hyp_kt4 => kernel_rfl)
    (case hyp_kt5 => kernel_rfl)
    (case hyp_kt6 => kernel_rfl)
    (case hyp_kt7 => kernel_rfl)
    (case hyp_kt8 => kernel_rfl)
    (case hyp_kt9 => kernel_rfl)
    (case hyp_kt10 => kernel_rfl)
    (case hyp_kt11 => kernel_rfl)
    (case hyp_kt12 => kernel_rfl)
    (case hyp_kt13 => kernel_rfl)
    (case hyp_kt14 => kernel_rfl)
    (case hyp_kt15 => kernel_rfl)
    (case hyp_kt16 => kernel_rfl)
    (case hyp_kt17 => kernel_rfl)
    (case hyp_kt18 => kernel_rfl)
    (case hyp_kt19 => kernel_rfl)
    (case hyp_kt20 => kernel_rfl)
    (case hyp_kt21 => kernel_rfl)
    (case hyp_kt22 => kernel_rfl)
    (case hyp_kt23 => kernel_rfl)
    (case hyp_kt24 => kernel_rfl)
    (case hyp_kt25 => kernel_rfl)
    (case hyp_kt26 => kernel_rfl)
    (case hyp_kt27 => kernel_rfl)
    (case hyp_kt28 => kernel_rfl)
    (case hyp_kt29 => kernel_rfl)
    (case hyp_kt30 => kernel_rfl)
    (case hyp_kt31 => kernel_rfl)
    (case hyp_kt32 => kernel_rfl)
    (case hyp_kt33 => kernel_rfl)
    (case hyp_z_len => k_is)
    (case hyp_z_max => k_is)
    (case hyp_z_min => k_is)
    (case hyp_z_str => k_is)
    (case hyp_z_int => k_is)
    (case hyp_z_tuple => k_is)
    (case hyp_z_list => k_is)
    (case hyp_z_sum => k_is)
    (case hyp_z_all => k_is)
    (case hyp_z_any => k_is)
    (case hyp_z_abs => k_is)
    (case hyp_z_range => k_is)
    (case hyp_z_enumerate => k_is)
    (case hyp_z_zip => k_is)
    (case hyp_z_isinstance => k_is)
    (case hyp_z_repr => k_is)
    (case hyp_z_bool => k_is)
    (case hyp_z_super => k_is)
    (case hyp_opq => k_is)
    (case hyp_stop => kernel_rfl)
