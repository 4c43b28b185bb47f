import PyProof.Rows.All
import Wide.All
import OpenK.AllK
import Wide.FinOn
import HandS.ForMost
import HandS.Exc
import HandS.OwnEq
import HandS.IsInst
import HandS.Property
import HandS.FStr
import HandS.Wide
import HandS.WideBits
import HandS.Star
import HandS.ClsMeth
import HandS.Defaults
import HandS.RaiseMore
import KE.KOpsOwn
import KE.KFmtOwn
import KE.KCallOwn
import PyProof.ReprRoads
import PyProof.InstEq
import PyProof.ReprNest
import HandS.ExcInit
import HandS.ExcIs
import HandS.ExcOwn
import HandS.WordsExc
import PyProof.ReprDict
import PyProof.P3Eq
import KE.KDictWalk
import HandS.Walk
import HandS.DictTup
import KE.GoesMore
import KE.KDictPairs
import HandS.TupLe
import HandS.SortRule
import HandS.SortKw
import KE.KSortKey
import HandS.Style
import PySem.Challenge.RW_notesums_k15_texts_of_questions
import HandS.Zip
import HandS.AnyAll
import HandS.Conv
set_option Elab.async false
set_option autoImplicit false
set_option linter.all false
set_option maxRecDepth 100000
set_option maxHeartbeats 4000000
/-! Rules of my own over the hand layer: callees by Runs, own operators, own comparisons, own texts. -/
namespace NS
open PySem L2

section
variable {X : Cx} {A : Around} {f C : Addr} {sp : Sp}

/-- from a state of the body X the def at f, called somewhere below (the around is A), keeps sp and lets nothing out -/
def Runs (X : Cx) (A : Around) (f : Addr) (sp : Sp) : Prop :=
  ∀ (pins : List (Addr × Obj)) (σ : L2.St) (H : Hp) (s : Shared) (vs : List V) (us : List Value) (Q : VK),
    Inv X pins σ H s → Vals vs us → sp vs H Q E0 →
    wpAny (model X.prog X.w) A (call (.ref f) us) (EP X pins σ Q) X.xe s

theorem back_ok {pins : List (Addr × Obj)} {σ : L2.St} {H : Hp} {s s' : Shared} {Q : VK} {r : Result}
    (I : Inv X pins σ H s) (h : CR CX0 X.stack X.prog X.w H s Q E0 r s') :
    wants (EP X pins σ Q) X.xe r s' := by
  match r, h with
  | .ok (.ret _), h => exact I.after h

theorem Runs.of {k : Nat} {fd : FuncData} {ps : List Str}
    (F : FnOk X.prog X.w X.K X.mg X.base CX0 k f fd ps sp) (hb : Binds X.K fd ps [])
    (hr : Room k A) (hf : A.frames = X.A.frames) : Runs X A f sp := by
  intro pins σ H s vs us Q I rv h
  have z := I.env0
  have e0 : Env0 X.prog X.w X.K X.mg X.base A X.stack s H :=
    ⟨hf.trans z.frames, z.mod, z.bs, z.bsz, z.funs, z.frf, z.hok, z.bare⟩
  have hl : (us ++ []).length = ps.length := by
    rw [List.append_nil, ← rv.length]
    exact F.len _ _ _ _ h
  have hbb := hb s us I.kIn hl
  rw [List.append_nil] at hbb
  exact wpAny_call (codeAny_mono (F.run A X.stack s H ⟨us, []⟩ us vs Q E0 hr e0 hbb rv h) fun r s' q => back_ok I q)

theorem Runs.imp {sp' : Sp} (R : Runs X A f sp) (h : ∀ vs H Q E, sp' vs H Q E → sp vs H Q E) : Runs X A f sp' :=
  fun pins σ H s vs us Q I rv q => R pins σ H s vs us Q I rv (h _ _ _ _ q)

theorem rel_cmp {Q : Value → Shared → Prop} {v : V} {u : Value} {s : Shared} (r : RelV v u) (q : Q u s) : PySem.W.CmpBack Q u s := by
  cases v with
  | non => cases r; exact q
  | bl _ => cases r; exact q
  | int _ => obtain ⟨t, rfl⟩ := r; exact q
  | str _ => obtain ⟨t, rfl⟩ := r; exact q
  | byt _ => obtain ⟨t, rfl⟩ := r; exact q
  | flt _ => obtain ⟨t, rfl⟩ := r; exact q
  | ref _ => cases r; exact q
  | ty _ => cases r; exact q

/-- an instance that is tracked, as the library sees it -/
theorem inst_at {pins : List (Addr × Obj)} {σ : L2.St} {H : Hp} {s : Shared} {a dx : Addr} {fs : List (Str × V)}
    (I : Inv X pins σ H s) (h : H a = some (.ins C dx fs)) : ∃ od, PySem.W.InstAt s.heap a (PySem.W.instObj C dx) C (some od) := by
  obtain ⟨mA, J, _⟩ := ins_get I.hok h
  obtain ⟨od, J, _⟩ := J.look
  exact ⟨od, J⟩

/-- what a class says of the operator op by its own method at f; ints stand on the right too -/
structure OwnOp (K : PySem.W.Frag) (C : Addr) (op : Operator) (f : Addr) : Prop where
  at_ : PySem.W.findIn K (.ref C) (PySem.dunder op.info.2) = some (some (.ref f))
  fn : PySem.W.isFn K (.ref f) = true
  sf : PySem.W.selfFirst K C = true
  nr : PySem.W.findIn K (.ref C) (dunderR op.info.2) = some none
  i1 : ∃ fo, PySem.W.findIn K (.type "int") (PySem.dunder op.info.2) = some fo
  i2 : ∃ ro, PySem.W.findIn K (.type "int") (dunderR op.info.2) = some ro
  is_ : PySem.W.subIn K (.type "int") (.ref C) = some false

/-- x op y by x's own method: y an int or an instance of the same class -/
def rOwn (C : Addr) (sp : Sp) : R2 := fun x y H Q => ∃ a dx fs, x = .ref a ∧ H a = some (.ins C dx fs) ∧
  ((∃ i, y = .int i) ∨ ∃ b dy gs, y = .ref b ∧ H b = some (.ins C dy gs)) ∧ sp [x, y] H Q E0
theorem op_own {op : Operator} (T : OwnOp X.K C op f) (R : Runs X X.A f sp) : OpR X (binaryOp op) (rOwn C sp) := by
  intro pins s σ H x y v u Q I rx ry h
  obtain ⟨a, dx, fs, rfl, ha, hy, hsp⟩ := h
  cases rx
  obtain ⟨od, J⟩ := inst_at I ha
  obtain ⟨m, hF⟩ := I.fr
  have run := R pins σ H s [.ref a, y] [.ref a, u] Q I (.cons rfl (.cons ry .nil)) hsp
  have run' : wpAny (model X.prog X.w) X.A (call (.ref f) [.ref a, u]) (PySem.W.CmpBack (EP X pins σ Q)) X.xe s :=
    thn run fun u' s' ⟨v', H', I', r', q'⟩ => rel_cmp r' ⟨v', H', I', r', q'⟩
  rcases hy with ⟨i, rfl⟩ | ⟨b, dy, gs, rfl, hb⟩
  · obtain ⟨t, rfl⟩ := ry
    obtain ⟨fo, i1⟩ := T.i1
    obtain ⟨ro, i2⟩ := T.i2
    exact PySem.W.ksp_binT hF I.ok.mod.kin J (T := "int") rfl T.sf T.at_ T.fn T.nr (.inl rfl) i1 i2 T.is_ run'
  · cases ry
    obtain ⟨od', J'⟩ := inst_at I hb
    exact PySem.W.binop_K hF I.ok.mod.kin J J'.type T.sf T.at_ T.fn run'

/-- -x by x's own __neg__ -/
structure OwnNeg (K : PySem.W.Frag) (C : Addr) (f : Addr) : Prop where
  at_ : PySem.W.findIn K (.ref C) "__neg__" = some (some (.ref f))
  fn : PySem.W.isFn K (.ref f) = true
def rNegO (C : Addr) (sp : Sp) : V → Hp → VK → Prop := fun x H Q => ∃ a dx fs, x = .ref a ∧ H a = some (.ins C dx fs) ∧ sp [x] H Q E0
theorem un_own (T : OwnNeg X.K C f) (R : Runs X X.A f sp) : UnR X (unaryOp .USub) (rNegO C sp) := by
  intro pins s σ H x v Q I rx h
  obtain ⟨a, dx, fs, rfl, ha, hsp⟩ := h
  cases rx
  obtain ⟨od, J⟩ := inst_at I ha
  obtain ⟨m, hF⟩ := I.fr
  exact PySem.W.ksp_neg hF I.ok.mod.kin J T.at_ T.fn (R pins σ H s [.ref a] [.ref a] Q I (.cons rfl .nil) hsp)

/-! ### own == and != -/
structure OwnEq (K : PySem.W.Frag) (C : Addr) (f : Addr) : Prop where
  eq : PySem.W.findIn K (.ref C) "__eq__" = some (some (.ref f))
  ne : PySem.W.findIn K (.ref C) "__ne__" = some (some (.builtin "object.__ne__"))
  fn : PySem.W.isFn K (.ref f) = true
  ob : PySem.W.mroIn K C (.type "object") = some true
  ni : PySem.W.subIn K (.type "int") (.ref C) = some false
  ns : PySem.W.subIn K (.type "str") (.ref C) = some false
  nt : PySem.W.subIn K (.type "tuple") (.ref C) = some false
  nl : PySem.W.subIn K (.type "list") (.ref C) = some false
  nd : PySem.W.subIn K (.type "dict") (.ref C) = some false
/-- what may stand on the right of an own == -/
inductive Rgt (K : PySem.W.Frag) (C : Addr) (H : Hp) : V → Prop where
  | int (i : Int) : Rgt K C H (.int i)
  | str (x : Str) : Rgt K C H (.str x)
  | own {b dy : Addr} {gs : List (Str × V)} (h : H b = some (.ins C dy gs)) : Rgt K C H (.ref b)
  | tup {b : Addr} {xs : List V} (h : H b = some (.tup xs)) : Rgt K C H (.ref b)
  | lst {b : Addr} {xs : List V} (h : H b = some (.lst xs)) : Rgt K C H (.ref b)
  | dK {b : Addr} {kvs : List (Key × V)} (h : H b = some (.dK kvs)) : Rgt K C H (.ref b)
theorem rgt_type {pins : List (Addr × Obj)} {σ : L2.St} {H : Hp} {s : Shared} {y : V} {u : Value} (T : OwnEq X.K C f) (I : Inv X pins σ H s) (ry : RelV y u) (h : Rgt X.K C H y) :
    ∃ tb, PySem.W.Looks (model X.prog X.w) s.heap (typeOf u) tb ∧ PySem.W.notFirst X.K C tb = true := by
  have nf : ∀ {t : String}, PySem.W.subIn X.K (.type t) (.ref C) = some false → PySem.W.notFirst X.K C (.type t) = true := fun e => by
    unfold PySem.W.notFirst
    rw [e]
    simp
  cases h with
  | int i => obtain ⟨t, rfl⟩ := ry; exact ⟨.type "int", PySem.W.Looks.of_pure rfl, nf T.ni⟩
  | str x => obtain ⟨t, rfl⟩ := ry; exact ⟨.type "str", PySem.W.Looks.of_pure rfl, nf T.ns⟩
  | own hb =>
    cases ry
    obtain ⟨od', J'⟩ := inst_at I hb
    exact ⟨_, J'.type, by simp [PySem.W.notFirst]⟩
  | tup hb =>
    cases ry
    obtain ⟨_, its, _, o, e, hc, _⟩ := I.hok _ _ hb
    exact ⟨.type "tuple", hc ▸ (PySem.W.Looks.ld e).andThen .now, nf T.nt⟩
  | lst hb =>
    cases ry
    obtain ⟨_, its, n, _, e⟩ := I.hok _ _ hb
    exact ⟨.type "list", (PySem.W.Looks.ld e).andThen .now, nf T.nl⟩
  | dK hb =>
    cases ry
    obtain ⟨_, _, vs, _, o, es, ep, e, hx, _⟩ := I.hok _ _ hb
    exact ⟨.type "dict", hx.1 ▸ (PySem.W.Looks.ld e).andThen .now, nf T.nd⟩

/-- x == y by x's own __eq__ -/
def rEqO (K : PySem.W.Frag) (C : Addr) (sp : Sp) : R2 := fun x y H Q => ∃ a dx fs, x = .ref a ∧ H a = some (.ins C dx fs) ∧ Rgt K C H y ∧ sp [x, y] H Q E0
theorem op_eqO (T : OwnEq X.K C f) (hr : X.A.units < cLine) (R : Runs X X.A f sp) : OpR X (compareOp .Eq) (rEqO X.K C sp) := by
  intro pins s σ H x y v u Q I rx ry h
  obtain ⟨a, dx, fs, rfl, ha, hy, hsp⟩ := h
  cases rx
  obtain ⟨od, J⟩ := inst_at I ha
  obtain ⟨m, hF⟩ := I.fr
  obtain ⟨tb, Lb, hn⟩ := rgt_type T I ry hy
  show wpAny (model X.prog X.w) X.A (richCompare .Eq (.ref a) u) (EP X pins σ Q) X.xe s
  exact PySem.W.cmp_K (op := .Eq) hr hF I.ok.mod.kin J Lb hn T.eq T.fn
    (thn (R pins σ H s [.ref a, y] [.ref a, u] Q I (.cons rfl (.cons ry .nil)) hsp) fun u' s' ⟨v', H', I', r', q'⟩ => rel_cmp r' ⟨v', H', I', r', q'⟩)

/-- a special method that is a builtin of the base, through the class -/
theorem ifBound_B {M : Model} {E : Value → Shared → Prop} {s : Shared} {K : PySem.W.Frag} {x : Addr} {ox : Obj} {od : Option Obj} {name : Str} {id : String} {args : List Value} {Q : Option Value → Shared → Prop}
    (KX : K.In s.heap) (I : PySem.W.InstAt s.heap x ox C od) (hs : PySem.W.findIn K (.ref C) name = some (some (.builtin id))) (hb : ∀ self, bindSpecial (.builtin id) self = pure (.builtin id, [self]))
    (h : wpAny M A (call (.builtin id) (.ref x :: args)) (fun v => Q (some v)) E s) : wpAny M A (callSpecialIfBound? (.ref x) name args) Q E s := by
  simp only [callSpecialIfBound?, bindSpecialIfBound?]
  refine wpAny_holding (wpAny_bind (wpAny_bind (wpAny_bind (I.type.here ((PySem.W.looks_findIn KX hs).here ?_)))))
  have last : wpAny M A (call (.builtin id) ([.ref x] ++ args) >>= fun v => pure (some v)) Q E s :=
    wpAny_bind (wpAny_mono h (fun v s' q => wpAny_pure q) fun _ _ q => q)
  refine wpAny_bind (wpAny_askSetting (wpAny_ite ?_))
  simp only [hb]
  split
  · exact wpAny_bind (wpAny_pure (wpAny_pure last))
  · exact wpAny_tryCatch (wpAny_bind (wpAny_pure (wpAny_pure last)))

theorem ne_K {E : Value → Shared → Prop} {s : Shared} {K : PySem.W.Frag} {x L : Addr} {ox : Obj} {od : Option Obj} {h₀ : Heap} {m : Str → Option Value} {b tb : Value} {prog : Program} {w : World} {Q : Value → Shared → Prop}
    (T : OwnEq K C f) (hu : A.units + 1 < cLine) (Z : PyProof.Rows.Fr h₀ L s.heap m) (K₀ : K.In h₀) (I : PySem.W.InstAt s.heap x ox C od) (hb : PySem.W.Looks (model prog w) s.heap (typeOf b) tb) (hn : PySem.W.notFirst K C tb = true)
    (h : wpAny (model prog w) A.in1 (call (.ref f) [.ref x, b]) (fun v s' => ∃ r, v = .bool r ∧ Q (.bool (!r)) s') E s) : wpAny (model prog w) A (richCompare .NotEq (.ref x) b) Q E s := by
  have KX := K₀.keeps Z.keep
  have one : wpAny (model prog w) A (tryCompare (.ref x) "__ne__" b) (fun r s' => ∃ v, r = some v ∧ Q v s') E s := by
    unfold tryCompare
    refine wpAny_bind (ifBound_B KX I T.ne F.cmp_object.ne.bind (wpAny_call (codeAny_call_builtin F.cmp_object.ne.plain F.cmpEntry_ne
      (PySem.W.check_slot (i := "object.__ne__") (owner := "object") (n := "__ne__") F.cmpKind_ne F.cmpSplit_ne (I.type.andThen (PySem.W.looks_mroIn KX T.ob)) (F.cmpArgs_ne _ _) ?_))))
    unfold Builtin.«object.__ne__»
    refine wpAny_bind (wpAny_pure ?_)
    refine wpAny_bind (wpAny_cRoomFor hu ?_)
    refine wpAny_bind (PySem.W.ifBound_K KX I T.eq T.fn (wpAny_mono h (fun v s' q => ?_) fun _ _ e => e))
    obtain ⟨r, rfl, q⟩ := q
    refine wpAny_bind (wpAny_truthy_bool ?_)
    exact wpAny_pure (wpAny_pure ⟨_, rfl, q⟩)
  unfold richCompare
  simp only [oneThing_ref]
  refine wpAny_holding (wpAny_bind (wpAny_cRoomFor (Nat.lt_of_succ_lt hu) ?_))
  refine wpAny_bind (I.type.here (wpAny_bind (hb.here ?_)))
  have fin : wpAny (model prog w) A (tryCompare (.ref x) (cmpInfo .NotEq).2.1 b) (fun r s' => ∃ v, r = some v ∧ Q v s') E s := one
  split
  · rename_i q
    have e : PySem.W.subIn K tb (.ref C) = some false := by
      rcases Bool.or_eq_true_iff.mp hn with e | e
      · rw [beq_iff_eq.mp e] at q
        simp at q
      · exact beq_iff_eq.mp e
    refine wpAny_bind ((PySem.W.looks_subIn KX e).here ?_)
    simp only [Bool.false_eq_true, if_false]
    refine wpAny_bind (wpAny_mono fin (fun r s' z => ?_) fun _ _ e => e)
    obtain ⟨v, rfl, hq⟩ := z
    exact wpAny_pure hq
  · refine wpAny_bind (wpAny_pure ?_)
    simp only [Bool.false_eq_true, if_false]
    refine wpAny_bind (wpAny_mono fin (fun r s' z => ?_) fun _ _ e => e)
    obtain ⟨v, rfl, hq⟩ := z
    exact wpAny_pure hq

/-- x != y where x has an own __eq__ and no own __ne__ -/
def rNeO (K : PySem.W.Frag) (C : Addr) (sp : Sp) : R2 := fun x y H Q => ∃ a dx fs, x = .ref a ∧ H a = some (.ins C dx fs) ∧ Rgt K C H y ∧ sp [x, y] H (fun v H' => ∃ r, v = .bl r ∧ Q (.bl (!r)) H') E0
theorem op_neO (T : OwnEq X.K C f) (hr : X.A.units + 1 < cLine) (R : Runs X X.A.in1 f sp) : OpR X (compareOp .NotEq) (rNeO X.K C sp) := by
  intro pins s σ H x y v u Q I rx ry h
  obtain ⟨a, dx, fs, rfl, ha, hy, hsp⟩ := h
  cases rx
  obtain ⟨od, J⟩ := inst_at I ha
  obtain ⟨m, hF⟩ := I.fr
  obtain ⟨tb, Lb, hn⟩ := rgt_type T I ry hy
  show wpAny (model X.prog X.w) X.A (richCompare .NotEq (.ref a) u) (EP X pins σ Q) X.xe s
  refine ne_K T hr hF I.ok.mod.kin J Lb hn (thn (R pins σ H s [.ref a, y] [.ref a, u] _ I (.cons rfl (.cons ry .nil)) hsp) fun u' s' ⟨v', H', I', r', b, e, q'⟩ => ?_)
  subst e
  cases r'
  exact ⟨b, rfl, .bl (!b), H', I', rfl, q'⟩

/-! ### str(x), repr(x) by own methods -/
structure OwnStr (K : PySem.W.Frag) (C : Addr) (nm : Str) (f : Addr) : Prop where
  at_ : PySem.W.findIn K (.ref C) nm = some (some (.ref f))
  fn : PySem.W.isFn K (.ref f) = true
def rStrO (C : Addr) (sp : Sp) : List V → Hp → VK → Prop := fun xs H Q => ∃ a dx fs, xs = [.ref a] ∧ H a = some (.ins C dx fs) ∧ sp [.ref a] H (fun v H' => ∃ z, v = .str z ∧ Q (.str z) H') E0
theorem call_strO (T : OwnStr X.K C "__str__" f) (hu : X.A.in1.in1.units < cLine) (R : Runs X X.A.in1.in1 f sp) : CallR X (.type "str") (rStrO C sp) := by
  intro pins s σ H xs us Q I r h
  obtain ⟨a, dx, fs, rfl, ha, hsp⟩ := h
  obtain ⟨u, rfl, ru⟩ := vals1 r
  cases ru
  obtain ⟨od, J⟩ := inst_at I ha
  refine PySem.W.kso_call hu I.kIn J T.at_ T.fn (thn (R pins σ H s [.ref a] [.ref a] _ I (.cons rfl .nil) hsp) fun u' s' ⟨v', H', I', r', z, e, q'⟩ => ?_)
  subst e
  obtain ⟨t, rfl⟩ := r'
  exact ⟨.str z, H', I', ⟨t, rfl⟩, q'⟩
theorem call_reprO (T : OwnStr X.K C "__repr__" f) (hu : X.A.in1.units < cLine) (R : Runs X X.A.in1 f sp) : CallR X (.builtin "repr") (rStrO C sp) := by
  intro pins s σ H xs us Q I r h
  obtain ⟨a, dx, fs, rfl, ha, hsp⟩ := h
  obtain ⟨u, rfl, ru⟩ := vals1 r
  cases ru
  obtain ⟨od, J⟩ := inst_at I ha
  obtain ⟨m, hF⟩ := I.fr
  refine PySem.W.repr_K hu hF I.ok.mod.kin J T.at_ T.fn (thn (R pins σ H s [.ref a] [.ref a] _ I (.cons rfl .nil) hsp) fun u' s' ⟨v', H', I', r', z, e, q'⟩ => ?_)
  subst e
  obtain ⟨t, rfl⟩ := r'
  exact ⟨.str z, H', I', ⟨t, rfl⟩, q'⟩

end
end NS

/-! repr of values over the hand layer, the guards being known. -/
namespace NS
open PySem L2

/-- somewhere below the body X, with room; g: who is under repr -/
structure Bel (X : Cx) (n : Nat) (A : Around) (g : List Code) : Prop where
  room : Room n A
  fr : A.frames = X.A.frames
  gd : A.guards = some g

/-- repr of v gives t, wherever none of the objects as is under repr; only new objects are made -/
def RepV (X : Cx) (n : Nat) (as : List Addr) (v : V) (H : Hp) (t : Str) : Prop :=
  ∀ (A : Around) (g : List Code) (base : Nat) (pins : List (Addr × Obj)) (σ : L2.St) (H1 : Hp) (s : Shared) (u : Value),
    Bel X n A g → (∀ b ∈ as, Clear g b) → base + t.length ≤ sizeLine → Ext H H1 → Inv X pins σ H1 s → RelV v u →
    wpAny (model X.prog X.w) A (pyReprUnder base u) (fun z s' => z = t ∧ ∃ H2, Inv X pins σ H2 s' ∧ Ext H1 H2) X.xe s

section
variable {X : Cx} {n : Nat} {as : List Addr} {H : Hp}

theorem RepV.of_is {v : V} {t : Str} (h : ∀ u, RelV v u → ReprIs X.prog X.w u t) : RepV X n as v H t :=
  fun A g base pins σ H1 s u _ _ hz _ I r => h u r base hz A X.xe s _ fun tk => ⟨rfl, H1, I.tok tk, Ext.rfl'⟩
theorem repV_str (x : Str) (hz : (reprText x).length ≤ sizeLine) : RepV X n as (.str x) H (reprText x) :=
  RepV.of_is fun u r => by
    obtain ⟨t, rfl⟩ := r
    exact ReprIs.str x t hz
theorem repV_int {i : Int} (hz : i.natAbs.log2 < 1920) : RepV X n as (.int i) H (toString i) :=
  RepV.of_is fun u r => by
    obtain ⟨t, rfl⟩ := r
    exact ReprIs.int t hz
theorem repV_bl (b : Bool) : RepV X n as (.bl b) H (if b then "True" else "False") :=
  RepV.of_is fun u r => by
    cases r
    exact ReprIs.bool b
theorem RepV.mono {as' : List Addr} {m : Nat} {H' : Hp} {v : V} {t : Str} (h : RepV X n as v H t) (ha : ∀ b ∈ as, b ∈ as') (hn : n ≤ m) (e : Ext H H') : RepV X m as' v H' t :=
  fun A g base pins σ H1 s u b c hz e1 I r => h A g base pins σ H1 s u ⟨b.room.mono hn, b.fr, b.gd⟩ (fun x hx => c x (ha x hx)) hz (e.trans e1) I r

theorem Bel.under {A : Around} {g : List Code} {c : Code} (b : Bel X (n + 1) A g) (hg : c.isGuard = true) (he : c.envs = []) (hw : c.weight = 1) (hu : c.cUnits = 1) : Bel X n (A.under c) (c :: g) := by
  refine ⟨⟨b.room.hd, ?_, ?_⟩, ?_, guards_under_guard hg b.gd⟩
  · have := b.room.dp
    show A.depth + c.weight + 3 * n + 5 < _
    omega
  · have := b.room.un
    show A.units + c.cUnits + 16 * n + 200 < _
    omega
  · show pushEnvs c.envs A.frames = _
    rw [he]
    exact b.fr

theorem loop_envs (args : Args) : (Code.builtin "list.__repr__.loop" args).envs = [] := by
  first | rfl | simp [Code.envs, Code.isFrame]
theorem loop_weight (args : Args) : (Code.builtin "list.__repr__.loop" args).weight = 1 := by
  have h := isGuard_list_loop args
  first | rfl | simp [Code.weight, h, Code.frames, Code.isFrame, Code.isCreation, Code.isCaller]
theorem loop_units (args : Args) : (Code.builtin "list.__repr__.loop" args).cUnits = 1 := by
  first | rfl | simp [Code.cUnits, Code.frames, Code.isFrame]

theorem unpinned {pins : List (Addr × Obj)} {σ : L2.St} {s : Shared} {p : Addr × Obj} (I : Inv X (p :: pins) σ H s) : Inv X pins σ H s :=
  I.pins_of fun r hr => I.pin r (List.mem_append_right _ (List.mem_cons_of_mem _ hr))
/-- the parts' list as it grows -/
abbrev partsO (acc : Array Value) (c : Nat) : Obj := { cls := .type "list", dict := none, data := .seq acc c, slots := #[] }

theorem loopV {A : Around} {R : Result → Shared → Prop} {a P : Addr} {xs : List V} {ts : List Str} {base : Nat} {g : List Code} {pins : List (Addr × Obj)} {σ : L2.St}
    (b : Bel X (n + 1) A g) (hcl : ∀ b ∈ as, Clear g b) (hna : a ∉ as) (ha : H a = some (.lst xs)) (hlen : ts.length = xs.length)
    (hT : ∀ (i : Nat) (x : V), xs[i]? = some x → ∃ t, ts[i]? = some t ∧ RepV X n as x H t) (hsz : base + (listText ts).length ≤ sizeLine)
    (hR : ∀ u s' H2, Inv X pins σ H2 s' → Ext H H2 → R (.ok (.ret (.str (listText ts) u))) s') (hE : ∀ e s', X.xe e s' → R (.error e) s') :
    ∀ (k i : Nat) (s : Shared) (H1 : Hp) (acc : Array Value) (c : Nat) (done : List (Str × Tok)), xs.length - i = k → i ≤ xs.length → Inv X ((P, partsO acc c) :: pins) σ H1 s → FpOk X pins H1 P → Ext H H1 →
      acc.toList = strValues done → done.map (·.1) = ts.take i →
      codeAny (model X.prog X.w) A (.builtin "list.__repr__.loop" ⟨[.ref a, rawInt i, .ref P, rawInt ((base + piled (ts.take i) : Nat) : Int)], []⟩) R s := by
  have hX : (listText ts).length = (textFrom 0 "[" ts).length + 1 := by
    show (textFrom 0 "[" ts ++ "]").length = _
    rw [strLen_append]
    rfl
  have hL := textFrom_len ts 0 "["
  have z1 : xs.length ≤ sizeLine := by
    have h1 := hL.1
    rw [if_neg (Nat.lt_irrefl 0)] at h1
    omega
  have z2 : ∀ t ∈ ts, t.length ≤ sizeLine := fun t ht => by
    have h2 := hL.2.1 t ht
    omega
  have hp3 := piled_le_listText ts
  intro k
  induction k with
  | zero =>
    intro i s H1 acc c done hk hi I fp e1 hacc hdone
    have hin : i = xs.length := by omega
    obtain ⟨_, its, na, rv, ho⟩ := I.hok a _ (e1 _ _ ha)
    have hP := (I.pin (P, partsO acc c) (List.mem_append_right _ List.mem_cons_self)).1
    have hn : its.toArray[(i : Int).toNat]? = none := by
      have := rv.length
      simp
      omega
    refine codeAny_builtin F.entry_list_repr_loop ?_
    show wpAny _ _ (Builtin.«list.__repr__.loop» ⟨[.ref a, .int i 0, .ref P, .int ((base + piled (ts.take i) : Nat) : Int) 0], []⟩) _ _ s
    rw [repr_loop_tree]
    refine wpAny_bind (wpAny_listItems ho rfl ?_)
    simp only [hn]
    unfold reprEnd
    refine wpAny_bind (wpAny_listItems hP rfl ?_)
    rw [hacc, repr_fold]
    refine wpAny_bind (wpAny_pure ?_)
    have hall : done.map (·.1) = ts := by rw [hdone, hin, ← hlen, List.take_length]
    rw [hall]
    refine wpAny_bind (wpAny_mkStr (wpAny_pure ?_) (by show (listText ts).length ≤ sizeLine; omega))
    exact hR _ _ H1 ((unpinned I).tok _) e1
  | succ k ih =>
    intro i s H1 acc c done hk hi I fp e1 hacc hdone
    have hlt : i < xs.length := by omega
    obtain ⟨_, its, na, rv, ho⟩ := I.hok a _ (e1 _ _ ha)
    obtain ⟨t, ht, hrep⟩ := hT i xs[i] (List.getElem?_eq_getElem hlt)
    obtain ⟨u, hu, ru⟩ := rv.get (List.getElem?_eq_getElem hlt)
    have hp1 := piled_take_succ ht
    have hp2 := piled_take_le ts (i + 1)
    have hsome : its.toArray[(i : Int).toNat]? = some u := by
      rw [Int.toNat_natCast]
      simpa using hu
    refine codeAny_builtin F.entry_list_repr_loop ?_
    show wpAny _ _ (Builtin.«list.__repr__.loop» ⟨[.ref a, .int i 0, .ref P, .int ((base + piled (ts.take i) : Nat) : Int) 0], []⟩) _ _ s
    rw [repr_loop_tree]
    refine wpAny_bind (wpAny_listItems ho rfl ?_)
    simp only [hsome]
    rw [Int.toNat_natCast]
    refine wpAny_bind (wpAny_holding (wpAny_mono (hrep _ _ (base + piled (ts.take i) + 1) _ σ H1 s u (b.under (isGuard_list_loop _) (loop_envs _) (loop_weight _) (loop_units _)) (fun x hx => (hcl x hx).cons (a := a) fun e => hna (e ▸ hx)) (by omega) e1 I ru) (fun z s2 q => ?_) fun e s2 q => hE e s2 q))
    obtain ⟨rfl, H2, I2, e2⟩ := q
    refine wpAny_bind (wpAny_mkStr ?_ (z2 z (List.mem_of_getElem? ht)))
    refine wpAny_bind ?_
    show wpAny _ _ (updateSeq P _) _ _ _
    have hP := (I2.pin (P, partsO acc c) (List.mem_append_right _ List.mem_cons_self))
    have hasz : acc.size ≤ sizeLine := by
      have q1 : acc.toList.length = acc.size := by simp
      have q2 : (strValues done).length = done.length := by simp [strValues]
      have q3 : done.length = (ts.take i).length := by rw [← hdone, List.length_map]
      have q4 : (ts.take i).length ≤ i := by rw [List.length_take]; omega
      rw [hacc] at q1
      omega
    have fp2 : FpOk X pins H2 P := ⟨hP.2.1, fp.2⟩
    refine wpAny_updateSeq hP.1 rfl (wpAny_pure ⟨F.quiet_list_repr_loop _, ?_⟩) hasz
    have q1 : ((i : Int) + 1) = ((i + 1 : Nat) : Int) := by omega
    have q2 : base + piled (ts.take i) + (z.length + 2) = base + piled (ts.take (i + 1)) := by omega
    rw [q1, q2]
    obtain ⟨f0, f1, f2, f3, f4, f5⟩ := fp2
    have up : (s2.heap.update P (Obj.mapSeq (·.push (.str z s2.toks)))).get? P = some (Obj.mapSeq (·.push (.str z s2.toks)) (partsO acc c)) := Heap.get?_update_self _ (show s2.heap.get? P = some (partsO acc c) from hP.1) rfl
    have I3 := (unpinned I2).turned (t' := s2.toks + 1) (h' := s2.heap.update P (Obj.mapSeq (·.push (.str z s2.toks)))) (fun x o hx e => (Heap.get?_update_other _ _ (Ne.symm hx)).trans e) f0 f1 f3 f4 f5
    refine ih (i + 1) _ H2 (acc.push (.str z s2.toks)) (if (acc.push (.str z s2.toks)).size == acc.size then c else c + 1) (done ++ [(z, s2.toks)]) (by omega) hlt (I3.pins_of fun r hr => ?_) ⟨f0, f1, f2, f3, f4, f5⟩ (e1.trans e2) (by simp [hacc, strValues]) (by simp [List.take_add_one, ht, hdone])
    rcases List.mem_cons.mp hr with rfl | hr
    · exact ⟨up, f0, f1, f2, fun v z => nomatch z⟩
    · exact I3.pin r (List.mem_append_right _ hr)

/-- items shown one by one -/
structure RepL (X : Cx) (n : Nat) (as : List Addr) (xs : List V) (H : Hp) (ts : List Str) : Prop where
  len : ts.length = xs.length
  at_ : ∀ (i : Nat) (x : V), xs[i]? = some x → ∃ t, ts[i]? = some t ∧ RepV X n as x H t
theorem RepL.nil : RepL X n as [] H [] := ⟨rfl, fun i x h => by simp at h⟩
theorem RepL.cons {x : V} {xs : List V} {t : Str} {ts : List Str} (h : RepV X n as x H t) (r : RepL X n as xs H ts) : RepL X n as (x :: xs) H (t :: ts) := by
  refine ⟨by simp [r.len], fun i y e => ?_⟩
  cases i with
  | zero =>
    simp at e
    subst e
    exact ⟨t, rfl, h⟩
  | succ i =>
    simp at e
    obtain ⟨t', q, z⟩ := r.at_ i y e
    exact ⟨t', by simpa using q, z⟩

theorem reprAtV {A : Around} {R : Result → Shared → Prop} {a : Addr} {xs : List V} {ts : List Str} {base : Nat} {g : List Code} {pins : List (Addr × Obj)} {σ : L2.St} {H1 : Hp} {s : Shared}
    (b : Bel X (n + 1) A g) (hca : Clear g a) (hcl : ∀ b ∈ as, Clear g b) (hna : a ∉ as) (ha : H a = some (.lst xs)) (hT : RepL X n as xs H ts) (hsz : base + (listText ts).length ≤ sizeLine) (e1 : Ext H H1) (I : Inv X pins σ H1 s)
    (hR : ∀ u s' H2, Inv X pins σ H2 s' → Ext H1 H2 → R (.ok (.ret (.str (listText ts) u))) s') (hE : ∀ e s', X.xe e s' → R (.error e) s') :
    wpAny (model X.prog X.w) A.in1 (Builtin.listReprAt base ⟨[.ref a], []⟩) (fun fin s' => match fin with | .done f => R (.ok f) s' | .again c' => c'.quiet = true ∧ codeAny (model X.prog X.w) A c' R s') (fun e s' => R (.error e) s') s := by
  obtain ⟨_, its, na, rv, ho⟩ := I.hok a _ (e1 _ _ ha)
  cases rv with
  | nil =>
    have e : ts = [] := List.length_eq_zero_iff.mp hT.len
    subst e
    exact wpAny_list_repr_empty ho rfl (hR _ _ H1 (I.tok _) Ext.rfl')
  | cons r0 rv =>
    rename_i x0 u0 xs0 us0
    refine wpAny_list_repr_head (A := A.in1) b.gd (fun v rest kw hm => listSameRef_of_ne (hca _ _ _ _ hm)) ho rfl ?_
    refine wpAny_bind (m := newList []) (wpAny_newObj_type ?_)
    refine wpAny_pure ⟨F.quiet_list_repr_loop _, ?_⟩
    have I2 : Inv X ((s.heap.objs.size, partsO #[] 0) :: pins) σ H1 { s with heap := s.heap.push (partsO #[] 0) } :=
      ClX.pin_new (t' := s.toks) I (fun _ _ z => Heap.get?_push_of_some _ z) (Nat.le_refl _) (Heap.get?_push_size s.heap rfl) (fun v z => nomatch z)
    exact loopV (P := s.heap.objs.size) (H := H1) b hcl hna (e1 _ _ ha) hT.len (fun i x h => let ⟨t, q, z⟩ := hT.at_ i x h; ⟨t, q, z.mono (fun _ m => m) (Nat.le_refl _) e1⟩) hsz hR hE _ 0 _ H1 #[] 0 [] rfl (Nat.zero_le _) I2
      (I.fpOk (Nat.le_refl _) (I.hok.fresh (Nat.le_refl _))) Ext.rfl' rfl (by simp)

theorem typ_list {a : Addr} {xs : List V} {pins : List (Addr × Obj)} {σ : L2.St} {s : Shared} (I : Inv X pins σ H s) (ha : H a = some (.lst xs)) : s.TypeIs (.ref a) "list" := by
  obtain ⟨_, its, na, rv, ho⟩ := I.hok a _ ha
  exact ⟨_, ho, rfl⟩

/-- a list within -/
theorem repV_lst {a : Addr} {xs : List V} {ts : List Str} (hna : a ∉ as) (ha : H a = some (.lst xs)) (hT : RepL X n as xs H ts) : RepV X (n + 1) (a :: as) (.ref a) H (listText ts) := by
  intro A g base pins σ H1 s u b c hz e1 I r
  cases r
  refine wpAny_pyReprUnder_ref (by omega) ?_
  refine wpAny_pyReprObjUnder_twin (twin := "list.__repr__.under") (typ_list I (e1 _ _ ha)) F.slot_list_repr.toG rfl b.room.units0 ?_
  refine call_twin_plain F.plain_list_repr_under F.entry_list_repr_under F.check_list_repr_under (typ_list I (e1 _ _ ha)) F.slot_list_repr.toG (F.args_list_repr_1 _)
    (reprAtV (R := callEnd _ X.xe) b (c a (.head _)) (fun x hx => c x (.tail _ hx)) hna ha hT hz e1 I (fun u' s' H2 I2 e2 => ?_) fun e s' q => q)
  exact ⟨⟨_, _, rfl⟩, _, _, rfl, rfl, H2, I2, e2⟩

/-- repr(l) -/
def rRepL (X : Cx) (n : Nat) : List V → Hp → VK → Prop := fun vs H Q => ∃ a xs ts as, vs = [.ref a] ∧ a ∉ as ∧ H a = some (.lst xs) ∧ RepL X n as xs H ts ∧ (listText ts).length ≤ sizeLine ∧ ∀ H', Ext H H' → Q (.str (listText ts)) H'
theorem call_reprL (hr : Room (n + 2) X.A) (hg : X.A.guards = some []) : CallR X (.builtin "repr") (rRepL X n) := by
  intro pins s σ H vs us Q I r h
  obtain ⟨a, xs, ts, as, rfl, hna, ha, hT, hz, q⟩ := h
  obtain ⟨u, rfl, ru⟩ := vals1 r
  cases ru
  refine call_repr_slot (by have := hr.un; omega) (typ_list I ha) F.slot_list_repr.toG ?_
  refine wpAny_call (codeAny_call_builtin F.slot_list_repr.plain F.entry_list_repr (F.slot_list_repr.check _ _ _ _ _ _ _ _ (typ_list I ha) (F.args_list_repr_1 _)
    (reprAtV (A := X.A.in1) (base := 0) (R := callEnd _ X.xe) (g := []) ⟨hr.in1, rfl, hg⟩ (Clear.nil _) (fun b _ => Clear.nil b) hna ha hT (by omega) Ext.rfl' I (fun u' s' H2 I2 e2 => ?_) fun e s' q => q)))
  exact ⟨_, _, rfl, .str _, H2, I2, ⟨_, rfl⟩, q H2 e2⟩

/-- an instance with an own __repr__ -/
theorem repV_own {C f a dx : Addr} {fs : List (Str × V)} {sp : Sp} {t : Str} (T : OwnStr X.K C "__repr__" f) (R : ∀ A, Room n A → A.frames = X.A.frames → Runs X A f sp)
    (ha : H a = some (.ins C dx fs)) (hsp : ∀ H1, Ext H H1 → ∀ Q : VK, (∀ H2, Ext H1 H2 → Q (.str t) H2) → sp [.ref a] H1 Q E0) : RepV X n as (.ref a) H t := by
  intro A g base pins σ H1 s u b c hz e1 I r
  cases r
  obtain ⟨od, J⟩ := inst_at I (e1 _ _ ha)
  refine wpAny_pyReprUnder_ref (by omega) ?_
  unfold pyReprObjUnder pyReprObjBy
  refine wpAny_bind (wpAny_cRoomFor b.room.units0 ?_)
  refine wpAny_bind (wpAny_bind (J.type.here ((PySem.W.looks_findIn I.kIn T.at_).here ?_)))
  rw [if_neg (by simp)]
  have run := R A b.room b.fr pins σ H1 s [.ref a] [.ref a] (fun v H2 => v = .str t ∧ Ext H1 H2) I (.cons rfl .nil) (hsp H1 e1 _ fun H2 e2 => ⟨rfl, e2⟩)
  have last : wpAny (model X.prog X.w) A (call (.ref f) ([.ref a] ++ []) >>= fun v => pure (some v)) (fun o s' => ∃ x k H2, o = some (Value.str x k) ∧ x = t ∧ Inv X pins σ H2 s' ∧ Ext H1 H2) X.xe s := by
    refine wpAny_bind (wpAny_mono run (fun v s' q => ?_) fun _ _ q => q)
    obtain ⟨v', H2, I2, r2, rfl, e2⟩ := q
    obtain ⟨k, rfl⟩ := r2
    exact wpAny_pure ⟨t, k, H2, rfl, rfl, I2, e2⟩
  dsimp only
  refine wpAny_bind (wpAny_mono (Q := fun o s' => ∃ x k H2, o = some (Value.str x k) ∧ x = t ∧ Inv X pins σ H2 s' ∧ Ext H1 H2) ?_ (fun o s' q => ?_) fun _ _ q => q)
  · simp only [callSpecialIfBoundBy?, bindSpecialIfBound?]
    refine wpAny_holding (wpAny_bind (wpAny_bind (wpAny_bind (J.type.here ((PySem.W.looks_findIn I.kIn T.at_).here ?_)))))
    refine wpAny_bind (wpAny_askSetting (wpAny_ite ?_))
    split
    · exact wpAny_bind ((PySem.W.bind_fn I.kIn _ (beq_iff_eq.mp T.fn)).here (wpAny_pure (by exact last)))
    · exact wpAny_tryCatch (wpAny_bind ((PySem.W.bind_fn I.kIn _ (beq_iff_eq.mp T.fn)).here (wpAny_pure (by exact last))))
  · obtain ⟨x, k, H2, rfl, rfl, I2, e2⟩ := q
    exact wpAny_bind (wpAny_isInstance (T := "str") (b := true) rfl isSubtype_str_str (wpAny_pure ⟨x, k, rfl, rfl, H2, I2, e2⟩))

end
end NS

/-! Defs whose promise holds where nothing is under repr (guards known to be none); calls by Runs; the law's end. -/
namespace NS
open PySem L2

/-- as FnOk, for calls where nothing is under repr; no exception leaves -/
structure FnG (P : Program) (w : World) (K : PySem.W.Frag) (mg : Str → Option Value) (base : Heap) (k : Nat) (f : Addr) (fd : FuncData) (ps : List Str) (sp : Sp) : Prop where
  len : ∀ vs H Q E, sp vs H Q E → vs.length = ps.length
  run : ∀ (A : Around) (outer : List Env) (s : Shared) (H : Hp) (args : Args) (us : List Value) (vs : List V) (Q : VK), A.guards = some [] → Room k A →
    Env0 P w K mg base A outer s H → BindsTo s fd args (ps.zip us) → Vals vs us → sp vs H Q E0 → codeAny (model P w) A (.call (.ref f) args) (CR CX0 outer P w H s Q E0) s

section
variable {P : Program} {w : World} {K : PySem.W.Frag} {mg : Str → Option Value} {base : Heap} {k : Nat} {f : Addr} {fd : FuncData} {ps : List Str} {sp : Sp}
theorem FnG.of (F : FnOk P w K mg base CX0 k f fd ps sp) : FnG P w K mg base k f fd ps sp :=
  ⟨F.len, fun A outer s H args us vs Q _ hr e0 hb rv h => F.run A outer s H args us vs Q E0 hr e0 hb rv h⟩
theorem FnG.mono {j : Nat} (F : FnG P w K mg base j f fd ps sp) (h : j ≤ k) : FnG P w K mg base k f fd ps sp :=
  ⟨F.len, fun A outer s H args us vs Q g hr => F.run A outer s H args us vs Q g (hr.mono h)⟩

/-- a def of the text, its body walked where nothing is under repr -/
theorem okG {x qual : Str} {st : Stmt} {N : List Str} (F : Fun K x qual st f fd) (S : FnScope N ps (defScope st)) (len : ∀ vs H Q E, sp vs H Q E → vs.length = ps.length)
    (hbody : ∀ (cdv : Value) (A : Around) (outer : List Env) (s : Shared) (H : Hp) (vs : List V) (Q : VK), A.guards = some [] → Room k (A.deeper (PyProof.Rows.envOfC qual (defScope st) s.heap.objs.size f cdv)) → sp vs H Q E0 →
      ∃ t, PSs (cxOf CX0 P w K mg base N qual (defScope st) f cdv A outer s H E0).nox (defBody st) t ∧ t { nx := fun _ H' => Q .non H', rt := Q } (start N vs) H) : FnG P w K mg base (k + 1) f fd ps sp := by
  obtain ⟨oc, od, kV, doc, pm, an, cdv, ct, osl, rfl, lk, hcd⟩ := F.ex
  refine ⟨len, fun A outer s H args us vs Q hg hr e0 hb rv hsp => ?_⟩
  have keep : ∀ b o, base.get? b = some o → s.heap.get? b = some o := fun b o e => (e0.bs b o e).1
  have KX := e0.mod.kin.keeps keep
  refine codeAny_call_function hr.depth (KX _ _ lk) rfl S.co S.gen rfl (PySem.W.codeRec_of KX hcd) (hb _ _ _ _ (wpAny_newFunctionEnv_cells S.kind (fun y hy => ?_) fun env he s1 x => ?_))
  · obtain ⟨n, v⟩ := y
    exact (S.par n (List.of_mem_zip hy).1).elim (fun q => .inl q) fun q => .inr ⟨q, PySem.W.cellsFrom_some _ _ _ (.inl q)⟩
  · subst he
    refine ⟨(e0.mod.nolimit.keeps keep).keeps x.toInCall.keep, codeAny_func ?_⟩
    obtain ⟨t, ht, hq⟩ := hbody cdv A outer s H vs Q hg (hr.deeper _) hsp
    have J := inv_start (CX := CX0) (E := E0) S hr.hd e0 (len _ _ _ _ hsp) rv x
    refine wpAny_mono (ht.nox.run [] s1 (start N vs) H _ J hq) (fun fl s' z => ?_) fun e s' z => z
    cases fl with
    | ret u =>
      obtain ⟨v, σ', H', I', r', q'⟩ := z
      exact ⟨v, H', I'.os, I'.bare, I'.base, I'.hok, r', q'⟩
    | next =>
      obtain ⟨σ', H', I', q'⟩ := z
      exact ⟨V.non, H', I'.os, I'.bare, I'.base, I'.hok, rfl, q'⟩
    | brk =>
      obtain ⟨_, _, _, q'⟩ := z
      exact q'.elim
    | cont =>
      obtain ⟨_, _, _, q'⟩ := z
      exact q'.elim
end

section
variable {X : Cx} {A : Around} {f : Addr} {sp : Sp} {k : Nat} {fd : FuncData} {ps : List Str}
theorem Runs.ofG (F : FnG X.prog X.w X.K X.mg X.base k f fd ps sp) (hb : Binds X.K fd ps []) (hg : A.guards = some []) (hr : Room k A) (hf : A.frames = X.A.frames) : Runs X A f sp := by
  intro pins σ H s vs us Q I rv h
  have z := I.env0
  have hl : (us ++ []).length = ps.length := by
    rw [List.append_nil, ← rv.length]
    exact F.len _ _ _ _ h
  have hbb := hb s us I.kIn hl
  rw [List.append_nil] at hbb
  exact wpAny_call (codeAny_mono (F.run A X.stack s H ⟨us, []⟩ us vs Q hg hr ⟨hf.trans z.frames, z.mod, z.bs, z.bsz, z.funs, z.frf, z.hok, z.bare⟩ hbb rv h) fun r s' q => back_ok I q)

/-- f(e, ..) -/
theorem pe_callR {x : Str} {e : Expr} {es : List Expr} {t : TA} {p pos : Pos} (R : Runs X X.A f sp) (hg : Gl X x) (hm : X.mg x = some (.ref f)) (hk : PySem.W.keepIn X.K (.ref f) = true) (ha : PA X (e :: es) t)
    (hdb : (x == ("__debug__" : Str)) = false := by decide) (he : starEach (e :: es) X.env = (false, eval e X.env) :: starEach es X.env := by rfl) (hpl : (backTo pos (starEach es X.env)).any (·.1) = false := by rfl) :
    PE X (.Call (.Name x p) (e :: es) [] pos) (fun σ H Q => t σ H fun vs H1 => sp vs H1 Q E0) := by
  refine ⟨fun pins s σ H Q I h => wpAny_Call_Name_kw (ld_glob I hg hm ?_ hdb)⟩
  refine PySem.W.callWith_K (h₀ := X.base) I.ok.mod.kin hk (thn (ha.run pos pins s σ H _ I h) fun us s1 z => ?_) he hpl
  obtain ⟨vs, H1, I1, rv, q⟩ := z
  exact ⟨I1.kIn, R pins σ H1 s1 vs us Q I1 rv q⟩
end

section
open PySem.W PyProof.Rows
variable {P : Program} {w : World} {K : PySem.W.Frag} {mg mb : Str → Option Value} {k : Nat} {fa a : Addr} {fd : FuncData} {x : Str} {sp : Sp} {s₁ : Shared} {vs : List Value} {ns : List Int}
/-- the law's call, from an abstract heap H that tracks the script at most -/
theorem law_from {H : Hp} (KX : K.In s₁.heap) (hns : s₁.heap.Ns mainGlobals mg) (hb : s₁.heap.Ns builtinsNs mb) (hbb : ∀ x : Str, x ≠ "__name__" → mb x = bootBuiltins x) (hlim : s₁.heap.NoLimit) (hg : s₁.gens = #[])
    (ha : s₁.heap.get? a = some { cls := .type "list", data := .seq vs.toArray }) (hr : Room k callerA)
    (F : ∀ base : Heap, K.In base → base.Ns mainGlobals mg → FnG P w K mg base k fa fd [x] sp) (hbind : ∀ (s : Shared) (u : Value), BindsTo s fd ⟨[u], []⟩ [(x, u)])
    (hsp : sp [.ref a] H (fun v _ => v = .bl true) E0) (hok : HOk P w H s₁.heap) (hA : ∀ b, H b ≠ none → b = a ∧ K.lookup a = none ∧ ∃ o xs, H b = some (.frz o (.lst xs))) :
    codeAny (model P w) callerA (.call (.ref fa) ⟨[.ref a], []⟩) (fun r s' => r = .ok (.ret (.bool true)) ∧ OldK s₁.heap s'.heap ∧ s'.os = s₁.os ∧ AllBare s'.gens) s₁ := by
  have un : ∀ {b : Addr}, b ≠ a → H b = none := fun {b} hne => by
    cases q : H b with
    | none => rfl
    | some u => exact absurd (hA b (by rw [q]; exact fun z => nomatch z)).1 hne
  have nsK : ∀ {b : Addr} {m : Str → Option Value}, s₁.heap.Ns b m → (hidT s₁.heap H).Ns b m := fun {b m} ⟨o, es, ep, e, d, r⟩ => by
    refine ⟨o, es, ep, hidT_get e (un fun z => ?_), d, r⟩
    subst z
    rw [ha] at e
    cases e
    exact nomatch (show Data.seq vs.toArray _ = Data.dict es ep from d)
  have kb : K.In (hidT s₁.heap H) := fun b o e => hidT_get (KX b o e) (by
    cases q : H b with
    | none => rfl
    | some u =>
      obtain ⟨rfl, hk, _⟩ := hA b (by rw [q]; exact fun z => nomatch z)
      rw [hk] at e
      cases e)
  obtain ⟨mc, l1, l2⟩ := hlim
  have e0 : Env0 P w K mg (hidT s₁.heap H) callerA [] s₁ H :=
    ⟨rfl, ⟨kb, nsK hns, ⟨mb, nsK hb, hbb⟩, ⟨mc, nsK l1, l2⟩⟩, fun b o e => of_hidT e, Nat.le_of_eq (hidT_size _ _), trivial, (fun b z => absurd (show b ∈ ([] : List Addr) from z) (by simp)), hok, .of_eq hg⟩
  refine codeAny_mono ((F _ kb (nsK hns)).run callerA [] s₁ H ⟨[.ref a], []⟩ [.ref a] [.ref a] _ rfl hr e0 (hbind s₁ (.ref a)) (.cons rfl .nil) hsp) fun r s' z => ?_
  match r, z with
  | .ok (.ret u), z =>
    obtain ⟨v, H', os, bare, un', hok', r', q⟩ := z
    cases q
    cases r'
    refine ⟨rfl, OldK.of_keep fun b o e => ?_, os, bare⟩
    cases q : H b with
    | none => exact un'.keep b o e q (fun z => absurd (show b ∈ ([] : List Addr) from z) (by simp)) (by simp)
    | some u =>
      obtain ⟨_, _, ob, xs, z⟩ := hA b (by rw [q]; exact fun z => nomatch z)
      have e1 := (hok b _ z).1
      rw [e] at e1
      cases e1
      exact (hok' b _ (un'.frzs b _ _ z)).1

theorem law_callG (KX : K.In s₁.heap) (hns : s₁.heap.Ns mainGlobals mg) (hb : s₁.heap.Ns builtinsNs mb) (hbb : ∀ x : Str, x ≠ "__name__" → mb x = bootBuiltins x) (hlim : s₁.heap.NoLimit) (hg : s₁.gens = #[])
    (ha : s₁.heap.get? a = some { cls := .type "list", data := .seq vs.toArray }) (hi : IntsAre vs ns) (hl : ns.length ≤ sizeLine) (hr : Room k callerA)
    (F : ∀ base : Heap, K.In base → base.Ns mainGlobals mg → FnG P w K mg base k fa fd [x] sp) (hbind : ∀ (s : Shared) (u : Value), BindsTo s fd ⟨[u], []⟩ [(x, u)])
    (hsp : ∀ H : Hp, SqL K H a (ns.map V.int) → (∀ b o, H b = some o → b = a) → sp [.ref a] H (fun v _ => v = .bl true) E0) :
    codeAny (model P w) callerA (.call (.ref fa) ⟨[.ref a], []⟩) (fun r s' => r = .ok (.ret (.bool true)) ∧ OldK s₁.heap s'.heap ∧ s'.os = s₁.os ∧ AllBare s'.gens) s₁ := by
  have rv := vals_ints hi
  cases hk : K.lookup a with
  | some o =>
    have e := KX a o hk
    rw [ha] at e
    cases e
    refine law_from (H := fun _ => none) KX hns hb hbb hlim hg ha hr F hbind (hsp _ (.inr ⟨_, vs.toArray, _, hk, rfl, rfl, rfl, ?_, by simpa using rv⟩) fun b o z => nomatch z) (fun b u z => nomatch z) fun b z => absurd rfl z
    rw [List.size_toArray, hi.length]
    exact hl
  | none =>
    have at_a : (fun b => if b = a then some (HO.frz { cls := .type "list", data := .seq vs.toArray } (.lst (ns.map V.int))) else none : Hp) a = some (HO.frz { cls := .type "list", data := .seq vs.toArray } (.lst (ns.map V.int))) := if_pos rfl
    have off : ∀ b o, (fun b => if b = a then some (HO.frz { cls := .type "list", data := .seq vs.toArray } (.lst (ns.map V.int))) else none : Hp) b = some o → b = a := fun b o z => by
      by_cases hba : b = a
      · exact hba
      · exact nomatch (if_neg hba).symm.trans z
    refine law_from (H := fun b => if b = a then some (.frz { cls := .type "list", data := .seq vs.toArray } (.lst (ns.map V.int))) else none) KX hns hb hbb hlim hg ha hr F hbind (hsp _ (.inl (.inr ⟨_, at_a⟩)) off) (fun b u z => ?_) fun b z => ?_
    · obtain rfl := off b u z
      rw [at_a] at z
      cases z
      exact ⟨ha, by rw [List.length_map]; exact hl, vs, _, rv, ha⟩
    · cases q : (fun b => if b = a then some (HO.frz { cls := .type "list", data := .seq vs.toArray } (.lst (ns.map V.int))) else none : Hp) b with
      | none => exact absurd q z
      | some u =>
        obtain rfl := off b u q
        exact ⟨rfl, hk, _, _, at_a⟩

/-- the goal that k_head leaves, from the law's promise -/
theorem walk_ofG {l : PySem.W.OpenLaw} {n : Nat} {q : Program} {loose : List Str} {XP : (Str → Option Value) → Heap → Prop} {YP : World → Heap → Prop} {d : DefRec} {KK : Params → PySem.W.Frag} {spK : PySem.W.Frag → Sp}
    (hn : l.most = some n) (hn2 : n ≤ sizeLine) (hdf : d.params.defaults = []) (hr : Room k callerA) (hY : ∀ (w : World) (h : Heap), YP w h → (KK w.params).In h)
    (F : ∀ (w : World) (mg : Str → Option Value) (fa : Addr) (h : Heap), (KK w.params).In h → h.Ns mainGlobals mg → mg d.name = some (.ref fa) →
      ∃ fd : FuncData, (∀ (s : Shared) (u : Value), BindsTo s fd ⟨[u], []⟩ [(x, u)]) ∧ ∀ base : Heap, (KK w.params).In base → base.Ns mainGlobals mg → FnG l.prog w (KK w.params) mg base k fa fd [x] (spK (KK w.params)))
    (hsp : ∀ (K : PySem.W.Frag) (H : Hp) (a : Addr) (ns : List Int), ns.length ≤ n → SqL K H a (ns.map V.int) → (∀ b o, H b = some o → b = a) → spK K [.ref a] H (fun v _ => v = .bl true) E0) :
    PySem.W.WalkO q loose XP YP l.row.toRowW d [] (fun f vs => PySem.call f vs) := by
  refine Att.attach_call hn hdf fun w s₀ s₁ mg mb fa o pm cd doc a vs ns G Y ho hd hcd hmg hobj hints hlen hgn => ?_
  obtain ⟨fd, hb, hF⟩ := F w mg fa _ (hY w _ Y) G.T.g hmg
  exact law_callG (hY w _ Y) G.T.g G.T.b G.T.builtins G.T.nolimit hgn hobj hints (Nat.le_trans hlen hn2) hr hF hb fun H hS hO => hsp _ H a ns hlen hS hO
end
end NS

/-! The mathematics of Ratio: lowest terms are Lean's Rat. -/
namespace NS

/-- the divisor that Ratio takes: the greatest common one, with the bottom's sign -/
def dv (t b : Int) : Int := if b < 0 then -(Nat.gcd t.natAbs b.natAbs : Int) else (Nat.gcd t.natAbs b.natAbs : Int)

theorem dv_ne {t b : Int} (hb : b ≠ 0) : dv t b ≠ 0 := by
  have h : 0 < Nat.gcd t.natAbs b.natAbs := Nat.gcd_pos_of_pos_right _ (by omega)
  unfold dv
  split <;> omega
theorem dv_dvd_t (t b : Int) : dv t b ∣ t := by
  have h : ((Nat.gcd t.natAbs b.natAbs : Nat) : Int) ∣ t := Int.ofNat_dvd_left.mpr (Nat.gcd_dvd_left _ _)
  unfold dv
  split
  · exact Int.neg_dvd.mpr h
  · exact h
theorem dv_dvd_b (t b : Int) : dv t b ∣ b := by
  have h : ((Nat.gcd t.natAbs b.natAbs : Nat) : Int) ∣ b := Int.ofNat_dvd_left.mpr (Nat.gcd_dvd_right _ _)
  unfold dv
  split
  · exact Int.neg_dvd.mpr h
  · exact h
theorem dv_abs (t b : Int) : (dv t b).natAbs = Nat.gcd t.natAbs b.natAbs := by
  unfold dv
  split <;> omega

theorem dv_num {t b : Int} (hb : b ≠ 0) : t.fdiv (dv t b) = (Rat.divInt t b).num := by
  rw [Rat.num_divInt]
  have hg : Int.gcd b t = Nat.gcd t.natAbs b.natAbs := by
    rw [Int.gcd_comm]
    rfl
  rw [hg]
  have hd : ((Nat.gcd t.natAbs b.natAbs : Nat) : Int) ∣ t := Int.ofNat_dvd_left.mpr (Nat.gcd_dvd_left _ _)
  have hp : 0 < Nat.gcd t.natAbs b.natAbs := Nat.gcd_pos_of_pos_right _ (by omega)
  obtain ⟨c, hc⟩ := hd
  have hz : ((Nat.gcd t.natAbs b.natAbs : Nat) : Int) ≠ 0 := by omega
  by_cases hn : b < 0
  · have e : dv t b = -((Nat.gcd t.natAbs b.natAbs : Nat) : Int) := if_pos hn
    have s : b.sign = -1 := Int.sign_eq_neg_one_of_neg hn
    rw [e, s]
    generalize hG : ((Nat.gcd t.natAbs b.natAbs : Nat) : Int) = G at *
    rw [hc]
    have q1 : G * c = -G * -c := by rw [Int.neg_mul_neg]
    rw [q1, Int.mul_fdiv_cancel_left _ (by omega : -G ≠ 0), ← q1]
    have q2 : -1 * (G * c) = G * -c := by rw [Int.neg_one_mul, Int.mul_neg]
    rw [q2, Int.mul_ediv_cancel_left _ hz]
  · have e : dv t b = ((Nat.gcd t.natAbs b.natAbs : Nat) : Int) := if_neg hn
    have s : b.sign = 1 := Int.sign_eq_one_of_pos (by omega)
    rw [e, s, Int.one_mul]
    generalize hG : ((Nat.gcd t.natAbs b.natAbs : Nat) : Int) = G at *
    rw [hc, Int.mul_fdiv_cancel_left _ hz, Int.mul_ediv_cancel_left _ hz]
theorem dv_den {t b : Int} (hb : b ≠ 0) : b.fdiv (dv t b) = ((Rat.divInt t b).den : Int) := by
  rw [Rat.den_divInt, if_neg hb]
  have hg : Int.gcd b t = Nat.gcd t.natAbs b.natAbs := by
    rw [Int.gcd_comm]
    rfl
  rw [hg]
  have hp : 0 < Nat.gcd t.natAbs b.natAbs := Nat.gcd_pos_of_pos_right _ (by omega)
  obtain ⟨c, hc⟩ := Nat.gcd_dvd_right t.natAbs b.natAbs
  generalize hG : Nat.gcd t.natAbs b.natAbs = G at *
  have e2 : b.natAbs / G = c := by rw [hc, Nat.mul_div_cancel_left _ hp]
  rw [e2]
  by_cases hn : b < 0
  · have e : dv t b = -(G : Int) := by rw [← hG]; exact if_pos hn
    have eb : b = -(G : Int) * c := by
      have : b = -((b.natAbs : Nat) : Int) := by omega
      rw [this, hc, Int.natCast_mul, Int.neg_mul]
    rw [e]
    conv => lhs; rw [eb]
    rw [Int.mul_fdiv_cancel_left _ (by omega)]
  · have e : dv t b = (G : Int) := by rw [← hG]; exact if_neg hn
    have eb : b = (G : Int) * c := by
      have : b = ((b.natAbs : Nat) : Int) := by omega
      rw [this, hc, Int.natCast_mul]
    rw [e]
    conv => lhs; rw [eb]
    rw [Int.mul_fdiv_cancel_left _ (by omega)]

/-! ### sizes -/
/-- an int of at most n bits -/
def Bt (n : Nat) (i : Int) : Prop := i.natAbs < 2 ^ n
instance (n : Nat) (i : Int) : Decidable (Bt n i) := inferInstanceAs (Decidable (i.natAbs < 2 ^ n))
theorem Bt.mono {m n : Nat} {i : Int} (h : Bt m i) (hn : m ≤ n) : Bt n i := Nat.lt_of_lt_of_le h (Nat.pow_le_pow_right (by decide) hn)
theorem Bt.neg {n : Nat} {i : Int} (h : Bt n i) : Bt n (-i) := by
  unfold Bt at *
  omega
theorem Bt.mul {m n : Nat} {i j : Int} (h : Bt m i) (k : Bt n j) : Bt (m + n) (i * j) := by
  unfold Bt at *
  rw [Int.natAbs_mul, Nat.pow_add]
  exact Nat.mul_lt_mul'' h k
theorem Bt.add {n : Nat} {i j : Int} (h : Bt n i) (k : Bt n j) : Bt (n + 1) (i + j) := by
  unfold Bt at *
  rw [Nat.pow_succ]
  omega
theorem Bt.sub {n : Nat} {i j : Int} (h : Bt n i) (k : Bt n j) : Bt (n + 1) (i - j) := by
  unfold Bt at *
  rw [Nat.pow_succ]
  omega
theorem Bt.log {n : Nat} {i : Int} (h : Bt n i) (h0 : 0 < n) : i.natAbs.log2 < n := by
  by_cases hz : i.natAbs = 0
  · rw [hz]
    exact h0
  · exact (Nat.log2_lt hz).mpr h
/-- top and bottom of at most n bits -/
structure Sz (n : Nat) (q : Rat) : Prop where
  top : Bt n q.num
  bot : Bt n (q.den : Int)
theorem Sz.mono {m n : Nat} {q : Rat} (h : Sz m q) (hn : m ≤ n) : Sz n q := ⟨h.top.mono hn, h.bot.mono hn⟩
theorem fdiv_abs {t d : Int} (hd : d ∣ t) (h0 : d ≠ 0) : (t.fdiv d).natAbs ≤ t.natAbs := by
  obtain ⟨c, rfl⟩ := hd
  rw [Int.mul_fdiv_cancel_left _ h0, Int.natAbs_mul]
  exact Nat.le_mul_of_pos_left _ (by omega)
theorem sz_divInt {n : Nat} {t b : Int} (hb : b ≠ 0) (h1 : Bt n t) (h2 : Bt n b) : Sz n (Rat.divInt t b) := by
  refine ⟨?_, ?_⟩
  · rw [← dv_num hb]
    exact Nat.lt_of_le_of_lt (fdiv_abs (dv_dvd_t t b) (dv_ne hb)) h1
  · rw [← dv_den hb]
    exact Nat.lt_of_le_of_lt (fdiv_abs (dv_dvd_b t b) (dv_ne hb)) h2
theorem sz_int {n : Nat} {i : Int} (h : Bt n i) (h0 : 0 < n) : Sz n (i : Rat) := ⟨h, by show Bt n 1; exact Nat.one_lt_two_pow (by omega)⟩
theorem sz_neg {n : Nat} {q : Rat} (h : Sz n q) : Sz n (-q) := ⟨by rw [Rat.neg_num]; exact h.top.neg, by rw [Rat.neg_den]; exact h.bot⟩

theorem den_ne (q : Rat) : ((q.den : Nat) : Int) ≠ 0 := by
  have := q.den_nz
  omega
theorem den_pos (q : Rat) : (0 : Int) < (q.den : Int) := by
  have := q.den_nz
  omega
theorem divInt_self_eq (q : Rat) : Rat.divInt q.num (q.den : Int) = q := Rat.num_divInt_den q
theorem add_eq (a b : Rat) : Rat.divInt (a.num * b.den + b.num * a.den) ((a.den : Int) * (b.den : Int)) = a + b := by
  rw [Rat.add_def', ← Int.natCast_mul, Rat.divInt_ofNat]
theorem mul_eq (a b : Rat) : Rat.divInt (a.num * b.num) ((a.den : Int) * (b.den : Int)) = a * b := by
  rw [Rat.mul_def', ← Int.natCast_mul, Rat.divInt_ofNat]
theorem neg_eq (a : Rat) : Rat.divInt (-a.num) (a.den : Int) = -a := by
  rw [← Rat.neg_divInt, Rat.num_divInt_den]
theorem div_eq (a b : Rat) : Rat.divInt (a.num * b.den) ((a.den : Int) * b.num) = a / b := by
  rw [Rat.div_def, Rat.inv_def]
  conv => rhs; rw [← Rat.num_divInt_den a]
  rw [Rat.divInt_mul_divInt]
theorem sub_eq (a b : Rat) : a + -b = a - b := (Rat.sub_eq_add_neg a b).symm
theorem dif_eq (a b : Rat) : Rat.divInt (a.num * b.den - b.num * a.den) ((a.den : Int) * (b.den : Int)) = a - b := by
  rw [Rat.sub_def', ← Int.natCast_mul, Rat.divInt_ofNat]
theorem sz_add {m n : Nat} {a b : Rat} (h : Sz m a) (k : Sz n b) : Sz (m + n + 1) (a + b) := by
  rw [← add_eq]
  refine sz_divInt (by have := den_ne a; have := den_ne b; exact Int.mul_ne_zero (den_ne a) (den_ne b)) ?_ ((h.bot.mul k.bot).mono (by omega))
  exact (h.top.mul k.bot).add ((k.top.mul h.bot).mono (by omega))
theorem sz_sub {m n : Nat} {a b : Rat} (h : Sz m a) (k : Sz n b) : Sz (m + n + 1) (a - b) := by
  rw [← sub_eq]
  exact sz_add h (sz_neg k)
theorem sz_mul {m n : Nat} {a b : Rat} (h : Sz m a) (k : Sz n b) : Sz (m + n) (a * b) := by
  rw [← mul_eq]
  exact sz_divInt (Int.mul_ne_zero (den_ne a) (den_ne b)) (h.top.mul k.top) (h.bot.mul k.bot)
theorem sz_div {m n : Nat} {a b : Rat} (hb : b ≠ 0) (h : Sz m a) (k : Sz n b) : Sz (m + n) (a / b) := by
  rw [← div_eq]
  have hz : b.num ≠ 0 := fun z => hb (Rat.num_eq_zero.mp z)
  exact sz_divInt (Int.mul_ne_zero (den_ne a) hz) (h.top.mul k.bot) (h.bot.mul k.top)
theorem rat_ext_iff {a b : Rat} : a = b ↔ a.num = b.num ∧ (a.den : Int) = b.den := by
  constructor
  · rintro rfl
    exact ⟨rfl, rfl⟩
  · rintro ⟨h1, h2⟩
    exact Rat.ext h1 (by omega)
end NS

/-! What the top has written of a def, a method, a class; small rules. -/
namespace NS
open PySem L2

structure Dfn (K : PySem.W.Frag) (mg : Str → Option Value) (x : Str) (st : Stmt) (f : Addr) (fd : FuncData) : Prop where
  F : Fun K x x st f fd
  g : mg x = some (.ref f)
structure Mth (K : PySem.W.Frag) (C : Addr) (m qual : Str) (st : Stmt) (f : Addr) (fd : FuncData) : Prop where
  F : Fun K m qual st f fd
  at_ : PySem.W.findIn K (.ref C) m = some (some (.ref f))
  fn : PySem.W.isFn K (.ref f) = true
theorem Mth.meth {K : PySem.W.Frag} {C f : Addr} {m qual : Str} {st : Stmt} {fd : FuncData} (M : Mth K C m qual st f fd) : Meth K C m f := ⟨M.at_, M.fn, M.F.kp⟩
/-- a method with defaults dvs -/
structure MthD (K : PySem.W.Frag) (C : Addr) (m qual : Str) (st : Stmt) (dvs : List V) (f : Addr) (fd : FuncData) : Prop where
  F : FunD K m qual (defArgs st) (defBody st) (defScope st) dvs [] f fd
  at_ : PySem.W.findIn K (.ref C) m = some (some (.ref f))
  fn : PySem.W.isFn K (.ref f) = true
/-- a property -/
structure Prp (K : PySem.W.Frag) (C : Addr) (m qual : Str) (st : Stmt) (p f : Addr) (fd : FuncData) : Prop where
  F : Fun K m qual st f fd
  pr : PropOf K C m p f
/-- a class of the text -/
structure Cl (K : PySem.W.Frag) (mg : Str → Option Value) (x : Str) (C : Addr) : Prop where
  cls : Cls K C
  g : mg x = some (.ref C)
  kp : PySem.W.keepIn K (.ref C) = true
  mks : PySem.W.makesIn K C = true
  ca : PySem.W.findIn K (.ref C) "__class__" = some (some (.builtin "object.__class__"))
  cg : PySem.W.specialIn K (.builtin "object.__class__") "__get__" = some (some (.builtin "getset_descriptor.__get__"))
  ct : PySem.W.takesIn K (.builtin "object.__class__") = some true
  ob : PySem.W.mroIn K C (.type "object") = some true
  k_int : PySem.W.kitOne K (.type "int") (.ref C) = some false
  k_str : PySem.W.kitOne K (.type "str") (.ref C) = some false
  k_tup : PySem.W.kitOne K (.type "tuple") (.ref C) = some false
  k_own : PySem.W.kitOne K (.ref C) (.ref C) = some true
  o_int : PySem.W.kitOne K (.ref C) (.type "int") = some false
  o_bool : PySem.W.kitOne K (.ref C) (.type "bool") = some false
theorem Cl.ty {K : PySem.W.Frag} {mg : Str → Option Value} {x : Str} {C a dx : Addr} {fs : List (Str × V)} {H : Hp} (c : Cl K mg x C) (h : H a = some (.ins C dx fs)) : TyX K H (.ref a) (.ref C) :=
  .base (.ins h c.cls c.ca c.cg c.ct c.ob)

section
variable {X : Cx}
/-- isinstance(x, T), T a built-in class: the answer is b -/
theorem isi_B {K : PySem.W.Frag} {T : String} {x : V} {t : Value} {b : Bool} {H : Hp} {Q : VK} (ty : TyX K H x t) (k : PySem.W.kitOne K t (.type T) = some b) (q : Q (.bl b) H) : rIsi K [x, .ty T] H Q :=
  ⟨x, .ty T, t, .type T, b, rfl, .ty T, ty, k, q⟩
theorem isi_C {K : PySem.W.Frag} {C : Addr} {x : V} {t : Value} {b : Bool} {H : Hp} {Q : VK} (ty : TyX K H x t) (k : PySem.W.kitOne K t (.ref C) = some b) (q : Q (.bl b) H) : rIsi K [x, .ref C] H Q :=
  ⟨x, .ref C, t, .ref C, b, rfl, .own C, ty, k, q⟩
theorem kit_int_int {K : PySem.W.Frag} : PySem.W.kitOne K (.type "int") (.type "int") = some true := kit_ty (by decide +kernel)
theorem kit_int_bool {K : PySem.W.Frag} : PySem.W.kitOne K (.type "int") (.type "bool") = some false := kit_ty (by decide +kernel)
theorem ty_int {K : PySem.W.Frag} {H : Hp} (i : Int) : TyX K H (.int i) (.type "int") := .base (.int i)
theorem ty_str {K : PySem.W.Frag} {H : Hp} (x : Str) : TyX K H (.str x) (.type "str") := .base (.str x)
theorem ty_tup {K : PySem.W.Frag} {H : Hp} {a : Addr} {xs : List V} (h : H a = some (.tup xs)) : TyX K H (.ref a) (.type "tuple") := .base (.tup h)

theorem to_heap {R : Hp → Prop} {H1 H2 : Hp} (e : H1 = H2) (h : R H2) : R H1 := by
  subst e
  exact h
theorem iteY {b : Bool} {A B : Prop} (h : b = true) (x : A) : if b = true then A else B := by
  subst h
  exact iteT x
theorem iteN {b : Bool} {A B : Prop} (h : b = false) (x : B) : if b = true then A else B := by
  subst h
  exact iteF x
theorem call_repr_bl : CallR X (.builtin "repr") (fun vs H Q => ∃ b, vs = [.bl b] ∧ Q (.str (if b then "True" else "False")) H) := by
  intro pins s σ H vs us Q I r h
  obtain ⟨b, rfl, q⟩ := h
  obtain ⟨u, rfl, ru⟩ := vals1 r
  cases ru
  exact PySem.P.repr_of_bool ⟨.str _, H, I.tok _, ⟨_, rfl⟩, q⟩
/-- a statement with a word behind it: what follows is shown once -/
def tMid (t u : TS) : TS := fun D σ H => ∃ M : L2.St → Hp → Prop, t { D with nx := M } σ H ∧ ∀ σ' H', M σ' H' → u D σ' H'
theorem pss_mid {st : Stmt} {rest : List Stmt} {t u : TS} (h1 : PS X st t) (h2 : PSs X rest u) : PSs X (st :: rest) (tMid t u) :=
  ⟨fun pins s σ H D I ⟨M, hm, hu⟩ => wpAny_execs_cons (thn (h1.run pins s σ H { D with nx := M } I hm) fun f s1 q => by
    cases f with
    | next =>
      obtain ⟨σ', H', I', q⟩ := q
      exact h2.run pins s1 σ' H' D I' (hu σ' H' q)
    | ret v => exact q
    | brk => exact q
    | cont => exact q)⟩
/-- // by a divisor of either sign, below 2 ^ 9000 -/
def CDivX (_ j : Int) : Prop := j ≠ 0 ∧ j.natAbs.log2 < 9000
theorem op_fdivX : OpR X (binaryOp .FloorDiv) (rI CDivX fun i j => .int (i.fdiv j)) := opI fun i j _ _ _ _ _ hc q =>
  PyProof.Rows.floordiv_int hc.1 q (.inl (PyProof.noPylong_of_log2 hc.2))
theorem cdivX {i j : Int} {n : Nat} (h0 : j ≠ 0) (h : Bt n j) (hn : n ≤ 9000) (hp : 0 < n) : CDivX i j := ⟨h0, Nat.lt_of_lt_of_le (h.log hp) hn⟩
theorem cmulX {i j : Int} {m n : Nat} (h : Bt m i) (k : Bt n j) (hn : m + n ≤ 134217728) : CMulX i j := mulx_ok h k hn
end
end NS

/-! Own exception classes over a built-in base whose __init__ calls that of an own class above it. -/
namespace NS
open PySem L2

/-- refs, then the base's own line -/
def refsTo (bmB : List Value) : List Value → Bool
  | .ref _ :: r => refsTo bmB r
  | l => l == bmB
theorem refsTo_has {bmB : List Value} (Y : String) : ∀ l : List Value, refsTo bmB l = true → l.contains (.type Y) = bmB.contains (.type Y)
  | [], h => by rw [← eq_of_beq (show ([] == bmB) = true from h)]
  | .ref c :: r, h => by
    rw [List.contains_cons, refsTo_has Y r h]
    rfl
  | .none :: r, h => by rw [← eq_of_beq (show (Value.none :: r == bmB) = true from h)]
  | .ellipsis :: r, h => by rw [← eq_of_beq (show (Value.ellipsis :: r == bmB) = true from h)]
  | .notImplemented :: r, h => by rw [← eq_of_beq (show (Value.notImplemented :: r == bmB) = true from h)]
  | .bool b :: r, h => by rw [← eq_of_beq (show (Value.bool b :: r == bmB) = true from h)]
  | .int i t :: r, h => by rw [← eq_of_beq (show (Value.int i t :: r == bmB) = true from h)]
  | .float x t :: r, h => by rw [← eq_of_beq (show (Value.float x t :: r == bmB) = true from h)]
  | .str x t :: r, h => by rw [← eq_of_beq (show (Value.str x t :: r == bmB) = true from h)]
  | .bytes x t :: r, h => by rw [← eq_of_beq (show (Value.bytes x t :: r == bmB) = true from h)]
  | .type n :: r, h => by rw [← eq_of_beq (show (Value.type n :: r == bmB) = true from h)]
  | .builtin n :: r, h => by rw [← eq_of_beq (show (Value.builtin n :: r == bmB) = true from h)]

/-- what the written part says of an own exception class at D over the base B -/
structure ExK (K : PySem.W.Frag) (B newId initId : String) (bmB : List Value) (D : Addr) : Prop where
  F : ExcBaseFacts B newId initId bmB
  cls : ∃ nm q N bs bm sn sub ab col dd k0 k1 k2 k3 k5, K.lookup D = some (excClassObj nm q D N bs bm true sn sub ab col dd k0 k1 k2 k3 k5 newId) ∧ refsTo bmB bm = true
  exC : PySem.W.subIn K (.ref D) (.type "BaseException") = some true
  tyC : PySem.W.typeIn K (.ref D) = some (.type "type")
  kC : PySem.W.keepIn K (.ref D) = true
/-- an own class S whose __init__ is the base's -/
structure ExS (K : PySem.W.Frag) (mg : Str → Option Value) (x : Str) (S : Addr) (initId : String) : Prop where
  g : mg x = some (.ref S)
  rd : PySem.W.readsIn K S (.type "type") = true
  ga : PySem.W.specialIn K (.ref S) "__getattribute__" = some (some (.builtin "type.__getattribute__"))
  at_ : PySem.W.findCls K (.ref S) (.type "type") "__init__" = some (.val (.builtin initId))
  hh : PySem.W.handedIn (.builtin initId) = true

section
variable {X : Cx} {B newId initId : String} {bmB : List Value} {e o : Expr} {es : List Expr} {ta : TA} {p1 p2 pos apos : Pos} {x m : Str} {S D f C : Addr}
/-- S.__init__(self, ..), self an exception that is being made -/
def tBinit (K : PySem.W.Frag) (B newId initId : String) (bmB : List Value) (ta : TA) : TE := fun σ H Q => ta σ H fun vs H1 => ∃ (a D : Addr) (ws : List V), vs = .ref a :: ws ∧ ws.length ≤ 1000 ∧ ExK K B newId initId bmB D ∧ H1 a = some (exo a D none) ∧ Q .non H1
theorem pe_binit {pl : Sem Bool} (T : ExS X.K X.mg x S initId) (ha : PA X (e :: es) ta) (hg : Gl X x)
    (hc : eval (.Call (.Attribute (.Name x p1) "__init__" p2) (e :: es) [] pos) X.env = (do
      let ov ← eval (.Name x p1) X.env
      standAt p2.atName
      let (f, first) ← holding [ov] (getMethod ov "__init__" pl)
      callWith pos f first (backTo pos (starEach (e :: es) X.env)) (backToKw pos (keywordEach [] X.env))) := by rfl)
    (hd : (x == ("__debug__" : Str)) = false := by decide) (he : starEach (e :: es) X.env = (false, eval e X.env) :: starEach es X.env := by rfl) (hpl : (backTo pos (starEach es X.env)).any (·.1) = false := by rfl) :
    PE X (.Call (.Attribute (.Name x p1) "__init__" p2) (e :: es) [] pos) (tBinit X.K B newId initId bmB ta) := by
  refine ⟨fun pins s σ H Q I h => PySem.W.methodCall_KW (ld_glob I hg T.g ?_ hd) hc⟩
  refine PySem.W.method_cls I.kIn T.ga (PySem.W.cls_value I.kIn T.rd T.at_ T.hh ?_)
  show wpAny _ _ (callWith pos (Value.builtin initId) [] (backTo pos (starEach (e :: es) X.env)) []) _ _ _
  refine PyProof.Rows.callWith_method1 (thn (ha.run pos pins _ σ H _ (I.tok _) h) fun us s1 z => ?_) he hpl
  obtain ⟨vs, H1, I1, r1, a, D, ws, rfl, hl, Z, ea, q⟩ := z
  cases r1 with
  | cons ra rw' =>
    cases ra
    rename_i ur
    have hlen : ur.length ≤ sizeLine := by
      rw [← Paired.length rw', sizeLine_eq]
      omega
    obtain ⟨nm, qq, N, bs, bm, sn, sub, ab, col, dd, k0, k1, k2, k3, k5, hC, hbm⟩ := Z.cls
    obtain ⟨t1, ho⟩ := exo_at I1.hok ea
    obtain ⟨hp, g, dr, t, os⟩ := s1
    refine wpAny_call (PySem.HandSPX.init_base Z.F (fun Y => refsTo_has Y bm hbm) (I1.kIn _ _ hC) ho hlen fun h' t2 k hx => ?_)
    have J := I1.write (t' := t) (x := a) (e := a) (o := exo a D none) (by rw [ea]; exact True.intro) (.inl rfl) k ⟨_, hx⟩ (exo_ok hx)
    have eu : upd H1 a (exo a D none) = H1 := by
      funext b
      by_cases hb : b = a
      · rw [hb, upd_same, ea]
      · rw [upd_ne hb]
    rw [eu] at J
    exact ⟨.non, H1, J, rfl, q⟩

/-- D(): an exception without attributes; its __init__ at fI keeps sp -/
def tMk0 (D : Addr) (sp : Sp) : L2.St → Hp → XK → Prop := fun _ H Q => ∀ a, H a = none → sp [.ref a] (upd H a (exo a D none)) (fun v H2 => v = .non ∧ H2 = upd H a (exo a D none) ∧ Q (.ref D) none H) E0
theorem pmk_exc0 {k : Nat} {fI : Addr} {fd : FuncData} {ps : List Str} {sp : Sp} (T : ExK X.K B newId initId bmB D) (iC : PySem.W.findIn X.K (.ref D) "__init__" = some (some (.ref fI))) (tI : PySem.W.typeIn X.K (.ref fI) = some (.type "function"))
    (F1 : FnOk X.prog X.w X.K X.mg X.base CX0 k fI fd ps sp) (hr : Room (k + 1) X.A) (hb : Binds X.K fd ps []) (hg : Gl X x) (hm : X.mg x = some (.ref D)) (hdb : (x == ("__debug__" : Str)) = false := by decide) :
    PMk X (.Call (.Name x p1) [] [] pos) (tMk0 D sp) := by
  intro pins s σ H Q I h
  obtain ⟨nm, qq, N, bs, bm, sn, sub, ab, col, dd, k0, k1, k2, k3, k5, hC, hbm⟩ := T.cls
  refine wpAny_Call_Name_kw (ld_glob I hg hm ?_ hdb)
  refine PySem.W.callWith_K0 I.kIn T.kC ?_
  show wpAny _ _ (call (.ref D) []) _ _ _
  obtain ⟨hp, g, dr, tk, os⟩ := s
  have hsz : hp.objs.size ≤ hp.objs.size + 1 := Nat.le_succ _
  have hn : H (hp.objs.size + 1) = none := I.hok.fresh hsz
  have hq := h (hp.objs.size + 1) hn
  have kk : ∀ b o, hp.get? b = some o → ((hp.push (PySem.W.kdv_tup [])).push (PySem.HandSPX.excO D hp.objs.size)).get? b = some o := fun b o e => Heap.get?_push_of_some _ (Heap.get?_push_of_some _ e)
  have hget : ((hp.push (PySem.W.kdv_tup [])).push (PySem.HandSPX.excO D hp.objs.size)).get? (hp.objs.size + 1) = some (PySem.HandSPX.excO D hp.objs.size) := by heap_get
  have I2 : Inv X pins σ (upd H (hp.objs.size + 1) (exo (hp.objs.size + 1) D none)) ⟨(hp.push (PySem.W.kdv_tup [])).push (PySem.HandSPX.excO D hp.objs.size), g, dr, tk, os⟩ :=
    I.laid (t' := tk) kk hsz (exo_ok hget)
  have hl : ([Value.ref (hp.objs.size + 1)] ++ ([] : List Value)).length = ps.length := by
    rw [← F1.len _ _ _ _ hq]
    rfl
  have hbb := hb _ [Value.ref (hp.objs.size + 1)] I2.kIn hl
  refine wpAny_call (PySem.HandSPX.call_own T.F (fun Y => refsTo_has Y bm hbm) (I.kIn _ _ hC) (PySem.W.looks_findIn I.kIn iC) (fun self => PySem.W.bind_fn I.kIn self tI) (Nat.zero_le _)
    (codeAny_mono (F1.run _ X.stack _ _ ⟨[Value.ref (hp.objs.size + 1)], []⟩ [Value.ref (hp.objs.size + 1)] [V.ref (hp.objs.size + 1)] _ E0 (hr.make D [] []) (I2.env0.make D [] []) hbb (.cons rfl .nil) hq) fun r s' z => ?_))
  match r, z with
  | .ok (.ret u), z =>
    obtain ⟨v, H2, os2, bare2, un2, hok2, rv, rfl, rfl, q2⟩ := z
    cases rv
    obtain ⟨h2, g2, d2, t2, os'⟩ := s'
    obtain ⟨t0, hoe⟩ := exo_at hok2 (upd_same (H := H) (a := hp.objs.size + 1) (o := exo (hp.objs.size + 1) D none))
    refine ⟨rfl, ?_⟩
    obtain ⟨G, g1', g2'⟩ := restrict h2 fun b => decide (b ≠ hp.objs.size + 1)
    have gk : ∀ b, b ≠ hp.objs.size + 1 → G.get? b = h2.get? b := fun b hb => g1' b (decide_eq_true hb)
    have ge : G.get? (hp.objs.size + 1) = none := g2' _ (by simp)
    have nha : ∀ {b : Addr} {o : Obj}, hp.get? b = some o → b ≠ hp.objs.size + 1 := fun {b o} z => Nat.ne_of_lt (Nat.lt_of_lt_of_le (Heap.lt_size z) hsz)
    have U : Un (frs X.stack) [] H H hp G := {
      keep := fun b o z n hf hx => by
        rw [gk b (nha z)]
        exact un2.keep b o (kk b o z) (by rw [upd_ne (nha z)]; exact n) hf hx
      slot := fun b o z n hf hx => by
        rw [gk b (nha z)]
        exact un2.slot b o (kk b o z) (by rw [upd_ne (nha z)]; exact n) hf hx
      free := fun b o z n hx => n
      there := fun b o z hx => by
        rw [gk b (nha z)]
        exact un2.there b o (kk b o z) hx
      tups := fun b xs z => z
      frzs := fun b o v z => z
      tbls := fun b ps z => ⟨#[], by rw [z]; simp⟩ }
    have hok3 : HOk X.prog X.w H G := fun b o z => by
      have hba : b ≠ hp.objs.size + 1 := ne_of_none z hn
      have z2 : upd H (hp.objs.size + 1) (exo (hp.objs.size + 1) D none) b = some o := by
        rw [upd_ne hba]
        exact z
      refine (hok2 b o z2).stay (fun c v hc y => ?_) (fun c hc => ?_) (fun c xs hc => ?_)
      · have hca : c ≠ hp.objs.size + 1 := by
          rcases hc with hc | hc
          · rw [hc]
            exact hba
          · exact at_ne (upd_same (H := H) (a := hp.objs.size + 1) (o := exo (hp.objs.size + 1) D none)) hc exo_own
        rw [gk c hca]
        exact y
      · rw [upd_ne (at_ne (upd_same (H := H) (a := hp.objs.size + 1) (o := exo (hp.objs.size + 1) D none)) hc exo_own)] at hc
        exact hc
      · rw [upd_ne (at_ne (upd_same (H := H) (a := hp.objs.size + 1) (o := exo (hp.objs.size + 1) D none)) hc exo_tup)] at hc
        exact hc
    have J : Inv X pins σ H ⟨G, g2, d2, t2, os'⟩ := I.call' (ch := []) os2 U hok3 bare2 (fun b z => absurd z (by simp))
    refine ⟨hp.objs.size + 1, _, _, ⟨G, g2, d2, t2, os'⟩, H, .ref D, none, rfl, J, fun b o z => ?_, ge, hoe, ⟨rfl, rfl⟩, rfl, rfl, hn, rfl, bare2, raises_own T.exC T.tyC, q2⟩
    by_cases hba : b = hp.objs.size + 1
    · have z' : G.get? b = some o := z
      rw [hba, ge] at z'
      cases z'
    · exact (gk b hba).symm.trans z

/-- isinstance(e, c) in an except suite, e what it holds -/
theorem pe_isE {a : Addr} {oe : Obj} {cls : Value} {d : Option Addr} {pn : List (Addr × Obj)} (Z : ExcC X.K D) (hz : Zc cls d oe) (hf : ∃ vs, oe.data = .fields vs) (hm : X.mg "isinstance" = none) (hv : bootBuiltins "isinstance" = some (.builtin "isinstance"))
    (ha : PA (X.suite a ((a, oe) :: pn)) (e :: es) ta) (hg : Gl (X.suite a ((a, oe) :: pn)) "isinstance" := by rfl)
    (he : starEach (e :: es) X.env = (false, eval e X.env) :: starEach es X.env := by rfl) (hpl : (backTo pos (starEach es X.env)).any (·.1) = false := by rfl) :
    PE (X.suite a ((a, oe) :: pn)) (.Call (.Name "isinstance" p1) (e :: es) [] pos) (fun σ H Q => cls = .ref D ∧ d = none ∧ tCB (rIsE X.K D a) ta σ H Q) :=
  ⟨fun pins s σ H Q I ⟨h1, h2, h⟩ => by
    subst h1 h2
    exact (pe_callB (call_isE Z hz hf) hg hm hv ha (by decide) (by decide) he hpl).run pins s σ H Q I h⟩
/-- o.m(e, ..) where what is raised is wished for at the caller's slots (a try's body) -/
def tMethT (C : Addr) (m : Str) (sp : Sp) (E : L2.St → XK) (to : TE) (t : TA) : TE := fun σ H Q => to σ H fun x H1 => ∃ a dx fs, x = .ref a ∧ H1 a = some (.ins C dx fs) ∧ fs.lookup m = none ∧ t σ H1 fun vs H2 => sp (x :: vs) H2 Q (E σ)
theorem pe_methT {pl : Sem Bool} {CX : CXT} {k : Nat} {fd : FuncData} {ps : List Str} {sp : Sp} {E : L2.St → XK} {to : TE} (he : PE X o to) (c : Cls X.K C) (hm : Meth X.K C m f) (F : FnOk X.prog X.w X.K X.mg X.base CX k f fd ps sp) (hr : Room k X.A) (hb : Binds X.K fd ps [])
    (hx : ∀ σ, PassesAt CX X σ (E σ)) (ha : PA X (e :: es) ta)
    (hst : starEach (e :: es) X.env = (false, eval e X.env) :: starEach es X.env := by rfl) (hpl : (backTo pos (starEach es X.env)).any (·.1) = false := by rfl)
    (ht : eval (.Call (.Attribute o m apos) (e :: es) [] pos) X.env = (do
      let ov ← eval o X.env
      standAt apos.atName
      let (f, first) ← holding [ov] (getMethod ov m pl)
      callWith pos f first (backTo pos (starEach (e :: es) X.env)) (backToKw pos (keywordEach [] X.env))) := by rfl) :
    PE X (.Call (.Attribute o m apos) (e :: es) [] pos) (tMethT C m sp E to ta) := by
  refine ⟨fun pins s σ H Q I h => PySem.W.methodCall_KW (pl := pl) (thn (he.run pins s σ H _ I h) fun u s1 z => ?_) ht⟩
  obtain ⟨x, H1, I1, rx, a, dx, fs, rfl, ea, l, q⟩ := z
  cases rx
  refine getmeth_ok I1 ea c hm l (PySem.W.callWith_K (first := [.ref a]) (h₀ := X.base) I.ok.mod.kin hm.kp (thn (ha.run pos pins s1 σ H1 _ I1 q) fun us s2 z => ?_) hst hpl)
  obtain ⟨vs, H2, I2, rv, q2⟩ := z
  exact ⟨I2.kIn, run_fnS (us := .ref a :: us) (vs := .ref a :: vs) F hr hb (hx σ) I2 (.cons rfl rv) q2⟩
end
end NS

/-! list != list where the items are equal by their own __eq__ -/
namespace NS
open PySem PySem.SeqAt L2
open AutoSeq1 (wpAny_loadPart')
open MeetsSeq MeetsSeq2 MeetsSeq3 SeqRoads2
section
variable {prog : Program} {w : World} {A : Around} {R : Result → Shared → Prop}
theorem neLoop (l b : Addr) (N : Nat) (J : Nat → Shared → Prop) (hJ : GQ.ListI prog w A (fun e t => R (.error e) t) l b N J)
    (done : ∀ t, J N t → R (.ok (.ret (.bool false))) t) : ∀ (k i : Nat), N = i + k → ∀ s, J i s →
      wpAny (model prog w) A.in1 (Builtin.«list.__eq__.loop» ⟨[.ref l, .ref b, rawInt i, rawInt 3], []⟩) (GQ.FinOf prog w A R) (fun e t => R (.error e) t) s
  | 0, i, hk, s, h => by
    obtain ⟨us, vs, n, n2, hu, hv, su, sv, _⟩ := hJ _ _ h
    obtain rfl : i = N := hk.symm
    have hR := done s h
    obtain ⟨hp, g, d, tk, os⟩ := s
    wp_walk using wpAny_loadPart' hu, wpAny_loadPart' hv
    have eu : us[((i : Nat) : Int).toNat]? = none := by simp; omega
    have ev : vs[((i : Nat) : Int).toNat]? = none := by simp; omega
    rw [eu, ev]
    wp_walk using wpAny_loadPart' hu, wpAny_loadPart' hv
    show R (.ok (.ret (.bool (us.size != vs.size)))) _
    rw [su, sv]
    simpa using hR
  | k + 1, i, hk, s, h => by
    obtain ⟨us, vs, n, n2, hu, hv, su, sv, step⟩ := hJ _ _ h
    have lu : i < us.size := by omega
    have lv : i < vs.size := by omega
    have here := step lu lv
    obtain ⟨hp, g, d, tk, os⟩ := s
    wp_walk using wpAny_loadPart' hu, wpAny_loadPart' hv
    have eu : us[((i : Nat) : Int).toNat]? = some us[i] := by simp [lu]
    have ev : vs[((i : Nat) : Int).toNat]? = some vs[i] := by simp [lv]
    have en : ((i : Int) + 1) = ((i + 1 : Nat) : Int) := by omega
    rw [eu, ev]
    refine wpAny_bind (wpAny_mono here (fun r t z => ?_) fun _ _ z => z)
    obtain ⟨rfl, z⟩ := z
    have more := neLoop l b N J hJ done k (i + 1) (by omega) t z
    obtain ⟨hp2, g2, d2, tk2, os2⟩ := t
    wp_walk
    rw [en]
    exact ⟨plainId_quiet plain_eq_loop _, codeAny_builtin entry_eq_loop (by rw [Around.under_plainId plain_eq_loop _]; exact more)⟩
theorem neList (l b : Addr) (N : Nat) (J : Nat → Shared → Prop) (hJ : GQ.ListI prog w A (fun e t => R (.error e) t) l b N J)
    (done : ∀ t, J N t → R (.ok (.ret (.bool false))) t) {s : Shared} (h : J 0 s) :
    wpAny (model prog w) A.in1 (Builtin.«list.__ne__» ⟨[.ref l, .ref b], []⟩) (GQ.FinOf prog w A R) (fun e t => R (.error e) t) s := by
  obtain ⟨us, vs, n, n2, hu, hv, su, sv, _⟩ := hJ _ _ h
  have more := neLoop (A := A) (R := R) l b N J hJ done N 0 (by omega) s h
  obtain ⟨hp, g, d, tk, os⟩ := s
  have isl := AutoSeq1.sub_list_list
  have same : ¬ (us.size != vs.size) = true := by simp [su, sv]
  wp_walk using wpAny_loadPart' hu, wpAny_loadPart' hv
  exact ⟨plainId_quiet plain_eq_loop _, codeAny_builtin entry_eq_loop (by rw [Around.under_plainId plain_eq_loop _]; exact more)⟩
theorem rcNeList {E : Value → Shared → Prop} {s : Shared} {l b : Addr} {N : Nat} {Q : Value → Shared → Prop} (hu : A.units < cLine) (J : Nat → Shared → Prop) (hJ : GQ.ListI prog w A E l b N J)
    (done : ∀ t, J N t → Q (.bool false) t) (h : J 0 s) : wpAny (model prog w) A (richCompare .NotEq (.ref l) (.ref b)) Q E s := by
  obtain ⟨us, vs, n, n2, h1, h2, _⟩ := hJ _ _ h
  refine wpAny_richCompare_same_room (op := .NotEq) ⟨_, h1, rfl⟩ ⟨_, h2, rfl⟩ F.slot_list_ne (GQ.call_here F.slot_list_ne ⟨_, h1, rfl⟩ F.entry_list_ne (F.args_list_ne_2 _ _) ?_) hu
  exact neList (R := wants (fun v t => v ≠ .notImplemented ∧ Q v t) E) l b N J hJ (fun t q => ⟨(fun z => nomatch z), done t q⟩) h
end
section
variable {X : Cx} {n : Nat} {D : Eqv}
/-- a call by Runs, under a name -/
def tCallR (sp : Sp) (t : TA) : TE := fun σ H Q => t σ H fun vs H1 => sp vs H1 Q E0
theorem pe_callD {f : Addr} {sp : Sp} {x : Str} {e : Expr} {es : List Expr} {t : TA} {p pos : Pos} (R : Runs X X.A f sp) (hg : Gl X x) (hm : X.mg x = some (.ref f)) (hk : PySem.W.keepIn X.K (.ref f) = true) (ha : PA X (e :: es) t)
    (hdb : (x == ("__debug__" : Str)) = false := by decide) (he : starEach (e :: es) X.env = (false, eval e X.env) :: starEach es X.env := by rfl) (hpl : (backTo pos (starEach es X.env)).any (·.1) = false := by rfl) :
    PE X (.Call (.Name x p) (e :: es) [] pos) (tCallR sp t) := pe_callR R hg hm hk ha hdb he hpl
/-- x != y, lists whose items are equal by D -/
def rNeL (D : Eqv) : R2 := fun x y H Q => DList D x y H ∧ ∀ H', Ext H H' → Q (.bl false) H'
theorem op_neL (hD : Mon D) (h : EqG X n D) (hr : Room (n + 1) X.A) : OpR X (compareOp .NotEq) (rNeL D) := by
  intro pins s σ H x y v u Q I rx ry hq
  obtain ⟨⟨a, b, xs, ys, rfl, rfl, ha, hb, p⟩, q⟩ := hq
  cases rx
  cases ry
  show wpAny (model X.prog X.w) X.A (richCompare .NotEq (.ref a) (.ref b)) (EP X pins σ Q) X.xe s
  refine rcNeList (N := xs.length) hr.units0 (fun _ t => LoopI X pins σ H t) (fun i t z => ?_) (fun t z => ?_) ⟨H, I, Ext.rfl'⟩
  · obtain ⟨H1, I1, e1⟩ := id z
    obtain ⟨_, us, k1, r1, g1⟩ := I1.hok a _ (e1 _ _ ha)
    obtain ⟨_, vs, k2, r2, g2⟩ := I1.hok b _ (e1 _ _ hb)
    refine ⟨us.toArray, vs.toArray, k1, k2, g1, g2, by rw [List.size_toArray, ← r1.length], by rw [List.size_toArray, ← r2.length, ← p.1], fun l1 l2 => ?_⟩
    exact turnG hD h ⟨hr, rfl⟩ p r1 r2 i l1 l2 t z
  · obtain ⟨H1, I1, e1⟩ := z
    exact ⟨.bl false, H1, I1, rfl, q H1 e1⟩
end
end NS

/-! Rows of texts and numbers, sorted and without zeros: plain. -/
namespace NS
open PySem L2 PySem.Spec PyProof.Rows
def leS (x y : Str) : Prop := ltCps y.cps.toList x.cps.toList = false
theorem leS_iff {x y : Str} : leS x y ↔ x.cps.toList ≤ y.cps.toList := by
  unfold leS
  rw [ltCps_eq, decide_eq_false_iff_not]
  exact List.not_lt
theorem leS_trans {x y z : Str} (h : leS x y) (k : leS y z) : leS x z := leS_iff.mpr (List.le_trans (leS_iff.mp h) (leS_iff.mp k))
theorem leS_anti {x y : Str} (h : leS x y) (k : leS y x) : x = y := by
  have e := List.le_antisymm (leS_iff.mp h) (leS_iff.mp k)
  cases x with
  | mk a =>
    cases y with
    | mk b => exact congrArg Str.mk (Array.toList_inj.mp e)
theorem rising_pw : ∀ (p : Str) (l : List Str), PyProof.Rows.risingS p l = true → (p :: l).Pairwise leS
  | p, [], _ => List.pairwise_singleton _ _
  | p, x :: r, h => by
    have h' : (!ltCps x.cps.toList p.cps.toList && PyProof.Rows.risingS x r) = true := h
    rw [Bool.and_eq_true_iff] at h'
    have h1 : leS p x := by simpa [leS] using h'.1
    have h2 := rising_pw x r h'.2
    refine List.pairwise_cons.mpr ⟨fun y hy => ?_, h2⟩
    rcases List.mem_cons.mp hy with rfl | hy
    · exact h1
    · exact leS_trans h1 (List.rel_of_pairwise_cons h2 hy)
theorem sorted_pw {l : List Str} (h : PyProof.Rows.sortedS l = true) : l.Pairwise leS := by
  cases l with
  | nil => exact List.Pairwise.nil
  | cons x r => exact rising_pw x r h
abbrev Row := List (Str × Int)
/-- the number at k, 0 where none stands -/
def vl (m : Row) (k : Str) : Int := ((m.find? fun p => decide (p.1 = k)).map (·.2)).getD 0
theorem vl_mem {m : Row} (hn : (m.map (·.1)).Nodup) {p : Str × Int} (hp : p ∈ m) : vl m p.1 = p.2 := by
  induction m with
  | nil => cases hp
  | cons q m ih =>
    rw [List.map_cons, List.nodup_cons] at hn
    unfold vl
    rw [List.find?_cons]
    rcases List.mem_cons.mp hp with rfl | hp
    · simp
    · have hne : ¬ q.1 = p.1 := fun e => hn.1 (List.mem_map.mpr ⟨p, hp, e.symm⟩)
      rw [decide_eq_false hne]
      exact ih hn.2 hp
theorem vl_off {m : Row} {k : Str} (h : k ∉ m.map (·.1)) : vl m k = 0 := by
  unfold vl
  rw [List.find?_eq_none.mpr fun p hp => ?_]
  · rfl
  · simp only [decide_eq_true_eq]
    exact fun e => h (List.mem_map.mpr ⟨p, hp, e⟩)
theorem vl_on {m : Row} (hn : (m.map (·.1)).Nodup) {k : Str} (h : vl m k ≠ 0) : (k, vl m k) ∈ m := by
  by_cases hk : k ∈ m.map (·.1)
  · obtain ⟨p, hp, rfl⟩ := List.mem_map.mp hk
    rw [vl_mem hn hp]
    exact hp
  · exact absurd (vl_off hk) h
/-- L: the keys in order, none with 0, the numbers f's -/
structure Canon (L : Row) (f : Str → Int) : Prop where
  so : L.Pairwise fun p q => leS p.1 q.1
  nd : (L.map (·.1)).Nodup
  on : ∀ p, p ∈ L → p.2 = f p.1 ∧ p.2 ≠ 0
  all : ∀ k, f k ≠ 0 → (k, f k) ∈ L
theorem sorted_same : ∀ {l r : Row}, (l.Pairwise fun p q => leS p.1 q.1) → (r.Pairwise fun p q => leS p.1 q.1) → (l.map (·.1)).Nodup → (r.map (·.1)).Nodup → (∀ p, p ∈ l ↔ p ∈ r) → l = r
  | [], [], _, _, _, _, _ => rfl
  | [], q :: r, _, _, _, _, h => absurd ((h q).mpr (.head _)) (by simp)
  | p :: l, [], _, _, _, _, h => absurd ((h p).mp (.head _)) (by simp)
  | p :: l, q :: r, hl, hr, nl, nr, h => by
    rw [List.map_cons, List.nodup_cons] at nl nr
    have e : p = q := by
      rcases List.mem_cons.mp ((h p).mp (.head _)) with e | hp
      · exact e
      · rcases List.mem_cons.mp ((h q).mpr (.head _)) with e | hq
        · exact e.symm
        · have e := leS_anti (List.rel_of_pairwise_cons hl hq) (List.rel_of_pairwise_cons hr hp)
          exact absurd (List.mem_map.mpr ⟨q, hq, e.symm⟩) nl.1
    subst e
    congr 1
    refine sorted_same (List.pairwise_cons.mp hl).2 (List.pairwise_cons.mp hr).2 nl.2 nr.2 fun x => ⟨fun hx => ?_, fun hx => ?_⟩
    · rcases List.mem_cons.mp ((h x).mp (.tail _ hx)) with rfl | hx'
      · exact absurd (List.mem_map.mpr ⟨x, hx, rfl⟩) nl.1
      · exact hx'
    · rcases List.mem_cons.mp ((h x).mpr (.tail _ hx)) with rfl | hx'
      · exact absurd (List.mem_map.mpr ⟨x, hx, rfl⟩) nr.1
      · exact hx'
theorem Canon.same {L R : Row} {f : Str → Int} (hl : Canon L f) (hr : Canon R f) : L = R := by
  refine sorted_same hl.so hr.so hl.nd hr.nd fun p => ⟨fun hp => ?_, fun hp => ?_⟩
  · obtain ⟨e, ne⟩ := hl.on p hp
    have := hr.all p.1 (by rw [← e]; exact ne)
    rw [← e] at this
    exact this
  · obtain ⟨e, ne⟩ := hr.on p hp
    have := hl.all p.1 (by rw [← e]; exact ne)
    rw [← e] at this
    exact this
theorem Canon.vl {L : Row} {f : Str → Int} (h : Canon L f) (k : Str) : vl L k = f k := by
  by_cases hk : f k = 0
  · by_cases hm : k ∈ L.map (·.1)
    · obtain ⟨p, hp, rfl⟩ := List.mem_map.mp hm
      rw [vl_mem h.nd hp, (h.on p hp).1]
    · rw [vl_off hm, hk]
  · exact vl_mem h.nd (h.all k hk)
/-- what is left of m in the order ys -/
def kept (m : Row) (ys : List Str) : Row := (ys.filter fun k => decide (vl m k ≠ 0)).map fun k => (k, vl m k)
theorem canon_kept {m : Row} {ys : List Str} (hn : (m.map (·.1)).Nodup) (hp : ys.Perm (m.map (·.1))) (hs : ys.Pairwise leS) : Canon (kept m ys) (vl m) := by
  have ny : ys.Nodup := hp.nodup_iff.mpr hn
  have em : (kept m ys).map (·.1) = ys.filter fun k => decide (vl m k ≠ 0) := by
    unfold kept
    rw [List.map_map]
    exact List.map_id _
  refine ⟨?_, ?_, fun p hp' => ?_, fun k hk => ?_⟩
  · unfold kept
    rw [List.pairwise_map]
    exact (hs.filter _)
  · rw [em]
    exact ny.filter _
  · obtain ⟨k, hk, rfl⟩ := List.mem_map.mp hp'
    exact ⟨rfl, of_decide_eq_true (List.mem_filter.mp hk).2⟩
  · refine List.mem_map.mpr ⟨k, List.mem_filter.mpr ⟨hp.mem_iff.mpr (List.mem_map.mpr ⟨_, vl_on hn hk, rfl⟩), decide_eq_true hk⟩, rfl⟩
end NS

/-! dicts of numbers compared, with both answers -/
namespace NS
open PySem PySem.Spec PyProof.Rows L2
theorem hits_both {A : Around} {s : Shared} {ls : List (Key × V)} {vb : List (Key × Value)} (rb : KV ls vb) (fl : ∀ k v, valV ls k = some v → flatV v = true) :
    ∀ {ks : List (Key × V)} {va : List (Key × Value)}, KV ks va → (∀ p, p ∈ ks → flatV p.2 = true) → PySem.W.KeqHits A s vb va (ks.all fun p => ((valV ls p.1).map (eqV p.2)).getD false)
  | _, _, .nil, _ => .nil
  | p :: ps, q :: qs, .cons h t, hf => by
    obtain ⟨h1, h2⟩ := h
    obtain ⟨k, v⟩ := q
    have h1' : p.1 = k := h1
    subst h1'
    have rr := rb.val p.1
    rw [List.all_cons]
    cases e : valV ls p.1 with
    | none =>
      rw [e] at rr
      cases hv : valueAt vb p.1 with
      | none => exact .miss hv
      | some y => rw [hv] at rr; cases rr
    | some x =>
      rw [e] at rr
      obtain ⟨y, hy, ry⟩ := rr.some_of
      exact .hit hy (eqAt_V h2 ry (hf p (.head _)) (fl _ _ e)) (hits_both rb fl t fun p' hp' => hf p' (.tail _ hp'))
section
variable {X : Cx}
def sameK (ks ls : List (Key × V)) : Bool := ks.length == ls.length && ks.all fun p => ((valV ls p.1).map (eqV p.2)).getD false
def rEqKK : R2 := fun x y H Q => ∃ a b ks ls, x = .ref a ∧ y = .ref b ∧ H a = some (.dK ks) ∧ H b = some (.dK ls) ∧ (∀ p, p ∈ ks → flatV p.2 = true) ∧ (∀ k v, valV ls k = some v → flatV v = true) ∧ Q (.bl (sameK ks ls)) H
theorem op_eqKK (hu : X.A.units < cLine) : OpR X (compareOp .Eq) rEqKK := by
  intro pins s σ H x y v u Q I rx ry h
  obtain ⟨a, b, ks, ls, rfl, rfl, ea, eb, fk, fl, q⟩ := h
  obtain rfl : v = Value.ref a := rx
  obtain rfl : u = Value.ref b := ry
  obtain ⟨_, ya, va, ra, da⟩ := (show ObjOk X.prog X.w H s.heap a (.dK ks) from I.hok a _ ea)
  obtain ⟨_, yb, vb, rb, db⟩ := (show ObjOk X.prog X.w H s.heap b (.dK ls) from I.hok b _ eb)
  refine PySem.W.keq_eq (knd := mixKind X.prog X.w) ya yb da db hu (fun _ => hits_both rb fl ra fk) (fin_bl I q ?_)
  unfold sameK
  rw [ra.length, rb.length]
end
end NS

/-! len(x) and y in x by own methods -/
namespace NS
open PySem L2
section
variable {X : Cx} {C f : Addr} {sp : Sp}
/-- len(x) by x's own __len__ -/
def rLenO (C : Addr) (sp : Sp) : List V → Hp → VK → Prop := fun xs H Q => ∃ a dx fs, xs = [.ref a] ∧ H a = some (.ins C dx fs) ∧ sp [.ref a] H (fun v H' => ∃ n : Nat, v = .int (n : Int) ∧ n ≤ sizeLine ∧ Q (.int (n : Int)) H') E0
theorem call_lenO (T : OwnStr X.K C "__len__" f) (R : Runs X X.A.in1 f sp) : CallR X (.builtin "len") (rLenO C sp) := by
  intro pins s σ H xs us Q I r h
  obtain ⟨a, dx, fs, rfl, ha, hsp⟩ := h
  obtain ⟨u, rfl, ru⟩ := vals1 r
  cases ru
  obtain ⟨od, J⟩ := inst_at I ha
  obtain ⟨m, hF⟩ := I.fr
  refine PySem.W.len_K hF I.ok.mod.kin J T.at_ T.fn (thn (R pins σ H s [.ref a] [.ref a] _ I (.cons rfl .nil) hsp) fun u' s' z => ?_)
  obtain ⟨v', H', I', r', n, rfl, hn, q'⟩ := z
  obtain ⟨t, rfl⟩ := r'
  have big : sizeLine < 2 ^ 63 := by decide
  exact ⟨⟨by omega, by omega⟩, .int (n : Int), H', I'.tok _, ⟨_, rfl⟩, q'⟩
/-- y in x by x's own __contains__, that answers True or False -/
def rInO (C : Addr) (sp : Sp) : R2 := fun y x H Q => ∃ a dx fs, x = .ref a ∧ H a = some (.ins C dx fs) ∧ sp [x, y] H (fun v H' => ∃ b, v = .bl b ∧ Q (.bl b) H') E0
theorem op_inO (T : OwnStr X.K C "__contains__" f) (R : Runs X X.A f sp) : OpR X (compareOp .In) (rInO C sp) := by
  intro pins s σ H y x v u Q I ry rx h
  obtain ⟨a, dx, fs, rfl, ha, hsp⟩ := h
  cases rx
  obtain ⟨od, J⟩ := inst_at I ha
  obtain ⟨m, hF⟩ := I.fr
  refine PySem.W.in_K hF I.ok.mod.kin J T.at_ T.fn (thn (R pins σ H s [.ref a, y] [.ref a, v] _ I (.cons rfl (.cons ry .nil)) hsp) fun u' s' z => ?_)
  obtain ⟨v', H', I', r', b, rfl, q'⟩ := z
  cases r'
  exact wpAny_truthy_bool ⟨.bl b, H', I', rfl, q'⟩
end
end NS

/-! repr of a dict whose keys and values are texts and ints, by repr(d) and by {d!r} -/
namespace NS
open PySem PySem.Spec PyProof.Rows L2
/-- the text of a plain value -/
inductive FlatT : V → Str → Prop where
  | int {i : Int} (h : i.natAbs.log2 < 1920) : FlatT (.int i) (toString i)
  | str {x : Str} (h : (reprText x).length ≤ sizeLine) : FlatT (.str x) (reprText x)
/-- the texts of a plain dict's entries -/
inductive FlatK : List (Key × V) → List Str → Prop where
  | nil : FlatK [] []
  | cons {k : Key} {v : V} {ks : List (Key × V)} {a b : Str} {ts : List Str} (h : FlatT (kV k) a) (g : FlatT v b) (r : FlatK ks ts) : FlatK ((k, v) :: ks) ((a ++ ": " ++ b) :: ts)
section
variable {X : Cx}
theorem FlatT.is {v : V} {t : Str} {u : Value} (h : FlatT v t) (r : RelV v u) : ReprIs X.prog X.w u t := by
  cases h with
  | int h => obtain ⟨k, rfl⟩ := r; exact ReprIs.int k h
  | str h => obtain ⟨k, rfl⟩ := r; exact ReprIs.str _ k h
theorem entries_of {as : List Addr} {h₀ : Heap} {d : Nat} : ∀ {ks : List (Key × V)} {ts : List Str} {vs : List (Key × Value)} {es : List DictEntry}, FlatK ks ts → KV ks vs → Pairs (mixKind X.prog X.w) es vs → ReprEntriesK X.prog X.w as h₀ d es ts
  | _, _, _, _, .nil, .nil, .nil => .nil
  | _, _, _, _, .cons h g r, .cons p q, .cons e1 e2 e3 => by
    obtain ⟨p1, p2⟩ := p
    refine .cons (.of_is (h.is (X := X) ?_) _ _ _) (.of_is (g.is (X := X) (by rw [e2]; exact p2)) _ _ _) (entries_of r q e3)
    have e1 : keyIs _ _ = true := e1
    rcases keyIs_shape e1 with ⟨i, t, z, e⟩ | ⟨x, t, z, e⟩
    · have p3 := p1.trans z
      dsimp only at p3
      subst p3
      rw [e]
      exact ⟨t, rfl⟩
    · have p3 := p1.trans z
      dsimp only at p3
      subst p3
      rw [e]
      exact ⟨t, rfl⟩
def rRepK : List V → Hp → VK → Prop := fun vs H Q => ∃ a ks ts, vs = [.ref a] ∧ H a = some (.dK ks) ∧ FlatK ks ts ∧ (dictText ts).length ≤ sizeLine ∧ Q (.str (dictText ts)) H
theorem typ_dict {H : Hp} {a : Addr} {ks : List (Key × V)} {pins : List (Addr × Obj)} {σ : L2.St} {s : Shared} (I : Inv X pins σ H s) (ha : H a = some (.dK ks)) : s.TypeIs (.ref a) "dict" := by
  obtain ⟨_, _, vs, _, o, es, ep, e, hx, _⟩ := I.hok _ _ ha
  exact ⟨o, e, hx.1⟩
theorem call_reprK {n : Nat} (hr : Room n X.A) (hg : X.A.guards = some []) : CallR X (.builtin "repr") rRepK := by
  intro pins s σ H vs us Q I r h
  obtain ⟨a, ks, ts, rfl, ha, hT, hz, q⟩ := h
  obtain ⟨u, rfl, ru⟩ := vals1 r
  cases ru
  obtain ⟨_, hs, vs, rv, o, es, ep, e, hx, hd, hk, hp, hn⟩ := I.hok _ _ ha
  refine call_repr_slot (by have := hr.un; omega) (typ_dict I ha) F.slot_dict_repr ?_
  refine call_dict_reprK (as := []) (d := 1) (A := X.A.in1) (g := []) e hx.1 hd hs (by simp) (entries_of hT rv hp) hg (fun b _ => Clear.nil b) (by have := hr.un; show X.A.units + 1 + (1 + 1) < cLine; omega) (fun _ _ z => z) (fun h' u tk hk' => ?_) hz
  exact ⟨_, _, rfl, .str _, H, I.kept hk', ⟨_, rfl⟩, q⟩
/-- {d!r} -/
def tFmtK (te : TE) : TE := fun σ H Q => te σ H fun x H1 => ∃ a ks ts, x = .ref a ∧ H1 a = some (.dK ks) ∧ FlatK ks ts ∧ (dictText ts).length ≤ sizeLine ∧ Q (.str (dictText ts)) H1
theorem pe_fmtK {n : Nat} {e : Expr} {te : TE} {pos : Pos} (hr : Room n X.A) (hg : X.A.guards = some []) (he : PE X e te) : PE X (.FormattedValue e 114 none pos) (tFmtK te) := by
  refine ⟨fun pins s σ H Q I h => ?_⟩
  refine wpAny_FormattedValue_repr (thn (he.run pins s σ H _ I h) fun v s1 hv => ?_)
  obtain ⟨x, H1, I1, r1, a, ks, ts, rfl, ha, hT, hz, q⟩ := hv
  cases r1
  obtain ⟨_, hs, vs, rv, o, es, ep, e, hx, hd, hk, hp, hn⟩ := I1.hok _ _ ha
  refine wpAny_pyReprObj_dictK (as := []) (d := 1) (g := []) e hx.1 hd hs (by simp) (entries_of hT rv hp) hg (fun b _ => Clear.nil b) (by have := hr.un; omega) (fun _ _ z => z) (fun h' u tk hk' => ?_) hz
  have I2 := I1.kept (t' := tk) hk'
  exact wpAny_formatField_str ⟨.str _, H1, I2, ⟨_, rfl⟩, q⟩ ⟨.str _, H1, I2.tok _, ⟨_, rfl⟩, q⟩ hz
end
end NS

/-! lists of plain data compared: they are the same -/
namespace NS
open PySem PySem.Spec PyProof.Rows L2
section
variable {K : PySem.W.Frag} {H : Hp}
theorem dpAll_map {α : Type} {f : α → V} {g : α → PyData} : ∀ {l : List α}, (∀ x, x ∈ l → Dp K H (f x) (g x)) → DpAll K H (l.map f) (l.map g)
  | [], _ => .nil
  | x :: l, h => .cons (h x (.head _)) (dpAll_map fun y hy => h y (.tail _ hy))
theorem dpAll_paired {α β : Type} {F : α → β → Prop} {f : α → V} {g : β → PyData} (h : ∀ x y, F x y → Dp K H (f x) (g y)) : ∀ {l : List α} {r : List β}, Paired F l r → DpAll K H (l.map f) (r.map g)
  | _, _, .nil => .nil
  | _, _, .cons a b => .cons (h _ _ a) (dpAll_paired h b)
theorem lay_all : ∀ {ds : List PyData}, (∀ d, d ∈ ds → d.canLay0 = true) → PyData.canLayAll0 ds = true
  | [], _ => rfl
  | d :: ds, h => by
    rw [PyData.canLayAll0, h d (.head _), lay_all fun e he => h e (.tail _ he)]
    rfl
theorem depth_all {n : Nat} : ∀ {ds : List PyData}, (∀ d, d ∈ ds → d.depth ≤ n) → PyData.depthAll ds ≤ n
  | [], _ => Nat.zero_le _
  | d :: ds, h => by
    rw [PyData.depthAll]
    exact Nat.max_le.mpr ⟨h d (.head _), depth_all fun e he => h e (.tail _ he)⟩
/-- plain data of depth at most n -/
structure Pln (n : Nat) (d : PyData) : Prop where
  lay : d.canLay0 = true
  dep : d.depth ≤ n
theorem Pln.shaped {n : Nat} {d : PyData} (h : Pln n d) (hn : n ≤ 64) : SeqAt.shaped d = true := by
  unfold SeqAt.shaped
  rw [h.lay, decide_eq_true (Nat.le_trans h.dep hn)]
  rfl
theorem pln_list {n : Nat} {ds : List PyData} (h : ∀ d, d ∈ ds → Pln n d) : Pln (n + 1) (.list ds) :=
  ⟨lay_all fun d hd => (h d hd).lay, Nat.succ_le_succ (depth_all fun d hd => (h d hd).dep)⟩
theorem pln_tuple {n : Nat} {ds : List PyData} (h : ∀ d, d ∈ ds → Pln n d) : Pln (n + 1) (.tuple ds) :=
  ⟨lay_all fun d hd => (h d hd).lay, Nat.succ_le_succ (depth_all fun d hd => (h d hd).dep)⟩
theorem pln_int {n : Nat} (i : Int) : Pln n (.int i) := ⟨rfl, Nat.zero_le _⟩
theorem pln_bool {n : Nat} (b : Bool) : Pln n (.bool b) := ⟨rfl, Nat.zero_le _⟩
theorem pln_str {n : Nat} {s : Str} (h : PyData.strOk s = true) : Pln n (.str s) := ⟨h, Nat.zero_le _⟩
theorem Pln.refl {n : Nat} {d : PyData} (h : Pln n d) : PyData.eqv d d = true := SeqAt.eqv_refl d h.lay
/-- x != y where both are the plain data d -/
theorem ne_same {x y : V} {d : PyData} {n : Nat} {Q : VK} (h : Pln n d) (hn : n ≤ 64) (hx : Dp K H x d) (hy : Dp K H y d) (q : Q (.bl false) H) : rNeD K x y H Q :=
  ⟨d, d, hx, hy, h.shaped hn, h.shaped hn, by rw [h.refl]; exact q⟩
theorem eq_same {x y : V} {d : PyData} {n : Nat} {Q : VK} (h : Pln n d) (hn : n ≤ 64) (hx : Dp K H x d) (hy : Dp K H y d) (q : Q (.bl true) H) : rEqD K x y H Q :=
  ⟨d, d, hx, hy, h.shaped hn, h.shaped hn, by rw [h.refl]; exact q⟩
end
section
variable {X : Cx}
theorem hu64 {k : Nat} {A : Around} (r : Room k A) : A.units + 64 < cLine := by have := r.un; omega
end
end NS

/-! walks: d.items() where the keys are tuples; lists or tuples; -/
namespace NS
open PySem PySem.Spec PyProof.Rows L2
section
variable {X : Cx} {pins : List (Addr × Obj)} {σ : L2.St} {H : Hp} {s : Shared} {d : Addr} {o : Obj}
theorem frzTV {kvs : List (List L2.Key × V)} (I : Inv X pins σ H s) (h : H d = some (.frz o (.dT kvs))) : (d == sysModules) = false ∧ ∃ (es : Array DictEntry) (ep : Nat), s.heap.DictRaw d es ep ∧ o.data = .dict es ep ∧ es.size = kvs.length ∧
    ∀ (i : Nat) (k : List L2.Key) (v : V), kvs[i]? = some (k, v) → ∃ (en : DictEntry) (q : Addr), es[i]? = some en ∧ en.key = .ref q ∧ H q = some (.tup (k.map kV)) ∧ RelV v en.val := by
  obtain ⟨hd, z, hs, xs, pr, o', es, ep, ho, hx, hdt, he, hn⟩ := I.hok d _ h
  have eo : o' = o := by
    rw [hd] at ho
    cases ho
    rfl
  subst eo
  have l0 : es.toList.length = (xs.map (entryOfKey (tupleKind (mixKind X.prog X.w)))).length := congrArg List.length he
  rw [List.length_map, Array.length_toList] at l0
  have l2 : kvs.length = xs.length := Paired.length pr
  refine ⟨hs, es, ep, ⟨o', hd, hx, hdt⟩, hdt, by omega, fun i k v e => ?_⟩
  obtain ⟨b, hb, e1, e2, e3⟩ := paired_get pr e
  refine ⟨entryOfKey (tupleKind (mixKind X.prog X.w)) b, b.2.1, ?_, rfl, e2, e3⟩
  have e4 : es.toList[i]? = some (entryOfKey (tupleKind (mixKind X.prog X.w)) b) := by
    rw [he, List.getElem?_map, hb]
    rfl
  rw [← e4]
  simp
end
/-- the pairs of a dict whose keys are tuples, each a new tuple -/
def ItiT (d : Addr) (o : Obj) (kvs : List (List L2.Key × V)) : It where
  go := fun i H => H d = some (.frz o (.dT kvs)) ∧ i < kvs.length
  yld := fun i H x H' => ∃ T q k v, kvs[i]? = some (k, v) ∧ x = .ref T ∧ H T = none ∧ H q = some (.tup (k.map kV)) ∧ H' = upd H T (.tup [.ref q, v])
  stop := fun i H => H d = some (.frz o (.dT kvs)) ∧ kvs.length ≤ i
theorem walk_itemsT {d : Addr} {o : Obj} {kvs : List (List L2.Key × V)} : Walk (ItiT d o kvs) kvs.length (fun H => H d = some (.frz o (.dT kvs)))
    (fun i H x H' => ∃ T q k v, kvs[i]? = some (k, v) ∧ x = .ref T ∧ H T = none ∧ H q = some (.tup (k.map kV)) ∧ H' = upd H T (.tup [.ref q, v])) :=
  ⟨fun _ _ a b => ⟨b, a⟩, fun _ b => ⟨b, Nat.le_refl _⟩, fun _ _ _ _ _ _ z => z⟩
theorem turn_itemsT {P : Program} {w : World} {K : PySem.W.Frag} {d : Addr} {o : Obj} {es : Array DictEntry} {ep : Nat} {kvs : List (List L2.Key × V)} {elts : List Expr} {kk : Nat} {tpos : Pos} (it : Addr) (hod : o.data = .dict es ep) :
    Turn P w K (.Tuple elts kk tpos) (ItiT d o kvs) [it] it (fun i h => ∃ x y, IsItemIter h it d i es.size ep x y) where
  mem := List.mem_singleton.mpr rfl
  obj := fun i h ⟨x, y, st⟩ b hb => by
    rw [List.mem_singleton.mp hb]
    exact ⟨_, st, fun v z => nomatch z⟩
  keep := fun i h h' ⟨x, y, st⟩ k => ⟨x, y, k it (List.mem_singleton.mpr rfl) _ st⟩
  item := by
    intro Y hP hw hK hc i pins s σ H E I hf st hg
    subst hP
    subst hw
    subst hK
    obtain ⟨hd, hi⟩ := hg
    obtain ⟨_, es', ep', raw, hdt, hsz, ent⟩ := frzTV I hd
    have ee := hod.symm.trans hdt
    cases ee
    obtain ⟨x, y, hit⟩ := st
    have hlt : it < s.heap.objs.size := Heap.lt_size hit
    obtain ⟨en, q, g1, g2, g3, g4⟩ := ent i kvs[i].1 kvs[i].2 (List.getElem?_eq_getElem hi)
    have hi' : i < es.size := by omega
    have ei : es[i] = en := by
      rw [Array.getElem?_eq_getElem hi'] at g1
      cases g1
      rfl
    refine wpAny_pyNext_items_item_raw hit raw hi' fun h1 out htup hz hk => ?_
    refine ⟨.ref s.heap.objs.size, rfl, wpAny_letOwnedTupleGo_items (s := { s with heap := h1 }) out fun h2 he2 sb => ?_⟩
    have ht2 : h2.get? s.heap.objs.size = some { cls := .type "tuple", data := .seq #[es[i].key, es[i].val] } := (sb.2 _ (Nat.ne_of_gt hlt)).trans htup
    have new : ObjOk Y.prog Y.w (upd H s.heap.objs.size (.tup [.ref q, kvs[i].2])) h2 s.heap.objs.size (.tup [.ref q, kvs[i].2]) :=
      ⟨by show 2 ≤ sizeLine; decide, [es[i].key, es[i].val], .cons (by rw [ei]; exact g2) (.cons (by rw [ei]; exact g4) .nil), ⟨_, ht2, rfl, 0, rfl⟩⟩
    have I2 : Inv Y pins σ (upd H s.heap.objs.size (.tup [.ref q, kvs[i].2])) { s with heap := h2 } :=
      I.turnedNew (t' := s.toks) (ch := [it]) (fun b ob hb e => (sb.2 b fun z => hb (List.mem_singleton.mpr z)).trans (hk b ob (fun z => hb (List.mem_singleton.mpr z)) e)) hf (Nat.le_refl _) new
    refine ⟨.ref s.heap.objs.size, upd H s.heap.objs.size (.tup [.ref q, kvs[i].2]), I2, rfl, ⟨_, q, kvs[i].1, kvs[i].2, List.getElem?_eq_getElem hi, rfl, I.hok.fresh (Nat.le_refl _), g3, rfl⟩, ⟨_, _, he2⟩, fun b hb => ?_⟩
    rw [List.mem_singleton.mp hb, upd_ne (Nat.ne_of_lt hlt)]
    exact (hf it (List.mem_singleton.mpr rfl)).1
  done := by
    intro Y hP hw hK hc i pins s σ H E I hf st hg
    subst hP
    subst hw
    subst hK
    obtain ⟨hd, hi⟩ := hg
    obtain ⟨_, es', ep', raw, hdt, hsz, ent⟩ := frzTV I hd
    have ee := hod.symm.trans hdt
    cases ee
    obtain ⟨x, y, hit⟩ := st
    obtain ⟨f0, f1, f2, f3, f4, f5⟩ := hf it (List.mem_singleton.mpr rfl)
    exact wpAny_pyNext_items_end_raw (I.ok.hd hc) hit raw (by omega) fun h1 eb => ⟨rfl, I.turned (t' := s.toks) (fun b ob hb e => eb b ob hb e) f0 f1 f3 f4 f5⟩
  self := fun A i s Q E ⟨_, _, st⟩ h => PySem.W.kcp_self st h
def iItemsT (td : TE) : TI := fun σ H R => td σ H fun x H1 => ∃ d o kvs, x = .ref d ∧ H1 d = some (.frz o (.dT kvs)) ∧ R (ItiT d o kvs) H1
section
variable {X : Cx} {tg e : Expr} {td : TE} {apos cpos : Pos}
theorem pi_itemsT {elts : List Expr} {kk : Nat} {tpos : Pos} (he : PE X e td) (hbase : attributeBase e "items" X.env (eval e X.env) = eval e X.env := by rfl) (hline : (apos.endLine == cpos.line) = true := by rfl) :
    PI X (.Tuple elts kk tpos) (.Call (.Attribute e "items" apos) [] [] cpos) (iItemsT td) := by
  refine ⟨fun pins s σ H R I h => ?_⟩
  refine wpAny_Call_method (T := "dict") (id := "dict.items") hbase rfl hline F.plainAttrs_dict F.slot_dict_items F.type_dict_items (thn (he.run pins s σ H _ I h) fun u s1 q1 => ?_)
  obtain ⟨x, H1, I1, rx, d, o, kvs, rfl, hd, q⟩ := q1
  cases rx
  obtain ⟨hs, es, ep, raw, hdt, hsz, ent⟩ := frzTV I1 hd
  have nod : ∀ b, Value.ref d = .ref b → ∃ ob, s1.heap.get? b = some ob ∧ ob.dict = none := fun b z => by
    cases z
    obtain ⟨o', ho, hx, _⟩ := raw
    exact ⟨o', ho, hx.2.1⟩
  refine ⟨raw.typeIs, nod, ?_⟩
  have I2 : Inv X pins σ H1 { s1 with heap := s1.heap.push { cls := .type "dict_items", data := .fields #[.ref d] } } := I1.kept (t' := s1.toks) fun b ob z => Heap.get?_push_of_some _ z
  have fin : wpAny (model X.prog X.w) X.A (pyIter (.ref s1.heap.objs.size)) (PIE X pins σ (.Tuple elts kk tpos) R) X.xe { s1 with heap := s1.heap.push { cls := .type "dict_items", data := .fields #[.ref d] } } := by
    refine wpAny_pyIter_items_raw (d := d) (es := es) (ep := ep) ⟨_, Heap.get?_push_size _ rfl, rfl, rfl⟩ (raw.at fun o' z => Heap.get?_push_of_some _ z) (pi_one (tk := s1.toks) I2 _ (turn_itemsT _ hdt) ⟨.none, .none, ?_⟩ q)
    exact Heap.get?_push_size _ rfl
  show wpAny _ _ (callWith cpos (.builtin "dict.items") [.ref d] [] []) _ X.xe s1
  exact method_meetsIn F.slot_dict_items F.entry_dict_items rfl (PySem.evalArgs_none ⟨rfl, raw.typeIs, F.args_dict_items_1 _, _, meets_dict_items_raw d hs, ⟨es, ep, raw⟩, fin⟩)
/-- a list or a tuple -/
def iSeq (K : PySem.W.Frag) (tl : TE) : TI := fun σ H R => tl σ H fun x H1 => ∃ a, x = .ref a ∧ (((∃ xs, SqL K H1 a xs) ∧ R (Itl K a) H1) ∨ ((∃ xs, SqT K H1 a xs) ∧ R (Itt K a) H1))
theorem pi_seq {l : Expr} {tl : TE} (hl : PE X l tl) : PI X tg l (iSeq X.K tl) := by
  refine ⟨fun pins s σ H R I h => thn (hl.run pins s σ H _ I h) fun v s1 z => ?_⟩
  obtain ⟨x, H1, I1, r1, a, rfl, q⟩ := z
  cases r1
  have fp : ∀ b ∈ [s1.heap.objs.size], FpOk X pins H1 b := fun b hb => by
    rw [List.mem_singleton.mp hb]
    exact I1.fpOk (Nat.le_refl _) (I1.hok.fresh (Nat.le_refl _))
  rcases q with ⟨⟨xs, hq⟩, q⟩ | ⟨⟨xs, hq⟩, q⟩
  · obtain ⟨its, rv, pl, hz⟩ := I1.list hq
    exact wpAny_pyIter_list pl.isList ⟨_, [s1.heap.objs.size], _, Itl X.K a, H1, rfl, I1.kept (t' := s1.toks) fun b ob e => Heap.get?_push_of_some _ e, turn_list a _, ⟨_, Heap.get?_push_size _ rfl, rfl, rfl⟩, fp, q⟩
  · obtain ⟨its, rv, pl, hz⟩ := I1.tuple hq
    exact wpAny_pyIter_tuple (show s1.heap.IsTuple a its.toArray from pl) ⟨_, [s1.heap.objs.size], _, Itt X.K a, H1, rfl, I1.kept (t' := s1.toks) fun b ob e => Heap.get?_push_of_some _ e, turn_tuple a _, ⟨_, Heap.get?_push_size _ rfl, rfl, rfl⟩, fp, q⟩
end
end NS

/-! enumerate of a list or a tuple -/
namespace NS
open PySem PySem.Spec PyProof.Rows L2
open AutoSeq1 (wpAny_loadPart')
theorem new_enumT (l : Addr) (items : Array Value) (n : Nat) (dct : Option Addr) (sl : Array (Option Value)) :
    Meets (Builtin.«enumerate.__new__» ⟨[.type "enumerate", .ref l], []⟩) (fun _ R s => s.heap.get? l = some { cls := .type "tuple", dict := dct, data := .seq items n, slots := sl } ∧
      R (.ok (.ret (.ref (s.heap.push { cls := .type "tuple_iterator", data := .fields #[.ref l, .int 0 0] }).objs.size)))
        { s with heap := (s.heap.push { cls := .type "tuple_iterator", data := .fields #[.ref l, .int 0 0] }).push { cls := .type "enumerate", data := .fields #[.none, .bool false, .ref s.heap.objs.size, rawInt 0, .none, .none] } }) :=
  .of_wp fun prog w A R s h => by
    obtain ⟨hp, g, d, tk, os⟩ := s
    obtain ⟨hl, h⟩ := h
    have hsub := sub_enumerate
    have hT : Heap.IsTuple (Shared.heap ⟨hp, g, d, tk, os⟩) l items := ⟨_, hl, rfl, n, rfl⟩
    wp_walk using wpAny_loadPart' hl
    refine wpAny_stack_any fun st => wpAny_pure ?_
    split
    · rename_i c _ _ _ _ _
      cases (c == Value.type "enumerate") <;> (wp_walk using wpAny_loadPart' hl, wpAny_pyIter_tuple hT; exact ⟨_, rfl, h⟩)
    · wp_walk using wpAny_loadPart' hl, wpAny_pyIter_tuple hT
      exact ⟨_, rfl, h⟩
section
variable {prog : Program} {w : World} {A : Around} {E : Value → Shared → Prop} {s : Shared}
theorem call_enumT {l : Addr} {items : Array Value} {Q : Value → Shared → Prop} (hT : s.heap.IsTuple l items)
    (h : ∀ h', IsEnum h' (s.heap.objs.size + 1) s.heap.objs.size 0 .none → h'.IsTupleIter s.heap.objs.size l 0 → (∀ b o, s.heap.get? b = some o → h'.get? b = some o) → Q (.ref (s.heap.objs.size + 1)) { s with heap := h' }) :
    wpAny (model prog w) A (call (.type "enumerate") [.ref l]) Q E s := by
  obtain ⟨⟨c, dct, dt, sl⟩, hl, hc, n, hd⟩ := hT
  obtain rfl : c = .type "tuple" := hc
  obtain rfl : dt = .seq items n := hd
  refine callType_new F.called_enumerate (by decide) (F.typeCall_enumerate_1 _) (F.newCall_enumerate_1 _) (fun obj => F.args_object_init_2 obj _) F.entry_enumerate_new (new_enumT l items n dct sl) ⟨hl, ?_⟩
  have hz : (s.heap.push { cls := .type "tuple_iterator", data := .fields #[.ref l, .int 0 0] }).objs.size = s.heap.objs.size + 1 := Heap.size_push ..
  show _ ∧ _
  rw [hz]
  have he : IsEnum ((s.heap.push { cls := .type "tuple_iterator", data := .fields #[.ref l, .int 0 0] }).push { cls := .type "enumerate", data := .fields #[.none, .bool false, .ref s.heap.objs.size, rawInt 0, .none, .none] }) (s.heap.objs.size + 1) s.heap.objs.size 0 .none := by
    have z := Heap.get?_push_size (s.heap.push { cls := .type "tuple_iterator", data := .fields #[.ref l, .int 0 0] }) (o := { cls := .type "enumerate", data := .fields #[.none, .bool false, .ref s.heap.objs.size, rawInt 0, .none, .none] }) rfl
    rw [hz] at z
    exact z
  exact ⟨⟨_, he, rfl⟩, h _ he ⟨_, Heap.get?_push_of_some _ (Heap.get?_push_size _ rfl), rfl, rfl⟩ fun b o z => Heap.get?_push_of_some _ (Heap.get?_push_of_some _ z)⟩
end
/-- the tuple at a, each item in a new pair -/
def IteT (K : PySem.W.Frag) (a : Addr) : It where
  go := fun i H => ∃ (xs : List V) (x : V), SqT K H a xs ∧ xs[i]? = some x
  yld := fun i H v H' => ∃ T x, v = .ref T ∧ H T = none ∧ H' = upd H T (.tup [.int (i : Nat), x]) ∧ ∀ xs, SqT K H a xs → xs[i]? = some x
  stop := fun i H => ∃ xs : List V, SqT K H a xs ∧ xs.length = i
theorem walk_enumT {K : PySem.W.Frag} {a : Addr} {xs : List V} : Walk (IteT K a) xs.length (fun H => SqT K H a xs) (YPair (fun i => some (.int (i : Nat))) (fun i => xs[i]?)) := by
  refine ⟨fun i _ hi q => ⟨xs, xs[i], q, List.getElem?_eq_getElem hi⟩, fun _ q => ⟨xs, q, rfl⟩, fun i H v H' _ q y => ?_⟩
  obtain ⟨T, x, h1, h2, h3, h4⟩ := y
  exact ⟨T, _, x, h1, h2, h3, rfl, h4 xs q⟩
theorem turn_enumT {P : Program} {w : World} {K : PySem.W.Frag} {elts : List Expr} {kk : Nat} {tpos : Pos} (a e it : Addr) (hne : e ≠ it) (hae : a ≠ e) (hai : a ≠ it) :
    Turn P w K (.Tuple elts kk tpos) (IteT K a) [e, it] e (fun i h => (∃ old, IsEnum h e it ((i : Nat) : Int) old) ∧ h.IsTupleIter it a i) where
  mem := List.mem_cons_self ..
  obj := fun i h ⟨⟨old, he⟩, hi⟩ b hb => by
    rcases List.mem_cons.mp hb with z | z
    · rw [z]
      exact ⟨_, he, fun v q => nomatch q⟩
    · rw [List.mem_singleton.mp z]
      obtain ⟨o, ho, hc, hd⟩ := hi
      exact ⟨o, ho, fun v q => by rw [hd] at q; cases q⟩
  keep := fun i h h' ⟨⟨old, he⟩, hi⟩ k => ⟨⟨old, k e (List.mem_cons_self ..) _ he⟩, hi.at fun o q => k it (List.mem_cons_of_mem _ (List.mem_cons_self ..)) o q⟩
  item := by
    intro Y hP hw hK hc i pins s σ H E I hf st hg
    subst hP
    subst hw
    subst hK
    obtain ⟨⟨old, he⟩, hit⟩ := st
    obtain ⟨xs, x, hq, hx⟩ := hg
    obtain ⟨its, rv, pt, hz⟩ := I.tuple hq
    obtain ⟨u, hu, ru⟩ := rv.get hx
    have hel : e < s.heap.objs.size := Heap.lt_size he
    have hil : it < s.heap.objs.size := by
      obtain ⟨_, q, _⟩ := hit
      exact Heap.lt_size q
    have hiL : i < its.toArray.size := by
      rw [List.size_toArray]
      exact (List.getElem?_eq_some_iff.mp hu).1
    refine wpAny_pyNext_enum_itemD (Draws.tuple (A := Y.A.in1) (show Y.A.in1.handled = none from I.ok.hd hc) it a hai its.toArray) he ⟨hit, pt⟩ hiL hne (by simp [hne, Ne.symm hae]) fun y h1 tk hy out st1 htup hz1 hk => ?_
    have ey : y = u := by
      have hy' : its.toArray[i]? = some y := hy
      rw [List.getElem?_toArray, hu] at hy'
      cases hy'
      rfl
    subst ey
    refine ⟨.ref s.heap.objs.size, rfl, wpAny_letOwnedTupleGo_enum (s := { s with heap := h1, toks := tk + 1 }) out fun h2 he2 sb => ?_⟩
    have ht2 : h2.get? s.heap.objs.size = some { cls := .type "tuple", data := .seq #[.int i tk, y] } := (sb.2 _ (Nat.ne_of_gt hel)).trans htup
    have new : ObjOk Y.prog Y.w (upd H s.heap.objs.size (.tup [.int (i : Nat), x])) h2 s.heap.objs.size (.tup [.int (i : Nat), x]) :=
      ⟨by show 2 ≤ sizeLine; decide, [.int i tk, y], .cons ⟨_, rfl⟩ (.cons ru .nil), ⟨_, ht2, rfl, 0, rfl⟩⟩
    have I2 : Inv Y pins σ (upd H s.heap.objs.size (.tup [.int (i : Nat), x])) { s with heap := h2, toks := tk + 1 } :=
      I.turnedNew (ch := [e, it]) (fun b ob hb q => (sb.2 b fun z => hb (by rw [z]; exact List.mem_cons_self ..)).trans (hk b ob (fun z => hb (by rw [z]; exact List.mem_cons_self ..)) (fun z => hb (by rw [z]; exact List.mem_cons_of_mem _ (List.mem_cons_self ..))) q)) hf (Nat.le_refl _) new
    refine ⟨.ref s.heap.objs.size, upd H s.heap.objs.size (.tup [.int (i : Nat), x]), I2, rfl, ⟨_, x, rfl, I.hok.fresh (Nat.le_refl _), rfl, fun ys hy' => by rw [I.tuple_inj hy' hq]; exact hx⟩, ⟨⟨y, ?_⟩, st1.1.at fun o q => (sb.2 it (Ne.symm hne)).trans q⟩, fun b hb => ?_⟩
    · have e1 : ((i + 1 : Nat) : Int) = (i : Int) + 1 := by omega
      rw [e1]
      exact he2
    · have hb' : b < s.heap.objs.size := by
        rcases List.mem_cons.mp hb with z | z
        · rw [z]
          exact hel
        · rw [List.mem_singleton.mp z]
          exact hil
      rw [upd_ne (Nat.ne_of_lt hb')]
      exact (hf b hb).1
  done := by
    intro Y hP hw hK hc i pins s σ H E I hf st hg
    subst hP
    subst hw
    subst hK
    obtain ⟨⟨old, he⟩, hit⟩ := st
    obtain ⟨xs, hq, hx⟩ := hg
    obtain ⟨its, rv, pt, hz⟩ := I.tuple hq
    obtain ⟨f0, f1, f2, f3, f4, f5⟩ := hf it (List.mem_cons_of_mem _ (List.mem_cons_self ..))
    have hn : i = its.toArray.size := by rw [List.size_toArray, ← rv.length, hx]
    subst hn
    exact wpAny_pyNext_enum_endD (Draws.tuple (A := Y.A.in1) (show Y.A.in1.handled = none from I.ok.hd hc) it a hai its.toArray) he ⟨hit, pt⟩ fun h1 eb => ⟨rfl, I.turned (t' := s.toks) (fun b o hb q => eb b o hb q) f0 f1 f3 f4 f5⟩
  self := fun A i s Q E ⟨⟨_, he⟩, _⟩ h => wpAny_pyIter_enum he h
def iEnumA (K : PySem.W.Frag) (ta : TA) : TI := fun σ H R => ta σ H fun vs H1 => ∃ a xs, vs = [.ref a] ∧ ((SqL K H1 a xs ∧ R (Ite K a) H1) ∨ (SqT K H1 a xs ∧ R (IteT K a) H1))
theorem pi_enumA {X : Cx} {e : Expr} {ta : TA} {p pos tpos : Pos} {elts : List Expr} {kk : Nat} (hg : Gl X "enumerate") (hm : X.mg "enumerate" = none) (ha : PA X [e] ta) (hs : starEach [e] X.env = [(false, eval e X.env)] := by rfl) :
    PI X (.Tuple elts kk tpos) (.Call (.Name "enumerate" p) [e] [] pos) (iEnumA X.K ta) := by
  refine ⟨fun pins s σ H R I h => ?_⟩
  refine Call_ (ld_blt I hg hm boot_enumerate (PyProof.Rows.callWith_type1 (thn (ha.run pos pins s σ H _ I h) fun us s1 z => ?_) hs rfl))
  obtain ⟨vs, H1, I1, r1, a, xs, rfl, q⟩ := z
  obtain ⟨u, rfl, ru⟩ := vals1 r1
  cases ru
  have fp : ∀ b ∈ [s1.heap.objs.size + 1, s1.heap.objs.size], FpOk X pins H1 b := fun b hb => by
    have hle : s1.heap.objs.size ≤ b := by
      rcases List.mem_cons.mp hb with z | z
      · omega
      · rw [List.mem_singleton.mp z]
        exact Nat.le_refl _
    exact I1.fpOk hle (I1.hok.fresh hle)
  rcases q with ⟨hq, q⟩ | ⟨hq, q⟩
  · obtain ⟨its, rv, pl, hz⟩ := I1.list hq
    refine call_enumerate_list pl.isList fun h1 he hit hsz hk => wpAny_pyIter_enum he ?_
    exact ⟨s1.heap.objs.size + 1, [s1.heap.objs.size + 1, s1.heap.objs.size], _, Ite X.K a, H1, rfl, I1.kept (t' := s1.toks) hk, turn_enum a (s1.heap.objs.size + 1) s1.heap.objs.size, ⟨⟨.none, he⟩, hit, Nat.succ_ne_self _⟩, fp, q⟩
  · obtain ⟨its, rv, pt, hz⟩ := I1.tuple hq
    have hlt : a < s1.heap.objs.size := pt.lt
    refine call_enumT (show s1.heap.IsTuple a its.toArray from pt) fun h1 he hit hk => wpAny_pyIter_enum he ?_
    exact ⟨s1.heap.objs.size + 1, [s1.heap.objs.size + 1, s1.heap.objs.size], _, IteT X.K a, H1, rfl, I1.kept (t' := s1.toks) hk, turn_enumT a (s1.heap.objs.size + 1) s1.heap.objs.size (Nat.succ_ne_self _) (Nat.ne_of_lt (Nat.lt_succ_of_lt hlt)) (Nat.ne_of_lt hlt), ⟨⟨.none, he⟩, hit⟩, fp, q⟩
end NS

/-! dict(list of pairs) where the keys are tuples, all unlike -/
namespace NS
open PySem PySem.Spec PyProof.Rows L2
/-- the tuple at p holds the tuple at t.1 (of t.2.1) and t.2.2 -/
def PairT (K : PySem.W.Frag) (H : Hp) (p : Addr) (t : Addr × List L2.Key × V) : Prop := SqT K H p [.ref t.1, t.2.2] ∧ H t.1 = some (.tup (t.2.1.map kV))
theorem stored_new {κ : Type} [DecidableEq κ] : ∀ (xs acc : List (κ × Addr × Value)), ((acc ++ xs).map (·.1)).Nodup → storedAllH acc xs = acc ++ xs
  | [], acc, _ => (List.append_nil acc).symm
  | x :: xs, acc, h => by
    have hx : x.1 ∉ acc.map (·.1) := by
      rw [List.map_append, List.map_cons, List.nodup_append] at h
      exact fun z => h.2.2 _ z _ (.head _) rfl
    have ha : atKey acc x.1 = none := by
      cases z : atKey acc x.1 with
      | none => rfl
      | some y =>
        unfold atKey at z
        obtain ⟨w, hw, _⟩ := Option.map_eq_some_iff.mp z
        have h1 := List.mem_of_find?_eq_some hw
        have h2 := List.find?_some hw
        exact absurd (List.mem_map.mpr ⟨w, h1, of_decide_eq_true h2⟩) hx
    show storedAllH (storedH acc x.1 x.2.1 x.2.2) xs = _
    rw [storedH_new ha, stored_new xs (acc ++ [(x.1, x.2.1, x.2.2)]) (by rw [List.append_assoc]; exact h), List.append_assoc]
    rfl
section
variable {X : Cx} {pins : List (Addr × Obj)} {σ : L2.St} {H : Hp} {s : Shared}
theorem pairs_ofT (I : Inv X pins σ H s) : ∀ {ps : List Addr} {ts : List (Addr × List L2.Key × V)}, Paired (PairT X.K H) ps ts →
    ∃ zs : List ((List L2.Key × Addr × Value)), Paired (fun (t : Addr × List L2.Key × V) (z : List L2.Key × Addr × Value) => t.2.1 = z.1 ∧ t.1 = z.2.1 ∧ RelV t.2.2 z.2.2) ts zs ∧ Paired (fun (p : Addr) (z : List L2.Key × Addr × Value) => s.heap.IsTuple p #[.ref z.2.1, z.2.2]) ps zs
  | _, _, .nil => ⟨[], .nil, .nil⟩
  | _, _, .cons (a := p) (b := t) h r => by
    obtain ⟨zs, h1, h2⟩ := pairs_ofT I r
    obtain ⟨its, rv, ht, _⟩ := I.tuple h.1
    obtain ⟨u, y, ei, ru, ry⟩ := vals2 rv
    subst ei
    cases ru
    exact ⟨(t.2.1, t.1, y) :: zs, .cons ⟨rfl, rfl, ry⟩ h1, .cons ht h2⟩
theorem call_dictPT (hcalm : X.calm = true) (hu : X.A.units + 2 < cLine) : CallR X (.type "dict") (fun xs H Q => ∃ (a : Addr) (ps : List Addr) (ts : List (Addr × List L2.Key × V)), xs = [.ref a] ∧ SqL X.K H a (ps.map V.ref) ∧ Paired (PairT X.K H) ps ts ∧ (ts.map (·.2.1)).Nodup ∧
    ∀ p, H p = none → Q (.ref p) (upd H p (.dT (ts.map (·.2))))) := by
  intro pins s σ H xs us Q I r q
  obtain ⟨a, ps, ts, rfl, hq, hp, hn, q⟩ := q
  obtain ⟨u, rfl, rx⟩ := vals1 r
  cases rx
  obtain ⟨its, rv, pl, hz⟩ := I.list hq
  obtain rfl := refs_at rv
  rw [List.length_map] at hz
  obtain ⟨zs, z1, z2⟩ := pairs_ofT I hp
  obtain ⟨o, n, ho, hc, hd, hdat⟩ := pl
  have lp : ps.length = ts.length := Paired.length hp
  have lz : ts.length = zs.length := Paired.length z1
  have keyIsz : ∀ z, z ∈ zs → (tupleKind (mixKind X.prog X.w)).is s.heap z.1 z.2.1 := fun z hz => by
    obtain ⟨i, hi, ei⟩ := List.getElem_of_mem hz
    have hp' : ∀ {l : List (Addr × List L2.Key × V)} {m : List (List L2.Key × Addr × Value)}, Paired (fun (t : Addr × List L2.Key × V) (z : List L2.Key × Addr × Value) => t.2.1 = z.1 ∧ t.1 = z.2.1 ∧ RelV t.2.2 z.2.2) l m → (∀ t, t ∈ l → H t.1 = some (.tup (t.2.1.map kV))) → ∀ z, z ∈ m → (tupleKind (mixKind X.prog X.w)).is s.heap z.1 z.2.1 := by
      intro l m hh
      induction hh with
      | nil => intro _ z hz; cases hz
      | cons x y ih =>
        intro hl z hz
        rcases List.mem_cons.mp hz with e | hz
        · subst e
          have := hl _ (.head _)
          rw [x.2.1, x.1] at this
          exact key_of I.hok this
        · exact ih (fun t ht => hl t (.tail _ ht)) z hz
    refine hp' z1 (fun t ht => ?_) z hz
    have : ∀ {l : List Addr} {m : List (Addr × List L2.Key × V)}, Paired (PairT X.K H) l m → ∀ t, t ∈ m → H t.1 = some (.tup (t.2.1.map kV)) := by
      intro l m hh
      induction hh with
      | nil => intro t ht; cases ht
      | cons x y ih =>
        intro t ht
        rcases List.mem_cons.mp ht with e | ht
        · subst e
          exact x.2
        · exact ih t ht
    exact this hp t ht
  have ez : zs.map (·.1) = ts.map (·.2.1) := by
    clear q hn hp lz lp keyIsz z2 hq hz rv hdat
    induction z1 with
    | nil => rfl
    | cons x y ih => rw [List.map_cons, List.map_cons, ih, x.1]
  have st := stored_new zs [] (by rw [List.nil_append, ez]; exact hn)
  rw [List.nil_append] at st
  have okA : PlainSeq "list" s.heap a (ps.map Value.ref).toArray ∧ PairItems s.heap (ps.map Value.ref).toArray (fun j => ps.getD j 0) (zs.map fun z => (Value.ref z.2.1, z.2.2)) := by
    refine ⟨⟨o, n, ho, hc, hd, hdat⟩, by simp [lp, lz], fun j k v e => ?_⟩
    rw [List.getElem?_map] at e
    obtain ⟨z, hz', e⟩ := Option.map_eq_some_iff.mp e
    cases e
    have hj : j < ps.length := by
      have := (List.getElem?_eq_some_iff.mp hz').1
      omega
    obtain ⟨z', e1, e2⟩ := paired_get z2 (List.getElem?_eq_getElem hj)
    rw [hz'] at e1
    cases e1
    have eg : ps.getD j 0 = ps[j] := by simp [List.getD, List.getElem?_eq_getElem hj]
    refine ⟨by simp [List.getElem?_eq_getElem hj], ?_⟩
    show PairAt s.heap (ps.getD j 0) _ _
    rw [eg]
    exact .inl e2
  refine call_dict_pairsH (knd := tupleKind (mixKind X.prog X.w)) (ps := zs) (PairArg.list a (ps.map Value.ref).toArray (fun j => ps.getD j 0) (zs.map fun z => (Value.ref z.2.1, z.2.2))) (I.ok.hd hcalm) (show X.A.units + 1 + 1 < cLine from hu) okA ⟨by simp, fun i key v e => ?_⟩ (fun h1 hk z hz => ?_) (by simp; omega) fun h1 tk hd1 hk => ?_
  · have e' : (zs.map fun z => (Value.ref z.2.1, z.2.2))[i]? = some (key, v) := e
    rw [List.getElem?_map] at e'
    obtain ⟨z, hz', e'⟩ := Option.map_eq_some_iff.mp e'
    cases e'
    exact ⟨z.1, z.2.1, hz', rfl⟩
  · obtain ⟨ob, items, m, h2, h3, h4, h5⟩ := keyIsz z hz
    exact ⟨ob, items, m, hk _ _ (Nat.ne_of_lt (Heap.lt_size h2)) (by simp) h2, h3, h4, h5⟩
  · rw [st] at hd1
    obtain ⟨ob, es, ep, h2, h3, h4, h5, h6, h7⟩ := hd1
    have hm : (s.heap.objs.size == sysModules) = false := beq_eq_false_iff_ne.mpr (Nat.ne_of_gt I.big)
    have new : ObjOk X.prog X.w (upd H s.heap.objs.size (.dT (ts.map (·.2)))) h1 s.heap.objs.size (.dT (ts.map (·.2))) := by
      refine ⟨by rw [List.length_map]; omega, hm, zs, ?_, ob, es, ep, h2, h3, h4, h5, h7⟩
      have : ∀ {l : List Addr} {m : List (Addr × List L2.Key × V)} {z : List (List L2.Key × Addr × Value)}, Paired (PairT X.K H) l m → Paired (fun (t : Addr × List L2.Key × V) (z : List L2.Key × Addr × Value) => t.2.1 = z.1 ∧ t.1 = z.2.1 ∧ RelV t.2.2 z.2.2) m z →
          Paired (fun (p : List L2.Key × V) (q : List L2.Key × Addr × Value) => p.1 = q.1 ∧ upd H s.heap.objs.size (.dT (ts.map (·.2))) q.2.1 = some (.tup (p.1.map kV)) ∧ RelV p.2 q.2.2) (m.map (·.2)) z := by
        intro l m z hh kk
        induction hh generalizing z with
        | nil => cases kk; exact .nil
        | cons x y ih =>
          cases kk with
          | cons a b =>
            refine .cons ⟨a.1, ?_, a.2.2⟩ (ih b)
            rw [← a.2.1, upd_ne fun e => ?_]
            · exact x.2
            · have := x.2
              rw [e, I.hok.fresh (Nat.le_refl _)] at this
              cases this
      exact this hp z1
    exact ⟨.ref s.heap.objs.size, upd H s.heap.objs.size (.dT (ts.map (·.2))), I.laid (t' := tk) (fun b ob e => hk b ob (by simp) e) (Nat.le_refl _) new, rfl, q _ (I.hok.fresh (Nat.le_refl _))⟩
end
end NS

/-! orders: plain -/
namespace NS
open PySem
section
variable {α : Type} [DecidableEq α]
def lexG (lt : α → α → Bool) : List α → List α → Bool
  | [], [] => false
  | [], _ :: _ => true
  | _ :: _, [] => false
  | x :: xs, y :: ys => if x = y then lexG lt xs ys else lt x y
/-- a strict order in which any two unlike ones compare -/
structure Tot (lt : α → α → Bool) : Prop where
  irr : ∀ x, lt x x = false
  tr : ∀ x y z, lt x y = true → lt y z = true → lt x z = true
  tot : ∀ x y, x ≠ y → lt x y = false → lt y x = true
theorem Tot.asym {lt : α → α → Bool} (T : Tot lt) {x y : α} (h : lt x y = true) : lt y x = false := by
  cases e : lt y x with
  | false => rfl
  | true =>
    have := T.tr x y x h e
    rw [T.irr] at this
    cases this
theorem Tot.anti {lt : α → α → Bool} (T : Tot lt) {x y : α} (h : lt x y = false) (k : lt y x = false) : x = y := by
  by_cases e : x = y
  · exact e
  · have := T.tot x y e h
    rw [k] at this
    cases this
theorem Tot.swo {lt : α → α → Bool} (T : Tot lt) {β : Type} (k : β → α) : SrtO.Swo fun v u => lt (k v) (k u) := by
  refine ⟨fun x y h => T.asym h, fun x y z h1 h2 => ?_⟩
  cases e : lt (k z) (k x) with
  | false => rfl
  | true =>
    by_cases exy : k x = k y
    · rw [exy, h2] at e
      cases e
    · have h3 := T.tot (k y) (k x) (fun z => exy z.symm) h1
      have h4 := T.tr _ _ _ e h3
      rw [h2] at h4
      cases h4
theorem Tot.lex {lt : α → α → Bool} (T : Tot lt) : Tot (lexG lt) := by
  refine ⟨fun x => ?_, ?_, ?_⟩
  · induction x with
    | nil => rfl
    | cons a l ih =>
      show (if a = a then _ else _) = _
      rw [if_pos rfl]
      exact ih
  · intro x
    induction x with
    | nil =>
      intro y z h1 h2
      cases z with
      | nil =>
        cases y with
        | nil => cases h1
        | cons b m => cases h2
      | cons c n => rfl
    | cons a l ih =>
      intro y z h1 h2
      cases y with
      | nil => cases h1
      | cons b m =>
        cases z with
        | nil => cases h2
        | cons c n =>
          have h1' : (if a = b then lexG lt l m else lt a b) = true := h1
          have h2' : (if b = c then lexG lt m n else lt b c) = true := h2
          show (if a = c then lexG lt l n else lt a c) = true
          by_cases e1 : a = b
          · subst e1
            rw [if_pos rfl] at h1'
            by_cases e2 : a = c
            · subst e2
              rw [if_pos rfl] at h2' ⊢
              exact ih m n h1' h2'
            · rw [if_neg e2] at h2' ⊢
              exact h2'
          · rw [if_neg e1] at h1'
            by_cases e2 : b = c
            · subst e2
              rw [if_neg e1]
              exact h1'
            · rw [if_neg e2] at h2'
              have h3 := T.tr _ _ _ h1' h2'
              have e3 : ¬ a = c := fun z => by
                rw [z, T.irr] at h3
                cases h3
              rw [if_neg e3]
              exact h3
  · intro x
    induction x with
    | nil =>
      intro y hne h
      cases y with
      | nil => exact absurd rfl hne
      | cons b m => cases h
    | cons a l ih =>
      intro y hne h
      cases y with
      | nil => rfl
      | cons b m =>
        have h' : (if a = b then lexG lt l m else lt a b) = false := h
        show (if b = a then lexG lt m l else lt b a) = true
        by_cases e : a = b
        · subst e
          rw [if_pos rfl] at h' ⊢
          exact ih m (fun z => hne (by rw [z])) h'
        · rw [if_neg e] at h'
          rw [if_neg fun z => e z.symm]
          exact T.tot _ _ e h'
theorem srtd_same {lt : α → α → Bool} (T : Tot lt) : ∀ {l m : List α}, SrtO.Srtd lt l → SrtO.Srtd lt m → l.Perm m → l = m
  | [], m, _, _, p => (List.nil_perm.mp p).symm
  | x :: l, [], _, _, p => absurd (List.perm_nil.mp p) (by simp)
  | x :: l, y :: m, hl, hm, p => by
    have e : x = y := by
      rcases List.mem_cons.mp (p.mem_iff.mp (.head l)) with e | h1
      · exact e
      · rcases List.mem_cons.mp (p.mem_iff.mpr (.head m)) with e | h2
        · exact e.symm
        · exact T.anti (List.rel_of_pairwise_cons hm h1) (List.rel_of_pairwise_cons hl h2)
    subst e
    rw [srtd_same T (List.pairwise_cons.mp hl).2 (List.pairwise_cons.mp hm).2 (List.perm_cons x |>.mp p)]
end
/-- texts -/
def ltS (x y : Str) : Bool := decide (x.cps.toList < y.cps.toList)
theorem str_ext {x y : Str} (h : x.cps.toList = y.cps.toList) : x = y := by
  cases x
  cases y
  exact congrArg Str.mk (Array.toList_inj.mp h)
theorem totS : Tot ltS := by
  refine ⟨fun x => decide_eq_false (List.lt_irrefl _), fun x y z h k => decide_eq_true (List.lt_trans (of_decide_eq_true h) (of_decide_eq_true k)), fun x y hne h => ?_⟩
  have h1 : y.cps.toList ≤ x.cps.toList := List.not_lt.mp (of_decide_eq_false h)
  by_cases k : y.cps.toList < x.cps.toList
  · exact decide_eq_true k
  · exact absurd (str_ext (List.le_antisymm (List.not_lt.mp k) h1)) hne
abbrev ltP : List Str → List Str → Bool := lexG ltS
theorem totP : Tot ltP := totS.lex
/-- what a tuple that is sorted may hold -/
inductive Att where
  | int (i : Int)
  | str (s : Str)
  | sts (l : List Str)
  deriving DecidableEq
def kA : Att → Nat
  | .int _ => 0
  | .str _ => 1
  | .sts _ => 2
def ltA : Att → Att → Bool
  | .int i, .int j => decide (i < j)
  | .str x, .str y => ltS x y
  | .sts l, .sts m => ltP l m
  | x, y => decide (kA x < kA y)
theorem totA : Tot ltA := by
  refine ⟨fun x => ?_, fun x y z h k => ?_, fun x y hne h => ?_⟩
  · cases x with
    | int i => exact decide_eq_false (Int.lt_irrefl i)
    | str s => exact totS.irr s
    | sts l => exact totP.irr l
  · cases x <;> cases y <;> cases z <;> first
      | exact totS.tr _ _ _ h k
      | exact totP.tr _ _ _ h k
      | exact decide_eq_true (Int.lt_trans (of_decide_eq_true h) (of_decide_eq_true k))
      | rfl
      | exact nomatch (show false = true from h)
      | exact nomatch (show false = true from k)
  · cases x <;> cases y <;> first
      | exact totS.tot _ _ (fun z => hne (by rw [z])) h
      | exact totP.tot _ _ (fun z => hne (by rw [z])) h
      | rfl
      | cases h
      | skip
    rename_i i j
    have h1 := of_decide_eq_false h
    have h2 : i ≠ j := fun z => hne (by rw [z])
    exact decide_eq_true (by omega)
abbrev lexA : List Att → List Att → Bool := lexG ltA
theorem totL : Tot lexA := totA.lex
theorem lexAt_lex {α : Type} [DecidableEq α] {lt : α → α → Bool} : ∀ (l m : List α) (i : Nat) (e r : Nat → Bool), (∀ j x y, l[j]? = some x → m[j]? = some y → e (i + j) = decide (x = y) ∧ r (i + j) = lt x y) →
    Ob.lexAt e r (decide (l.length < m.length)) i (min l.length m.length) = lexG lt l m
  | [], [], i, e, r, _ => rfl
  | [], y :: m, i, e, r, _ => by
    rw [List.length_nil, Nat.zero_min]
    rfl
  | x :: l, [], i, e, r, _ => by
    rw [List.length_nil, Nat.min_zero]
    rfl
  | x :: l, y :: m, i, e, r, h => by
    have h0 := h 0 x y rfl rfl
    rw [List.length_cons, List.length_cons, Nat.succ_min_succ]
    show (if e i = true then Ob.lexAt e r _ (i + 1) _ else r i) = if x = y then lexG lt l m else lt x y
    rw [Nat.add_zero] at h0
    rw [h0.1, h0.2]
    have ih := lexAt_lex l m (i + 1) e r fun j a b ha hb => by
      have := h (j + 1) a b (by simpa using ha) (by simpa using hb)
      rw [show i + 1 + j = i + (j + 1) by omega]
      exact this
    have ed : decide (l.length + 1 < m.length + 1) = decide (l.length < m.length) := by
      rw [Bool.eq_iff_iff, decide_eq_true_iff, decide_eq_true_iff]
      omega
    rw [ed, ih]
    by_cases exy : x = y
    · rw [if_pos (decide_eq_true exy), if_pos exy]
    · rw [if_neg (by rw [decide_eq_false exy]; exact Bool.false_ne_true), if_neg exy]
end NS

/-! tuples (int, ..) compared as list.sort compares them -/
namespace NS
open PySem PySem.Spec PyProof.Rows PySem.SeqAt Ob
/-- the value u is x -/
def AtV (h : Heap) (u : Value) : Att → Prop
  | .int i => ∃ t, u = .int i t
  | .str x => ∃ t, u = .str x t
  | .sts l => ∃ a vs, u = .ref a ∧ h.IsTuple a vs.toArray ∧ StrsAre vs l
theorem AtV.keeps {h h' : Heap} {u : Value} {x : Att} (k : ∀ b o, h.get? b = some o → o.cls = .type "tuple" → h'.get? b = some o) (p : AtV h u x) : AtV h' u x := by
  cases x with
  | int i => exact p
  | str s => exact p
  | sts l =>
    obtain ⟨a, vs, e, ⟨o, ho, hc, r⟩, z⟩ := p
    exact ⟨a, vs, e, ⟨o, k a o ho hc, hc, r⟩, z⟩
theorem strs_get : ∀ {vs : List Value} {l : List Str}, StrsAre vs l → vs.length = l.length ∧ ∀ (j : Nat) (v : Value), vs[j]? = some v → ∃ (y : Str) (t : Tok), l[j]? = some y ∧ v = .str y t
  | _, _, .nil => ⟨rfl, fun j v e => by simp at e⟩
  | _, _, .cons y t r => by
    obtain ⟨h1, h2⟩ := strs_get r
    refine ⟨by rw [List.length_cons, List.length_cons, h1], fun j v e => ?_⟩
    cases j with
    | zero =>
      simp at e
      exact ⟨y, t, rfl, e.symm⟩
    | succ j =>
      obtain ⟨y', t', e1, e2⟩ := h2 j v (by simpa using e)
      exact ⟨y', t', by simpa using e1, e2⟩
theorem strs_inj : ∀ {vs : List Value} {l m : List Str}, StrsAre vs l → StrsAre vs m → l = m
  | _, _, _, .nil, .nil => rfl
  | _, _, _, .cons y t r, .cons _ _ r' => by rw [strs_inj r r']
theorem tuple_inj {h : Heap} {a : Addr} {us vs : List Value} (x : h.IsTuple a us.toArray) (y : h.IsTuple a vs.toArray) : us = vs := by
  obtain ⟨o, ho, _, n, hd⟩ := x
  obtain ⟨o', ho', _, n', hd'⟩ := y
  rw [ho] at ho'
  cases ho'
  rw [hd] at hd'
  injection hd' with h1 _
  exact List.toArray_inj h1
theorem all_eq {l m : List Str} : ((List.range (min l.length m.length)).all (fun j => decide (l[j]? = m[j]?)) && l.length == m.length) = decide (l = m) := by
  rw [Bool.eq_iff_iff, Bool.and_eq_true_iff, List.all_eq_true, beq_iff_eq, decide_eq_true_iff]
  constructor
  · rintro ⟨h1, h2⟩
    refine List.ext_getElem? fun i => ?_
    by_cases hi : i < l.length
    · exact of_decide_eq_true (h1 i (List.mem_range.mpr (by omega)))
    · rw [List.getElem?_eq_none (by omega), List.getElem?_eq_none (by omega)]
  · rintro rfl
    exact ⟨fun j _ => decide_eq_true rfl, rfl⟩
section
variable {A : Around} {s : Shared} {u v : Value} {x y : Att}
theorem lt_strOp (a b : Str) (t w : Tok) : RcOp .Lt A s (.str a t) (.str b w) (ltS a b) := fun _ _ _ _ h => PyProof.Rows.lt_str h
theorem at_eq (hx : AtV s.heap u x) (hy : AtV s.heap v y) (hk : kA x = kA y) (hu : A.units < cLine) : EqAt A s u v (decide (x = y)) := by
  cases x with
  | int i =>
    cases y with
    | int j =>
      obtain ⟨t, rfl⟩ := hx
      obtain ⟨w, rfl⟩ := hy
      have e : decide (Att.int i = Att.int j) = (i == j) := by
        rw [Bool.eq_iff_iff, decide_eq_true_iff, beq_iff_eq]
        exact ⟨fun z => by cases z; rfl, fun z => by rw [z]⟩
      rw [e]
      exact EqAt.int_int i t j w
    | str s => cases hk
    | sts l => cases hk
  | str i =>
    cases y with
    | int j => cases hk
    | sts l => cases hk
    | str j =>
      obtain ⟨t, rfl⟩ := hx
      obtain ⟨w, rfl⟩ := hy
      have e : decide (Att.str i = Att.str j) = (i == j) := by
        rw [Bool.eq_iff_iff, decide_eq_true_iff, beq_iff_eq]
        exact ⟨fun z => by cases z; rfl, fun z => by rw [z]⟩
      rw [e]
      exact EqAt.str_str i t j w
  | sts l =>
    cases y with
    | int j => cases hk
    | str j => cases hk
    | sts m =>
      obtain ⟨a, vs, rfl, ha, za⟩ := hx
      obtain ⟨b, ws, rfl, hb, zb⟩ := hy
      by_cases e : a = b
      · subst e
        obtain rfl := tuple_inj ha hb
        obtain rfl := strs_inj za zb
        rw [decide_eq_true rfl]
        exact EqAt.same _
      · refine EqAt.of_refs e ?_
        obtain ⟨la, ga⟩ := strs_get za
        obtain ⟨lb, gb⟩ := strs_get zb
        have q := RcAt.tuples (A := A) (s := s) (e := fun j => decide (l[j]? = m[j]?)) ha hb hu fun j h1 h2 => by
          obtain ⟨y1, t1, e1, e2⟩ := ga j vs.toArray[j] (by simpa using h1)
          obtain ⟨y2, t2, e3, e4⟩ := gb j ws.toArray[j] (by simpa using h2)
          rw [e2, e4]
          show EqAt A.in1 s _ _ (decide (l[j]? = m[j]?))
          have e5 : decide (l[j]? = m[j]?) = (y1 == y2) := by
            rw [Bool.eq_iff_iff, decide_eq_true_iff, beq_iff_eq, e1, e3]
            exact ⟨fun z => by cases z; rfl, fun z => by rw [z]⟩
          rw [e5]
          exact EqAt.str_str y1 t1 y2 t2
        rw [List.size_toArray, List.size_toArray, la, lb, all_eq] at q
        have e6 : decide (Att.sts l = Att.sts m) = decide (l = m) := by
          rw [Bool.eq_iff_iff, decide_eq_true_iff, decide_eq_true_iff]
          exact ⟨fun z => by cases z; rfl, fun z => by rw [z]⟩
        rw [e6]
        exact q
theorem at_lt (hx : AtV s.heap u x) (hy : AtV s.heap v y) (hk : kA x = kA y) (hu : A.units < cLine) : RcOp .Lt A s u v (ltA x y) := by
  cases x with
  | int i =>
    cases y with
    | int j =>
      obtain ⟨t, rfl⟩ := hx
      obtain ⟨w, rfl⟩ := hy
      exact RcOp.lt_int i j t w
    | str s => cases hk
    | sts l => cases hk
  | str i =>
    cases y with
    | int j => cases hk
    | sts l => cases hk
    | str j =>
      obtain ⟨t, rfl⟩ := hx
      obtain ⟨w, rfl⟩ := hy
      exact lt_strOp i j t w
  | sts l =>
    cases y with
    | int j => cases hk
    | str j => cases hk
    | sts m =>
      obtain ⟨a, vs, rfl, ha, za⟩ := hx
      obtain ⟨b, ws, rfl, hb, zb⟩ := hy
      obtain ⟨la, ga⟩ := strs_get za
      obtain ⟨lb, gb⟩ := strs_get zb
      have q := RcOp.tuples_lt (A := A) (s := s) (e := fun j => decide (l[j]? = m[j]?)) (r := fun j => ltS (l.getD j "") (m.getD j "")) ha hb hu (fun j h1 h2 => by
          obtain ⟨y1, t1, e1, e2⟩ := ga j vs.toArray[j] (by simpa using h1)
          obtain ⟨y2, t2, e3, e4⟩ := gb j ws.toArray[j] (by simpa using h2)
          rw [e2, e4]
          show EqAt A.in1 s _ _ (decide (l[j]? = m[j]?))
          have e5 : decide (l[j]? = m[j]?) = (y1 == y2) := by
            rw [Bool.eq_iff_iff, decide_eq_true_iff, beq_iff_eq, e1, e3]
            exact ⟨fun z => by cases z; rfl, fun z => by rw [z]⟩
          rw [e5]
          exact EqAt.str_str y1 t1 y2 t2) (fun j h1 h2 _ => by
          obtain ⟨y1, t1, e1, e2⟩ := ga j vs.toArray[j] (by simpa using h1)
          obtain ⟨y2, t2, e3, e4⟩ := gb j ws.toArray[j] (by simpa using h2)
          rw [e2, e4]
          have g1 : l.getD j "" = y1 := by simp [List.getD, e1]
          have g2 : m.getD j "" = y2 := by simp [List.getD, e3]
          show RcOp .Lt A.in1 s _ _ (ltS (l.getD j "") (m.getD j ""))
          rw [g1, g2]
          exact lt_strOp y1 y2 t1 t2)
      rw [List.size_toArray, List.size_toArray, la, lb] at q
      have ee := lexAt_lex (lt := ltS) l m 0 (fun j => decide (l[j]? = m[j]?)) (fun j => ltS (l.getD j "") (m.getD j "")) fun j a' b' h1 h2 => by
        rw [Nat.zero_add]
        refine ⟨?_, ?_⟩
        · rw [Bool.eq_iff_iff, decide_eq_true_iff, decide_eq_true_iff, h1, h2]
          exact ⟨fun z => by cases z; rfl, fun z => by rw [z]⟩
        · simp [List.getD, h1, h2]
      rw [ee] at q
      exact q
end
section
variable {prog : Program} {w : World} {A : Around} {s : Shared} {Q : Bool → Shared → Prop}
theorem kat_att {b : Bool} : ∀ {us vs : List Value} {xs ys : List Att} {i : Nat} {fin : Bool}, Paired (AtV s.heap) us xs → Paired (AtV s.heap) vs ys → (∀ (j : Nat) (x y : Att), xs[j]? = some x → ys[j]? = some y → kA x = kA y) → A.units < cLine → fin = decide (xs.length < ys.length) → (b && (i + 1) == 0) = false →
    Q (lexA xs ys) s → PySem.W.KatLex prog w A b fin Q (us.zip vs) (i + 1) s
  | _, _, _, _, i, fin, .nil, .nil, _, _, hf, _, q => by
    subst hf
    exact PySem.W.kat_nil q
  | _, _, _, _, i, fin, .nil, .cons _ _, _, _, hf, _, q => by
    subst hf
    refine PySem.W.kat_nil ?_
    rw [List.length_cons, List.length_nil, decide_eq_true (Nat.succ_pos _)]
    exact q
  | _, _, _, _, i, fin, .cons _ _, .nil, _, _, hf, _, q => by
    subst hf
    exact PySem.W.kat_nil q
  | _, _, _, _, i, fin, .cons (a := u) (b := x) hx rx, .cons (a := v) (b := y) hy ry, hk, hu, hf, hb, q => by
    have k0 := hk 0 x y rfl rfl
    refine PySem.W.kat_cons (at_eq hx hy k0 hu prog w _ _ ?_)
    refine PySem.W.kat_go (fun e => ?_) (fun e => ?_)
    · have e := of_decide_eq_true e
      subst e
      refine PySem.W.kat_yes (kat_att rx ry (fun j a b ha hb' => hk (j + 1) a b (by simpa using ha) (by simpa using hb')) hu ?_ (by simp) ?_)
      · rw [hf, Bool.eq_iff_iff, decide_eq_true_iff, decide_eq_true_iff, List.length_cons, List.length_cons]
        omega
      · have q' : Q (if x = x then _ else _) s := q
        rw [if_pos rfl] at q'
        exact q'
    · have e := of_decide_eq_false e
      have q' : Q (if x = y then lexA _ _ else ltA x y) s := q
      rw [if_neg e] at q'
      refine PySem.W.kat_no ?_
      rw [hb]
      exact PySem.W.kat_one _ _ (at_lt hx hy k0 hu prog w _ (PySem.W.BoolBack Q) q')
/-- the value v is a tuple of x, an int first -/
def TupV (h : Heap) (v : Value) (x : Int × List Att) : Prop := ∃ a t vs, v = .ref a ∧ h.IsTuple a (.int x.1 t :: vs).toArray ∧ Paired (AtV h) vs x.2
theorem TupV.keeps {h h' : Heap} {v : Value} {x : Int × List Att} (k : ∀ b o, h.get? b = some o → o.cls = .type "tuple" → h'.get? b = some o) (p : TupV h v x) : TupV h' v x := by
  obtain ⟨a, t, vs, e, ⟨o, ho, hc, r⟩, z⟩ := p
  exact ⟨a, t, vs, e, ⟨o, k a o ho hc, hc, r⟩, L2.Paired.mapP z fun _ _ q => q.keeps k⟩
/-- the order of such tuples -/
def ltT (x y : Int × List Att) : Bool := lexA (.int x.1 :: x.2) (.int y.1 :: y.2)
theorem totT : Tot ltT := by
  refine ⟨fun x => totL.irr _, fun x y z => totL.tr _ _ _, fun x y hne => totL.tot _ _ fun z => hne ?_⟩
  injection z with z1 z2
  injection z1 with z1
  exact Prod.ext z1 z2
def LikeT (x y : Int × List Att) : Prop := ∀ (j : Nat) (a b : Att), x.2[j]? = some a → y.2[j]? = some b → kA a = kA b
theorem tup_lt {v u : Value} {x y : Int × List Att} (hx : TupV s.heap v x) (hy : TupV s.heap u y) (hk : LikeT x y) (hu : A.units < cLine) (q : Q (ltT x y) s) {E : Value → Shared → Prop} :
    wpAny (model prog w) A (keyLt' (tuples' true) v u) Q E s := by
  obtain ⟨a, t, vs, rfl, ⟨o, ho, hc, n, hd⟩, z⟩ := hx
  obtain ⟨a', t', vs', rfl, ⟨o', ho', hc', n', hd'⟩, z'⟩ := hy
  refine PySem.W.kat_lt ho hd ho' hd' ?_
  have l1 := Paired.length z
  have l2 := Paired.length z'
  show PySem.W.KatLex prog w A true (decide ((Value.int x.1 t :: vs).toArray.size < (Value.int y.1 t' :: vs').toArray.size)) Q ((Value.int x.1 t, Value.int y.1 t') :: vs.zip vs') 0 s
  refine PySem.W.kat_cons (EqAt.int_int x.1 t y.1 t' prog w _ _ ?_)
  refine PySem.W.kat_go (fun e => ?_) (fun e => ?_)
  · have e := beq_iff_eq.mp e
    refine PySem.W.kat_yes (kat_att z z' hk hu ?_ (by simp) ?_)
    · rw [List.size_toArray, List.size_toArray, List.length_cons, List.length_cons, l1, l2, Bool.eq_iff_iff, decide_eq_true_iff, decide_eq_true_iff]
      omega
    · have q' : Q (if Att.int x.1 = Att.int y.1 then lexA x.2 y.2 else ltA (.int x.1) (.int y.1)) s := q
      rw [if_pos (by rw [e])] at q'
      exact q'
  · have e : ¬ x.1 = y.1 := fun z => by
      rw [z] at e
      simp at e
    have q' : Q (if Att.int x.1 = Att.int y.1 then lexA x.2 y.2 else ltA (.int x.1) (.int y.1)) s := q
    rw [if_neg fun z => e (by injection z)] at q'
    exact PySem.W.kat_no (oneLt_int q')
theorem tups_firsts {h : Heap} : ∀ {vs : List Value}, (∀ v ∈ vs, ∃ x, TupV h v x) → ∃ fs : List Value, PySem.W.KatTups h vs fs ∧ fs.length = vs.length ∧ ∀ f ∈ fs, ∃ i t, f = Value.int i t
  | [], _ => ⟨[], .nil, rfl, fun f hf => by cases hf⟩
  | v :: vs, hp => by
    obtain ⟨fs, h1, h2, h3⟩ := tups_firsts (vs := vs) fun u hu => hp u (.tail _ hu)
    obtain ⟨x, a, t, us, rfl, ⟨o, ho, hc, n, hd⟩, _⟩ := hp v (.head _)
    refine ⟨.int x.1 t :: fs, PySem.W.KatTups.cons ho hc hd rfl h1, by rw [List.length_cons, List.length_cons, h2], fun f hf => ?_⟩
    rcases List.mem_cons.mp hf with rfl | hf
    · exact ⟨_, _, rfl⟩
    · exact h3 f hf
theorem tups_kind {vs : List Value} {E : Value → Shared → Prop} {Q : SortKind → Shared → Prop} (h0 : 0 < vs.length) (hp : ∀ v ∈ vs, ∃ x, TupV s.heap v x) (q : Q (tuples' true) s) : wpAny (model prog w) A (keyKind' vs.toArray) Q E s := by
  obtain ⟨fs, h1, h2, h3⟩ := tups_firsts hp
  refine PySem.W.kat_kind (T := .type "int") h1 (by omega) (fun f hm => ?_) (by rfl) ?_
  · obtain ⟨i, t, rfl⟩ := h3 f hm
    exact PySem.W.Looks.now
  · have e : (Value.type "int" != Value.type "tuple") = true := by first | decide +kernel | rfl | decide
    rw [e]
    exact q
theorem tups_cmp {vs : List Value} {k : Value → Int × List Att} (hp : ∀ v ∈ vs, TupV s.heap v (k v)) (hk : ∀ v ∈ vs, ∀ u ∈ vs, LikeT (k v) (k u)) (hu : A.units < cLine) : SrtO.Cmp prog w A s (tuples' true) (fun p => p.1 ∈ vs) (SrtO.lt2 fun v u => ltT (k v) (k u)) := by
  intro p q hm hm'
  exact tup_lt (hp _ hm) (hp _ hm') (hk _ hm _ hm') hu ⟨rfl, rfl⟩
theorem tups_sortable {a : Addr} {vs : List Value} {k : Value → Int × List Att} (h0 : 0 < vs.length) (hp : ∀ v ∈ vs, TupV s.heap v (k v)) (hk : ∀ v ∈ vs, ∀ u ∈ vs, LikeT (k v) (k u)) (hu : A.units < cLine) (ha : ∀ o, s.heap.get? a = some o → o.cls ≠ .type "tuple") :
    SrtO.SortableO prog w A s a vs fun v u => ltT (k v) (k u) := by
  intro h1 keep
  have hp' : ∀ v ∈ vs, TupV h1 v (k v) := fun v hm => (hp v hm).keeps fun b o e c => keep b o (fun z => by subst z; exact ha o e c) e
  exact ⟨tuples' true, fun Q E hq => tups_kind h0 (fun v hm => ⟨_, hp' v hm⟩) hq, tups_cmp hp' hk hu⟩
end
end NS

/-! sorted(..) of a list or tuple, by any order -/
namespace NS
open PySem PySem.Spec PyProof.Rows PySem.SeqAt
section
variable {prog : Program} {w : World} {A : Around} {E : Value → Shared → Prop} {s : Shared}
theorem collect_tup {l : Addr} {vs : List Value} {Q : List Value → Shared → Prop} (hl : s.heap.IsTuple l vs.toArray) (hz : vs.length ≤ sizeLine)
    (h : Q vs { s with heap := (s.heap.push (seqObj "list" #[] 0)).update s.heap.objs.size (Obj.mapSeq (· ++ vs.toArray)) }) : wpAny (model prog w) A (collect (.ref l)) Q E s := by
  obtain ⟨o, ho, hc, n, hd⟩ := hl
  have ho1 : (s.heap.push (seqObj "list" #[] 0)).get? l = some o := Heap.get?_push_of_some _ ho
  have hn1 : (s.heap.push (seqObj "list" #[] 0)).get? s.heap.objs.size = some (seqObj "list" #[] 0) := Heap.get?_push_size _ rfl
  have hz1 : ((#[] : Array Value) ++ vs.toArray).size ≤ sizeLine + 1 := by
    rw [Array.size_append, List.size_toArray]
    show 0 + vs.length ≤ _
    omega
  have run : wpAny (model prog w) A (runValue (.builtin "proto.collect" ⟨[.ref l], []⟩)) (fun v s' => v = .ref s.heap.objs.size ∧ s' = { s with heap := (s.heap.push (seqObj "list" #[] 0)).update s.heap.objs.size (Obj.mapSeq (· ++ vs.toArray)) }) E s := by
    refine wpAny_runValue (codeAny_builtin entry_proto_collect' ?_)
    show wpAny _ _ (do again (.builtin "list.__iadd__" ⟨[← newList [], .ref l], []⟩)) _ _ s
    refine wpAny_bind (wpAny_newList (wpAny_pure ⟨Code.quiet_builtin _ (by decide +kernel), codeAny_builtin entry_list_iadd' ?_⟩))
    show wpAny _ _ (Builtin.List.listExtendWith (.ref s.heap.objs.size) (.ref l) (.ref s.heap.objs.size)) _ _ { s with heap := s.heap.push (seqObj "list" #[] 0) }
    unfold Builtin.List.listExtendWith
    refine wpAny_bind (wpAny_typeOf (T := "tuple") ⟨o, ho1, hc⟩ ?_)
    have ht : (Value.type "tuple" == Value.type "tuple") = true := rfl
    rw [if_pos (by rw [ht]; simp)]
    refine wpAny_bind (listItems_at ho1 hd ?_)
    refine wpAny_bind (listItems_at hn1 rfl ?_)
    rw [if_neg (by simp)]
    refine wpAny_bind (listUpdate_at hn1 rfl ?_ (Nat.zero_le _) hz1)
    exact wpAny_pure ⟨rfl, rfl⟩
  unfold collect
  refine wpAny_bind (wpAny_mono run (fun v s' z => ?_) fun _ _ e => e)
  obtain ⟨rfl, rfl⟩ := z
  dsimp only
  refine wpAny_bind (wpAny_load (get?_update_seq hn1 _) ?_)
  show wpAny _ _ (pure ((#[] : Array Value) ++ vs.toArray).toList) Q E _
  have e : ((#[] : Array Value) ++ vs.toArray).toList = vs := by simp
  rw [e]
  exact wpAny_pure h
/-- sorted(l), what stands at l collected as vs -/
theorem sorted_by {l : Addr} {vs : List Value} {ltv : Value → Value → Bool} {Q : Value → Shared → Prop} (O : SrtO.Swo ltv) (hz : vs.length ≤ sizeLine)
    (hcol : ∀ R : List Value → Shared → Prop, R vs { s with heap := (s.heap.push (seqObj "list" #[] 0)).update s.heap.objs.size (Obj.mapSeq (· ++ vs.toArray)) } → wpAny (model prog w) A.in1 (collect (.ref l)) R E s)
    (hS : 2 ≤ vs.length → ∀ (h1 : Heap) (a : Addr), h1.get? a = some (seqObj "list" vs.toArray 0) → (∀ b o, s.heap.get? b = some o → b ≠ a ∧ h1.get? b = some o) → SrtO.SortableO prog w A.in1.in1 { s with heap := h1 } a vs ltv)
    (h : ∀ out : List Value, SrtO.Srtd ltv out → SrtO.Stb ltv out vs → Q (.ref (s.heap.objs.size + 1)) { s with heap := sortedAll s.heap vs out.toArray }) : wpAny (model prog w) A (call (.builtin "sorted") [.ref l]) Q E s := by
  refine Calls.call_function_entry kind_sorted plain_sorted entry_sorted (args_sorted1 _) ?_
  unfold Builtin.«sorted»
  refine wpAny_bind (m := checkCount "sorted" 1 1 _) (wpAny_pure ?_)
  refine wpAny_bind (hcol _ ?_)
  refine wpAny_bind (wpAny_newList ?_ hz)
  have z1 : ((s.heap.push (seqObj "list" #[] 0)).update s.heap.objs.size (Obj.mapSeq (· ++ vs.toArray))).objs.size = s.heap.objs.size + 1 := (Heap.size_update ..).trans (size_push' ..)
  have hL : (((s.heap.push (seqObj "list" #[] 0)).update s.heap.objs.size (Obj.mapSeq (· ++ vs.toArray))).push (seqObj "list" vs.toArray 0)).get? (s.heap.objs.size + 1) = some (seqObj "list" vs.toArray 0) := by
    have z := Heap.get?_push_size ((s.heap.push (seqObj "list" #[] 0)).update s.heap.objs.size (Obj.mapSeq (· ++ vs.toArray))) (o := seqObj "list" vs.toArray 0) rfl
    rw [z1] at z
    exact z
  have kp : ∀ b o, s.heap.get? b = some o → b ≠ s.heap.objs.size + 1 ∧ (((s.heap.push (seqObj "list" #[] 0)).update s.heap.objs.size (Obj.mapSeq (· ++ vs.toArray))).push (seqObj "list" vs.toArray 0)).get? b = some o := fun b o q => by
    have lt : b < s.heap.objs.size := Heap.lt_size q
    refine ⟨Nat.ne_of_lt (Nat.lt_succ_of_lt lt), Heap.get?_push_of_some _ ?_⟩
    rw [Heap.get?_update_ne _ _ _ _ (Nat.ne_of_lt lt)]
    exact Heap.get?_push_of_some _ q
  show wpAny _ _ _ _ _ { s with heap := ((s.heap.push (seqObj "list" #[] 0)).update s.heap.objs.size (Obj.mapSeq (· ++ vs.toArray))).push (seqObj "list" vs.toArray 0) }
  rw [z1]
  refine wpAny_bind (wpAny_holding (wpAny_call_entry slot_list_sort ⟨_, hL, rfl⟩ entry_list_sort (SrtO.list_sort_ord O hL hz (fun h2 => hS h2 _ _ hL kp) fun out hs hb => ⟨_, rfl, ?_⟩) (args_list_sort _)))
  exact wpAny_pure ⟨_, rfl, h out hs hb⟩
/-! ### texts -/
def ltSv (v u : Value) : Bool := ltS (strOf v) (strOf u)
theorem strs_sortable {a : Addr} {vs : List Value} {ss : List Str} (hS : StrsAre vs ss) (h2 : 2 ≤ vs.length) : SrtO.SortableO prog w A s a vs ltSv := by
  intro h1 _
  refine ⟨oneType', fun Q E hq => ?_, fun p q hp hq => ?_⟩
  · match vs, hS, h2 with
    | v1 :: v2 :: rest, hS, _ =>
      rw [keyKind_strs hS]
      exact wpAny_pure hq
  · obtain ⟨x, t, ex⟩ := hS.all _ hp
    obtain ⟨y, u, ey⟩ := hS.all _ hq
    have e : SrtO.lt2 ltSv p q = ltS x y := by
      show ltS (strOf p.1) (strOf q.1) = _
      rw [ex, ey]
      rfl
    rw [e, ex, ey, keyLt'_oneType]
    exact oneLt_str ⟨rfl, rfl⟩
theorem strs_map : ∀ {vs : List Value} {ss : List Str}, StrsAre vs ss → vs.map strOf = ss
  | _, _, .nil => rfl
  | _, _, .cons y t r => by rw [List.map_cons, strs_map r]; rfl
theorem strs_of : ∀ {vs : List Value}, (∀ v, v ∈ vs → ∃ x t, v = Value.str x t) → StrsAre vs (vs.map strOf)
  | [], _ => .nil
  | v :: vs, h => by
    obtain ⟨x, t, rfl⟩ := h v (.head _)
    exact .cons x t (strs_of fun u hu => h u (.tail _ hu))
end
open L2
/-! ### as rules -/
def AtH (H : Hp) (v : V) : Att → Prop
  | .int i => v = .int i
  | .str x => v = .str x
  | .sts l => ∃ q, v = .ref q ∧ H q = some (.tup (l.map V.str))
/-- v is a tuple of an int and more -/
def TupH (H : Hp) (v : V) (x : Int × List Att) : Prop := ∃ t vs, v = .ref t ∧ H t = some (.tup (.int x.1 :: vs)) ∧ Paired (AtH H) vs x.2
theorem AtH.ext {H H' : Hp} (e : Ext H H') {v : V} {x : Att} (h : AtH H v x) : AtH H' v x := by
  cases x with
  | int i => exact h
  | str s => exact h
  | sts l =>
    obtain ⟨q, h1, h2⟩ := h
    exact ⟨q, h1, e _ _ h2⟩
theorem TupH.ext {H H' : Hp} (e : Ext H H') {v : V} {x : Int × List Att} (h : TupH H v x) : TupH H' v x := by
  obtain ⟨t, vs, h1, h2, h3⟩ := h
  exact ⟨t, vs, h1, e _ _ h2, L2.Paired.mapP h3 fun _ _ z => z.ext e⟩
section
variable {X : Cx} {pins : List (Addr × Obj)} {σ : L2.St} {H : Hp} {s : Shared}
theorem AtH.val (I : Inv X pins σ H s) {v : V} {u : Value} {x : Att} (r : RelV v u) (h : AtH H v x) : AtV s.heap u x := by
  cases x with
  | int i =>
    have h : v = .int i := h
    subst h
    exact r
  | str z =>
    have h : v = .str z := h
    subst h
    exact r
  | sts l =>
    obtain ⟨q, rfl, h2⟩ := h
    cases r
    obtain ⟨_, its, rv, o, ho, hc, n, hd⟩ := I.hok q _ h2
    exact ⟨q, its, rfl, ⟨o, ho, hc, n, hd⟩, rv.strs⟩
theorem ats_val (I : Inv X pins σ H s) : ∀ {vs : List V} {us : List Value} {xs : List Att}, Vals vs us → Paired (AtH H) vs xs → Paired (AtV s.heap) us xs
  | _, _, _, .nil, .nil => .nil
  | _, _, _, .cons r rs, .cons h hs => .cons (h.val I r) (ats_val I rs hs)
theorem TupH.val (I : Inv X pins σ H s) {v : V} {u : Value} {x : Int × List Att} (r : RelV v u) (h : TupH H v x) : TupV s.heap u x := by
  obtain ⟨t, vs, rfl, h2, h3⟩ := h
  cases r
  obtain ⟨_, its, rv, o, ho, hc, n, hd⟩ := I.hok t _ h2
  cases rv with
  | cons r0 rs =>
    obtain ⟨tk, rfl⟩ := r0
    exact ⟨t, tk, _, rfl, ⟨o, ho, hc, n, hd⟩, ats_val I rs h3⟩
/-- sorted(xs), texts in a list or a tuple -/
def rSortA (K : PySem.W.Frag) : List V → Hp → VK → Prop := fun vs H Q => ∃ (a : Addr) (xs : List Str), vs = [V.ref a] ∧ (SqL K H a (xs.map V.str) ∨ SqT K H a (xs.map V.str)) ∧ ∀ (ys : List Str) (p : Addr), ys.Perm xs → SrtO.Srtd ltS ys → H p = none → Q (.ref p) (upd H p (.lst (ys.map V.str)))
theorem cr_sortA : CallR X (.builtin "sorted") (rSortA X.K) := by
  intro pins s σ H vs us Q I r h
  obtain ⟨a, xs, rfl, hs, q⟩ := h
  obtain ⟨u, rfl, ru⟩ := vals1 r
  cases ru
  have fin : ∀ its : List Value, Vals (xs.map V.str) its → (xs.map V.str).length ≤ sizeLine → (∀ R : List Value → Shared → Prop, R its { s with heap := (s.heap.push (seqObj "list" #[] 0)).update s.heap.objs.size (Obj.mapSeq (· ++ its.toArray)) } → wpAny (model X.prog X.w) X.A.in1 (collect (.ref a)) R X.xe s) →
      wpAny (model X.prog X.w) X.A (call (.builtin "sorted") [.ref a]) (EP X pins σ Q) X.xe s := by
    intro its rv hz hcol
    have hS := rv.strs
    refine sorted_by (totS.swo strOf) (by rw [← rv.length]; exact hz) hcol (fun h2 h1 b _ _ => strs_sortable hS h2) fun out h1 h2 => ?_
    have hm : ∀ v, v ∈ out → ∃ x t, v = Value.str x t := fun v hv => hS.all v (h2.perm.mem_iff.mp hv)
    have hp : (out.map strOf).Perm xs := by
      have := h2.perm.map strOf
      rw [strs_map hS] at this
      exact this
    obtain ⟨ep, he⟩ := sortedAll_at s.heap its out.toArray
    have hlen : ((out.map strOf).map V.str).length ≤ sizeLine := by
      rw [List.length_map, hp.length_eq]
      rw [List.length_map] at hz
      exact hz
    exact ⟨.ref _, upd H (s.heap.objs.size + 1) (.lst ((out.map strOf).map V.str)), I.laid (t' := s.toks) (fun _ _ => sortedAll_old) (Nat.le_succ _) ⟨hlen, out, ep, vals_of_strs (strs_of hm), he⟩, rfl, q _ _ hp (SrtO.srtd_map (f := strOf) h1) (I.hok.fresh (Nat.le_succ _))⟩
  rcases hs with hs | hs
  · obtain ⟨its, rv, pl, hz⟩ := I.list hs
    exact fin its rv hz fun R hR => collect_list pl.isList hR (by rw [← rv.length]; exact hz)
  · obtain ⟨its, rv, pl, hz⟩ := I.tuple hs
    exact fin its rv hz fun R hR => collect_tup (show s.heap.IsTuple a its.toArray from pl) (by rw [← rv.length]; exact hz) hR
/-- sorted(xs), xs a list of tuples of an int and more -/
def rSortT (K : PySem.W.Frag) : List V → Hp → VK → Prop := fun vs H Q => ∃ (a : Addr) (xs : List V) (k : V → Int × List Att), vs = [V.ref a] ∧ SqL K H a xs ∧ (∀ x ∈ xs, TupH H x (k x)) ∧ (∀ x ∈ xs, ∀ y ∈ xs, LikeT (k x) (k y)) ∧
  ∀ ys p, SrtO.Srtd (fun x y => ltT (k x) (k y)) ys → ys.Perm xs → H p = none → Q (.ref p) (upd H p (.lst ys))
theorem cr_sortTup {n : Nat} (hr : Room n X.A) : CallR X (.builtin "sorted") (rSortT X.K) := by
  intro pins s σ H vs us Q I r h
  obtain ⟨a, xs, k, rfl, hs, hx, hk, q⟩ := h
  obtain ⟨u, rfl, ru⟩ := vals1 r
  cases ru
  obtain ⟨its, rv, pl, hz⟩ := I.list hs
  obtain ⟨e1, e2⟩ := refs_back rv fun x m => by
    obtain ⟨t, _, e, _⟩ := hx x m
    exact ⟨t, e⟩
  have hb : ∀ v ∈ its, backV v ∈ xs ∧ RelV (backV v) v := fun v hv => by
    obtain ⟨t, rfl⟩ := e2 v hv
    refine ⟨?_, rfl⟩
    rw [e1]
    exact List.mem_map.mpr ⟨_, hv, rfl⟩
  refine sorted_by (totT.swo fun v => k (backV v)) (by rw [← rv.length]; exact hz) (fun R hR => collect_list pl.isList hR (by rw [← rv.length]; exact hz)) (fun h2 h1 b hb1 kk => ?_) fun out h1 h2 => ?_
  · refine tups_sortable (s := { s with heap := h1 }) (by omega) (fun v hv => ((hx _ (hb v hv).1).val I (hb v hv).2).keeps fun c o e _ => (kk c o e).2) (fun v hv u hu => hk _ (hb v hv).1 _ (hb u hu).1) (by have := hr.un; show X.A.units + 1 + 1 < cLine; omega) fun o e => ?_
    have e' : some o = some (seqObj "list" its.toArray 0) := e.symm.trans hb1
    cases e'
    exact fun c => absurd (Value.type.inj c) (by decide)
  · have h3 : ∀ v ∈ out, ∃ t, v = Value.ref t := fun v hv => e2 v (h2.perm.mem_iff.mp hv)
    have hp : (out.map backV).Perm xs := by
      rw [e1]
      exact h2.perm.map backV
    obtain ⟨ep, he⟩ := sortedAll_at s.heap its out.toArray
    exact ⟨.ref _, upd H (s.heap.objs.size + 1) (.lst (out.map backV)), I.laid (t' := s.toks) (fun _ _ => sortedAll_old) (Nat.le_succ _) ⟨by rw [hp.length_eq]; exact hz, out, ep, vals_back h3, he⟩, rfl, q _ _ (SrtO.srtd_map (f := backV) (lt := fun x y => ltT (k x) (k y)) h1) hp (I.hok.fresh (Nat.le_succ _))⟩
end
end NS

/-! sorted(xs, key=f), f a def of the text that gives a tuple of an int and more -/
namespace NS
open PySem PySem.Spec PyProof.Rows PySem.SeqAt L2
section
variable {X : Cx} {A : Around} {f : Addr} {sp : Sp}
/-- as Runs, and nothing is raised -/
def Runs0 (X : Cx) (A : Around) (f : Addr) (sp : Sp) : Prop :=
  ∀ (pins : List (Addr × Obj)) (σ : L2.St) (H : Hp) (s : Shared) (vs : List V) (us : List Value) (Q : VK),
    Inv X pins σ H s → Vals vs us → sp vs H Q E0 → wpAny (model X.prog X.w) A (call (.ref f) us) (EP X pins σ Q) (fun _ _ => False) s
theorem Runs0.of {k : Nat} {fd : FuncData} {ps : List Str} (F : FnOk X.prog X.w X.K X.mg X.base CX0 k f fd ps sp) (hb : Binds X.K fd ps []) (hr : Room k A) (hf : A.frames = X.A.frames) : Runs0 X A f sp := by
  intro pins σ H s vs us Q I rv h
  have z := I.env0
  have hl : (us ++ []).length = ps.length := by
    rw [List.append_nil, ← rv.length]
    exact F.len _ _ _ _ h
  have hbb := hb s us I.kIn hl
  rw [List.append_nil] at hbb
  refine wpAny_call (codeAny_mono (F.run A X.stack s H ⟨us, []⟩ us vs Q E0 hr ⟨hf.trans z.frames, z.mod, z.bs, z.bsz, z.funs, z.frf, z.hok, z.bare⟩ hbb rv h) fun r s' q => ?_)
  match r, q with
  | .ok (.ret _), q => exact I.after q
end
section
variable {X : Cx} {n : Nat} {f : Addr} {sp : Sp}
def rSortKey (K : PySem.W.Frag) (f : Addr) (sp : Sp) : List V → List V → Hp → VK → Prop := fun vs zs H Q => ∃ (a : Addr) (ts : List Addr) (kf : V → Int × List Att), vs = [.ref a] ∧ zs = [.ref f] ∧ SqL K H a (ts.map V.ref) ∧
  (∀ t ∈ ts, ∀ u ∈ ts, LikeT (kf (.ref t)) (kf (.ref u))) ∧ (∀ t ∈ ts, ∀ H1, Ext H H1 → ∀ R : VK, (∀ v H2, Ext H1 H2 → TupH H2 v (kf (.ref t)) → R v H2) → sp [.ref t] H1 R E0) ∧
  ∀ ys p H', Ext H H' → H p = none → H' p = some (.lst ys) → ys.Perm (ts.map V.ref) → SrtO.Srtd (fun x y => ltT (kf x) (kf y)) ys → Q (.ref p) H'
/-- the end: the keys are there, the items are sorted by them -/
theorem key_end {pins : List (Addr × Obj)} {σ : L2.St} {H : Hp} {s : Shared} {a kS : Addr} {kA : Array Value} {e e1 : Nat} {ts : List Addr} {kvs : List V} {kf : V → Int × List Att} {A : Around} {E : Value → Shared → Prop} {P : PySem.Fin → Shared → Prop}
    (I : Inv X ((kS, seqObj "list" kA e) :: (a, seqObj "list" #[] e1) :: pins) σ H s) (fk : FpOk X pins H kS) (fa : FpOk X pins H a) (hka : kS ≠ a) (rv : Vals kvs kA.toList) (hl : kvs.length = ts.length) (hz : ts.length ≤ sizeLine)
    (ht : ∀ (j : Nat) (v : V) (t : Addr), kvs[j]? = some v → ts[j]? = some t → TupH H v (kf (.ref t))) (hk : ∀ t ∈ ts, ∀ u ∈ ts, LikeT (kf (.ref t)) (kf (.ref u))) (hu : A.units < cLine)
    (h : ∀ ys s', Inv X pins σ (upd H a (.lst ys)) s' → ys.Perm (ts.map V.ref) → SrtO.Srtd (fun x y => ltT (kf x) (kf y)) ys → P (.done (.ret .none)) s') :
    wpAny (model X.prog X.w) A (ksk_end a false (ts.map Value.ref).toArray e1 (.ref kS) kA) P E s := by
  have nk := I.pin (kS, seqObj "list" kA e) (List.mem_append_right _ (.head _))
  have na := I.pin (a, seqObj "list" #[] e1) (List.mem_append_right _ (.tail _ (.head _)))
  have lk : kA.size = ts.length := by
    have q1 := rv.length
    have q2 : kA.toList.length = kA.size := Array.length_toList
    omega
  have lz : (ts.map Value.ref).toArray.size = ts.length := by rw [List.size_toArray, List.length_map]
  have zt : (kA.zip (ts.map Value.ref).toArray).toList = kA.toList.zip (ts.map Value.ref) := ksk_zip kA _
  have tv : ∀ p, p ∈ kA.toList.zip (ts.map Value.ref) → ∃ t, t ∈ ts ∧ p.2 = Value.ref t ∧ TupV s.heap p.1 (kf (.ref t)) := fun p hp => by
    obtain ⟨j, hj, ej⟩ := List.getElem_of_mem hp
    have hj1 : j < kA.toList.length := by
      rw [List.length_zip] at hj
      omega
    have hj2 : j < ts.length := by
      rw [List.length_zip, List.length_map] at hj
      omega
    rw [List.getElem_zip] at ej
    have hv : kvs[j]? = some kvs[j] := List.getElem?_eq_getElem (by omega)
    obtain ⟨u, hu', ru⟩ := rv.get hv
    have eu : kA.toList[j] = u := by
      rw [List.getElem?_eq_getElem hj1] at hu'
      cases hu'
      rfl
    refine ⟨ts[j], List.getElem_mem hj2, ?_, ?_⟩
    · rw [← ej, List.getElem_map]
    · rw [← ej]
      show TupV s.heap kA.toList[j] _
      rw [eu]
      exact (ht j _ _ hv (List.getElem?_eq_getElem hj2)).val I ru
  -- the tail
  have tail : ∀ st : SortSt, failedOf st = none → (arrOf st).toList.Perm (kA.toList.zip (ts.map Value.ref)) → SrtO.Srtd (fun p q : Keyed => ltT (kf (backV p.2)) (kf (backV q.2))) (arrOf st).toList → wpAny (model X.prog X.w) A (ksk_tail a false e1 (.ref kS) st) P E s := by
    intro st hf hp hs
    have hout : ((arrOf st).map (·.2)).toList.Perm (ts.map Value.ref) := by
      rw [Array.toList_map]
      refine (hp.map _).trans ?_
      rw [List.map_snd_zip (by rw [List.length_map]; have q2 : kA.toList.length = kA.size := Array.length_toList; omega)]
    have hsz : ((arrOf st).map (·.2)).size = ts.length := by
      have := hout.length_eq
      rw [Array.length_toList, List.length_map] at this
      exact this
    have s1 := Heap.SameBut.update s.heap kS (Obj.mapSeq fun _ => (#[] : Array Value))
    have na1 : (s.heap.update kS (Obj.mapSeq fun _ => (#[] : Array Value))).get? a = some (seqObj "list" #[] e1) := (s1.2 a hka.symm).trans na.1
    have s2 := Heap.SameBut.update (s.heap.update kS (Obj.mapSeq fun _ => (#[] : Array Value))) a (Obj.mapSeq fun _ => (arrOf st).map (·.2))
    obtain ⟨c2, hc2⟩ : ∃ c2, ((s.heap.update kS (Obj.mapSeq fun _ => (#[] : Array Value))).update a (Obj.mapSeq fun _ => (arrOf st).map (·.2))).get? a = some (seqObj "list" ((arrOf st).map (·.2)) c2) := ⟨_, get?_update_seq na1 _⟩
    unfold ksk_tail
    try dsimp only
    refine wpAny_bind (listUpdate_at nk.1 rfl ?_ (by rw [lk]; exact hz) (Nat.zero_le _))
    refine wpAny_bind (wpAny_letGo ?_)
    refine wpAny_bind (seqEpoch_at na1 rfl ?_)
    refine wpAny_bind (listUpdate_at na1 rfl ?_ (Nat.zero_le _) (by simp only [Bool.false_eq_true, if_false]; rw [hsz]; omega))
    rw [hf]
    simp only [bne_self_eq_false, Bool.false_eq_true, if_false]
    have refs : ∀ u ∈ ((arrOf st).map (·.2)).toList, ∃ t, u = Value.ref t := fun u hu' => by
      obtain ⟨t, _, e⟩ := List.mem_map.mp (hout.mem_iff.mp hu')
      exact ⟨t, e.symm⟩
    have hperm : (((arrOf st).map (·.2)).toList.map backV).Perm (ts.map V.ref) := by
      have := hout.map backV
      rw [List.map_map] at this
      exact this
    have I1 : Inv X pins σ H s := unpinned (unpinned I)
    obtain ⟨g0, g1, g2, g3, g4, g5⟩ := fk
    have I2 := I1.turned (t' := s.toks) (h' := s.heap.update kS (Obj.mapSeq fun _ => (#[] : Array Value))) (fun b o hb q => (s1.2 b hb).trans q) g0 g1 g3 g4 g5
    have new : ObjOk X.prog X.w (upd H a (.lst (((arrOf st).map (·.2)).toList.map backV))) ((s.heap.update kS (Obj.mapSeq fun _ => (#[] : Array Value))).update a (Obj.mapSeq fun _ => (arrOf st).map (·.2))) a (.lst (((arrOf st).map (·.2)).toList.map backV)) := by
      refine ⟨by rw [hperm.length_eq, List.length_map]; exact hz, ((arrOf st).map (·.2)).toList, c2, vals_back refs, ?_⟩
      rw [Array.toArray_toList]
      exact hc2
    have I3 := I2.take (t' := s.toks) (it := a) (fun b o hb q => (s2.2 b hb).trans q) fa new
    refine wpAny_pure (h _ _ I3 hperm ?_)
    rw [Array.toList_map, List.map_map]
    exact List.pairwise_map.mpr hs
  unfold ksk_end
  try dsimp only
  simp only [Bool.false_eq_true, if_false]
  by_cases h2 : (ts.map Value.ref).toArray.size < 2
  · rw [if_pos h2, if_pos h2]
    refine wpAny_bind (wpAny_pure ?_)
    rw [StateT.run_pure]
    refine wpAny_bind (wpAny_pure ?_)
    try dsimp only
    refine tail (SortSt.mk' general' (kA.zip (ts.map Value.ref).toArray) #[] 7 none) rfl (by show (kA.zip (ts.map Value.ref).toArray).toList.Perm _; rw [zt]) ?_
    show SrtO.Srtd _ (kA.zip (ts.map Value.ref).toArray).toList
    have hlt : (kA.zip (ts.map Value.ref).toArray).toList.length < 2 := by
      rw [zt, List.length_zip, List.length_map]
      omega
    match (kA.zip (ts.map Value.ref).toArray).toList, hlt with
    | [], _ => exact List.Pairwise.nil
    | [x], _ => exact List.pairwise_singleton _ _
  · rw [if_neg h2, if_neg h2]
    have e0 : kA.toList.toArray = kA := Array.toArray_toList
    refine wpAny_bind ?_
    rw [← e0]
    refine tups_kind (by rw [Array.length_toList]; omega) (fun v hv => ?_) ?_
    · obtain ⟨j, hj, ej⟩ := List.getElem_of_mem hv
      have hj2 : j < (ts.map Value.ref).length := by
        rw [Array.length_toList] at hj
        rw [List.length_map]
        omega
      obtain ⟨t, _, _, z⟩ := tv (kA.toList[j], (ts.map Value.ref)[j]) (by
        rw [← List.getElem_zip (h := by rw [List.length_zip]; omega)]
        exact List.getElem_mem _)
      exact ⟨_, by rw [← ej]; exact z⟩
    rw [e0]
    refine wpAny_bind (wpAny_mono (SrtO.wpS_sortO (st0 := SortSt.mk' (tuples' true) (kA.zip (ts.map Value.ref).toArray) #[] 7 none) (P := fun p => p ∈ kA.toList.zip (ts.map Value.ref)) (lt := fun p q : Keyed => ltT (kf (backV p.2)) (kf (backV q.2)))
      (Q := fun _ st' => SrtO.Srtd (fun p q : Keyed => ltT (kf (backV p.2)) (kf (backV q.2))) (arrOf st').toList ∧ (arrOf st').toList.Perm (kA.toList.zip (ts.map Value.ref)) ∧ failedOf st' = none)
      (totT.swo fun p : Keyed => kf (backV p.2)) (fun p q hp hq => ?_) rfl (fun p hp => ?_) rfl rfl fun st' a1 a2 a3 => ⟨a1, ?_, a3⟩) ?_ fun _ _ z => z)
    · obtain ⟨t, ht1, e1', z1⟩ := tv p hp
      obtain ⟨t', ht2, e2', z2⟩ := tv q hq
      show wpAny (model X.prog X.w) A (keyLt' (tuples' true) p.1 q.1) (fun r s' => s' = s ∧ r = ltT (kf (backV p.2)) (kf (backV q.2))) (fun _ _ => False) s
      rw [e1', e2']
      exact tup_lt z1 z2 (hk t ht1 t' ht2) hu ⟨rfl, rfl⟩
    · have hp' : p ∈ (kA.zip (ts.map Value.ref).toArray).toList := hp
      rw [zt] at hp'
      exact hp'
    · have := a2.perm
      have e : (arrOf (SortSt.mk' (tuples' true) (kA.zip (ts.map Value.ref).toArray) #[] 7 none)).toList = kA.toList.zip (ts.map Value.ref) := zt
      rw [e] at this
      exact this
    rintro ⟨⟨⟩, st'⟩ s' ⟨rfl, hs, hp, hf⟩
    exact tail st' hf hp hs
end
end NS

/-! sorted(xs, key=f): the rule -/
namespace NS
open PySem PySem.Spec PyProof.Rows PySem.SeqAt L2
section
variable {X : Cx} {f : Addr} {sp : Sp}
theorem FpOk.to {pins : List (Addr × Obj)} {H H' : Hp} {b : Addr} (h : FpOk X pins H b) (hn : H' b = none) : FpOk X pins H' b := ⟨hn, h.2⟩
theorem key_rest {pins : List (Addr × Obj)} {σ : L2.St} {H : Hp} {s : Shared} {a kS : Addr} {e1 : Nat} {ts : List Addr} {kf : V → Int × List Att} {A : Around} {E : Value → Shared → Prop} {P : PySem.Fin → Shared → Prop}
    (R : Runs0 X A f sp) (I : Inv X ((kS, seqObj "list" #[] 0) :: (a, seqObj "list" #[] e1) :: pins) σ H s) (fk : FpOk X ((a, seqObj "list" #[] e1) :: pins) H kS) (fk' : FpOk X pins H kS) (fa : FpOk X pins H a) (hka : kS ≠ a) (hz : ts.length ≤ sizeLine)
    (hk : ∀ t ∈ ts, ∀ u ∈ ts, LikeT (kf (.ref t)) (kf (.ref u))) (hsp : ∀ t ∈ ts, ∀ H1, Ext H H1 → ∀ Q : VK, (∀ v H2, Ext H1 H2 → TupH H2 v (kf (.ref t)) → Q v H2) → sp [.ref t] H1 Q E0) (hu : A.units < cLine)
    (h : ∀ ys H' s', Ext H H' → Inv X pins σ (upd H' a (.lst ys)) s' → ys.Perm (ts.map V.ref) → SrtO.Srtd (fun x y => ltT (kf x) (kf y)) ys → P (.done (.ret .none)) s') :
    wpAny (model X.prog X.w) A (ksk_rest a (.ref f) false (ts.map Value.ref).toArray e1 (.ref kS)) P E s := by
  unfold ksk_rest
  refine wpAny_bind (wpAny_rule ?_)
  first
    | rw [List.forIn_toArray]
    | (rw [← Array.forIn_toList]; simp only [List.toList_toArray])
    | rw [← Array.forIn_toList]
  refine wpAny_bind (ksk_fold (fun i s' => ∃ (H' : Hp) (kA : Array Value) (e : Nat) (kvs : List V), Ext H H' ∧ Inv X ((kS, seqObj "list" kA e) :: (a, seqObj "list" #[] e1) :: pins) σ H' s' ∧ Vals kvs kA.toList ∧ kvs.length = i ∧ ∀ (j : Nat) (v : V) (t : Addr), kvs[j]? = some v → ts[j]? = some t → TupH H' v (kf (.ref t))) (ts.map Value.ref) 0 s
    ⟨H, #[], 0, [], Ext.rfl', I, .nil, rfl, fun j v t z => by simp at z⟩ ?step ?done)
  case step =>
    rintro j x s' hx ⟨H1, kA, e, kvs, e1', I1, rv, hl, ht⟩
    rw [Nat.zero_add] at hl
    rw [List.getElem?_map] at hx
    obtain ⟨t, htj, rfl⟩ := Option.map_eq_some_iff.mp hx
    have hj : j < ts.length := (List.getElem?_eq_some_iff.mp htj).1
    have run := R _ σ H1 s' [.ref t] [.ref t] (fun v H2 => Ext H1 H2 ∧ TupH H2 v (kf (.ref t))) I1 (.cons rfl .nil) (hsp t (List.mem_of_getElem? htj) H1 e1' _ fun v H2 e2 z => ⟨e2, z⟩)
    refine wpAny_bind (wpAny_attempt (wpAny_mono run (fun u s2 q => ?_) fun _ _ hF => hF.elim))
    obtain ⟨v, H2, I2, r2, e2, tv⟩ := q
    try dsimp only
    have nk := I2.pin (kS, seqObj "list" kA e) (List.mem_append_right _ (.head _))
    have na := I2.pin (a, seqObj "list" #[] e1) (List.mem_append_right _ (.tail _ (.head _)))
    have lk : kA.size = j := by
      have q1 := rv.length
      have q2 : kA.toList.length = kA.size := Array.length_toList
      omega
    have s1 := Heap.SameBut.update s2.heap kS (Obj.mapSeq (·.push u))
    obtain ⟨c2, hc2⟩ : ∃ c2, (s2.heap.update kS (Obj.mapSeq (·.push u))).get? kS = some (seqObj "list" (kA.push u) c2) := ⟨_, get?_update_seq nk.1 (·.push u)⟩
    refine wpAny_bind (listUpdate_at nk.1 rfl ?_ (by rw [lk]; omega) (Nat.le_trans (Nat.le_of_eq (Array.size_push ..)) (by rw [lk]; omega)))
    obtain ⟨g0, g1, g2, g3, g4, g5⟩ := FpOk.to fk (H' := H2) nk.2.1
    have I3 := (unpinned I2).turned (t' := s2.toks) (h' := s2.heap.update kS (Obj.mapSeq (·.push u))) (fun b o hb q => (s1.2 b hb).trans q) g0 g1 g3 g4 g5
    refine wpAny_pure ⟨rfl, H2, kA.push u, c2, kvs ++ [v], e1'.trans e2, I3.pins_of fun r hr => ?_, ?_, by rw [List.length_append, hl]; show _ = 0 + j + 1; simp, fun i v' t' hv ht' => ?_⟩
    · rcases List.mem_cons.mp hr with rfl | hr
      · exact ⟨hc2, nk.2.1, nk.2.2.1, nk.2.2.2.1, fun v z => nomatch z⟩
      · exact I3.pin r (List.mem_append_right _ hr)
    · rw [Array.toList_push]
      exact rv.append (.cons r2 .nil)
    · rcases Nat.lt_or_ge i kvs.length with l | l
      · rw [List.getElem?_append_left l] at hv
        exact (ht i v' t' hv ht').ext e2
      · rw [List.getElem?_append_right l] at hv
        have ei : i - kvs.length = 0 := by
          rcases Nat.eq_zero_or_pos (i - kvs.length) with z | z
          · exact z
          · rw [List.getElem?_eq_none (by show 1 ≤ _; omega)] at hv
            cases hv
        rw [ei] at hv
        cases hv
        have : i = j := by omega
        subst this
        rw [htj] at ht'
        cases ht'
        exact tv
  case done =>
    rintro s' ⟨H1, kA, e, kvs, e1', I1, rv, hl, ht⟩
    rw [Nat.zero_add, List.length_map] at hl
    have nk := I1.pin (kS, seqObj "list" kA e) (List.mem_append_right _ (.head _))
    have na := I1.pin (a, seqObj "list" #[] e1) (List.mem_append_right _ (.tail _ (.head _)))
    try dsimp only
    refine wpAny_bind (listItems_at nk.1 rfl ?_)
    exact key_end I1 (FpOk.to fk' nk.2.1) (FpOk.to fa na.2.1) hka rv hl hz ht hk hu fun ys s2 I2 p1 p2 => h ys H1 s2 e1' I2 p1 p2
theorem cr_sortKey {n : Nat} (R : Runs0 X X.A.in1.in1 f sp) (hr : Room n X.A) : CallRK X (.builtin "sorted") [Str.ofString "key"] (rSortKey X.K f sp) := by
  intro pins s σ H vs zs us ws Q I r rz h
  obtain ⟨a0, ts, kf, rfl, rfl, hs, hk, hsp, q⟩ := h
  obtain ⟨u, rfl, ru⟩ := vals1 r
  cases ru
  obtain ⟨u2, rfl, ru2⟩ := vals1 rz
  cases ru2
  obtain ⟨its, rv, pl, hz⟩ := I.list hs
  obtain rfl := refs_at rv
  rw [List.length_map] at hz
  have hz' : (ts.map Value.ref).length ≤ sizeLine := by rw [List.length_map]; exact hz
  show wpAny (model X.prog X.w) X.A (call (.builtin "sorted") [.ref a0] [(Str.ofString "key", .ref f)]) (EP X pins σ Q) X.xe s
  refine call_function_entry_kw kind_sorted plain_sorted entry_sorted (ksk_s1 _ _) ?_
  unfold Builtin.«sorted»
  refine wpAny_bind (m := checkCount "sorted" 1 1 _) (wpAny_pure ?_)
  refine wpAny_bind (collect_list pl.isList ?_ hz')
  refine wpAny_bind (wpAny_newList ?_ hz')
  have z1 : ((s.heap.push (seqObj "list" #[] 0)).update s.heap.objs.size (Obj.mapSeq (· ++ (ts.map Value.ref).toArray))).objs.size = s.heap.objs.size + 1 := (Heap.size_update ..).trans (size_push' ..)
  have hL : (((s.heap.push (seqObj "list" #[] 0)).update s.heap.objs.size (Obj.mapSeq (· ++ (ts.map Value.ref).toArray))).push (seqObj "list" (ts.map Value.ref).toArray 0)).get? (s.heap.objs.size + 1) = some (seqObj "list" (ts.map Value.ref).toArray 0) := by
    have z := Heap.get?_push_size ((s.heap.push (seqObj "list" #[] 0)).update s.heap.objs.size (Obj.mapSeq (· ++ (ts.map Value.ref).toArray))) (o := seqObj "list" (ts.map Value.ref).toArray 0) rfl
    rw [z1] at z
    exact z
  have kp : ∀ b o, s.heap.get? b = some o → (((s.heap.push (seqObj "list" #[] 0)).update s.heap.objs.size (Obj.mapSeq (· ++ (ts.map Value.ref).toArray))).push (seqObj "list" (ts.map Value.ref).toArray 0)).get? b = some o := fun b o w => by
    have lt : b < s.heap.objs.size := Heap.lt_size w
    refine Heap.get?_push_of_some _ ?_
    rw [Heap.get?_update_ne _ _ _ _ (Nat.ne_of_lt lt)]
    exact Heap.get?_push_of_some _ w
  have sz1 : (((s.heap.push (seqObj "list" #[] 0)).update s.heap.objs.size (Obj.mapSeq (· ++ (ts.map Value.ref).toArray))).push (seqObj "list" (ts.map Value.ref).toArray 0)).objs.size = s.heap.objs.size + 2 := (size_push' ..).trans (by rw [z1])
  show wpAny _ _ _ _ _ { s with heap := ((s.heap.push (seqObj "list" #[] 0)).update s.heap.objs.size (Obj.mapSeq (· ++ (ts.map Value.ref).toArray))).push (seqObj "list" (ts.map Value.ref).toArray 0) }
  rw [z1]
  generalize ((s.heap.push (seqObj "list" #[] 0)).update s.heap.objs.size (Obj.mapSeq (· ++ (ts.map Value.ref).toArray))).push (seqObj "list" (ts.map Value.ref).toArray 0) = h1 at *
  have I1 : Inv X pins σ H { s with heap := h1 } := I.kept (t' := s.toks) kp
  have hn1 : H (s.heap.objs.size + 1) = none := I.hok.fresh (Nat.le_succ _)
  have fa : FpOk X pins H (s.heap.objs.size + 1) := I.fpOk (Nat.le_succ _) hn1
  refine wpAny_bind (wpAny_holding (wpAny_call_entry_kw slot_list_sort ⟨_, hL, rfl⟩ entry_list_sort ?body (ksk_l1 _ _)))
  case body =>
    rw [ksk_t1]
    have s1 := Heap.SameBut.update h1 (s.heap.objs.size + 1) (Obj.mapSeq fun _ => (#[] : Array Value))
    obtain ⟨e1, ho1⟩ : ∃ e1, (h1.update (s.heap.objs.size + 1) (Obj.mapSeq fun _ => (#[] : Array Value))).get? (s.heap.objs.size + 1) = some (seqObj "list" #[] e1) := ⟨_, get?_update_seq hL fun _ => #[]⟩
    have sz2 : (h1.update (s.heap.objs.size + 1) (Obj.mapSeq fun _ => (#[] : Array Value))).objs.size = s.heap.objs.size + 2 := (Heap.size_update ..).trans sz1
    unfold ksk_tree
    refine wpAny_bind (listItems_at hL rfl ?_)
    refine wpAny_bind (listUpdate_at hL rfl ?_ (by rw [List.size_toArray]; exact hz') (Nat.zero_le _))
    refine wpAny_bind (seqEpoch_at ho1 rfl ?_)
    refine wpAny_bind (wpAny_newTuple ?_ hz')
    refine wpAny_bind (wpAny_newList ?_ (Nat.zero_le _))
    refine wpAny_holding ?_
    obtain ⟨g0, g1, g2, g3, g4, g5⟩ := id fa
    have I2 := I1.turned (t' := s.toks) (h' := h1.update (s.heap.objs.size + 1) (Obj.mapSeq fun _ => (#[] : Array Value))) (fun b o hb w => (s1.2 b hb).trans w) g0 g1 g3 g4 g5
    have I2' : Inv X ((s.heap.objs.size + 1, seqObj "list" #[] e1) :: pins) σ H { s with heap := h1.update (s.heap.objs.size + 1) (Obj.mapSeq fun _ => (#[] : Array Value)) } := I2.pins_of fun p hp => by
      rcases List.mem_cons.mp hp with rfl | hp
      · exact ⟨ho1, g0, g1, g2, fun v z => nomatch z⟩
      · exact I2.pin p (List.mem_append_right _ hp)
    generalize h1.update (s.heap.objs.size + 1) (Obj.mapSeq fun _ => (#[] : Array Value)) = h2 at *
    have I3 : Inv X ((s.heap.objs.size + 1, seqObj "list" #[] e1) :: pins) σ H { s with heap := h2.push (seqObj "tuple" (ts.map Value.ref).toArray 0) } := I2'.kept (t' := s.toks) fun b o w => Heap.get?_push_of_some _ w
    have sz3 : (h2.push (seqObj "tuple" (ts.map Value.ref).toArray 0)).objs.size = s.heap.objs.size + 3 := (size_push' ..).trans (by rw [sz2])
    have I4 : Inv X ((s.heap.objs.size + 3, seqObj "list" #[] 0) :: (s.heap.objs.size + 1, seqObj "list" #[] e1) :: pins) σ H { s with heap := (h2.push (seqObj "tuple" (ts.map Value.ref).toArray 0)).push (seqObj "list" #[] 0) } := by
      refine ClX.pin_new (s := { s with heap := h2.push (seqObj "tuple" (ts.map Value.ref).toArray 0) }) (t' := s.toks) I3 (fun b o w => Heap.get?_push_of_some _ w) (Nat.le_of_eq sz3) ?_ (fun v z => nomatch z)
      have z := Heap.get?_push_size (h2.push (seqObj "tuple" (ts.map Value.ref).toArray 0)) (o := seqObj "list" #[] 0) rfl
      rw [sz3] at z
      exact z
    have hn3 : H (s.heap.objs.size + 3) = none := I.hok.fresh (by omega)
    show wpAny _ _ (ksk_rest (s.heap.objs.size + 1) (.ref f) false (ts.map Value.ref).toArray e1 (.ref (h2.push (seqObj "tuple" (ts.map Value.ref).toArray 0)).objs.size)) _ _ { s with heap := (h2.push (seqObj "tuple" (ts.map Value.ref).toArray 0)).push (seqObj "list" #[] 0) }
    rw [sz3]
    refine key_rest R I4 (I3.fpOk (Nat.le_of_eq sz3) hn3) (I.fpOk (by omega) hn3) fa (fun z => by have z' : s.heap.objs.size + 3 = s.heap.objs.size + 1 := z; omega) hz hk hsp (by have := hr.un; show X.A.units + 1 + 1 < cLine; omega) fun ys H' s' e' I' p1 p2 => ⟨_, rfl, ?_⟩
    refine wpAny_pure ⟨_, rfl, .ref (s.heap.objs.size + 1), upd H' (s.heap.objs.size + 1) (.lst ys), I', rfl, q ys _ _ (fun b o hb => ?_) hn1 upd_same p1 p2⟩
    rw [upd_ne (ne_of_none hb hn1)]
    exact e' b o hb
end
end NS

/-! repr of tuples over the hand layer; {x!r} of lists -/
namespace NS
open PySem L2
section
variable {X : Cx} {n : Nat} {as : List Addr} {H : Hp}
theorem RepL.un {x : V} {xs : List V} {ts : List Str} (r : RepL X n as (x :: xs) H ts) : ∃ t ts', ts = t :: ts' ∧ RepV X n as x H t ∧ RepL X n as xs H ts' := by
  cases ts with
  | nil => exact absurd r.len (by simp)
  | cons t ts' =>
    obtain ⟨t0, e, z⟩ := r.at_ 0 x rfl
    cases e
    refine ⟨t, ts', rfl, z, by simpa using r.len, fun i y hy => ?_⟩
    obtain ⟨t1, e1, z1⟩ := r.at_ (i + 1) y (by simpa using hy)
    exact ⟨t1, by simpa using e1, z1⟩
theorem tupFoldV {A : Around} {g : List Code} {pins : List (Addr × Obj)} {σ : L2.St} (b : Bel X n A g) (hcl : ∀ b ∈ as, Clear g b) : ∀ (xs : List V) (us : List Value) (ts : List Str) (acc : Array Str) (m : Nat) (s : Shared) (H1 : Hp) (Q : (Array Str × Nat) → Shared → Prop),
    Vals xs us → RepL X n as xs H ts → m + piled ts ≤ sizeLine → Ext H H1 → Inv X pins σ H1 s → (∀ s' H2, Inv X pins σ H2 s' → Ext H1 H2 → Q ⟨acc ++ ts.toArray, m + piled ts⟩ s') → wpAny (model X.prog X.w) A (forIn us (⟨acc, m⟩ : (Array Str × Nat)) tupBody) Q X.xe s
  | [], _, ts, acc, m, s, H1, Q, .nil, r, _, _, I, h => by
    have e : ts = [] := List.length_eq_zero_iff.mp r.len
    subst e
    have h0 := h s H1 I Ext.rfl'
    rw [List.forIn_nil]
    exact wpAny_pure (by simpa [piled] using h0)
  | x :: xs, _, ts, acc, m, s, H1, Q, .cons ru rs, r, hm, e1, I, h => by
    obtain ⟨t, ts', rfl, hx, hl⟩ := r.un
    rw [piled_cons] at hm
    rw [List.forIn_cons]
    refine wpAny_bind (wpAny_bind (wpAny_mono (hx A g (m + 1) pins σ H1 s _ b hcl (by omega) e1 I ru) (fun z s2 q => wpAny_pure ?_) fun _ _ q => q))
    obtain ⟨rfl, H2, I2, e2⟩ := q
    refine tupFoldV b hcl xs _ ts' (acc.push z) (m + (z.length + 2)) s2 H2 Q rs hl (by omega) (e1.trans e2) I2 fun s3 H3 I3 e3 => ?_
    have h1 := h s3 H3 I3 (e2.trans e3)
    have e : m + piled (z :: ts') = m + (z.length + 2) + piled ts' := by
      rw [piled_cons]
      omega
    rw [e] at h1
    simpa using h1
theorem tupAtV {A : Around} {R : Result → Shared → Prop} {a : Addr} {xs : List V} {ts : List Str} {base : Nat} {g : List Code} {pins : List (Addr × Obj)} {σ : L2.St} {H1 : Hp} {s : Shared} {id : String} {rest : List Value}
    (b : Bel X (n + 1) A g) (hcg : (Code.builtin id ⟨.ref a :: rest, []⟩).isGuard = true) (he : (Code.builtin id ⟨.ref a :: rest, []⟩).envs = []) (hw : (Code.builtin id ⟨.ref a :: rest, []⟩).weight = 1) (hc : (Code.builtin id ⟨.ref a :: rest, []⟩).cUnits = 1)
    (hca : Clear g a) (hcl : ∀ b ∈ as, Clear g b) (hna : a ∉ as) (ha : H a = some (.tup xs)) (hT : RepL X n as xs H ts) (hsz : base + (tupleText ts).length ≤ sizeLine) (e1 : Ext H H1) (I : Inv X pins σ H1 s)
    (hR : ∀ u s' H2, Inv X pins σ H2 s' → Ext H1 H2 → R (.ok (.ret (.str (tupleText ts) u))) s') (hE : ∀ e s', X.xe e s' → R (.error e) s') :
    wpOwn (model X.prog X.w) A (.builtin id ⟨.ref a :: rest, []⟩) (Builtin.tupleReprAt base ⟨[.ref a], []⟩) (fun fin s' => match fin with | .done f => R (.ok f) s' | .again c' => c'.quiet = true ∧ codeAny (model X.prog X.w) A c' R s') (fun e s' => R (.error e) s') s := by
  obtain ⟨_, its, rv, o, ho, hcl', m, hd⟩ := I.hok a _ (e1 _ _ ha)
  have hlen : ts.length = its.toArray.size := by rw [List.size_toArray, ← rv.length, hT.len]
  have hp := piled_le_tupleText ts
  have z0 : (tupleText ts).length ≤ sizeLine := by omega
  rw [tuple_repr_tree, tupleReprUnderWay_eq]
  refine wpOwn_bind (wpOwn_stackTailAny b.gd (tupGuardF_off _) (tupGuardF_pos _) ?_)
  have hn : (g.any fun c => tupGuardF (.ref a) (c, default)) = false := List.any_eq_false.mpr fun c hcm => by
    rw [tupGuardF_of_clear hca c hcm]
    exact Bool.false_ne_true
  rw [hn]
  refine wpOwn_of_wpAny ?_
  show wpAny _ _ (tupleReprRest base (.ref a)) _ _ s
  unfold tupleReprRest Builtin.Tuple.tupleItemsOf
  refine wpAny_bind (wpAny_bind (wpAny_seqItems ho hd (wpAny_pure ?_)))
  rw [← Array.forIn_toList]
  refine wpAny_bind (wpAny_mono (tupFoldV (Q := fun r s' => r = ((#[] : Array Str) ++ ts.toArray, base + piled ts) ∧ ∃ H2, Inv X pins σ H2 s' ∧ Ext H1 H2) (b.under hcg he hw hc) (fun x hx => (hcl x hx).cons (a := a) fun e => hna (e ▸ hx)) xs _ ts _ _ s H1 rv hT (by omega) e1 I fun s' H2 I2 e2 => ⟨rfl, H2, I2, e2⟩) (fun r s' q => ?_) fun e s' q => hE e s' q)
  obtain ⟨rfl, H2, I2, e2⟩ := q
  refine wpAny_bind (wpAny_mkStr (wpAny_pure ?_) (by simpa [tupleText, hlen] using z0))
  have h1 := hR s'.toks _ H2 (I2.tok (s'.toks + 1)) e2
  simpa [tupleText, hlen] using h1
theorem tr_envs (args : Args) : (Code.builtin "tuple.__repr__" args).envs = [] := by
  first | rfl | simp [Code.envs, Code.isFrame]
theorem tr_weight (args : Args) : (Code.builtin "tuple.__repr__" args).weight = 1 := by
  have h := isGuard_tuple_repr args
  first | rfl | simp [Code.weight, h, Code.frames, Code.isFrame, Code.isCreation, Code.isCaller]
theorem tr_units (args : Args) : (Code.builtin "tuple.__repr__" args).cUnits = 1 := by
  first | rfl | simp [Code.cUnits, Code.frames, Code.isFrame]
theorem tu_envs (args : Args) : (Code.builtin "tuple.__repr__.under" args).envs = [] := by
  first | rfl | simp [Code.envs, Code.isFrame]
theorem tu_weight (args : Args) : (Code.builtin "tuple.__repr__.under" args).weight = 1 := by
  have h := isGuard_tuple_repr_under args
  first | rfl | simp [Code.weight, h, Code.frames, Code.isFrame, Code.isCreation, Code.isCaller]
theorem tu_units (args : Args) : (Code.builtin "tuple.__repr__.under" args).cUnits = 1 := by
  first | rfl | simp [Code.cUnits, Code.frames, Code.isFrame]
theorem typ_tuple {a : Addr} {xs : List V} {pins : List (Addr × Obj)} {σ : L2.St} {s : Shared} (I : Inv X pins σ H s) (ha : H a = some (.tup xs)) : s.TypeIs (.ref a) "tuple" := by
  obtain ⟨_, its, rv, o, ho, hc, _⟩ := I.hok a _ ha
  exact ⟨o, ho, hc⟩
/-- a tuple within -/
theorem repV_tup {a : Addr} {xs : List V} {ts : List Str} (hna : a ∉ as) (ha : H a = some (.tup xs)) (hT : RepL X n as xs H ts) : RepV X (n + 1) (a :: as) (.ref a) H (tupleText ts) := by
  intro A g base pins σ H1 s u b c hz e1 I r
  cases r
  refine wpAny_pyReprUnder_ref (by omega) ?_
  refine wpAny_pyReprObjUnder_twin (twin := "tuple.__repr__.under") (typ_tuple I (e1 _ _ ha)) F.slot_tuple_repr rfl b.room.units0 ?_
  refine call_twin_own (F.quiet_tuple_repr_under _) F.entry_tuple_repr_under F.check_tuple_repr_under (typ_tuple I (e1 _ _ ha)) F.slot_tuple_repr (F.args_tuple_repr_1 _)
    (tupAtV (R := callEnd _ X.xe) b (isGuard_tuple_repr_under _) (tu_envs _) (tu_weight _) (tu_units _) (c a (.head _)) (fun x hx => c x (.tail _ hx)) hna ha hT hz e1 I (fun u' s' H2 I2 e2 => ?_) fun e s' q => q)
  exact ⟨⟨_, _, rfl⟩, _, _, rfl, rfl, H2, I2, e2⟩
/-- repr(t) of a tuple -/
def rRepT (X : Cx) (n : Nat) : List V → Hp → VK → Prop := fun vs H Q => ∃ a xs ts as, vs = [.ref a] ∧ a ∉ as ∧ H a = some (.tup xs) ∧ RepL X n as xs H ts ∧ (tupleText ts).length ≤ sizeLine ∧ ∀ H', Ext H H' → Q (.str (tupleText ts)) H'
theorem call_reprT (hr : Room (n + 2) X.A) (hg : X.A.guards = some []) : CallR X (.builtin "repr") (rRepT X n) := by
  intro pins s σ H vs us Q I r h
  obtain ⟨a, xs, ts, as, rfl, hna, ha, hT, hz, q⟩ := h
  obtain ⟨u, rfl, ru⟩ := vals1 r
  cases ru
  refine call_repr_slot (by have := hr.un; omega) (typ_tuple I ha) F.slot_tuple_repr ?_
  refine wpAny_call (codeAny_call_builtin_own (Code.quiet_builtin _ (by decide +kernel)) F.entry_tuple_repr (F.slot_tuple_repr.check _ _ _ _ _ _ _ _ (typ_tuple I ha) (F.args_tuple_repr_1 _)
    (tupAtV (A := X.A.in1) (base := 0) (R := callEnd _ X.xe) (g := []) ⟨hr.in1, rfl, hg⟩ (isGuard_tuple_repr _) (tr_envs _) (tr_weight _) (tr_units _) (Clear.nil _) (fun b _ => Clear.nil b) hna ha hT (by omega) Ext.rfl' I (fun u' s' H2 I2 e2 => ?_) fun e s' q => q)))
  exact ⟨_, _, rfl, .str _, H2, I2, ⟨_, rfl⟩, q H2 e2⟩
/-- {l!r} of a list -/
def tFmtL (X : Cx) (n : Nat) (te : TE) : TE := fun σ H Q => te σ H fun x H1 => ∃ a xs ts as, x = .ref a ∧ a ∉ as ∧ H1 a = some (.lst xs) ∧ RepL X n as xs H1 ts ∧ (listText ts).length ≤ sizeLine ∧ ∀ H', Ext H1 H' → Q (.str (listText ts)) H'
theorem pe_fmtL {e : Expr} {te : TE} {pos : Pos} (hr : Room (n + 2) X.A) (hg : X.A.guards = some []) (he : PE X e te) : PE X (.FormattedValue e 114 none pos) (tFmtL X n te) := by
  refine ⟨fun pins s σ H Q I h => ?_⟩
  refine wpAny_FormattedValue_repr (thn (he.run pins s σ H _ I h) fun v s1 hv => ?_)
  obtain ⟨x, H1, I1, r1, a, xs, ts, as, rfl, hna, ha, hT, hz, q⟩ := hv
  cases r1
  refine wpAny_pyReprObj_slot (by have := hr.un; omega) (typ_list I1 ha) F.slot_list_repr.toG ?_
  refine wpAny_call (codeAny_call_builtin F.slot_list_repr.plain F.entry_list_repr (F.slot_list_repr.check _ _ _ _ _ _ _ _ (typ_list I1 ha) (F.args_list_repr_1 _)
    (reprAtV (A := X.A) (base := 0) (R := callEnd _ X.xe) (g := []) ⟨hr.mono (by omega), rfl, hg⟩ (Clear.nil _) (fun b _ => Clear.nil b) hna ha hT (by omega) Ext.rfl' I1 (fun u' s' H2 I2 e2 => ?_) fun e s' q => q)))
  exact ⟨_, _, rfl, wpAny_formatField_str ⟨.str _, H2, I2, ⟨_, rfl⟩, q H2 e2⟩ ⟨.str _, H2, I2.tok _, ⟨_, rfl⟩, q H2 e2⟩ hz⟩
end
end NS

/-! questions: plain -/
namespace NS
open PySem
abbrev Pd := List Str
abbrev Wts := List (Pd × Rat)
/-! ### products in order -/
def keyQ (p : Pd) : Int × List Att := ((p.length : Int), [.sts p])
def ltQ (p q : Pd) : Bool := ltT (keyQ p) (keyQ q)
theorem keyQ_inj {p q : Pd} (h : keyQ p = keyQ q) : p = q := by
  have h2 := congrArg Prod.snd h
  injection h2 with h3 _
  injection h3
theorem totQ : Tot ltQ := ⟨fun x => totT.irr _, fun x y z => totT.tr _ _ _, fun x y hne => totT.tot _ _ fun z => hne (keyQ_inj z)⟩
theorem likeQ (p q : Pd) : LikeT (keyQ p) (keyQ q) := by
  intro j a b ha hb
  cases j with
  | zero =>
    cases ha
    cases hb
    rfl
  | succ j => simp [keyQ] at ha
def sortP (l : List Str) : Pd := l.mergeSort fun a b => !ltS b a
theorem sortP_perm (l : List Str) : (sortP l).Perm l := List.mergeSort_perm _ _
theorem sortP_srtd (l : List Str) : SrtO.Srtd ltS (sortP l) := by
  have h := List.pairwise_mergeSort (le := fun a b => !ltS b a) (fun a b c h1 h2 => by
    simp only [Bool.not_eq_true'] at *
    cases e : ltS c a with
    | false => rfl
    | true =>
      by_cases eab : a = b
      · subst eab
        rw [h2] at e
        cases e
      · have h3 := totS.tot b a (fun z => eab z.symm) h1
        have h4 := totS.tr _ _ _ e h3
        rw [h2] at h4
        cases h4) (fun a b => by
    cases e : ltS b a with
    | false => rfl
    | true =>
      have := totS.asym e
      rw [this]
      rfl) l
  exact h.imp fun z => by simpa using z
theorem sortP_of {ys l : List Str} (p : ys.Perm l) (h : SrtO.Srtd ltS ys) : ys = sortP l := srtd_same totS h (sortP_srtd l) (p.trans (sortP_perm l).symm)
theorem sortP_id {l : List Str} (h : SrtO.Srtd ltS l) : sortP l = l := (sortP_of (List.Perm.refl l) h).symm
theorem sortP_same {l m : List Str} (p : l.Perm m) : sortP l = sortP m := sortP_of ((sortP_perm l).trans p) (sortP_srtd l)
theorem sortP_len (l : List Str) : (sortP l).length = l.length := (sortP_perm l).length_eq
theorem sortP_idem (l : List Str) : sortP (sortP l) = sortP l := sortP_id (sortP_srtd l)
/-! ### weights -/
/-- the weight of p, 0 where none stands -/
def wv (ws : Wts) (p : Pd) : Rat := ((ws.find? fun w => decide (w.1 = p)).map (·.2)).getD 0
theorem wv_mem {ws : Wts} (hn : (ws.map (·.1)).Nodup) {w : Pd × Rat} (hw : w ∈ ws) : wv ws w.1 = w.2 := by
  induction ws with
  | nil => cases hw
  | cons q ws ih =>
    rw [List.map_cons, List.nodup_cons] at hn
    unfold wv
    rw [List.find?_cons]
    rcases List.mem_cons.mp hw with rfl | hw
    · simp
    · have hne : ¬ q.1 = w.1 := fun e => hn.1 (List.mem_map.mpr ⟨w, hw, e.symm⟩)
      rw [decide_eq_false hne]
      exact ih hn.2 hw
theorem wv_off {ws : Wts} {p : Pd} (h : p ∉ ws.map (·.1)) : wv ws p = 0 := by
  unfold wv
  rw [List.find?_eq_none.mpr fun w hw => ?_]
  · rfl
  · simp only [decide_eq_true_eq]
    exact fun e => h (List.mem_map.mpr ⟨w, hw, e⟩)
theorem wv_on {ws : Wts} (hn : (ws.map (·.1)).Nodup) {p : Pd} (h : wv ws p ≠ 0) : (p, wv ws p) ∈ ws := by
  by_cases hk : p ∈ ws.map (·.1)
  · obtain ⟨w, hw, rfl⟩ := List.mem_map.mp hk
    rw [wv_mem hn hw]
    exact hw
  · exact absurd (wv_off hk) h
/-- ws: the products in order, none with 0, the weights f's -/
structure CanQ (ws : Wts) (f : Pd → Rat) : Prop where
  so : ws.Pairwise fun a b => ltQ a.1 b.1 = true
  on : ∀ w, w ∈ ws → w.2 = f w.1 ∧ w.2 ≠ 0
  all : ∀ p, f p ≠ 0 → (p, f p) ∈ ws
theorem CanQ.nd {ws : Wts} {f : Pd → Rat} (h : CanQ ws f) : (ws.map (·.1)).Nodup :=
  List.pairwise_map.mpr (h.so.imp fun {a b} z e => by
    rw [e, totQ.irr] at z
    cases z)
theorem CanQ.srt {ws : Wts} {f : Pd → Rat} (h : CanQ ws f) : SrtO.Srtd ltQ (ws.map (·.1)) := List.pairwise_map.mpr (h.so.imp fun z => totQ.asym z)
theorem CanQ.wv {ws : Wts} {f : Pd → Rat} (h : CanQ ws f) (p : Pd) : wv ws p = f p := by
  by_cases hk : f p = 0
  · by_cases hm : p ∈ ws.map (·.1)
    · obtain ⟨w, hw, rfl⟩ := List.mem_map.mp hm
      rw [wv_mem h.nd hw, (h.on w hw).1]
    · rw [wv_off hm, hk]
  · exact wv_mem h.nd (h.all p hk)
theorem CanQ.back {ws : Wts} {f : Pd → Rat} (h : CanQ ws f) : ws = (ws.map (·.1)).map fun p => (p, f p) := by
  rw [List.map_map]
  have : ws.map id = ws.map ((fun p => (p, f p)) ∘ fun x => x.1) := List.map_congr_left fun w hw => Prod.ext rfl (h.on w hw).1
  rw [List.map_id] at this
  exact this
theorem CanQ.same {ws us : Wts} {f : Pd → Rat} (h : CanQ ws f) (k : CanQ us f) : ws = us := by
  have e : ws.map (·.1) = us.map (·.1) := by
    refine srtd_same totQ h.srt k.srt ((List.perm_ext_iff_of_nodup h.nd k.nd).mpr fun p => ⟨fun hp => ?_, fun hp => ?_⟩)
    · obtain ⟨w, hw, rfl⟩ := List.mem_map.mp hp
      obtain ⟨e, ne⟩ := h.on w hw
      exact List.mem_map.mpr ⟨_, k.all w.1 (by rw [← e]; exact ne), rfl⟩
    · obtain ⟨w, hw, rfl⟩ := List.mem_map.mp hp
      obtain ⟨e, ne⟩ := k.on w hw
      exact List.mem_map.mpr ⟨_, h.all w.1 (by rw [← e]; exact ne), rfl⟩
  rw [h.back, k.back, e]
/-- the products with a weight -/
def live (ws : Wts) : List Pd := (ws.filter fun w => decide (w.2 ≠ 0)).map (·.1)
theorem canQ_of {ws : Wts} {ys : List Pd} (hn : (ws.map (·.1)).Nodup) (hp : ys.Perm (live ws)) (hs : SrtO.Srtd ltQ ys) : CanQ (ys.map fun p => (p, wv ws p)) (wv ws) := by
  have nl : (live ws).Nodup := (List.filter_sublist.map _).nodup hn
  have ny : ys.Nodup := hp.nodup_iff.mpr nl
  have mem : ∀ p, p ∈ ys → wv ws p ≠ 0 := fun p hy => by
    obtain ⟨w, hw, rfl⟩ := List.mem_map.mp (hp.mem_iff.mp hy)
    obtain ⟨h1, h2⟩ := List.mem_filter.mp hw
    rw [wv_mem hn h1]
    exact of_decide_eq_true h2
  refine ⟨?_, fun w hw => ?_, fun p hne => ?_⟩
  · rw [List.pairwise_map]
    have := List.Pairwise.and hs ny
    exact this.imp fun {a b} z => totQ.tot b a (fun e => z.2 e.symm) z.1
  · obtain ⟨p, hy, rfl⟩ := List.mem_map.mp hw
    exact ⟨rfl, mem p hy⟩
  · have h1 := wv_on hn hne
    exact List.mem_map.mpr ⟨p, hp.mem_iff.mpr (List.mem_map.mpr ⟨_, List.mem_filter.mpr ⟨h1, decide_eq_true hne⟩, rfl⟩), rfl⟩
/-! ### terms that come together -/
abbrev Tm := Rat × List Str
/-- what goes to p -/
def Fs (ts : List Tm) (p : Pd) : Rat := (ts.map fun t => if sortP t.2 = p then t.1 else 0).sum
theorem fs_nil (p : Pd) : Fs [] p = 0 := rfl
theorem fs_snoc {ts : List Tm} {t : Tm} {p : Pd} : Fs (ts ++ [t]) p = Fs ts p + if sortP t.2 = p then t.1 else 0 := by
  unfold Fs
  rw [List.map_append, List.sum_append, List.map_cons, List.map_nil, List.sum_cons, List.sum_nil, Rat.add_zero]
theorem fs_app {ts us : List Tm} {p : Pd} : Fs (ts ++ us) p = Fs ts p + Fs us p := by
  unfold Fs
  rw [List.map_append, List.sum_append]
theorem fs_cons {t : Tm} {ts : List Tm} {p : Pd} : Fs (t :: ts) p = (if sortP t.2 = p then t.1 else 0) + Fs ts p := by
  unfold Fs
  rw [List.map_cons, List.sum_cons]
theorem fs_perm {ts us : List Tm} {p : Pd} (h : ts.Perm us) : Fs ts p = Fs us p := by
  unfold Fs
  induction h with
  | nil => rfl
  | cons x _ ih => rw [List.map_cons, List.map_cons, List.sum_cons, List.sum_cons, ih]
  | swap x y l =>
    simp only [List.map_cons, List.sum_cons]
    grind
  | trans _ _ ih1 ih2 => exact ih1.trans ih2
/-- a dict that grows -/
def putW (ws : Wts) (p : Pd) (x : Rat) : Wts := if p ∈ ws.map (·.1) then ws.map (fun w => if w.1 = p then (w.1, x) else w) else ws ++ [(p, x)]
theorem keys_putW {ws : Wts} {p : Pd} {x : Rat} : (putW ws p x).map (·.1) = if p ∈ ws.map (·.1) then ws.map (·.1) else ws.map (·.1) ++ [p] := by
  unfold putW
  by_cases h : p ∈ ws.map (·.1)
  · rw [if_pos h, if_pos h, List.map_map]
    refine List.map_congr_left fun w _ => ?_
    show (if w.1 = p then (w.1, x) else w).1 = w.1
    split <;> rfl
  · rw [if_neg h, if_neg h, List.map_append]
    rfl
theorem nd_putW {ws : Wts} {p : Pd} {x : Rat} (h : (ws.map (·.1)).Nodup) : ((putW ws p x).map (·.1)).Nodup := by
  rw [keys_putW]
  by_cases hm : p ∈ ws.map (·.1)
  · rw [if_pos hm]
    exact h
  · rw [if_neg hm, List.nodup_append]
    refine ⟨h, List.pairwise_singleton _ _, fun y hy z hz e => ?_⟩
    rw [List.mem_singleton] at hz
    rw [e, hz] at hy
    exact hm hy
theorem wv_putW {ws : Wts} {p : Pd} {x : Rat} (h : (ws.map (·.1)).Nodup) (q : Pd) : wv (putW ws p x) q = if p = q then x else wv ws q := by
  have nd := nd_putW (p := p) (x := x) h
  by_cases e : p = q
  · subst e
    rw [if_pos rfl]
    by_cases hm : p ∈ ws.map (·.1)
    · have : (p, x) ∈ putW ws p x := by
        obtain ⟨w, hw, e⟩ := List.mem_map.mp hm
        unfold putW
        rw [if_pos hm]
        refine List.mem_map.mpr ⟨w, hw, ?_⟩
        rw [if_pos e, e]
      exact wv_mem nd this
    · have : (p, x) ∈ putW ws p x := by
        unfold putW
        rw [if_neg hm]
        exact List.mem_append_right _ (.head _)
      exact wv_mem nd this
  · rw [if_neg e]
    by_cases hm : q ∈ ws.map (·.1)
    · obtain ⟨w, hw, rfl⟩ := List.mem_map.mp hm
      have : w ∈ putW ws p x := by
        unfold putW
        split
        · exact List.mem_map.mpr ⟨w, hw, if_neg fun z => e z.symm⟩
        · exact List.mem_append_left _ hw
      rw [wv_mem nd this, wv_mem h hw]
    · rw [wv_off hm, wv_off]
      rw [keys_putW]
      split
      · exact hm
      · intro z
        rcases List.mem_append.mp z with z | z
        · exact hm z
        · exact e (List.mem_singleton.mp z).symm
end NS

/-! the weights of terms, as a function -/
namespace NS
open PySem
/-- any list, sorted by a total order -/
theorem srt_any {α : Type} [DecidableEq α] {lt : α → α → Bool} (T : Tot lt) (l : List α) : SrtO.Srtd lt (l.mergeSort fun a b => !lt b a) := by
  have h := List.pairwise_mergeSort (le := fun a b => !lt b a) (fun a b c h1 h2 => by
    simp only [Bool.not_eq_true'] at *
    cases e : lt c a with
    | false => rfl
    | true =>
      by_cases eab : a = b
      · subst eab
        rw [h2] at e
        cases e
      · have h3 := T.tot b a (fun z => eab z.symm) h1
        have h4 := T.tr _ _ _ e h3
        rw [h2] at h4
        cases h4) (fun a b => by
    cases e : lt b a with
    | false => rfl
    | true =>
      have := T.asym e
      rw [this]
      rfl) l
  exact h.imp fun z => by simpa using z
def addW (ws : Wts) (t : Tm) : Wts := putW ws (sortP t.2) (wv ws (sortP t.2) + t.1)
def sumW (ts : List Tm) : Wts := ts.foldl addW []
theorem nd_addW {ws : Wts} {t : Tm} (h : (ws.map (·.1)).Nodup) : ((addW ws t).map (·.1)).Nodup := nd_putW h
theorem sum_go (ts : List Tm) : ∀ ws : Wts, (ws.map (·.1)).Nodup → ((ts.foldl addW ws).map (·.1)).Nodup ∧ ∀ p, wv (ts.foldl addW ws) p = wv ws p + Fs ts p := by
  induction ts with
  | nil => exact fun ws h => ⟨h, fun p => by rw [fs_nil, Rat.add_zero]; rfl⟩
  | cons t ts ih =>
    intro ws h
    obtain ⟨h1, h2⟩ := ih (addW ws t) (nd_addW h)
    refine ⟨h1, fun p => ?_⟩
    rw [List.foldl_cons, h2 p, fs_cons, ← Rat.add_assoc]
    congr 1
    unfold addW
    rw [wv_putW h]
    by_cases e : sortP t.2 = p
    · rw [if_pos e, if_pos e, e]
    · rw [if_neg e, if_neg e, Rat.add_zero]
theorem sumW_nd (ts : List Tm) : ((sumW ts).map (·.1)).Nodup := (sum_go ts [] List.nodup_nil).1
theorem sumW_wv (ts : List Tm) (p : Pd) : wv (sumW ts) p = Fs ts p := by
  have := (sum_go ts [] List.nodup_nil).2 p
  rw [show wv [] p = 0 from rfl, Rat.zero_add] at this
  exact this
/-- the weights of the question of some terms: in order, without zeros -/
def mkQ (ts : List Tm) : Wts := ((live (sumW ts)).mergeSort fun a b => !ltQ b a).map fun p => (p, wv (sumW ts) p)
theorem canQ_mkQ (ts : List Tm) : CanQ (mkQ ts) (Fs ts) := by
  have h := canQ_of (sumW_nd ts) (List.mergeSort_perm (live (sumW ts)) fun a b => !ltQ b a) (srt_any totQ _)
  rw [show wv (sumW ts) = Fs ts from funext (sumW_wv ts)] at h
  unfold mkQ
  rw [show wv (sumW ts) = Fs ts from funext (sumW_wv ts)]
  exact h
theorem mkQ_of {ws : Wts} {ts : List Tm} (h : CanQ ws (Fs ts)) : ws = mkQ ts := h.same (canQ_mkQ ts)
theorem mkQ_congr {ts us : List Tm} (h : ∀ p, Fs ts p = Fs us p) : mkQ ts = mkQ us := by
  refine mkQ_of ?_
  rw [← show Fs ts = Fs us from funext h]
  exact canQ_mkQ ts
theorem mkQ_perm {ts us : List Tm} (h : ts.Perm us) : mkQ ts = mkQ us := mkQ_congr fun p => fs_perm h
theorem fs_off {ts : List Tm} {p : Pd} (h : ∀ t, t ∈ ts → sortP t.2 ≠ p) : Fs ts p = 0 := by
  induction ts with
  | nil => rfl
  | cons t ts ih =>
    rw [fs_cons, if_neg (h t (.head _)), ih fun u hu => h u (.tail _ hu), Rat.zero_add]
/-- where its products come from -/
theorem mkQ_mem {ts : List Tm} {w : Pd × Rat} (h : w ∈ mkQ ts) : ∃ t, t ∈ ts ∧ w.1 = sortP t.2 := by
  obtain ⟨e, ne⟩ := (canQ_mkQ ts).on w h
  by_cases c : ∃ t, t ∈ ts ∧ w.1 = sortP t.2
  · exact c
  · refine absurd (e.trans (fs_off fun t ht z => c ⟨t, ht, z.symm⟩)) ne
theorem mkQ_val {ts : List Tm} {w : Pd × Rat} (h : w ∈ mkQ ts) : w.2 = Fs ts w.1 := ((canQ_mkQ ts).on w h).1
theorem mkQ_ne {ts : List Tm} {w : Pd × Rat} (h : w ∈ mkQ ts) : w.2 ≠ 0 := ((canQ_mkQ ts).on w h).2
theorem mkQ_so {ts : List Tm} {w : Pd × Rat} (h : w ∈ mkQ ts) : sortP w.1 = w.1 := by
  obtain ⟨t, _, e⟩ := mkQ_mem h
  rw [e, sortP_idem]
theorem len_addW (ws : Wts) (t : Tm) : (addW ws t).length ≤ ws.length + 1 := by
  unfold addW putW
  split
  · rw [List.length_map]
    omega
  · rw [List.length_append]
    exact Nat.le_refl _
theorem len_sum (ts : List Tm) : ∀ ws : Wts, (ts.foldl addW ws).length ≤ ws.length + ts.length := by
  induction ts with
  | nil => exact fun ws => Nat.le_refl _
  | cons t ts ih =>
    intro ws
    have h1 := ih (addW ws t)
    have h2 := len_addW ws t
    rw [List.foldl_cons, List.length_cons]
    omega
theorem mkQ_len (ts : List Tm) : (mkQ ts).length ≤ ts.length := by
  unfold mkQ
  rw [List.length_map, List.length_mergeSort]
  unfold live
  rw [List.length_map]
  refine Nat.le_trans (List.length_filter_le _ _) ?_
  have := len_sum ts []
  rw [List.length_nil, Nat.zero_add] at this
  exact this
/-- the terms of some weights -/
def tmW (ws : Wts) : List Tm := ws.map fun w => (w.2, w.1)
theorem fs_tmW {ws : Wts} (nd : (ws.map (·.1)).Nodup) (so : ∀ w, w ∈ ws → sortP w.1 = w.1) (p : Pd) : Fs (tmW ws) p = wv ws p := by
  induction ws with
  | nil => rfl
  | cons w ws ih =>
    rw [List.map_cons, List.nodup_cons] at nd
    show Fs ((w.2, w.1) :: tmW ws) p = _
    rw [fs_cons, ih nd.2 fun u hu => so u (.tail _ hu), so w (.head _)]
    by_cases e : w.1 = p
    · subst e
      rw [if_pos rfl, wv_off nd.1, Rat.add_zero]
      simp [wv, List.find?_cons]
    · rw [if_neg e, Rat.zero_add]
      simp [wv, List.find?_cons, e]
theorem fs_back (ts : List Tm) (p : Pd) : Fs (tmW (mkQ ts)) p = Fs ts p := by
  rw [fs_tmW (canQ_mkQ ts).nd (fun w hw => mkQ_so hw), (canQ_mkQ ts).wv]
theorem mkQ_idem (ts : List Tm) : mkQ (tmW (mkQ ts)) = mkQ ts := mkQ_congr (fs_back ts)
theorem mkQ_add (ts us : List Tm) : mkQ (tmW (mkQ ts) ++ tmW (mkQ us)) = mkQ (ts ++ us) := mkQ_congr fun p => by rw [fs_app, fs_app, fs_back, fs_back]
def negT (ts : List Tm) : List Tm := ts.map fun t => (-t.1, t.2)
theorem fs_neg (ts : List Tm) (p : Pd) : Fs (negT ts) p = -Fs ts p := by
  induction ts with
  | nil => rfl
  | cons t ts ih =>
    show Fs ((-t.1, t.2) :: negT ts) p = _
    rw [fs_cons, fs_cons, ih, Rat.neg_add]
    by_cases e : sortP t.2 = p
    · rw [if_pos e, if_pos e]
    · rw [if_neg e, if_neg e]
      rfl
theorem mkQ_neg (ts : List Tm) : mkQ (negT (tmW (mkQ ts))) = mkQ (negT ts) := mkQ_congr fun p => by rw [fs_neg, fs_neg, fs_back]
theorem fs_sub (ts : List Tm) (p : Pd) : Fs (ts ++ negT ts) p = 0 := by rw [fs_app, fs_neg, Rat.add_neg_cancel]
theorem mkQ_zero {ts : List Tm} (h : ∀ p, Fs ts p = 0) : mkQ ts = [] := by
  cases e : mkQ ts with
  | nil => rfl
  | cons w ws =>
    have hw : w ∈ mkQ ts := by rw [e]; exact .head _
    exact absurd ((mkQ_val hw).trans (h _)) (mkQ_ne hw)
/-- how great the sums are -/
theorem sz_zero {n : Nat} (h : 0 < n) : Sz n 0 := sz_int (i := 0) (by unfold Bt; exact Nat.two_pow_pos n) h
theorem sz_fs {b : Nat} (hb : 0 < b) {ts : List Tm} (h : ∀ t, t ∈ ts → Sz b t.1) (p : Pd) : Sz (ts.length * (b + 1) + 1) (Fs ts p) := by
  induction ts with
  | nil => exact sz_zero (by omega)
  | cons t ts ih =>
    rw [fs_cons]
    have h1 : Sz b (if sortP t.2 = p then t.1 else 0) := by
      split
      · exact h t (.head _)
      · exact sz_zero hb
    refine (sz_add h1 (ih fun u hu => h u (.tail _ hu))).mono ?_
    rw [List.length_cons, Nat.succ_mul]
    omega
end NS

/-! a class in a slot, a class method -/
namespace NS
open PySem L2
section
variable {X : Cx} {CX : CXT} {k i : Nat} {f C p g : Addr} {fd : FuncData} {ps : List Str} {sp : Sp} {dvs : List V} {ds : List Value} {E : XK} {x m : Str} {pp pos apos : Pos} {e o : Expr} {es : List Expr} {t : TA} {ta : TE} {mc : Value} {pl : Sem Bool}
/-- the i-th slot holds the class at C; a new instance of it -/
def tMakeL (i : Nat) (C : Addr) (sp : Sp) (dvs : List V) (E : XK) (t : TA) : TE := fun σ H Q => σ[i]? = some (some (.ref C)) ∧ tMake C sp dvs E t σ H Q
theorem pe_makeL (M : Mk X.K C f) (F : FnOk X.prog X.w X.K X.mg X.base CX k f fd ps sp) (hr : Room (k + 1) X.A) (hN : X.N[i]? = some x) (hv : Vis X.env.scope x) (hb : Binds X.K fd ps ds) (hd : Vals dvs ds) (hx : Passes CX X E) (ha : PA X (e :: es) t)
    (hdb : (x == ("__debug__" : Str)) = false := by decide) (hcd : (x == ("__classdict__" : Str)) = false := by decide)
    (he : starEach (e :: es) X.env = (false, eval e X.env) :: starEach es X.env := by rfl) (hpl : (backTo pos (starEach es X.env)).any (·.1) = false := by rfl) :
    PE X (.Call (.Name x pp) (e :: es) [] pos) (tMakeL i C sp dvs E t) := by
  refine ⟨fun pins s σ H Q I h => ?_⟩
  obtain ⟨hs, ht⟩ := h
  have load := (pe_var (pos := pp) hN hv hdb hcd).run pins s σ H (fun v H1 => v = .ref C ∧ H1 = H) I ⟨.ref C, hs, rfl, rfl⟩
  refine wpAny_Call_Name_kw (thn load fun u s1 z => ?_)
  obtain ⟨v, H1, I1, r1, rfl, rfl⟩ := z
  cases r1
  refine PySem.W.callWith_K (h₀ := X.base) I.ok.mod.kin M.kp (thn (ha.run pos pins s1 σ _ _ I1 ht) fun us s2 z => ?_) he hpl
  obtain ⟨vs, H2, I2, rv, q⟩ := z
  exact ⟨I2.kIn, run_make M F hr hb hd hx I2 rv q⟩
/-- C.m() with m a classmethod -/
theorem pe_cmeth0 (he : PE X o ta) (r : ClX.CRead X.K C mc) (c : ClX.CMet X.K C mc m p g) (F : FnR X.prog X.w X.K X.mg X.base CX k g sp) (hr : Room k X.A) (hx : Passes CX X E)
    (ht : eval (.Call (.Attribute o m apos) [] [] pos) X.env = (do
      let ov ← eval o X.env
      standAt apos.atName
      let (f, first) ← holding [ov] (getMethod ov m pl)
      callWith pos f first (backTo pos (starEach [] X.env)) (backToKw pos (keywordEach [] X.env))) := by rfl) :
    PE X (.Call (.Attribute o m apos) [] [] pos) (ClX.tCMeth C sp E ta tNil) := by
  refine ⟨fun pins s σ H Q I h => ?_⟩
  refine PySem.W.methodCall_KW (pl := pl) (thn (he.run pins s σ H _ I h) fun u s1 z => ?_) ht
  obtain ⟨x, H1, I1, rx, rfl, q⟩ := z
  obtain rfl : u = Value.ref C := rx
  refine ClX.getmethcm_ok I1 r c fun s2 I2 => ?_
  exact PySem.W.callWith_M0 ⟨ClX.pin_at I2, I2.kIn⟩ c.fi (ClX.run_cm (us := []) F hr hx I2 .nil q)
end
end NS

/-! t[::-1] of a tuple -/
namespace NS
open PySem L2 HT PyProof.Rows PySem.SeqAt
theorem adj_back (n : Nat) : Builtin.Slice.sliceAdjust none none (-1) (n : Int) = ((n : Int) - 1, -1) := by
  unfold Builtin.Slice.sliceAdjust
  simp
theorem plc_back (n : Nat) : Builtin.Slice.slicePlaces ((n : Int) - 1) (-1) (-1) = n := by
  unfold Builtin.Slice.slicePlaces
  have h1 : ¬ ((-1 : Int) > 0) := by decide
  rw [if_neg h1]
  by_cases h : (n : Int) - 1 > -1
  · rw [if_pos h, show (- -1 : Int) = 1 by decide, Int.ediv_one]
    omega
  · rw [if_neg h]
    omega
theorem pick_back (xs : Array Value) : ((List.range xs.size).filterMap fun (m : Nat) => xs[((xs.size : Int) - 1 + (m : Int) * (-1)).toNat]?).toArray = xs.toList.reverse.toArray := by
  have e : (List.range xs.size).filterMap (fun (m : Nat) => xs[((xs.size : Int) - 1 + (m : Int) * (-1)).toNat]?) = ((List.range xs.size).map fun k => xs.size - 1 - k).filterMap (xs[·]?) := by
    rw [List.filterMap_map]
    congr 1
    funext m
    have q : ((xs.size : Int) - 1 + (m : Int) * (-1)).toNat = xs.size - 1 - m := by omega
    rw [q]
    rfl
  rw [e, PySem.W.krv_range, List.filterMap_reverse, PySem.W.krv_all]
section
variable {prog : Program} {w : World} {A : Around} {E : Value → Shared → Prop} {s : Shared}
theorem applied_back {sl : Addr} {vs : Value} {n : Nat} {Q : Int × Int × Nat → Shared → Prop} (hs : s.heap.IsSliceOf sl .none .none vs) (ps : IsPart vs (some (-1)))
    (h : Q ((n : Int) - 1, -1, n) s) : wpAny (model prog w) A (Builtin.Slice.sliceApplied (.ref sl) (pure (n : Int))) Q E s := by
  obtain ⟨os, hos, hcs, hds⟩ := id hs
  unfold Builtin.Slice.sliceApplied Builtin.Slice.sliceFields
  refine wpAny_bind (wpAny_bind (wpAny_field hos hds (x := .none) rfl (wpAny_bind (wpAny_field hos hds (x := .none) rfl (wpAny_bind (wpAny_field hos hds (x := vs) rfl (wpAny_pure ?_)))))))
  refine wpAny_bind (HT.slicePart_ ps ?_)
  show wpAny _ _ (if ((-1 : Int) == 0) = true then _ else _) _ _ s
  rw [if_neg (by decide)]
  refine wpAny_bind (HT.slicePart_ .none (wpAny_bind (HT.slicePart_ .none (wpAny_bind (wpAny_pure ?_)))))
  show wpAny _ _ (match Builtin.Slice.sliceAdjust none none (-1) (n : Int) with | (lo, hi) => pure (lo, (-1 : Int), Builtin.Slice.slicePlaces lo hi (-1))) _ _ s
  rw [adj_back n]
  show wpAny _ _ (pure ((n : Int) - 1, (-1 : Int), Builtin.Slice.slicePlaces ((n : Int) - 1) (-1) (-1))) _ _ s
  rw [plc_back]
  exact wpAny_pure h
theorem tuple_back {t sl : Addr} {items : Array Value} {vs : Value} {Q : Value → Shared → Prop} (ht : IsTup s.heap t items) (hs : s.heap.IsSliceOf sl .none .none vs) (ps : IsPart vs (some (-1)))
    (h : Q (.ref s.heap.objs.size) { s with heap := s.heap.push { cls := .type "tuple", data := .seq items.toList.reverse.toArray } }) (hsz : items.size ≤ sizeLine) : wpAny (model prog w) A (getItem (.ref t) (.ref sl)) Q E s := by
  have htake : sizeOk (.seq items.toList.reverse.toArray) := by
    show items.toList.reverse.toArray.size ≤ sizeLine
    rw [List.size_toArray, List.length_reverse, Array.length_toList]
    exact hsz
  obtain ⟨os, hos, hcs, hds⟩ := id hs
  have hTs : s.TypeIs (.ref sl) "slice" := ⟨os, hos, hcs⟩
  unfold getItem
  try with_reducible refine wpAny_holding ?_
  first | refine wpAny_bind (wpAny_pure ?_) | skip
  refine wpAny_bind (wpAny_sequenceKey ht.typeIs (by decide) ?_)
  refine wpAny_bind (wpAny_callSpecial?_slot (name := Str.ofString "__getitem__") ht.typeIs PyProof.Rows.slot_tuple_getitem
    (wpAny_call_entry PyProof.Rows.slot_tuple_getitem ht.typeIs entry_tuple_getitem ?_ (args_tuple_getitem _ _)))
  show wpAny _ _ (Builtin.Tuple.tupleItemsOf (.ref t) >>= _) _ _ s
  refine wpAny_bind (tupleItemsOf_ ht ?_)
  refine wpAny_bind (wpAny_typeOf hTs ?_)
  rw [if_pos (by decide)]
  refine wpAny_bind (applied_back hs ps ?_)
  have hno : ¬ ((((items.size : Int) - 1) == 0 && (-1 : Int) == 1 && items.size == items.size) = true) := by
    intro q
    rw [Bool.and_eq_true, Bool.and_eq_true] at q
    exact absurd (eq_of_beq q.1.2) (by decide)
  show wpAny _ _ (if (((items.size : Int) - 1) == 0 && (-1 : Int) == 1 && items.size == items.size) = true then _ else _) _ _ s
  rw [if_neg hno, pick_back]
  first
    | exact wpAny_bind (m := Builtin.Tuple.tupleExact _) (wpAny_newObj_type (wpAny_pure ⟨_, rfl, wpAny_pure h⟩) htake)
    | exact wpAny_bind (m := Builtin.Tuple.tupleExact _) (wpAny_newObj_type (wpAny_bind (wpAny_pure (wpAny_pure ⟨_, rfl, wpAny_pure h⟩))) htake)
    | exact wpAny_bind (wpAny_bind (m := Builtin.Tuple.tupleExact _) (wpAny_newObj_type (wpAny_pure (wpAny_pure ⟨_, rfl, wpAny_pure h⟩)) htake))
    | exact wpAny_bind (wpAny_bind (m := Builtin.Tuple.tupleExact _) (wpAny_newObj_type (wpAny_pure ⟨_, rfl, wpAny_pure h⟩) htake))
end
section
variable {X : Cx}
def tRevT (K : PySem.W.Frag) (te : TE) : TE := fun σ H Q => te σ H fun x H1 => ∃ a xs, x = .ref a ∧ SqT K H1 a xs ∧ ∀ p, H1 p = none → Q (.ref p) (upd H1 p (.tup xs.reverse))
theorem pe_revT {e : Expr} {te : TE} {k : Nat} {p1 p2 p3 pos : Pos} (he : PE X e te) : PE X (.Subscript e (.Slice none none (some (.UnaryOp .USub (.Constant (.int 1) k p1) p2)) p3) pos) (tRevT X.K te) := by
  refine ⟨fun pins s σ H Q I h => ?_⟩
  refine Subscript_ (thn (he.run pins s σ H _ I h) fun v s1 z => ?_)
  obtain ⟨x, H1, I1, r1, a, xs, rfl, hx, q⟩ := z
  cases r1
  have hst : PO X (some (.UnaryOp .USub (.Constant (.int 1) k p1) p2)) (tPart (tUn (rU fun i => .int (-i)) (tC (.int 1)))) := po_some (pe_un un_neg pe_int)
  refine wpAny_Slice (thn (po_none.run pins s1 σ H1 (fun o H2 => o = none ∧ H2 = H1) I1 ⟨rfl, rfl⟩) fun vl s2 z2 => ?_)
  obtain ⟨l, H2, I2, pl, rfl, rfl⟩ := z2
  refine thn (po_none.run pins s2 σ _ (fun o H3 => o = none ∧ H3 = _) I2 ⟨rfl, rfl⟩) fun vu s3 z3 => ?_
  obtain ⟨u, H3, I3, pu, rfl, rfl⟩ := z3
  refine thn (hst.run pins s3 σ _ (fun o H4 => o = some (-1) ∧ H4 = _) I3 ⟨1, rfl, -1, rfl, rfl, rfl⟩) fun vs s4 z4 => ?_
  obtain ⟨o, H4, I4, ps, rfl, rfl⟩ := z4
  cases pl
  cases pu
  have I5 := I4.kept (h' := s4.heap.push { cls := .type "slice", data := .fields #[.none, .none, vs] }) (t' := s4.toks) fun b ob q => Heap.get?_push_of_some _ q
  obtain ⟨its, r, ht, hz⟩ := I5.tuple hx
  have hlen := r.length
  refine tail_any (ops := [.ref a, .ref s4.heap.objs.size]) ht.typeIs (PyProof.Rows.slot_tuple_getitem.lookup) ?_ (by with_unfolding_all rfl)
  refine tuple_back ht (Heap.IsSliceOf.new _ .none .none vs) ps ?_ (by rw [List.size_toArray]; omega)
  refine ⟨.ref _, _, I5.laid (t' := s4.toks) (o := .tup xs.reverse) (fun b ob q => Heap.get?_push_of_some _ q) (Nat.le_refl _) ?_, rfl, q _ (I5.hok.fresh (Nat.le_refl _))⟩
  exact ⟨by rw [List.length_reverse]; exact hz, _, r.reverse, IsTup.new _ _⟩
end
end NS

namespace P
open PySem L2 NS
/-! ### the text by places -/
def top (i : Nat) : Stmt := PySem.Challenge.pw_notesums_k15_texts_of_questions.main.body.getD i (.Pass ⟨0, 0, 0, 0⟩)
abbrev s_InvalidNumber_init : Stmt := inClass (top 3) 0
theorem sc_InvalidNumber_init : FnScope ["self", "value"] ["self", "value"] (defScope s_InvalidNumber_init) := ⟨rfl, rfl, rfl, by decide +kernel, rfl, by decide +kernel, by decide +kernel⟩
abbrev s_InvalidName_init : Stmt := inClass (top 4) 0
theorem sc_InvalidName_init : FnScope ["self", "value"] ["self", "value"] (defScope s_InvalidName_init) := ⟨rfl, rfl, rfl, by decide +kernel, rfl, by decide +kernel, by decide +kernel⟩
abbrev s_InvalidTable_init : Stmt := inClass (top 5) 0
theorem sc_InvalidTable_init : FnScope ["self", "value"] ["self", "value"] (defScope s_InvalidTable_init) := ⟨rfl, rfl, rfl, by decide +kernel, rfl, by decide +kernel, by decide +kernel⟩
abbrev s_InvalidTerms_init : Stmt := inClass (top 6) 0
theorem sc_InvalidTerms_init : FnScope ["self", "position"] ["self", "position"] (defScope s_InvalidTerms_init) := ⟨rfl, rfl, rfl, by decide +kernel, rfl, by decide +kernel, by decide +kernel⟩
abbrev s_InvalidQuestion_init : Stmt := inClass (top 7) 0
theorem sc_InvalidQuestion_init : FnScope ["self", "value"] ["self", "value"] (defScope s_InvalidQuestion_init) := ⟨rfl, rfl, rfl, by decide +kernel, rfl, by decide +kernel, by decide +kernel⟩
abbrev s_InvalidKeys_init : Stmt := inClass (top 8) 0
theorem sc_InvalidKeys_init : FnScope ["self", "value"] ["self", "value"] (defScope s_InvalidKeys_init) := ⟨rfl, rfl, rfl, by decide +kernel, rfl, by decide +kernel, by decide +kernel⟩
abbrev s_is_integer : Stmt := top 10
theorem sc_is_integer : FnScope ["value"] ["value"] (defScope s_is_integer) := ⟨rfl, rfl, rfl, by decide +kernel, rfl, by decide +kernel, by decide +kernel⟩
abbrev s_is_number : Stmt := top 11
theorem sc_is_number : FnScope ["value"] ["value"] (defScope s_is_number) := ⟨rfl, rfl, rfl, by decide +kernel, rfl, by decide +kernel, by decide +kernel⟩
abbrev s_want_number : Stmt := top 12
theorem sc_want_number : FnScope ["value"] ["value"] (defScope s_want_number) := ⟨rfl, rfl, rfl, by decide +kernel, rfl, by decide +kernel, by decide +kernel⟩
abbrev s_as_ratio : Stmt := top 13
theorem sc_as_ratio : FnScope ["number"] ["number"] (defScope s_as_ratio) := ⟨rfl, rfl, rfl, by decide +kernel, rfl, by decide +kernel, by decide +kernel⟩
abbrev s_common_divisor : Stmt := top 14
theorem sc_common_divisor : FnScope ["one", "other"] ["one", "other"] (defScope s_common_divisor) := ⟨rfl, rfl, rfl, by decide +kernel, rfl, by decide +kernel, by decide +kernel⟩
abbrev s_Ratio_init : Stmt := inClass (top 15) 0
theorem sc_Ratio_init : FnScope ["self", "top", "bottom", "divisor"] ["self", "top", "bottom"] (defScope s_Ratio_init) := ⟨rfl, rfl, rfl, by decide +kernel, rfl, by decide +kernel, by decide +kernel⟩
abbrev s_Ratio_sign : Stmt := inClass (top 15) 4
theorem sc_Ratio_sign : FnScope ["self"] ["self"] (defScope s_Ratio_sign) := ⟨rfl, rfl, rfl, by decide +kernel, rfl, by decide +kernel, by decide +kernel⟩
abbrev s_Ratio_add : Stmt := inClass (top 15) 7
theorem sc_Ratio_add : FnScope ["self", "other", "more", "top"] ["self", "other"] (defScope s_Ratio_add) := ⟨rfl, rfl, rfl, by decide +kernel, rfl, by decide +kernel, by decide +kernel⟩
abbrev s_Ratio_neg : Stmt := inClass (top 15) 10
theorem sc_Ratio_neg : FnScope ["self"] ["self"] (defScope s_Ratio_neg) := ⟨rfl, rfl, rfl, by decide +kernel, rfl, by decide +kernel, by decide +kernel⟩
abbrev s_Ratio_repr : Stmt := inClass (top 15) 13
theorem sc_Ratio_repr : FnScope ["self"] ["self"] (defScope s_Ratio_repr) := ⟨rfl, rfl, rfl, by decide +kernel, rfl, by decide +kernel, by decide +kernel⟩
abbrev s_is_key : Stmt := top 20
theorem sc_is_key : FnScope ["value", "sign"] ["value"] (defScope s_is_key) := ⟨rfl, rfl, rfl, by decide +kernel, rfl, by decide +kernel, by decide +kernel⟩
abbrev s_is_list : Stmt := top 21
theorem sc_is_list : FnScope ["value"] ["value"] (defScope s_is_list) := ⟨rfl, rfl, rfl, by decide +kernel, rfl, by decide +kernel, by decide +kernel⟩
abbrev s_product_key : Stmt := top 27
theorem sc_product_key : FnScope ["product"] ["product"] (defScope s_product_key) := ⟨rfl, rfl, rfl, by decide +kernel, rfl, by decide +kernel, by decide +kernel⟩
abbrev s_are_keys : Stmt := top 28
theorem sc_are_keys : FnScope ["value", "key"] ["value"] (defScope s_are_keys) := ⟨rfl, rfl, rfl, by decide +kernel, rfl, by decide +kernel, by decide +kernel⟩
abbrev s_is_term : Stmt := top 29
theorem sc_is_term : FnScope ["value"] ["value"] (defScope s_is_term) := ⟨rfl, rfl, rfl, by decide +kernel, rfl, by decide +kernel, by decide +kernel⟩
abbrev s_want_terms : Stmt := top 30
theorem sc_want_terms : FnScope ["terms", "position", "term"] ["terms"] (defScope s_want_terms) := ⟨rfl, rfl, rfl, by decide +kernel, rfl, by decide +kernel, by decide +kernel⟩
abbrev s_summed : Stmt := top 31
theorem sc_summed : FnScope ["terms", "found", "number", "keys", "product", "weight"] ["terms"] (defScope s_summed) := ⟨rfl, rfl, rfl, by decide +kernel, rfl, by decide +kernel, by decide +kernel⟩
abbrev s_in_order : Stmt := top 32
theorem sc_in_order : FnScope ["weights", "products", "product"] ["weights"] (defScope s_in_order) := ⟨rfl, rfl, rfl, by decide +kernel, rfl, by decide +kernel, by decide +kernel⟩
abbrev s_told_terms : Stmt := top 33
theorem sc_told_terms : FnScope ["weights", "product", "weight"] ["weights"] (defScope s_told_terms) := ⟨rfl, rfl, rfl, by decide +kernel, rfl, by decide +kernel, by decide +kernel⟩
abbrev s_term_text : Stmt := top 35
theorem sc_term_text : FnScope ["top", "bottom", "product", "text", "key"] ["top", "bottom", "product"] (defScope s_term_text) := ⟨rfl, rfl, rfl, by decide +kernel, rfl, by decide +kernel, by decide +kernel⟩
abbrev s_question_text : Stmt := top 36
theorem sc_question_text : FnScope ["weights", "text", "product", "weight", "plain"] ["weights"] (defScope s_question_text) := ⟨rfl, rfl, rfl, by decide +kernel, rfl, by decide +kernel, by decide +kernel⟩
abbrev s_as_question : Stmt := top 37
theorem sc_as_question : FnScope ["value"] ["value"] (defScope s_as_question) := ⟨rfl, rfl, rfl, by decide +kernel, rfl, by decide +kernel, by decide +kernel⟩
abbrev s_Question_init : Stmt := inClass (top 38) 0
theorem sc_Question_init : FnScope ["self", "terms"] ["self", "terms"] (defScope s_Question_init) := ⟨rfl, rfl, rfl, by decide +kernel, rfl, by decide +kernel, by decide +kernel⟩
abbrev s_Question_of_key : Stmt := inClass (top 38) 1
theorem sc_Question_of_key : FnScope ["cls", "key"] ["cls", "key"] (defScope s_Question_of_key) := ⟨rfl, rfl, rfl, by decide +kernel, rfl, by decide +kernel, by decide +kernel⟩
abbrev s_Question_constant : Stmt := inClass (top 38) 2
theorem sc_Question_constant : FnScope ["cls", "number"] ["cls", "number"] (defScope s_Question_constant) := ⟨rfl, rfl, rfl, by decide +kernel, rfl, by decide +kernel, by decide +kernel⟩
abbrev s_Question_terms : Stmt := inClass (top 38) 5
theorem sc_Question_terms : FnScope ["self"] ["self"] (defScope s_Question_terms) := ⟨rfl, rfl, rfl, by decide +kernel, rfl, by decide +kernel, by decide +kernel⟩
abbrev s_Question_add : Stmt := inClass (top 38) 14
theorem sc_Question_add : FnScope ["self", "other", "more"] ["self", "other"] (defScope s_Question_add) := ⟨rfl, rfl, rfl, by decide +kernel, rfl, by decide +kernel, by decide +kernel⟩
abbrev s_Question_sub : Stmt := inClass (top 38) 15
theorem sc_Question_sub : FnScope ["self", "other"] ["self", "other"] (defScope s_Question_sub) := ⟨rfl, rfl, rfl, by decide +kernel, rfl, by decide +kernel, by decide +kernel⟩
abbrev s_Question_neg : Stmt := inClass (top 38) 17
theorem sc_Question_neg : FnScope ["self", "product", "weight"] ["self"] (defScope s_Question_neg) := ⟨rfl, rfl, rfl, by decide +kernel, rfl, by decide +kernel, by decide +kernel⟩
abbrev s_Question_str : Stmt := inClass (top 38) 19
theorem sc_Question_str : FnScope ["self"] ["self"] (defScope s_Question_str) := ⟨rfl, rfl, rfl, by decide +kernel, rfl, by decide +kernel, by decide +kernel⟩
abbrev s_Question_repr : Stmt := inClass (top 38) 20
theorem sc_Question_repr : FnScope ["self"] ["self"] (defScope s_Question_repr) := ⟨rfl, rfl, rfl, by decide +kernel, rfl, by decide +kernel, by decide +kernel⟩
abbrev s_law_rng : Stmt := top 40
theorem sc_law_rng : FnScope ["_law_script", "_law_k", "_law_cell"] ["_law_script", "_law_k"] (defScope s_law_rng) := ⟨rfl, rfl, rfl, by decide +kernel, rfl, by decide +kernel, by decide +kernel⟩
abbrev s_law_draw : Stmt := top 41
theorem sc_law_draw : FnScope ["_law_rng_here", "_law_many", "_law_digit"] ["_law_rng_here", "_law_many"] (defScope s_law_draw) := ⟨rfl, rfl, rfl, by decide +kernel, rfl, by decide +kernel, by decide +kernel⟩
abbrev s_law_choice : Stmt := top 42
theorem sc_law_choice : FnScope ["_law_rng_here", "_law_some"] ["_law_rng_here", "_law_some"] (defScope s_law_choice) := ⟨rfl, rfl, rfl, by decide +kernel, rfl, by decide +kernel, by decide +kernel⟩
abbrev s_law_names : Stmt := top 43
theorem sc_law_names : FnScope ["_law_rng_here", "_law_many", "_law_taken", "_law_found", "_law_k", "_law_size", "_law_name", "_law_turn", "_law_spare", "_law_one"] ["_law_rng_here", "_law_many", "_law_taken"] (defScope s_law_names) := ⟨rfl, rfl, rfl, by decide +kernel, rfl, by decide +kernel, by decide +kernel⟩
abbrev s_law_common : Stmt := top 44
theorem sc_law_common : FnScope ["_law_one", "_law_other"] ["_law_one", "_law_other"] (defScope s_law_common) := ⟨rfl, rfl, rfl, by decide +kernel, rfl, by decide +kernel, by decide +kernel⟩
abbrev s_law_terms : Stmt := top 45
theorem sc_law_terms : FnScope ["_law_rng_here", "_law_names_here", "_law_found", "_law_turn", "_law_product", "_law_k", "_law_top", "_law_bottom", "_law_common_here"] ["_law_rng_here", "_law_names_here"] (defScope s_law_terms) := ⟨rfl, rfl, rfl, by decide +kernel, rfl, by decide +kernel, by decide +kernel⟩
abbrev s_law_greatest_first : Stmt := top 46
theorem sc_law_greatest_first : FnScope ["_law_terms_here", "_law_ranked", "_law_top", "_law_bottom", "_law_product", "_law_size"] ["_law_terms_here"] (defScope s_law_greatest_first) := ⟨rfl, rfl, rfl, by decide +kernel, rfl, by decide +kernel, by decide +kernel⟩
abbrev s_law_plain : Stmt := top 47
theorem sc_law_plain : FnScope ["_law_top", "_law_bottom", "_law_product", "_law_number"] ["_law_top", "_law_bottom", "_law_product"] (defScope s_law_plain) := ⟨rfl, rfl, rfl, by decide +kernel, rfl, by decide +kernel, by decide +kernel⟩
abbrev s_law_text : Stmt := top 48
theorem sc_law_text : FnScope ["_law_terms_here", "_law_text_here", "_law_top", "_law_bottom", "_law_product", "_law_plain_here"] ["_law_terms_here"] (defScope s_law_text) := ⟨rfl, rfl, rfl, by decide +kernel, rfl, by decide +kernel, by decide +kernel⟩
abbrev s_law_shown : Stmt := top 49
theorem sc_law_shown : FnScope ["_law_terms_here", "_law_parts", "_law_top", "_law_bottom", "_law_product"] ["_law_terms_here"] (defScope s_law_shown) := ⟨rfl, rfl, rfl, by decide +kernel, rfl, by decide +kernel, by decide +kernel⟩
abbrev s_law_made : Stmt := top 50
theorem sc_law_made : FnScope ["_law_terms_here", "_law_top", "_law_bottom", "_law_product"] ["_law_terms_here"] (defScope s_law_made) := ⟨rfl, rfl, rfl, by decide +kernel, rfl, by decide +kernel, by decide +kernel⟩
abbrev s_law_right : Stmt := top 51
theorem sc_law_right : FnScope ["_law_rng_here", "_law_names_here", "_law_terms_here", "_law_one", "_law_turned", "_law_top", "_law_bottom", "_law_product", "_law_parts", "_law_alone"] ["_law_rng_here"] (defScope s_law_right) := ⟨rfl, rfl, rfl, by decide +kernel, rfl, by decide +kernel, by decide +kernel⟩
abbrev s_law : Stmt := top 52
theorem sc_law : FnScope ["_law_script", "_law_k", "_law_rng_here", "_law_turn"] ["_law_script"] (defScope s_law) := ⟨rfl, rfl, rfl, by decide +kernel, rfl, by decide +kernel, by decide +kernel⟩
/-! ### addresses, and what the top has written -/
structure Ad where
  Ratio : Addr
  Question : Addr
  NotesumsError : Addr
  InvalidNumber : Addr
  InvalidName : Addr
  InvalidTable : Addr
  InvalidTerms : Addr
  InvalidQuestion : Addr
  InvalidKeys : Addr
  is_integer : Addr
  d_is_integer : FuncData
  is_number : Addr
  d_is_number : FuncData
  want_number : Addr
  d_want_number : FuncData
  as_ratio : Addr
  d_as_ratio : FuncData
  common_divisor : Addr
  d_common_divisor : FuncData
  is_key : Addr
  d_is_key : FuncData
  is_list : Addr
  d_is_list : FuncData
  product_key : Addr
  d_product_key : FuncData
  are_keys : Addr
  d_are_keys : FuncData
  is_term : Addr
  d_is_term : FuncData
  want_terms : Addr
  d_want_terms : FuncData
  summed : Addr
  d_summed : FuncData
  in_order : Addr
  d_in_order : FuncData
  told_terms : Addr
  d_told_terms : FuncData
  term_text : Addr
  d_term_text : FuncData
  question_text : Addr
  d_question_text : FuncData
  as_question : Addr
  d_as_question : FuncData
  law_rng : Addr
  d_law_rng : FuncData
  law_draw : Addr
  d_law_draw : FuncData
  law_choice : Addr
  d_law_choice : FuncData
  law_names : Addr
  d_law_names : FuncData
  law_common : Addr
  d_law_common : FuncData
  law_terms : Addr
  d_law_terms : FuncData
  law_greatest_first : Addr
  d_law_greatest_first : FuncData
  law_plain : Addr
  d_law_plain : FuncData
  law_text : Addr
  d_law_text : FuncData
  law_shown : Addr
  d_law_shown : FuncData
  law_made : Addr
  d_law_made : FuncData
  law_right : Addr
  d_law_right : FuncData
  law : Addr
  d_law : FuncData
  Ratio_init : Addr
  d_Ratio_init : FuncData
  Ratio_sign : Addr
  d_Ratio_sign : FuncData
  Ratio_add : Addr
  d_Ratio_add : FuncData
  Ratio_neg : Addr
  d_Ratio_neg : FuncData
  Ratio_repr : Addr
  d_Ratio_repr : FuncData
  Question_init : Addr
  d_Question_init : FuncData
  Question_of_key : Addr
  d_Question_of_key : FuncData
  Question_constant : Addr
  d_Question_constant : FuncData
  Question_terms : Addr
  d_Question_terms : FuncData
  Question_add : Addr
  d_Question_add : FuncData
  Question_sub : Addr
  d_Question_sub : FuncData
  Question_neg : Addr
  d_Question_neg : FuncData
  Question_str : Addr
  d_Question_str : FuncData
  Question_repr : Addr
  d_Question_repr : FuncData
  p_Ratio_sign : Addr
  u_Question_init : Addr
  p_Question_of_key : Addr
  p_Question_constant : Addr
  InvalidNumber_init : Addr
  d_InvalidNumber_init : FuncData
  InvalidName_init : Addr
  d_InvalidName_init : FuncData
  InvalidTable_init : Addr
  d_InvalidTable_init : FuncData
  InvalidTerms_init : Addr
  d_InvalidTerms_init : FuncData
  InvalidQuestion_init : Addr
  d_InvalidQuestion_init : FuncData
  InvalidKeys_init : Addr
  d_InvalidKeys_init : FuncData
structure Txt (K : PySem.W.Frag) (mg : Str → Option Value) (a : Ad) : Prop where
  is_integer : Dfn K mg "is_integer" s_is_integer a.is_integer a.d_is_integer
  is_number : Dfn K mg "is_number" s_is_number a.is_number a.d_is_number
  want_number : Dfn K mg "want_number" s_want_number a.want_number a.d_want_number
  as_ratio : Dfn K mg "as_ratio" s_as_ratio a.as_ratio a.d_as_ratio
  common_divisor : Dfn K mg "common_divisor" s_common_divisor a.common_divisor a.d_common_divisor
  is_key : Dfn K mg "is_key" s_is_key a.is_key a.d_is_key
  is_list : Dfn K mg "is_list" s_is_list a.is_list a.d_is_list
  product_key : Dfn K mg "product_key" s_product_key a.product_key a.d_product_key
  are_keys : Dfn K mg "are_keys" s_are_keys a.are_keys a.d_are_keys
  is_term : Dfn K mg "is_term" s_is_term a.is_term a.d_is_term
  want_terms : Dfn K mg "want_terms" s_want_terms a.want_terms a.d_want_terms
  summed : Dfn K mg "summed" s_summed a.summed a.d_summed
  in_order : Dfn K mg "in_order" s_in_order a.in_order a.d_in_order
  told_terms : Dfn K mg "told_terms" s_told_terms a.told_terms a.d_told_terms
  term_text : Dfn K mg "term_text" s_term_text a.term_text a.d_term_text
  question_text : Dfn K mg "question_text" s_question_text a.question_text a.d_question_text
  as_question : Dfn K mg "as_question" s_as_question a.as_question a.d_as_question
  law_rng : Dfn K mg "_law_rng" s_law_rng a.law_rng a.d_law_rng
  law_draw : Dfn K mg "_law_draw" s_law_draw a.law_draw a.d_law_draw
  law_choice : Dfn K mg "_law_choice" s_law_choice a.law_choice a.d_law_choice
  law_names : Dfn K mg "_law_names" s_law_names a.law_names a.d_law_names
  law_common : Dfn K mg "_law_common" s_law_common a.law_common a.d_law_common
  law_terms : Dfn K mg "_law_terms" s_law_terms a.law_terms a.d_law_terms
  law_greatest_first : Dfn K mg "_law_greatest_first" s_law_greatest_first a.law_greatest_first a.d_law_greatest_first
  law_plain : Dfn K mg "_law_plain" s_law_plain a.law_plain a.d_law_plain
  law_text : Dfn K mg "_law_text" s_law_text a.law_text a.d_law_text
  law_shown : Dfn K mg "_law_shown" s_law_shown a.law_shown a.d_law_shown
  law_made : Dfn K mg "_law_made" s_law_made a.law_made a.d_law_made
  law_right : Dfn K mg "_law_right" s_law_right a.law_right a.d_law_right
  law : Dfn K mg "law" s_law a.law a.d_law
  Ratio : Cl K mg "Ratio" a.Ratio
  no_Ratio_own_top : NoAttr K a.Ratio "own_top"
  no_Ratio_own_bottom : NoAttr K a.Ratio "own_bottom"
  Question : Cl K mg "Question" a.Question
  rd_Question : ClX.CRead K a.Question (.type "type")
  no_Question_own_weights : NoAttr K a.Question "own_weights"
  Ratio_init : MthD K a.Ratio "__init__" "Ratio.__init__" s_Ratio_init [.int 1] a.Ratio_init a.d_Ratio_init
  Ratio_sign : Prp K a.Ratio "sign" "Ratio.sign" s_Ratio_sign a.p_Ratio_sign a.Ratio_sign a.d_Ratio_sign
  Ratio_add : Mth K a.Ratio "__add__" "Ratio.__add__" s_Ratio_add a.Ratio_add a.d_Ratio_add
  Ratio_neg : Mth K a.Ratio "__neg__" "Ratio.__neg__" s_Ratio_neg a.Ratio_neg a.d_Ratio_neg
  Ratio_repr : Mth K a.Ratio "__repr__" "Ratio.__repr__" s_Ratio_repr a.Ratio_repr a.d_Ratio_repr
  e_Question_init : ∃ (d : Option Addr) (n : Nat) (sl : Array (Option Value)), K.lookup a.u_Question_init = some ⟨.type "tuple", d, .seq #[] n, sl⟩
  Question_init : MthD K a.Question "__init__" "Question.__init__" s_Question_init [.ref a.u_Question_init] a.Question_init a.d_Question_init
  at_Question_of_key : ClX.CMet K a.Question (.type "type") "of_key" a.p_Question_of_key a.Question_of_key
  Question_of_key : Fun K "of_key" "Question.of_key" s_Question_of_key a.Question_of_key a.d_Question_of_key
  at_Question_constant : ClX.CMet K a.Question (.type "type") "constant" a.p_Question_constant a.Question_constant
  Question_constant : Fun K "constant" "Question.constant" s_Question_constant a.Question_constant a.d_Question_constant
  Question_terms : Mth K a.Question "terms" "Question.terms" s_Question_terms a.Question_terms a.d_Question_terms
  Question_add : Mth K a.Question "__add__" "Question.__add__" s_Question_add a.Question_add a.d_Question_add
  Question_sub : Mth K a.Question "__sub__" "Question.__sub__" s_Question_sub a.Question_sub a.d_Question_sub
  Question_neg : Mth K a.Question "__neg__" "Question.__neg__" s_Question_neg a.Question_neg a.d_Question_neg
  Question_str : Mth K a.Question "__str__" "Question.__str__" s_Question_str a.Question_str a.d_Question_str
  Question_repr : Mth K a.Question "__repr__" "Question.__repr__" s_Question_repr a.Question_repr a.d_Question_repr
  O_Ratio_add : OwnOp K a.Ratio .Add a.Ratio_add
  O_Ratio_neg : OwnNeg K a.Ratio a.Ratio_neg
  O_Ratio_repr : OwnStr K a.Ratio "__repr__" a.Ratio_repr
  O_Question_add : OwnOp K a.Question .Add a.Question_add
  O_Question_sub : OwnOp K a.Question .Sub a.Question_sub
  O_Question_neg : OwnNeg K a.Question a.Question_neg
  O_Question_str : OwnStr K a.Question "__str__" a.Question_str
  O_Question_repr : OwnStr K a.Question "__repr__" a.Question_repr
  b_abs : mg "abs" = none
  b_all : mg "all" = none
  b_bool : mg "bool" = none
  b_dict : mg "dict" = none
  b_divmod : mg "divmod" = none
  b_enumerate : mg "enumerate" = none
  b_int : mg "int" = none
  b_isinstance : mg "isinstance" = none
  b_len : mg "len" = none
  b_list : mg "list" = none
  b_max : mg "max" = none
  b_min : mg "min" = none
  b_range : mg "range" = none
  b_repr : mg "repr" = none
  b_sorted : mg "sorted" = none
  b_str : mg "str" = none
  b_tuple : mg "tuple" = none
  c_LETTERS : ∃ t, mg "LETTERS" = some (.str "abcdefghijklmnopqrstuvwxyz" t)
  c_KEY_SIGNS : ∃ t, mg "KEY_SIGNS" = some (.str "abcdefghijklmnopqrstuvwxyz0123456789" t)
  c_LONGEST_KEY : ∃ t, mg "LONGEST_KEY" = some (.int 8 t)
end P

namespace P
open PySem L2 NS

/-! ### Ratios on the heap -/
theorem bt_ne : ¬ (("own_bottom" : Str) = "own_top") := by decide +kernel
/-- the attributes of a Ratio, in the order in which __init__ stores them -/
def rf (q : Rat) : List (Str × V) := putF "own_bottom" (.int (q.den : Int)) (putF "own_top" (.int q.num) [])
theorem rf_top (q : Rat) : (rf q).lookup ("own_top" : Str) = some (.int q.num) := by
  unfold rf
  rw [lookup_putF, if_neg (fun z => bt_ne z.symm), lookup_putF, if_pos rfl]
theorem rf_bot (q : Rat) : (rf q).lookup ("own_bottom" : Str) = some (.int (q.den : Int)) := by
  unfold rf
  rw [lookup_putF, if_pos rfl]
theorem rf_no (q : Rat) {m : Str} (h1 : ¬ m = "own_bottom") (h2 : ¬ m = "own_top") : (rf q).lookup m = none := by
  unfold rf
  rw [lookup_putF, if_neg h1, lookup_putF, if_neg h2]
  rfl
/-- v is a Ratio of the value q -/
def IsRat (C : Addr) (H : Hp) (v : V) (q : Rat) : Prop := ∃ p dx, v = .ref p ∧ H p = some (.ins C dx (rf q))
theorem IsRat.ext {C : Addr} {H H' : Hp} {v : V} {q : Rat} (h : IsRat C H v q) (e : Ext H H') : IsRat C H' v q := by
  obtain ⟨p, dx, rfl, hp⟩ := h
  exact ⟨p, dx, rfl, e _ _ hp⟩
/-- an int or a Ratio -/
def IsNum (C : Addr) (H : Hp) (v : V) (q : Rat) : Prop := (∃ i : Int, v = .int i ∧ q = (i : Rat)) ∨ IsRat C H v q
theorem IsNum.ext {C : Addr} {H H' : Hp} {v : V} {q : Rat} (h : IsNum C H v q) (e : Ext H H') : IsNum C H' v q := h.elim .inl fun h => .inr (h.ext e)

/-! ### is_integer, is_number, want_number -/
def spIsInt (C : Addr) : Sp := fun vs H Q _ => ∃ v, vs = [v] ∧ ((∃ i, v = .int i ∧ Q (.bl true) H) ∨ ∃ q, IsRat C H v q ∧ Q (.bl false) H)
def spIsNum (C : Addr) : Sp := fun vs H Q _ => ∃ v q, vs = [v] ∧ IsNum C H v q ∧ Q (.bl true) H
def spWant (C : Addr) : Sp := fun vs H Q _ => ∃ v q, vs = [v] ∧ IsNum C H v q ∧ Q .non H
section
variable {P : Program} {w : World} {K : PySem.W.Frag} {mg : Str → Option Value} {base : Heap} {a : Ad}
theorem B_is_integer (T : Txt K mg a) : Binds K a.d_is_integer ["value"] [] := T.is_integer.F.binds fun _ _ _ _ _ _ us hl => match us, hl with | [_], _ => rfl
theorem ok_is_integer (T : Txt K mg a) : FnOk P w K mg base CX0 1 a.is_integer a.d_is_integer ["value"] (spIsInt a.Ratio) := by
  refine T.is_integer.F.ok sc_is_integer (fun vs H Q E h => ?_) (fun cdv A outer s H vs Q E hr h => ?_)
  · obtain ⟨v, rfl, _⟩ := h
    rfl
  · obtain ⟨v, rfl, h⟩ := h
    refine ⟨_, (pss_one (ps_ret (pe_and (pe_callB call_isi (by rfl) T.b_isinstance (by decide +kernel) (pa_cons (pv 0) (pa_cons (pe_bltn (v := .ty "int") (by rfl) T.b_int (by decide +kernel) rfl) pa_nil))) (pe_one (pe_not (pe_callB call_isi (by rfl) T.b_isinstance (by decide +kernel) (pa_cons (pv 0) (pa_cons (pe_bltn (v := .ty "bool") (by rfl) T.b_bool (by decide +kernel) rfl) pa_nil)))))))), ?_⟩
    rcases h with ⟨i, rfl, h⟩ | ⟨q, ⟨p, dx, rfl, hp⟩, h⟩
    · exact ⟨_, rfl, _, _, _, _, _, rfl, .ty _, ty_int i, kit_int_int, _, rfl, iteT ⟨_, rfl, _, _, _, _, _, rfl, .ty _, ty_int i, kit_int_bool, _, rfl, h⟩⟩
    · exact ⟨_, rfl, _, _, _, _, _, rfl, .ty _, T.Ratio.ty hp, T.Ratio.o_int, _, rfl, iteF h⟩
theorem B_is_number (T : Txt K mg a) : Binds K a.d_is_number ["value"] [] := T.is_number.F.binds fun _ _ _ _ _ _ us hl => match us, hl with | [_], _ => rfl
theorem ok_is_number (T : Txt K mg a) : FnOk P w K mg base CX0 2 a.is_number a.d_is_number ["value"] (spIsNum a.Ratio) := by
  have G_is_integer := ok_is_integer (P := P) (w := w) (base := base) T
  have b_is_integer := B_is_integer T
  refine T.is_number.F.ok sc_is_number (fun vs H Q E h => ?_) (fun cdv A outer s H vs Q E hr h => ?_)
  · obtain ⟨v, q, rfl, _⟩ := h
    rfl
  · obtain ⟨v, q, rfl, hn, h⟩ := h
    refine ⟨_, (pss_one (ps_ret (pe_or (pe_call G_is_integer (hr.mono (by decide)) (by rfl) T.is_integer.g T.is_integer.F.kp b_is_integer .nil pass0 (pa_cons (pv 0) pa_nil)) (pe_one (pe_callB call_isi (by rfl) T.b_isinstance (by decide +kernel) (pa_cons (pv 0) (pa_cons (pe_glob (v := .ref a.Ratio) (by rfl) T.Ratio.g rfl) pa_nil))))))), ?_⟩
    rcases hn with ⟨i, rfl, _⟩ | hn
    · exact ⟨_, rfl, _, rfl, .inl ⟨i, rfl, _, rfl, iteT h⟩⟩
    · obtain ⟨p, dx, rfl, hp⟩ := id hn
      exact ⟨_, rfl, _, rfl, .inr ⟨q, hn, _, rfl, iteF ⟨_, rfl, _, _, _, _, _, rfl, .own _, T.Ratio.ty hp, T.Ratio.k_own, h⟩⟩⟩
theorem B_want_number (T : Txt K mg a) : Binds K a.d_want_number ["value"] [] := T.want_number.F.binds fun _ _ _ _ _ _ us hl => match us, hl with | [_], _ => rfl
theorem ok_want_number (T : Txt K mg a) : FnOk P w K mg base CX0 3 a.want_number a.d_want_number ["value"] (spWant a.Ratio) := by
  have G_is_number := ok_is_number (P := P) (w := w) (base := base) T
  have b_is_number := B_is_number T
  refine T.want_number.F.ok sc_want_number (fun vs H Q E h => ?_) (fun cdv A outer s H vs Q E hr h => ?_)
  · obtain ⟨v, q, rfl, _⟩ := h
    rfl
  · obtain ⟨v, q, rfl, hn, h⟩ := h
    refine ⟨_, (pss_one (ps_if (pt_not (pt_val (pe_call G_is_number (hr.mono (by decide)) (by rfl) T.is_number.g T.is_number.F.kp b_is_number .nil pass0 (pa_cons (pv 0) pa_nil)))) (pss_one ps_never) pss_nil)), ?_⟩
    exact ⟨_, rfl, v, q, rfl, hn, _, rfl, iteF h⟩

/-! ### common_divisor -/
def spGcd : Sp := fun vs H Q _ => ∃ m n : Nat, vs = [.int m, .int n] ∧ Q (.int (Nat.gcd m n : Nat)) H
theorem B_common_divisor (T : Txt K mg a) : Binds K a.d_common_divisor ["one", "other"] [] := T.common_divisor.F.binds fun _ _ _ _ _ _ us hl => match us, hl with | [_, _], _ => rfl
theorem gcd_turn {m n : Nat} (h : n ≠ 0) : Nat.gcd n (m % n) = Nat.gcd m n := by
  rw [Nat.gcd_comm m n, Nat.gcd_rec n m, Nat.gcd_comm]
theorem ok_common_divisor (T : Txt K mg a) : FnOk P w K mg base CX0 1 a.common_divisor a.d_common_divisor ["one", "other"] spGcd := by
  refine T.common_divisor.F.ok sc_common_divisor (fun vs H Q E h => ?_) (fun cdv A outer s H vs Q E hr h => ?_)
  · obtain ⟨m, n, rfl, _⟩ := h
    rfl
  · obtain ⟨m, n, rfl, h⟩ := h
    refine ⟨_, (pss_cons (ps_while PassesOwn.never (pt_cmpR op_ne (pv 1) pe_int (nomark _)) (pss_one (ps_par (i := 0) (j := 1) (by rfl) sc_common_divisor.nd rfl rfl (by decide) rfl rfl (pa_cons (pv 1) (pa_cons (pe_op op_modN (pv 0) (pv 1)) pa_nil)) (by rfl))))
      (pss_one (ps_ret (pv 0)))), ?_⟩
    refine ⟨fun k σ H1 => H1 = H ∧ ∃ m' : Nat, σ = [some (.int m'), some (.int k)] ∧ Nat.gcd m' k = Nat.gcd m n, ⟨n, rfl, m, rfl, rfl⟩, ?_⟩
    rintro k σ H1 ⟨rfl, m', rfl, e⟩
    refine ⟨_, rfl, rfl, _, rfl, ?_⟩
    by_cases hk : k = 0
    · subst hk
      rw [Nat.gcd_zero_right] at e
      refine iteN (by decide) ?_
      refine ⟨_, rfl, ?_⟩
      rw [e]
      exact h
    · have hk' : ((k : Nat) : Int) ≠ 0 := by omega
      have hd : (!decide (V.int (k : Int) = V.int 0)) = true := by
        rw [dec_int]
        simp [hk]
      refine iteY hd ?_
      refine ⟨fun σ' H' => H' = H1 ∧ σ' = [some (.int (k : Int)), some (.int ((m' % k : Nat) : Int))], ?_, ?_⟩
      · rintro σ' H' ⟨rfl, rfl⟩
        exact ⟨m' % k, Nat.mod_lt _ (by omega), rfl, k, rfl, (gcd_turn hk).trans e⟩
      · refine ⟨_, rfl, _, rfl, _, rfl, _, _, rfl, rfl, hk', _, _, rfl, rfl, ?_⟩
        show [_, some (V.int ((m' : Int).fmod (k : Int)))] = _
        rw [Int.fmod_eq_emod_of_nonneg _ (by omega)]
        rfl
end
end P

namespace P
open PySem L2 NS

/-! ### Ratio(top, bottom) -/
theorem abs_nat (i : Int) : (if i < 0 then -i else i) = ((i.natAbs : Nat) : Int) := by
  split <;> omega
def spInit (C : Addr) : Sp := fun vs H Q _ => ∃ (p dx : Addr) (t b : Int), vs = [.ref p, .int t, .int b] ∧ H p = some (.ins C dx []) ∧ b ≠ 0 ∧ Bt 9000 t ∧ Bt 9000 b ∧
  ∀ H', (∀ c o, H c = some o → c ≠ p → H' c = some o) → H' p = some (.ins C dx (rf (Rat.divInt t b))) → Q .non H'
section
variable {P : Program} {w : World} {K : PySem.W.Frag} {mg : Str → Option Value} {base : Heap} {a : Ad}
theorem B_Ratio2 (T : Txt K mg a) : Binds K a.d_Ratio_init ["self", "top", "bottom"] [] := by
  obtain ⟨ds, v, b⟩ := T.Ratio_init.F.binds1 (ps := ["self", "top", "bottom"]) 3 1 (by decide) rfl fun T kV doc pm an cdv ct us its h1 h2 => match us, its, h1, h2 with
    | [_, _, _], [_], _, _ => ⟨_, rfl, rfl⟩
  cases v
  exact b
theorem B_Ratio1 (T : Txt K mg a) : ∃ ds, Vals [.int 1] ds ∧ Binds K a.d_Ratio_init ["self", "top", "bottom"] ds :=
  T.Ratio_init.F.binds1 (ps := ["self", "top", "bottom"]) 2 0 (by decide) rfl fun T kV doc pm an cdv ct us its h1 h2 => match us, its, h1, h2 with
    | [_, _], [_], _, _ => ⟨_, rfl, rfl⟩
theorem Mk_Ratio (T : Txt K mg a) : Mk K a.Ratio a.Ratio_init := ⟨T.Ratio.mks, T.Ratio_init.at_, T.Ratio_init.fn, T.Ratio.kp⟩
theorem ok_Ratio_init (T : Txt K mg a) : FnOk P w K mg base CX0 2 a.Ratio_init a.d_Ratio_init ["self", "top", "bottom"] (spInit a.Ratio) := by
  have G_is_integer := ok_is_integer (P := P) (w := w) (base := base) T
  have b_is_integer := B_is_integer T
  have G_common_divisor := ok_common_divisor (P := P) (w := w) (base := base) T
  have b_common_divisor := B_common_divisor T
  refine T.Ratio_init.F.ok sc_Ratio_init (fun vs H Q E h => ?_) (fun cdv A outer s H vs Q E hr h => ?_)
  · obtain ⟨p, dx, t, b, rfl, _⟩ := h
    rfl
  · obtain ⟨p, dx, t, b, rfl, hp, hb, zt, zb, h⟩ := h
    refine ⟨_, PSs.nox (pss_cons (ps_if (pt_not (pt_val (pe_call G_is_integer (hr.mono (by decide)) (by rfl) T.is_integer.g T.is_integer.F.kp b_is_integer .nil pass0 (pa_cons (pv 1) pa_nil)))) (pss_one ps_never) pss_nil)
      (pss_cons (ps_if (PW.pt (pw_or (pt_not (pt_val (pe_call G_is_integer (hr.mono (by decide)) (by rfl) T.is_integer.g T.is_integer.F.kp b_is_integer .nil pass0 (pa_cons (pv 2) pa_nil)))) (pw_or1 (pt_cmpR op_eq (pv 2) pe_int (nomark _))))) (pss_one ps_never) pss_nil)
      (pss_cons (ps_set (i := 3) sc_Ratio_init.nd rfl (.inl rfl) (pe_call G_common_divisor (hr.mono (by decide)) (by rfl) T.common_divisor.g T.common_divisor.F.kp b_common_divisor .nil pass0 (pa_cons (pe_callB call_abs (by rfl) T.b_abs (by decide +kernel) (pa_cons (pv 1) pa_nil)) (pa_cons (pe_callB call_abs (by rfl) T.b_abs (by decide +kernel) (pa_cons (pv 2) pa_nil)) pa_nil))))
      (pss_cons (ps_if (pt_cmpR op_lt (pv 2) pe_int (nomark _)) (pss_one (ps_set (i := 3) sc_Ratio_init.nd rfl (.inl rfl) (pe_un un_neg (pv 3)))) pss_nil)
      (pss_cons (ps_fld (pv 0) (pe_op op_fdivX (pv 1) (pv 3)) rfl)
      (pss_one (ps_fld (pv 0) (pe_op op_fdivX (pv 2) (pv 3)) rfl))))))), ?_⟩
    refine ⟨_, rfl, _, rfl, .inl ⟨t, rfl, _, rfl, iteF ?_⟩⟩
    refine ⟨_, rfl, _, rfl, .inl ⟨b, rfl, _, rfl, iteF ?_⟩⟩
    refine ⟨_, rfl, rfl, _, rfl, iteN (by simpa using hb) ?_⟩
    refine ⟨_, rfl, _, rfl, _, rfl, _, rfl, t.natAbs, b.natAbs, (by rw [← abs_nat, ← abs_nat]; rfl), ?_⟩
    have hdv : ∀ σ : L2.St, σ = [some (.ref p), some (.int t), some (.int b), some (.int (dv t b))] →
        tSeq (sFld K (tVar 0) (tOp (rI CDivX fun i j => .int (i.fdiv j)) (tVar 1) (tVar 3)) "own_top") (sFld K (tVar 0) (tOp (rI CDivX fun i j => .int (i.fdiv j)) (tVar 2) (tVar 3)) "own_bottom")
          { nx := fun _ H' => Q .non H', rt := Q } σ H := by
      rintro σ rfl
      have zd : Bt 9000 (dv t b) := by
        unfold Bt
        rw [dv_abs]
        exact Nat.lt_of_le_of_lt (Nat.gcd_le_right _ (by omega)) zb
      refine ⟨_, rfl, _, rfl, _, _, rfl, rfl, cdivX (dv_ne hb) zd (by decide) (by decide), _, rfl, p, _, dx, _, rfl, hp, T.Ratio.cls, T.no_Ratio_own_top, (by show 0 < 1000; decide), ?_⟩
      refine ⟨_, rfl, _, rfl, _, _, rfl, rfl, cdivX (dv_ne hb) zd (by decide) (by decide), _, rfl, p, _, dx, _, rfl, upd_same, T.Ratio.cls, T.no_Ratio_own_bottom, (by show 1 < 1000; decide), ?_⟩
      refine h _ (fun c o e ne => by rw [upd_ne ne, upd_ne ne]; exact e) ?_
      rw [upd_same]
      show some (HO.ins _ dx (putF "own_bottom" (.int (b.fdiv (dv t b))) (putF "own_top" (.int (t.fdiv (dv t b))) []))) = _
      rw [dv_num hb, dv_den hb]
      rfl
    refine ⟨_, rfl, _, _, rfl, rfl, _, rfl, ?_⟩
    by_cases hn : b < 0
    · refine iteY (decide_eq_true hn) ?_
      refine ⟨_, rfl, _, rfl, ?_⟩
      exact hdv _ (by rw [show dv t b = -((Nat.gcd t.natAbs b.natAbs : Nat) : Int) from if_pos hn]; rfl)
    · refine iteN (decide_eq_false hn) ?_
      exact hdv _ (by rw [show dv t b = ((Nat.gcd t.natAbs b.natAbs : Nat) : Int) from if_neg hn]; rfl)

theorem made {C x dx : Addr} {H H' : Hp} {q : Rat} (hx : H x = none) (hd : H dx = none) (keep : ∀ c o, upd (upd H dx (.own x)) x (.ins C dx []) c = some o → c ≠ x → H' c = some o)
    (hp : H' x = some (.ins C dx (rf q))) : Ext H H' ∧ IsRat C H' (.ref x) q := by
  refine ⟨fun c o e => keep c o ?_ (ne_of_none e hx), x, dx, rfl, hp⟩
  rw [upd_ne (ne_of_none e hx), upd_ne (ne_of_none e hd)]
  exact e
/-- a new Ratio: what is asked of C(..) -/
theorem rd_Ratio {C : Addr} {H : Hp} {t b : Int} {Q : VK} (hb : b ≠ 0) (zt : Bt 9000 t) (zb : Bt 9000 b) (k : ∀ v H', Ext H H' → IsRat C H' v (Rat.divInt t b) → Q v H') :
    ∀ x dx, H x = none → H dx = none → dx ≠ x → spInit C [.ref x, .int t, .int b] (upd (upd H dx (.own x)) x (.ins C dx [])) (fun v H2 => v = .non ∧ Q (.ref x) H2) E0 := by
  intro x dx hx hd ne
  refine ⟨x, dx, t, b, rfl, upd_same, hb, zt, zb, fun H' keep hp => ⟨rfl, k _ _ (fun c o e => keep c o ?_ (ne_of_none e hx)) ⟨x, dx, rfl, hp⟩⟩⟩
  rw [upd_ne (ne_of_none e hx), upd_ne (ne_of_none e hd)]
  exact e
end
end P

namespace P
open PySem L2 NS

/-! ### as_ratio, the operators -/
def spAs (C : Addr) : Sp := fun vs H Q _ => ∃ v q, vs = [v] ∧ IsNum C H v q ∧ Sz 9000 q ∧ ∀ v' H', Ext H H' → IsRat C H' v' q → Q v' H'
/-- an operator with a Ratio on the left and a number on the right -/
def spBin (C : Addr) (f : Rat → Rat → Rat) : Sp := fun vs H Q _ => ∃ v1 v2 q1 q2, vs = [v1, v2] ∧ IsRat C H v1 q1 ∧ IsNum C H v2 q2 ∧ Sz 4000 q1 ∧ Sz 4000 q2 ∧ ∀ v' H', Ext H H' → IsRat C H' v' (f q1 q2) → Q v' H'
def spNeg (C : Addr) : Sp := fun vs H Q _ => ∃ v q, vs = [v] ∧ IsRat C H v q ∧ Sz 9000 q ∧ ∀ v' H', Ext H H' → IsRat C H' v' (-q) → Q v' H'
def spBelow (C : Addr) : Sp := fun vs H Q _ => ∃ v1 v2 q1 q2, vs = [v1, v2] ∧ IsRat C H v1 q1 ∧ IsNum C H v2 q2 ∧ Sz 4000 q1 ∧ Sz 4000 q2 ∧ ∀ H', Ext H H' → Q (.bl (decide (q1 < q2))) H'
/-- == : what may stand on the right -/
def spEq2 (C : Addr) : Sp := fun vs H Q _ => ∃ v1 v2 q1, vs = [v1, v2] ∧ IsRat C H v1 q1 ∧ ((∃ q2, IsRat C H v2 q2 ∧ Q (.bl (decide (q1 = q2))) H) ∨ (((∃ i, v2 = .int i) ∨ (∃ x, v2 = .str x) ∨ ∃ b xs, v2 = .ref b ∧ H b = some (.tup xs)) ∧ Q (.bl false) H))
theorem int_eq (i : Int) : Rat.divInt i 1 = (i : Rat) := by
  have h := Rat.num_divInt_den (i : Rat)
  exact h
section
variable {P : Program} {w : World} {K : PySem.W.Frag} {mg : Str → Option Value} {base : Heap} {a : Ad}
theorem B_as_ratio (T : Txt K mg a) : Binds K a.d_as_ratio ["number"] [] := T.as_ratio.F.binds fun _ _ _ _ _ _ us hl => match us, hl with | [_], _ => rfl
theorem ok_as_ratio (T : Txt K mg a) : FnOk P w K mg base CX0 4 a.as_ratio a.d_as_ratio ["number"] (spAs a.Ratio) := by
  have G_Ratio_init := ok_Ratio_init (P := P) (w := w) (base := base) T
  have M_Ratio := Mk_Ratio T
  obtain ⟨ds, v_Ratio1, b_Ratio1⟩ := B_Ratio1 T
  refine T.as_ratio.F.ok sc_as_ratio (fun vs H Q E h => ?_) (fun cdv A outer s H vs Q E hr h => ?_)
  · obtain ⟨v, q, rfl, _⟩ := h
    rfl
  · obtain ⟨v, q, rfl, hn, zq, h⟩ := h
    refine ⟨_, (pss_one (ps_ret (pe_ifExp (pt_val (pe_callB call_isi (by rfl) T.b_isinstance (by decide +kernel) (pa_cons (pv 0) (pa_cons (pe_glob (v := .ref a.Ratio) (by rfl) T.Ratio.g rfl) pa_nil)))) (pv 0) (pe_make M_Ratio G_Ratio_init (hr.mono (by decide)) (by rfl) T.Ratio.g b_Ratio1 v_Ratio1 pass0 (pa_cons (pv 0) pa_nil))))), ?_⟩
    rcases hn with ⟨i, rfl, rfl⟩ | hn
    · refine ⟨_, rfl, _, _, _, _, _, rfl, .own _, ty_int i, T.Ratio.k_int, _, rfl, iteF ⟨_, rfl, ?_⟩⟩
      refine rd_Ratio (by decide) zq.top (by unfold Bt; exact Nat.one_lt_two_pow (by decide)) fun v' H' e r => h v' H' e ?_
      rw [int_eq] at r
      exact r
    · obtain ⟨p, dx, rfl, hp⟩ := id hn
      exact ⟨_, rfl, _, _, _, _, _, rfl, .own _, T.Ratio.ty hp, T.Ratio.k_own, _, rfl, iteT ⟨_, rfl, h _ H Ext.rfl' hn⟩⟩

theorem B_Ratio_neg (T : Txt K mg a) : Binds K a.d_Ratio_neg ["self"] [] := T.Ratio_neg.F.binds fun _ _ _ _ _ _ us hl => match us, hl with | [_], _ => rfl
theorem ok_Ratio_neg (T : Txt K mg a) : FnOk P w K mg base CX0 4 a.Ratio_neg a.d_Ratio_neg ["self"] (spNeg a.Ratio) := by
  have G_Ratio_init := ok_Ratio_init (P := P) (w := w) (base := base) T
  have M_Ratio := Mk_Ratio T
  have b_Ratio2 := B_Ratio2 T
  refine T.Ratio_neg.F.ok sc_Ratio_neg (fun vs H Q E h => ?_) (fun cdv A outer s H vs Q E hr h => ?_)
  · obtain ⟨v, q, rfl, _⟩ := h
    rfl
  · obtain ⟨v, q, rfl, ⟨p, dx, rfl, hp⟩, zq, h⟩ := h
    refine ⟨_, (pss_one (ps_ret (pe_make M_Ratio G_Ratio_init (hr.mono (by decide)) (by rfl) T.Ratio.g b_Ratio2 .nil pass0 (pa_cons (pe_un un_neg (pe_fld (pv 0) rfl)) (pa_cons (pe_fld (pv 0) rfl) pa_nil))))), ?_⟩
    refine ⟨_, rfl, p, _, dx, _, _, rfl, hp, T.Ratio.cls, T.no_Ratio_own_top, rf_top q, _, rfl, _, rfl, p, _, dx, _, _, rfl, hp, T.Ratio.cls, T.no_Ratio_own_bottom, rf_bot q, ?_⟩
    refine rd_Ratio (den_ne q) zq.top.neg zq.bot fun v' H' e r => h v' H' e ?_
    rw [neg_eq] at r
    exact r

theorem B_Ratio_add (T : Txt K mg a) : Binds K a.d_Ratio_add ["self", "other"] [] := T.Ratio_add.F.binds fun _ _ _ _ _ _ us hl => match us, hl with | [_, _], _ => rfl
theorem ok_Ratio_add (T : Txt K mg a) : FnOk P w K mg base CX0 5 a.Ratio_add a.d_Ratio_add ["self", "other"] (spBin a.Ratio (· + ·)) := by
  have G_Ratio_init := ok_Ratio_init (P := P) (w := w) (base := base) T
  have M_Ratio := Mk_Ratio T
  have b_Ratio2 := B_Ratio2 T
  have G_want_number := ok_want_number (P := P) (w := w) (base := base) T
  have b_want_number := B_want_number T
  have G_as_ratio := ok_as_ratio (P := P) (w := w) (base := base) T
  have b_as_ratio := B_as_ratio T
  refine T.Ratio_add.F.ok sc_Ratio_add (fun vs H Q E h => ?_) (fun cdv A outer s H vs Q E hr h => ?_)
  · obtain ⟨v1, v2, q1, q2, rfl, _⟩ := h
    rfl
  · obtain ⟨v1, v2, q1, q2, rfl, r1, n2, z1, z2, h⟩ := h
    refine ⟨_, (pss_cons (ps_expr (pe_call G_want_number (hr.mono (by decide)) (by rfl) T.want_number.g T.want_number.F.kp b_want_number .nil pass0 (pa_cons (pv 1) pa_nil)))
      (pss_cons (ps_set (i := 2) sc_Ratio_add.nd rfl (.inl rfl) (pe_call G_as_ratio (hr.mono (by decide)) (by rfl) T.as_ratio.g T.as_ratio.F.kp b_as_ratio .nil pass0 (pa_cons (pv 1) pa_nil)))
      (pss_cons (ps_set (i := 3) sc_Ratio_add.nd rfl (.inl rfl) (pe_op op_add (pe_op op_mulX (pe_fld (pv 0) rfl) (pe_fld (pv 2) rfl)) (pe_op op_mulX (pe_fld (pv 2) rfl) (pe_fld (pv 0) rfl))))
      (pss_one (ps_ret (pe_make M_Ratio G_Ratio_init (hr.mono (by decide)) (by rfl) T.Ratio.g b_Ratio2 .nil pass0 (pa_cons (pv 3) (pa_cons (pe_op op_mulX (pe_fld (pv 0) rfl) (pe_fld (pv 2) rfl)) pa_nil)))))))), ?_⟩
    refine ⟨_, rfl, v2, q2, rfl, n2, ?_⟩
    refine ⟨_, rfl, v2, q2, rfl, n2, z2.mono (by decide), fun m H1 e1 r2 => ?_⟩
    obtain ⟨p, dx, rfl, hp⟩ := r1.ext e1
    obtain ⟨p', dx', rfl, hp'⟩ := r2
    refine ⟨_, rfl, p, _, dx, _, _, rfl, hp, T.Ratio.cls, T.no_Ratio_own_top, rf_top q1, _, rfl, p', _, dx', _, _, rfl, hp', T.Ratio.cls, T.no_Ratio_own_bottom, rf_bot q2, _, _, rfl, rfl, cmulX z1.top z2.bot (by decide), ?_⟩
    refine ⟨_, rfl, p', _, dx', _, _, rfl, hp', T.Ratio.cls, T.no_Ratio_own_top, rf_top q2, _, rfl, p, _, dx, _, _, rfl, hp, T.Ratio.cls, T.no_Ratio_own_bottom, rf_bot q1, _, _, rfl, rfl, cmulX z2.top z1.bot (by decide), _, _, rfl, rfl, ?_⟩
    refine ⟨_, rfl, _, rfl, p, _, dx, _, _, rfl, hp, T.Ratio.cls, T.no_Ratio_own_bottom, rf_bot q1, _, rfl, p', _, dx', _, _, rfl, hp', T.Ratio.cls, T.no_Ratio_own_bottom, rf_bot q2, _, _, rfl, rfl, cmulX z1.bot z2.bot (by decide), ?_⟩
    refine rd_Ratio (Int.mul_ne_zero (den_ne q1) (den_ne q2)) (((z1.top.mul z2.bot).add (z2.top.mul z1.bot)).mono (by decide)) ((z1.bot.mul z2.bot).mono (by decide)) fun v' H' e r => h v' H' (e1.trans e) ?_
    rw [add_eq] at r
    exact r

end
end P

namespace P
open PySem L2 NS

/-! ### -, texts, sign, properties -/
def tx (i : Int) : Str := Str.ofString (toString i)
theorem tx_len {i : Int} (h : i.natAbs.log2 < 1920) : (tx i).length ≤ 1921 := PyProof.Rows.int_text_len_1921 h
/-- str of a Ratio -/
def strQ (q : Rat) : Str := if q.den = 1 then tx q.num else tx q.num ++ Str.ofString "/" ++ tx (q.den : Int)
def reprQ (q : Rat) : Str := Str.ofString "Ratio(" ++ tx q.num ++ Str.ofString ", " ++ tx (q.den : Int) ++ Str.ofString ")"
def sgn (i : Int) : Int := (if decide (0 < i) then 1 else 0) - (if decide (i < 0) then 1 else 0)
def spStr (C : Addr) (f : Rat → Str) : Sp := fun vs H Q _ => ∃ v q, vs = [v] ∧ IsRat C H v q ∧ Sz 1920 q ∧ Q (.str (f q)) H
def spSign (C : Addr) : Sp := fun vs H Q _ => ∃ v q, vs = [v] ∧ IsRat C H v q ∧ Q (.int (sgn q.num)) H
def spTop (C : Addr) : Sp := fun vs H Q _ => ∃ v q, vs = [v] ∧ IsRat C H v q ∧ Q (.int q.num) H
def spBot (C : Addr) : Sp := fun vs H Q _ => ∃ v q, vs = [v] ∧ IsRat C H v q ∧ Q (.int (q.den : Int)) H
theorem line_ge : 20000 ≤ sizeLine := by decide
section
variable {P : Program} {w : World} {K : PySem.W.Frag} {mg : Str → Option Value} {base : Heap} {a : Ad}
theorem B_Ratio_repr (T : Txt K mg a) : Binds K a.d_Ratio_repr ["self"] [] := T.Ratio_repr.F.binds fun _ _ _ _ _ _ us hl => match us, hl with | [_], _ => rfl
theorem ok_Ratio_repr (T : Txt K mg a) : FnOk P w K mg base CX0 1 a.Ratio_repr a.d_Ratio_repr ["self"] (spStr a.Ratio reprQ) := by
  refine T.Ratio_repr.F.ok sc_Ratio_repr (fun vs H Q E h => ?_) (fun cdv A outer s H vs Q E hr h => ?_)
  · obtain ⟨v, q, rfl, _⟩ := h
    rfl
  · obtain ⟨v, q, rfl, ⟨p, dx, rfl, hp⟩, zq, h⟩ := h
    have zt := zq.top.log (by decide)
    have zb := zq.bot.log (by decide)
    have l1 := tx_len zt
    have l2 := tx_len zb
    have ll := line_ge
    have c6 : (Str.ofString "Ratio(").length = 6 := rfl
    have c2 : (Str.ofString ", ").length = 2 := rfl
    have c1 : (Str.ofString ")").length = 1 := rfl
    refine ⟨_, (pss_one (ps_ret (pe_joined (.cons pe_str (.cons (pe_fmt (pe_fld (pv 0) rfl)) (.cons pe_str (.cons (pe_fmt (pe_fld (pv 0) rfl)) (.cons pe_str PJ.nil)))))))), ?_⟩
    refine ⟨_, rfl, ?_, ?_⟩
    · rw [Str.empty_append, c6]
      omega
    refine ⟨_, rfl, p, _, dx, _, _, rfl, hp, T.Ratio.cls, T.no_Ratio_own_top, rf_top q, .inr ⟨_, rfl, zt, _, rfl, ?_, ?_⟩⟩
    · rw [Str.empty_append, strLen_append, c6]
      show 6 + (tx q.num).length ≤ _
      omega
    refine ⟨_, rfl, ?_, ?_⟩
    · rw [Str.empty_append, strLen_append, strLen_append, c6, c2]
      show 6 + (tx q.num).length + 2 ≤ _
      omega
    refine ⟨_, rfl, p, _, dx, _, _, rfl, hp, T.Ratio.cls, T.no_Ratio_own_bottom, rf_bot q, .inr ⟨_, rfl, zb, _, rfl, ?_, ?_⟩⟩
    · rw [Str.empty_append, strLen_append, strLen_append, strLen_append, c6, c2]
      show 6 + (tx q.num).length + 2 + (tx (q.den : Int)).length ≤ _
      omega
    refine ⟨_, rfl, ?_, ?_⟩
    · rw [Str.empty_append, strLen_append, strLen_append, strLen_append, strLen_append, c6, c2, c1]
      show 6 + (tx q.num).length + 2 + (tx (q.den : Int)).length + 1 ≤ _
      omega
    · show Q (.str (Str.empty ++ Str.ofString "Ratio(" ++ tx q.num ++ Str.ofString ", " ++ tx (q.den : Int) ++ Str.ofString ")")) H
      rw [Str.empty_append]
      exact h

theorem B_Ratio_sign (T : Txt K mg a) : Binds K a.d_Ratio_sign ["self"] [] := T.Ratio_sign.F.binds fun _ _ _ _ _ _ us hl => match us, hl with | [_], _ => rfl
theorem ok_Ratio_sign (T : Txt K mg a) : FnOk P w K mg base CX0 1 a.Ratio_sign a.d_Ratio_sign ["self"] (spSign a.Ratio) := by
  refine T.Ratio_sign.F.ok sc_Ratio_sign (fun vs H Q E h => ?_) (fun cdv A outer s H vs Q E hr h => ?_)
  · obtain ⟨v, q, rfl, _⟩ := h
    rfl
  · obtain ⟨v, q, rfl, ⟨p, dx, rfl, hp⟩, h⟩ := h
    refine ⟨_, (pss_one (ps_ret (pe_op op_sub (pe_callTy call_int1 (by rfl) T.b_int (by decide +kernel) (pa_cons (pe_cmpR op_gt (pe_fld (pv 0) rfl) pe_int (nomark _)) pa_nil)) (pe_callTy call_int1 (by rfl) T.b_int (by decide +kernel) (pa_cons (pe_cmpR op_lt (pe_fld (pv 0) rfl) pe_int (nomark _)) pa_nil))))), ?_⟩
    exact ⟨_, rfl, p, _, dx, _, _, rfl, hp, T.Ratio.cls, T.no_Ratio_own_top, rf_top q, _, _, rfl, rfl, .inr ⟨_, rfl, _, rfl, p, _, dx, _, _, rfl, hp, T.Ratio.cls, T.no_Ratio_own_top, rf_top q, _, _, rfl, rfl, .inr ⟨_, rfl, _, _, rfl, rfl, h⟩⟩⟩
end
end P

namespace P
open PySem L2 NS

/-! ### keys -/
abbrev LET : Str := "abcdefghijklmnopqrstuvwxyz"
abbrev SIG : Str := "abcdefghijklmnopqrstuvwxyz0123456789"
def low (c : Nat) : Prop := 97 ≤ c ∧ c ≤ 122
def sig (c : Nat) : Prop := (97 ≤ c ∧ c ≤ 122) ∨ (48 ≤ c ∧ c ≤ 57)
theorem mem_let {c : Nat} (h : low c) : c ∈ LET.cps.toList := by
  have e : LET.cps.toList = (List.range 26).map (· + 97) := by decide +kernel
  rw [e, List.mem_map]
  exact ⟨c - 97, List.mem_range.mpr (by have := h.1; have := h.2; omega), by have := h.1; omega⟩
theorem mem_sig {c : Nat} (h : sig c) : c ∈ SIG.cps.toList := by
  have e : SIG.cps.toList = (List.range 26).map (· + 97) ++ (List.range 10).map (· + 48) := by decide +kernel
  rw [e, List.mem_append, List.mem_map, List.mem_map]
  rcases h with h | h
  · exact .inl ⟨c - 97, List.mem_range.mpr (by omega), by omega⟩
  · exact .inr ⟨c - 48, List.mem_range.mpr (by omega), by omega⟩
/-- a key: one to eight signs, the first one a letter -/
structure Nm (s : Str) : Prop where
  one : 1 ≤ s.length
  most : s.length ≤ 8
  first : ∀ c, s.cps.toList[0]? = some c → low c
  all : ∀ c, c ∈ s.cps.toList → sig c
theorem yes_of {σ : L2.St} {H : Hp} {p q : Hp → Prop} (h : p H) : tYes σ H fun b H' => if b = true then p H' else q H' := by
  show (if true = true then p H else q H)
  rw [if_pos rfl]
  exact h
theorem ext_put {D : Addr} {H H' : Hp} {o : HO} (h : Ext H H') (hD : H D = none) : Ext H (upd H' D o) := fun b u e => by
  rw [upd_ne (ne_of_none e hD)]
  exact h b u e
def spKey : Sp := fun vs H Q _ => ∃ s : Str, vs = [.str s] ∧ Nm s ∧ ∀ H', Ext H H' → Q (.bl true) H'
section
variable {P : Program} {w : World} {K : PySem.W.Frag} {mg : Str → Option Value} {base : Heap} {a : Ad}
theorem B_is_key (T : Txt K mg a) : Binds K a.d_is_key ["value"] [] := T.is_key.F.binds fun _ _ _ _ _ _ us hl => match us, hl with | [_], _ => rfl
theorem ok_is_key (T : Txt K mg a) : FnOk P w K mg base CX0 1 a.is_key a.d_is_key ["value"] spKey := by
  obtain ⟨_, c_LETTERS⟩ := T.c_LETTERS
  obtain ⟨_, c_KEY_SIGNS⟩ := T.c_KEY_SIGNS
  obtain ⟨_, c_LONGEST_KEY⟩ := T.c_LONGEST_KEY
  refine T.is_key.F.ok sc_is_key (fun vs H Q E h => ?_) (fun cdv A outer s H vs Q E hr h => ?_)
  · obtain ⟨i, rfl, _⟩ := h
    rfl
  · obtain ⟨z, rfl, hz, h⟩ := h
    refine ⟨_, (pss_cons (ps_if (PW.pt (pw_or (pt_not (pt_val (pe_callB call_isi (by rfl) T.b_isinstance (by decide +kernel) (pa_cons (pv 0) (pa_cons (pe_bltn (v := .ty "str") (by rfl) T.b_str (by decide +kernel) rfl) pa_nil))))) (pw_or (pt_not (pt_chain op_le op_le pe_int (pe_callB call_len (by rfl) T.b_len (by decide +kernel) (pa_cons (pv 0) pa_nil)) (pe_glob (v := .int 8) (by rfl) c_LONGEST_KEY ⟨_, rfl⟩))) (pw_or1 (pt_cmpR op_notIn_sign (pe_ix ix_str (pv 0) pe_int (fun _ _ => rfl)) (pe_glob (v := .str LET) (by rfl) c_LETTERS ⟨_, rfl⟩) (by rfl)))))) (pss_one (ps_ret pe_bl)) pss_nil)
      (pss_one (ps_ret (pe_callB (cr_all rfl) (by rfl) T.b_all (by decide +kernel) (pa_cons (pe_lc (own := [("sign", 1)]) (g := gName 1) (by rfl) sc_is_key.nd (pi_str (pv 0)) (blkOk_by (N := ["value", "sign"]) (sc := defScope s_is_key) (by decide +kernel)) (fun _ _ _ _ _ => (pg_name (i := 1) sc_is_key.nd rfl (.inl rfl) (.inr rfl))) (fun _ _ _ _ _ => pts_nil) (fun _ _ _ _ _ => (pe_cmpR op_in_sign (pv 1) (pe_glob (v := .str SIG) (by rfl) c_KEY_SIGNS ⟨_, rfl⟩) (by rfl)))) pa_nil))))), ?_⟩
    have z8 := hz.most
    have hl : z.length ≤ sizeLine := Nat.le_trans z8 (by decide)
    refine ⟨_, rfl, _, _, _, _, _, rfl, .ty _, ty_str z, kit_ty (r := true) (by decide +kernel), _, rfl, iteF ?_⟩
    have z1 := hz.one
    have len : z.cps.toList.length = z.length := Array.length_toList
    obtain ⟨c, hc⟩ : ∃ c, z.cps.toList[0]? = some c := ⟨_, List.getElem?_eq_getElem (by omega)⟩
    refine ⟨_, rfl, _, _, rfl, ⟨hl, rfl⟩, _, _, rfl, rfl, _, rfl, iteY (decide_eq_true (by omega)) ⟨_, _, rfl, rfl, true, congrArg V.bl (decide_eq_true (by omega)), iteF ?_⟩⟩
    refine ⟨_, rfl, z, 0, c, rfl, rfl, hl, atI_nat hc, c, LET, rfl, rfl, false, congrArg V.bl (by simp [mem_let (hz.first c hc)]), iteF ?_⟩
    refine ⟨_, rfl, z, rfl, fun D hD => ?_⟩
    refine lc_it walk_str (fun i H' => Ext H H' ∧ H' D = some (.lst ((List.replicate i true).map V.bl))) ⟨ext_put Ext.rfl' hD, upd_same⟩ (fun _ _ _ _ => trivial) ?_ ?_
    · rintro i x H' H'' hi ⟨e, h3⟩ ⟨rfl, c, hc, rfl⟩
      refine ⟨rfl, yes_of ?_⟩
      have mc : c ∈ SIG.cps.toList := mem_sig (hz.all c (Array.mem_toList_iff.mpr (Array.mem_of_getElem? hc)))
      refine ⟨_, rfl, c, SIG, rfl, rfl, _, h3, Nat.lt_of_lt_of_le (by rw [List.length_map, List.length_replicate]; exact hi) hl, ext_put e hD, ?_⟩
      rw [upd_same, List.replicate_succ', show decide (c ∈ SIG.cps.toList) = true from decide_eq_true mc]
      simp
    · rintro H' ⟨e, h3⟩
      refine ⟨D, List.replicate z.cps.size true, rfl, SqL.of h3, ?_⟩
      rw [show (List.replicate z.cps.size true).all id = true by simp]
      exact h H' e
end
end P

namespace P
open PySem L2 NS

/-! ### rows -/
/-- the heap with d locked and set free again -/
theorem ext_unlock {H H' : Hp} {d : Addr} {o : Obj} {u : HO} (hd : H d = some u) (e : Ext (upd H d (.frz o u)) H') : Ext H (upd H' d u) := fun b x hb => by
  by_cases h : b = d
  · subst h
    rw [upd_same, ← hb, hd]
  · rw [upd_ne h]
    refine e _ _ ?_
    rw [upd_ne h]
    exact hb
/-- at most n keys, numbers of b bits -/
theorem paired_imp {α β : Type} {F G : α → β → Prop} (h : ∀ x y, F x y → G x y) : ∀ {xs : List α} {ys : List β}, Paired F xs ys → Paired G xs ys
  | _, _, .nil => .nil
  | _, _, .cons a b => .cons (h _ _ a) (paired_imp h b)
theorem paired_snoc {α β : Type} {F : α → β → Prop} {x : α} {y : β} : ∀ {xs : List α} {ys : List β}, Paired F xs ys → F x y → Paired F (xs ++ [x]) (ys ++ [y])
  | _, _, .nil, k => .cons k .nil
  | _, _, .cons a b, k => .cons a (paired_snoc b k)
section
variable {P : Program} {w : World} {K : PySem.W.Frag} {mg : Str → Option Value} {base : Heap} {a : Ad}
end
end P

namespace P
open PySem L2 NS

/-! ### the drawing -/
/-- all but the object at r is as it was -/
def But (r : Addr) (H H' : Hp) : Prop := ∀ b o, H b = some o → b ≠ r → H' b = some o
theorem But.rfl' {r : Addr} {H : Hp} : But r H H := fun _ _ h _ => h
theorem But.trans {r : Addr} {H H1 H2 : Hp} (x : But r H H1) (y : But r H1 H2) : But r H H2 := fun b o h n => y b o (x b o h n) n
theorem But.ext {r : Addr} {H H1 H2 : Hp} (x : But r H H1) (y : Ext H1 H2) : But r H H2 := fun b o h n => y b o (x b o h n)
theorem but_of {r : Addr} {H H1 : Hp} (y : Ext H H1) : But r H H1 := fun b o h _ => y b o h
theorem But.upd {r : Addr} {H H1 : Hp} {o : HO} (x : But r H H1) : But r H (upd H1 r o) := fun b u h n => by
  rw [upd_ne n]
  exact x b u h n
/-- the drawer at r -/
def Rng (H : Hp) (r : Addr) : Prop := ∃ x y : Int, H r = some (.lst [.int x, .int y]) ∧ 0 ≤ x ∧ 0 ≤ y ∧ y < 2147483648
theorem Rng.ext {H H' : Hp} {r : Addr} (h : Rng H r) (e : Ext H H') : Rng H' r := by
  obtain ⟨x, y, hr, z⟩ := h
  exact ⟨x, y, e _ _ hr, z⟩
theorem Rng.ne_tup {H : Hp} {r b : Addr} {xs : List V} (h : Rng H r) (hb : H b = some (.tup xs)) : b ≠ r := by
  obtain ⟨x, y, hr, _⟩ := h
  exact ne_of hb hr (fun z => nomatch z)
theorem Rng.ne_ins {H : Hp} {r b C dx : Addr} {fs : List (Str × V)} (h : Rng H r) (hb : H b = some (.ins C dx fs)) : b ≠ r := by
  obtain ⟨x, y, hr, _⟩ := h
  exact ne_of hb hr (fun z => nomatch z)
def spRng (K : PySem.W.Frag) : Sp := fun vs H Q _ => ∃ (s : Addr) (ns : List Int) (k : Nat), vs = [.ref s, .int k] ∧ SqL K H s (ns.map V.int) ∧ k ≤ 1000 ∧ ∀ r H', H r = none → Ext H H' → Rng H' r → Q (.ref r) H'
def spDraw : Sp := fun vs H Q _ => ∃ (r : Addr) (n : Int), vs = [.ref r, .int n] ∧ Rng H r ∧ 0 < n ∧ n < 1073741824 ∧ ∀ d H', 0 ≤ d → d < n → But r H H' → Rng H' r → Q (.int d) H'
def spChoice : Sp := fun vs H Q _ => ∃ r : Addr, Rng H r ∧ ((∃ (l : Addr) (xs : List V), vs = [.ref r, .ref l] ∧ H l = some (.lst xs) ∧ l ≠ r ∧ 0 < xs.length ∧ xs.length ≤ 1000 ∧ ∀ v H', v ∈ xs → But r H H' → Rng H' r → Q v H') ∨
  ∃ z : Str, vs = [.ref r, .str z] ∧ 0 < z.length ∧ z.length ≤ 1000 ∧ ∀ c H', c ∈ z.cps.toList → But r H H' → Rng H' r → Q (.str ⟨#[c]⟩) H')
theorem fmod_pos {i j : Int} (h : 0 < j) : i.fmod j = i % j := Int.fmod_eq_emod_of_nonneg _ (by omega)
theorem fdiv_pos {i j : Int} (h : 0 < j) : i.fdiv j = i / j := Int.fdiv_eq_ediv_of_nonneg _ (by omega)
theorem bt_of {i : Int} {n : Nat} (h0 : 0 ≤ i) (h : i < 2 ^ n) : Bt n i := by
  unfold Bt
  have e : ((2 ^ n : Nat) : Int) = (2 : Int) ^ n := Int.natCast_pow 2 n
  omega
section
variable {P : Program} {w : World} {K : PySem.W.Frag} {mg : Str → Option Value} {base : Heap} {a : Ad}
theorem B_law_draw (T : Txt K mg a) : Binds K a.d_law_draw ["_law_rng_here", "_law_many"] [] := T.law_draw.F.binds fun _ _ _ _ _ _ us hl => match us, hl with | [_, _], _ => rfl
theorem ok_law_draw (T : Txt K mg a) : FnOk P w K mg base CX0 1 a.law_draw a.d_law_draw ["_law_rng_here", "_law_many"] spDraw := by
  refine T.law_draw.F.ok sc_law_draw (fun vs H Q E h => ?_) (fun cdv A outer s H vs Q E hr h => ?_)
  · obtain ⟨r, n, rfl, _⟩ := h
    rfl
  · obtain ⟨r, n, rfl, ⟨x, y, hx, x0, y0, y1⟩, n0, n1, h⟩ := h
    refine ⟨_, (pss_cons (ps_if (pt_cmpR op_gt (pe_ix ix_list (pv 0) pe_int (fun _ _ => rfl)) pe_int (nomark _)) (pss_cons (ps_asg (pe_callB call_divmod (by rfl) T.b_divmod (by decide +kernel) (pa_cons (pe_ix ix_list (pv 0) pe_int (fun _ _ => rfl)) (pa_cons (pv 1) pa_nil))) (pg_tup rfl (pgs_cons (pg_sub (pv 0) pe_int set_list) (pgs_cons (pg_name (i := 2) sc_law_draw.nd rfl (.inl rfl)) pgs_nil))))
      (pss_one (ps_ret (pv 2)))) pss_nil)
      (pss_cons (ps_asg (pe_op op_modN (pe_callTy call_int1 (by rfl) T.b_int (by decide +kernel) (pa_cons (pe_op op_add (pe_op op_mulX (pe_ix ix_list (pv 0) pe_int (fun _ _ => rfl)) pe_int) pe_int) pa_nil)) pe_int) (pg_sub (pv 0) pe_int set_list))
      (pss_one (ps_ret (pe_op op_modN (pe_op op_fdivX (pe_op op_modN (pe_callTy call_int1 (by rfl) T.b_int (by decide +kernel) (pa_cons (pe_op op_mulX (pe_ix ix_list (pv 0) pe_int (fun _ _ => rfl)) (pe_ix ix_list (pv 0) pe_int (fun _ _ => rfl))) pa_nil)) pe_int) pe_int) (pv 1)))))), ?_⟩
    refine ⟨_, rfl, r, _, _, _, rfl, rfl, SqL.of hx, rfl, _, _, rfl, rfl, _, rfl, ?_⟩
    by_cases hp : 0 < x
    · refine iteY (decide_eq_true hp) ?_
      refine ⟨_, rfl, r, _, _, _, rfl, rfl, SqL.of hx, rfl, _, rfl, _, _, rfl, ⟨n0, n1⟩, fun p hn => ?_⟩
      have hr' : upd H p (.tup [.int (x / n), .int (x % n)]) r = some (.lst [.int x, .int y]) := by
        rw [upd_ne (ne_of_none hx hn)]
        exact hx
      refine ⟨p, _, rfl, SqT.of upd_same, rfl, _, _, rfl, _, rfl, r, _, _, 0, rfl, rfl, hr', rfl, _, _, rfl, rfl, ?_⟩
      refine ⟨_, rfl, h _ _ (Int.emod_nonneg _ (by omega)) (Int.emod_lt_of_pos _ n0) (But.upd (but_of (Ext.upd hn))) ⟨x / n, y, upd_same, Int.ediv_nonneg x0 (by omega), y0, y1⟩⟩
    · refine iteN (decide_eq_false hp) ?_
      have b31 : Bt 31 y := bt_of y0 (by omega)
      refine ⟨_, rfl, r, _, _, _, rfl, rfl, SqL.of hx, rfl, _, _, rfl, rfl, cmulX b31 (n := 16) (by decide) (by decide), _, _, rfl, rfl, .inl ⟨_, rfl, _, _, rfl, rfl, (show (2147483563 : Int) ≠ 0 by decide), _, rfl, r, _, _, 1, rfl, rfl, hx, rfl, ?_⟩⟩
      refine to_heap (H2 := upd H r (.lst [.int x, .int ((y * 40693 + 27017) % 2147483563)])) (by rw [← fmod_pos (by decide)]; rfl) ?_
      generalize hz : (y * 40693 + 27017) % 2147483563 = z
      have z0 : 0 ≤ z := by rw [← hz]; exact Int.emod_nonneg _ (by decide)
      have z1 : z < 2147483563 := by rw [← hz]; exact Int.emod_lt_of_pos _ (by decide)
      have bz : Bt 31 z := bt_of z0 (by omega)
      have hr2 : upd H r (.lst [.int x, .int z]) r = some (.lst [.int x, .int z]) := upd_same
      refine ⟨_, rfl, r, _, _, _, rfl, rfl, SqL.of hr2, rfl, _, rfl, r, _, _, _, rfl, rfl, SqL.of hr2, rfl, _, _, rfl, rfl, cmulX bz bz (by decide), .inl ⟨_, rfl, _, _, rfl, rfl, (show (2147483477 : Int) ≠ 0 by decide), _, _, rfl, rfl, ⟨show (17 : Int) ≠ 0 by decide, show Nat.log2 17 < 9000 by decide⟩, _, rfl, _, _, rfl, rfl, (show n ≠ 0 by omega), ?_⟩⟩
      show Q (.int (Int.fmod _ n)) _
      rw [fmod_pos n0]
      exact h _ _ (Int.emod_nonneg _ (by omega)) (Int.emod_lt_of_pos _ n0) (But.upd But.rfl') ⟨x, z, upd_same, x0, z0, by omega⟩
theorem B_law_choice (T : Txt K mg a) : Binds K a.d_law_choice ["_law_rng_here", "_law_some"] [] := T.law_choice.F.binds fun _ _ _ _ _ _ us hl => match us, hl with | [_, _], _ => rfl
theorem ok_law_choice (T : Txt K mg a) : FnOk P w K mg base CX0 2 a.law_choice a.d_law_choice ["_law_rng_here", "_law_some"] spChoice := by
  have G_law_draw := ok_law_draw (P := P) (w := w) (base := base) T
  have b_law_draw := B_law_draw T
  refine T.law_choice.F.ok sc_law_choice (fun vs H Q E h => ?_) (fun cdv A outer s H vs Q E hr h => ?_)
  · rcases h with ⟨r, _, ⟨l, xs, rfl, _⟩ | ⟨z, rfl, _⟩⟩ <;> rfl
  · obtain ⟨r, hx, h⟩ := h
    have main : ∃ t, PSs (cxOf CX0 P w K mg base ["_law_rng_here", "_law_some"] "_law_choice" (defScope s_law_choice) a.law_choice cdv A outer s H E).nox (defBody s_law_choice) t ∧ t { nx := fun _ H' => Q .non H', rt := Q } (start ["_law_rng_here", "_law_some"] vs) H := by
      refine ⟨_, (pss_one (ps_ret (pe_ix ix_seq (pv 1) (pe_call G_law_draw (hr.mono (by decide)) (by rfl) T.law_draw.g T.law_draw.F.kp b_law_draw .nil pass0 (pa_cons (pv 0) (pa_cons (pe_callB call_len (by rfl) T.b_len (by decide +kernel) (pa_cons (pv 1) pa_nil)) pa_nil))) (fun _ _ => rfl)))), ?_⟩
      rcases h with ⟨l, xs, rfl, hl, ne, x0, x1, h⟩ | ⟨z, rfl, x0, x1, h⟩
      · refine ⟨_, rfl, _, rfl, _, rfl, _, _, rfl, .inl ⟨xs, SqL.of hl, rfl⟩, r, _, rfl, hx, by omega, by omega, fun d H' d0 d1 e hr' => ?_⟩
        obtain ⟨j, rfl⟩ : ∃ j : Nat, d = (j : Int) := ⟨d.toNat, by omega⟩
        have hj : j < xs.length := by omega
        exact .inl ⟨l, xs, _, xs[j], rfl, rfl, SqL.of (e _ _ hl ne), atI_nat (List.getElem?_eq_getElem hj), h _ _ (List.getElem_mem hj) e hr'⟩
      · have zl : z.length ≤ sizeLine := Nat.le_trans x1 (by decide)
        have len : z.cps.toList.length = z.length := Array.length_toList
        refine ⟨_, rfl, _, rfl, _, rfl, _, _, rfl, ⟨zl, rfl⟩, r, _, rfl, hx, by omega, by omega, fun d H' d0 d1 e hr' => ?_⟩
        obtain ⟨j, rfl⟩ : ∃ j : Nat, d = (j : Int) := ⟨d.toNat, by omega⟩
        have hj : j < z.cps.toList.length := by omega
        exact .inr (.inr ⟨z, _, z.cps.toList[j], rfl, rfl, zl, atI_nat (List.getElem?_eq_getElem hj), h _ _ (List.getElem_mem hj) e hr'⟩)
    obtain ⟨t, p, q⟩ := main
    exact ⟨t, p, q⟩
theorem B_law_rng (T : Txt K mg a) : Binds K a.d_law_rng ["_law_script", "_law_k"] [] := T.law_rng.F.binds fun _ _ _ _ _ _ us hl => match us, hl with | [_, _], _ => rfl
theorem ok_law_rng (T : Txt K mg a) : FnOk P w K mg base CX0 1 a.law_rng a.d_law_rng ["_law_script", "_law_k"] (spRng K) := by
  refine T.law_rng.F.ok sc_law_rng (fun vs H Q E h => ?_) (fun cdv A outer s H vs Q E hr h => ?_)
  · obtain ⟨r, ns, k, rfl, _⟩ := h
    rfl
  · obtain ⟨r, ns, k, rfl, hs, hk, h⟩ := h
    refine ⟨_, (pss_cons (ps_set (i := 2) sc_law_rng.nd rfl (.inl rfl) (pe_op op_add (pe_op op_mulX pe_int (pv 1)) pe_int))
      (pss_mid (ps_if (pt_cmpR op_lt (pv 1) (pe_callB call_len (by rfl) T.b_len (by decide +kernel) (pa_cons (pv 0) pa_nil)) (nomark _)) (pss_one (ps_set (i := 2) sc_law_rng.nd rfl (.inl rfl) (pe_ix ix_list (pv 0) (pv 1) (fun _ _ => rfl)))) pss_nil)
      (pss_one (ps_ret (pe_lst (pa_cons (pe_callB (call_max2 rfl) (by rfl) T.b_max (by decide +kernel) (pa_cons pe_int (pa_cons (pe_op op_sub (pe_callB call_abs (by rfl) T.b_abs (by decide +kernel) (pa_cons (pv 2) pa_nil)) (pe_op op_pow pe_int pe_int)) pa_nil))) (pa_cons (pe_op op_add (pe_op op_modN (pe_op op_mulX (pe_callTy call_int1 (by rfl) T.b_int (by decide +kernel) (pa_cons (pe_op op_add (pe_op op_modN (pe_callTy call_int1 (by rfl) T.b_int (by decide +kernel) (pa_cons (pe_callB call_abs (by rfl) T.b_abs (by decide +kernel) (pa_cons (pv 2) pa_nil)) pa_nil)) pe_int) pe_int) pa_nil)) (pe_op op_pow (pe_op op_add (pe_op op_mulX pe_int (pv 1)) pe_int) pe_int)) pe_int) pe_int) pa_nil))))))), ?_⟩
    have bk : Bt 10 (k : Int) := bt_of (by omega) (by omega)
    refine ⟨_, rfl, _, _, rfl, rfl, cmulX (m := 5) (by decide) bk (by decide), _, _, rfl, rfl, ?_⟩
    refine ⟨fun σ H1 => H1 = H ∧ ∃ c : Int, σ = [some (.ref r), some (.int (k : Int)), some (.int c)], ?_, ?_⟩
    · refine ⟨_, rfl, _, rfl, _, _, rfl, .inl ⟨_, hs, rfl⟩, _, _, rfl, rfl, _, rfl, ?_⟩
      rw [List.length_map]
      by_cases hl : (k : Int) < (ns.length : Int)
      · refine iteY (decide_eq_true hl) ?_
        have hk' : k < ns.length := by omega
        refine ⟨_, rfl, _, rfl, r, _, _, _, rfl, rfl, hs, atI_nat (show (ns.map V.int)[k]? = some (V.int ns[k]) by rw [List.getElem?_map, List.getElem?_eq_getElem hk']; rfl), rfl, _, rfl⟩
      · exact iteN (decide_eq_false hl) ⟨rfl, _, rfl⟩
    · rintro σ H1 ⟨rfl, c, rfl⟩
      refine ⟨_, rfl, _, rfl, _, _, rfl, rfl, ⟨by decide, by decide, by decide⟩, _, _, rfl, rfl, _, _, rfl, ?_⟩
      refine ⟨_, rfl, _, rfl, .inl ⟨_, rfl, _, _, rfl, rfl, (show (2147483549 : Int) ≠ 0 by decide), _, _, rfl, rfl, .inl ⟨_, rfl, ?_⟩⟩⟩
      rw [fmod_pos (by decide), abs_nat]
      generalize hu : ((c.natAbs : Nat) : Int) % 2147483549 = u
      have u0 : 0 ≤ u := by rw [← hu]; exact Int.emod_nonneg _ (by decide)
      have u1 : u < 2147483549 := by rw [← hu]; exact Int.emod_lt_of_pos _ (by decide)
      have bu : Bt 31 (u + 1) := bt_of (by omega) (by omega)
      have b7 : Bt 12 (2 * (k : Int) + 7) := bt_of (by omega) (by omega)
      refine ⟨_, rfl, _, _, rfl, rfl, cmulX (m := 2) (by decide) bk (by decide), _, _, rfl, rfl, _, _, rfl, rfl, ⟨show (0 : Int) ≤ 3 by decide, show (3 : Int) ≤ 1000000 by decide, Nat.lt_of_lt_of_le b7 (by decide)⟩, _, _, rfl, rfl, ?_, _, _, rfl, rfl, (show (2147483489 : Int) ≠ 0 by decide), _, _, rfl, rfl, (by show 2 ≤ sizeLine; decide), fun p hp => ?_⟩
      · refine cmulX (n := 36) bu ?_ (by decide)
        show Bt 36 ((2 * (k : Int) + 7) ^ 3)
        have e3 : (2 * (k : Int) + 7) ^ 3 = (2 * (k : Int) + 7) * (2 * (k : Int) + 7) * (2 * (k : Int) + 7) := by
          rw [Int.pow_succ, Int.pow_succ, Int.pow_succ, Int.pow_zero, Int.one_mul]
        rw [e3]
        exact (b7.mul b7).mul b7
      · refine h p _ hp (Ext.upd hp) ⟨_, _, upd_same, ?_, ?_, ?_⟩
        · split <;> omega
        · rw [fmod_pos (by decide)]
          have := Int.emod_nonneg ((u + 1) * (2 * (k : Int) + 7) ^ (3 : Int).toNat) (show (2147483489 : Int) ≠ 0 by decide)
          omega
        · rw [fmod_pos (by decide)]
          have := Int.emod_lt_of_pos ((u + 1) * (2 * (k : Int) + 7) ^ (3 : Int).toNat) (show (0 : Int) < 2147483489 by decide)
          omega
end
end P

namespace P
open PySem L2 NS

/-! ### mixed names -/
theorem but_put {r D : Addr} {H H' : Hp} {o : HO} (h : But r H H') (hD : H D = none) : But r H (upd H' D o) := fun b u e n => by
  rw [upd_ne (ne_of_none e hD)]
  exact h b u e n
theorem Rng.put {r D : Addr} {H : Hp} {o : HO} (h : Rng H r) (hD : D ≠ r) : Rng (upd H D o) r := by
  obtain ⟨x, y, hr, z⟩ := h
  exact ⟨x, y, by rw [upd_ne (fun e => hD e.symm)]; exact hr, z⟩
theorem Rng.fresh {r D : Addr} {H : Hp} (h : Rng H r) (hD : H D = none) : D ≠ r := fun e => by
  obtain ⟨x, y, hr, _⟩ := h
  rw [← e, hD] at hr
  cases hr
theorem seqIx {j n : Nat} (h : j < n) : seqIndex? (j : Int) n = some j := by
  have h1 : ¬ ((j : Int) < 0) := by omega
  have h2 : (decide (0 ≤ (j : Int)) && decide ((j : Int) < (n : Int))) = true := by
    rw [Bool.and_eq_true_iff]
    exact ⟨decide_eq_true (by omega), decide_eq_true (by omega)⟩
  unfold seqIndex?
  dsimp only
  rw [if_neg h1, if_pos h2]
  rfl
theorem erase_map {α β : Type} {f : α → β} : ∀ {l : List α} {k : Nat}, (l.map f).eraseIdx k = (l.eraseIdx k).map f
  | [], k => by simp
  | x :: l, 0 => rfl
  | x :: l, k + 1 => congrArg (f x :: ·) (erase_map (l := l) (k := k))
theorem erase_perm {α : Type} : ∀ {l : List α} {k : Nat} {y : α}, l[k]? = some y → (y :: l.eraseIdx k).Perm l
  | x :: l, 0, y, h => by
    cases h
    exact .refl _
  | x :: l, k + 1, y, h => by
    show (y :: x :: l.eraseIdx k).Perm (x :: l)
    exact (List.Perm.swap x y _).trans ((erase_perm (l := l) (k := k) h).cons x)
section
variable {P : Program} {w : World} {K : PySem.W.Frag} {mg : Str → Option Value} {base : Heap} {a : Ad}
end
end P

namespace P
open PySem L2 NS

/-! ### a long name -/
def one (c : Nat) : Str := ⟨#[c]⟩
theorem joinL_ones : ∀ cs : List Nat, TL.joinL [] (cs.map fun c => [c]) = cs
  | [] => rfl
  | [_] => rfl
  | c :: d :: r => by
    show [c] ++ ([] ++ TL.joinL [] ((d :: r).map fun c => [c])) = _
    rw [joinL_ones (d :: r)]
    rfl
theorem join_ones (cs : List Nat) : (Txt.join "" (cs.map one)).cps.toList = cs := by
  rw [TL.join_eq]
  have h := TL.tl_join "" (cs.map one)
  rw [List.map_map] at h
  exact h.trans (joinL_ones cs)
theorem let_low {c : Nat} (h : c ∈ LET.cps.toList) : low c := by
  have e : LET.cps.toList = (List.range 26).map (· + 97) := by decide +kernel
  rw [e] at h
  obtain ⟨i, hi, rfl⟩ := List.mem_map.mp h
  have := List.mem_range.mp hi
  exact ⟨by omega, by omega⟩
theorem both_sig {c : Nat} (h : c ∈ (LET ++ ("0123456789" : Str)).cps.toList) : sig c := by
  have e : (LET ++ ("0123456789" : Str)).cps.toList = (List.range 26).map (· + 97) ++ (List.range 10).map (· + 48) := by decide +kernel
  rw [e] at h
  rcases List.mem_append.mp h with h | h
  · obtain ⟨i, hi, rfl⟩ := List.mem_map.mp h
    have := List.mem_range.mp hi
    exact .inl ⟨by omega, by omega⟩
  · obtain ⟨i, hi, rfl⟩ := List.mem_map.mp h
    have := List.mem_range.mp hi
    exact .inr ⟨by omega, by omega⟩
section
variable {P : Program} {w : World} {K : PySem.W.Frag} {mg : Str → Option Value} {base : Heap} {a : Ad}
end
end P

namespace P
open PySem L2 NS

/-! ### spare names: plain -/
theorem nodup_le {α : Type} [DecidableEq α] : ∀ {l r : List α}, l.Nodup → (∀ x, x ∈ l → x ∈ r) → l.length ≤ r.length
  | [], r, _, _ => Nat.zero_le _
  | y :: l, r, nd, hs => by
    rw [List.nodup_cons] at nd
    have h := nodup_le (r := r.erase y) nd.2 fun z hz => by
      have hzy : z ≠ y := fun z' => nd.1 (by rw [← z']; exact hz)
      exact (List.mem_erase_of_ne hzy).mpr (hs z (.tail _ hz))
    have hy := hs y (.head _)
    rw [List.length_erase_of_mem hy] at h
    have : 0 < r.length := List.length_pos_of_mem hy
    rw [List.length_cons]
    omega
def tens : List Str := (List.range 90).map fun (i : Nat) => (toString ((10 : Int) + (i : Int)) : Str)
theorem tens_ok : tens.all (fun s => decide (s.length = 2) && s.cps.toList.all fun c => decide (48 ≤ c) && decide (c ≤ 57)) = true := by decide +kernel
theorem tens_nodup : tens.Nodup := by decide +kernel
def spare (s : Str) : List Str := s :: tens.map fun t => s ++ t
theorem app_inj {s t u : Str} (h : s ++ t = s ++ u) : t = u := by
  have e := congrArg (fun z : Str => z.cps.toList) h
  simp only [Str.cps_append, Array.toList_append] at e
  have e := List.append_cancel_left e
  cases t
  cases u
  exact congrArg Str.mk (Array.toList_inj.mp e)
theorem spare_nodup (s : Str) : (spare s).Nodup := by
  unfold spare
  rw [List.nodup_cons]
  constructor
  · intro h
    obtain ⟨t, ht, e⟩ := List.mem_map.mp h
    have h2 := List.all_eq_true.mp tens_ok t ht
    rw [Bool.and_eq_true_iff] at h2
    have h3 := of_decide_eq_true h2.1
    have e2 := congrArg (fun z : Str => z.length) e
    simp only [strLen_append] at e2
    omega
  · rw [List.Nodup, List.pairwise_map]
    exact tens_nodup.imp fun hne e => hne (app_inj e)
/-- one of them is free -/
theorem spare_free {s : Str} {ts : List Str} (h : ts.length < 91) : ∃ x, x ∈ spare s ∧ x ∉ ts := by
  by_cases hx : ∃ x, x ∈ spare s ∧ x ∉ ts
  · exact hx
  · have := nodup_le (spare_nodup s) fun x hs => by
      by_cases hm : x ∈ ts
      · exact hm
      · exact absurd ⟨x, hs, hm⟩ hx
    have e : (spare s).length = 91 := by
      unfold spare tens
      rw [List.length_cons, List.length_map, List.length_map, List.length_range]
    omega
end P

namespace P
open PySem L2 NS

/-! ### drawn names -/
abbrev AL2 : Str := "abcdefghijkmnopq0123456789"
theorem al2_len : AL2.cps.toList.length = 26 := by decide +kernel
theorem al2_sig {c : Nat} (h : c ∈ AL2.cps.toList) : sig c := by
  have e : AL2.cps.toList.all (fun c => (decide (97 ≤ c) && decide (c ≤ 122)) || (decide (48 ≤ c) && decide (c ≤ 57))) = true := by decide +kernel
  have := List.all_eq_true.mp e c h
  simp only [Bool.or_eq_true, Bool.and_eq_true, decide_eq_true_eq] at this
  exact this
theorem ones_sum : ∀ cs : List Nat, ((cs.map one).map (·.length)).sum = cs.length
  | [] => rfl
  | c :: cs => by
    rw [List.map_cons, List.map_cons, List.sum_cons, ones_sum cs, List.length_cons, Nat.add_comm]
    rfl
theorem inV_str (x : Str) (ss : List Str) : inV (.str x) (ss.map V.str) = decide (x ∈ ss) := by
  unfold inV
  rw [List.any_map, Bool.eq_iff_iff, List.any_eq_true, decide_eq_true_iff]
  constructor
  · rintro ⟨y, hy, e⟩
    have e : y = x := eq_of_beq e
    rw [← e]
    exact hy
  · intro h
    exact ⟨x, h, beq_self_eq_true x⟩
theorem flat_strs (ss : List Str) : (ss.map V.str).all flatV = true := List.all_eq_true.mpr fun v hv => by
  obtain ⟨s, _, rfl⟩ := List.mem_map.mp hv
  rfl
theorem spare_nm {z y : Str} (hz : Nm z) (h3 : z.length ≤ 3) (hy : y ∈ spare z) : Nm y ∧ y.length ≤ 5 := by
  rcases List.mem_cons.mp hy with rfl | hy
  · exact ⟨hz, by omega⟩
  · obtain ⟨t, ht, rfl⟩ := List.mem_map.mp hy
    have t2 := List.all_eq_true.mp tens_ok t ht
    rw [Bool.and_eq_true_iff] at t2
    have t3 := of_decide_eq_true t2.1
    have len : (z ++ t).length = z.length + 2 := by rw [strLen_append, t3]
    have tl : (z ++ t).cps.toList = z.cps.toList ++ t.cps.toList := by rw [Str.cps_append, Array.toList_append]
    have z1 := hz.one
    have zl : z.cps.toList.length = z.length := Array.length_toList
    refine ⟨⟨by omega, by omega, fun c hc => ?_, fun c hc => ?_⟩, by omega⟩
    · rw [tl, List.getElem?_append_left (by omega)] at hc
      exact hz.first c hc
    · rw [tl] at hc
      rcases List.mem_append.mp hc with hc | hc
      · exact hz.all c hc
      · have q := List.all_eq_true.mp t2.2 c hc
        rw [Bool.and_eq_true_iff] at q
        exact .inr ⟨of_decide_eq_true q.1, of_decide_eq_true q.2⟩
def spNames (K : PySem.W.Frag) : Sp := fun vs H Q _ => ∃ (r tk : Addr) (n : Nat) (ts : List Str), vs = [.ref r, .int (n : Int), .ref tk] ∧ Rng H r ∧ H tk = some (.lst (ts.map V.str)) ∧ tk ≠ r ∧ n ≤ 20 ∧ ts.length ≤ 40 ∧
  ∀ p (ss : List Str) H', But r H H' → Rng H' r → H p = none → H' p = some (.lst (ss.map V.str)) → ss.length = n → ss.Nodup → (∀ s, s ∈ ss → Nm s ∧ s.length ≤ 5 ∧ s ∉ ts) → Q (.ref p) H'
section
variable {P : Program} {w : World} {K : PySem.W.Frag} {mg : Str → Option Value} {base : Heap} {a : Ad}
theorem B_law_names (T : Txt K mg a) : Binds K a.d_law_names ["_law_rng_here", "_law_many", "_law_taken"] [] := T.law_names.F.binds fun _ _ _ _ _ _ us hl => match us, hl with | [_, _, _], _ => rfl
theorem ok_law_names (T : Txt K mg a) : FnOk P w K mg base CX0 2 a.law_names a.d_law_names ["_law_rng_here", "_law_many", "_law_taken"] (spNames K) := by
  have G_law_draw := ok_law_draw (P := P) (w := w) (base := base) T
  have b_law_draw := B_law_draw T
  refine T.law_names.F.ok sc_law_names (fun vs H Q E h => ?_) (fun cdv A outer s H vs Q E hr h => ?_)
  · obtain ⟨r, tk, n, ts, rfl, _⟩ := h
    rfl
  · obtain ⟨r, tk, n, ts, rfl, g, htk, ntk, hn, hts, h⟩ := h
    refine ⟨_, (pss_cons (ps_set (i := 3) sc_law_names.nd rfl (.inr rfl) (pe_lst pa_nil))
      (pss_cons (ps_for PassesOwn.never rfl (pi_range1 (by rfl) T.b_range (pa_cons (pv 1) pa_nil)) (pg_name (i := 4) sc_law_names.nd rfl (.inl rfl)) (pss_cons (ps_set (i := 5) sc_law_names.nd rfl (.inl rfl) (pe_call G_law_draw (hr.mono (by decide)) (by rfl) T.law_draw.g T.law_draw.F.kp b_law_draw .nil pass0 (pa_cons (pv 0) (pa_cons pe_int pa_nil))))
      (pss_cons (ps_set (i := 6) sc_law_names.nd rfl (.inr rfl) (pe_ix ix_str pe_str (pe_call G_law_draw (hr.mono (by decide)) (by rfl) T.law_draw.g T.law_draw.F.kp b_law_draw .nil pass0 (pa_cons (pv 0) (pa_cons pe_int pa_nil))) (fun _ _ => rfl)))
      (pss_mid (ps_set (i := 6) sc_law_names.nd rfl (.inr rfl) (pe_op op_add_str (pv 6) (pe_join pe_str (pe_lc (own := [("_law_turn", 7)]) (g := gName 7) (by rfl) sc_law_names.nd (pi_range1 (by rfl) T.b_range (pa_cons (pv 5) pa_nil)) (blkOk_by (N := ["_law_rng_here", "_law_many", "_law_taken", "_law_found", "_law_k", "_law_size", "_law_name", "_law_turn", "_law_spare", "_law_one"]) (sc := defScope s_law_names) (by decide +kernel)) (fun _ _ _ _ _ => (pg_name (i := 7) sc_law_names.nd rfl (.inl rfl) (.inr rfl))) (fun _ _ _ _ _ => pts_nil) (fun _ _ _ _ _ => (pe_ix ix_str pe_str (pe_call G_law_draw (hr.mono (by decide)) (by rfl) T.law_draw.g T.law_draw.F.kp b_law_draw .nil pass0 (pa_cons (pv 0) (pa_cons pe_int pa_nil))) (fun _ _ => rfl)))))))
      (pss_cons (ps_set (i := 8) sc_law_names.nd rfl (.inl rfl) (pe_op op_cat (pe_lst (pa_cons (pv 6) pa_nil)) (pe_lc (own := [("_law_turn", 7)]) (g := gName 7) (by rfl) sc_law_names.nd (pi_range2 (by rfl) T.b_range (pa_cons pe_int (pa_cons pe_int pa_nil))) (blkOk_by (N := ["_law_rng_here", "_law_many", "_law_taken", "_law_found", "_law_k", "_law_size", "_law_name", "_law_turn", "_law_spare", "_law_one"]) (sc := defScope s_law_names) (by decide +kernel)) (fun _ _ _ _ _ => (pg_name (i := 7) sc_law_names.nd rfl (.inl rfl) (.inr rfl))) (fun _ _ _ _ _ => pts_nil) (fun _ _ _ _ _ => (pe_op op_add_str (pv 6) (pe_callTy call_str_int (by rfl) T.b_str (by decide +kernel) (pa_cons (pv 7) pa_nil)))))))
      (pss_one (ps_expr (pe_bm PySem.F.plainAttrs_list PySem.F.slot_list_append PySem.F.type_list_append mt_append (pv 3) (pa_cons (pe_ix ix_list (pe_lc (own := [("_law_one", 9)]) (g := gName 9) (by rfl) sc_law_names.nd (pi_list (pv 8)) (blkOk_by (N := ["_law_rng_here", "_law_many", "_law_taken", "_law_found", "_law_k", "_law_size", "_law_name", "_law_turn", "_law_spare", "_law_one"]) (sc := defScope s_law_names) (by decide +kernel)) (fun _ _ _ _ _ => (pg_name (i := 9) sc_law_names.nd rfl (.inl rfl) (.inr rfl))) (fun _ _ _ _ _ => pts_one (PW.pt (pw_and (pt_cmpR (r := rIn K true) op_notIn_seq (pv 9) (pv 3) (by rfl)) (pw_and1 (pt_cmpR (r := rIn K true) op_notIn_seq (pv 9) (pv 2) (by rfl)))))) (fun _ _ _ _ _ => (pv 9))) pe_int (fun _ _ => rfl)) pa_nil)))))))))
      (pss_one (ps_ret (pv 3))))), ?_⟩
    refine ⟨(by show 0 ≤ sizeLine; decide), fun fd hfd => ?_⟩
    have nfr := g.fresh hfd
    have ntf : tk ≠ fd := ne_of_none htk hfd
    refine ⟨_, rfl, (n : Int), rfl, by omega, by omega, ?_⟩
    rw [Int.toNat_natCast]
    refine for_range (n := n) (fun i σ H' => But r H H' ∧ Rng H' r ∧ ∃ (ss : List Str) (o4 o5 o6 o7 o8 o9 : Option V), H' fd = some (.lst (ss.map V.str)) ∧ ss.length = i ∧ ss.Nodup ∧ (∀ s, s ∈ ss → Nm s ∧ s.length ≤ 5 ∧ s ∉ ts) ∧ σ = [some (.ref r), some (.int (n : Int)), some (.ref tk), some (.ref fd), o4, o5, o6, o7, o8, o9]) ⟨but_put But.rfl' hfd, g.put nfr, [], _, _, _, _, _, _, upd_same, rfl, List.nodup_nil, fun s hs => (by cases hs), rfl⟩ ?_ ?_
    · rintro i σ H' hi ⟨b0, g0, ss, o4, o5, o6, o7, o8, o9, hss, hl, hnd, hok, rfl⟩
      refine ⟨_, rfl, r, 3, rfl, g0, by decide, by decide, fun d1 H1 d10 d11 b1 g1 => ?_⟩
      refine ⟨_, rfl, r, 26, rfl, g1, by decide, by decide, fun d2 H2 d20 d21 b2 g2 => ?_⟩
      obtain ⟨j, rfl⟩ : ∃ j : Nat, d2 = (j : Int) := ⟨d2.toNat, by omega⟩
      have ll : LET.cps.toList.length = 26 := by decide +kernel
      have hj : j < LET.cps.toList.length := by omega
      have hc := List.getElem?_eq_getElem hj
      have lc := let_low (List.getElem_mem hj)
      generalize LET.cps.toList[j] = c at hc lc
      refine ⟨LET, _, c, rfl, rfl, (by decide), atI_nat hc, ?_⟩
      have b02 := (b0.trans b1).trans b2
      refine ⟨fun σ H3 => But r H2 H3 ∧ Rng H3 r ∧ ∃ (z : Str) (o7 : Option V), Nm z ∧ z.length ≤ 3 ∧ σ = [some (.ref r), some (.int (n : Int)), some (.ref tk), some (.ref fd), some (.int (0 + (i : Int))), some (.int d1), some (.str z), o7, o8, o9], ?_, ?_⟩
      · refine ⟨_, rfl, ⟨_, rfl⟩, _, rfl, d1, rfl, by omega, by omega, fun D hD => ?_⟩
        have nDr := g2.fresh hD
        refine lc_range (n := d1.toNat) (fun i H' => But r H2 H' ∧ Rng H' r ∧ ∃ cs : List Nat, H' D = some (.lst ((cs.map one).map V.str)) ∧ cs.length = i ∧ ∀ c, c ∈ cs → sig c) ⟨but_put But.rfl' hD, g2.put nDr, [], upd_same, rfl, fun c hc => (by cases hc)⟩ ?_ ?_
        · rintro i' H3 hi' ⟨b3, g3, cs, hcs, hcl, hsg⟩
          refine ⟨rfl, yes_of ?_⟩
          refine ⟨_, rfl, r, 26, rfl, g3, by decide, by decide, fun d4 H4 d40 d41 b4 g4 => ?_⟩
          obtain ⟨j4, rfl⟩ : ∃ j : Nat, d4 = (j : Int) := ⟨d4.toNat, by omega⟩
          have hj4 : j4 < AL2.cps.toList.length := by rw [al2_len]; omega
          have hcs4 := b4 _ _ hcs nDr
          refine ⟨AL2, _, _, rfl, rfl, (by decide), atI_nat (List.getElem?_eq_getElem hj4), _, hcs4, Nat.lt_of_lt_of_le (m := 60) (by rw [List.length_map, List.length_map]; omega) (by decide), but_put (b3.trans b4) hD, g4.put nDr, cs ++ [AL2.cps.toList[j4]], ?_, by rw [List.length_append, hcl]; rfl, ?_⟩
          · rw [upd_same, List.map_append, List.map_append]
            rfl
          · intro c' hc'
            rcases List.mem_append.mp hc' with z | z
            · exact hsg c' z
            · rw [List.mem_singleton.mp z]
              exact al2_sig (List.getElem_mem hj4)
        · rintro H3 ⟨b3, g3, cs, hcs, hcl, hsg⟩
          have jo := join_ones cs
          have jl : (Txt.join "" (cs.map one)).length = cs.length := by
            have z := congrArg List.length jo
            rw [Array.length_toList] at z
            exact z
          have c3 : cs.length ≤ 2 := by omega
          have tl : ((⟨#[c]⟩ : Str) ++ Txt.join "" (cs.map one)).cps.toList = c :: cs := by
            rw [Str.cps_append, Array.toList_append, jo]
            rfl
          have len : ((⟨#[c]⟩ : Str) ++ Txt.join "" (cs.map one)).length = 1 + cs.length := by
            rw [strLen_append, jl]
            rfl
          refine ⟨"", D, cs.map one, rfl, rfl, .inl (SqL.of hcs), ?_, _, _, rfl, rfl, ?_, b3, g3, _, _, ⟨by omega, by omega, fun c' h' => ?_, fun c' h' => ?_⟩, by omega, rfl⟩
          · rw [ones_sum]
            show cs.length + _ * 0 ≤ _
            omega
          · rw [jl]
            show 1 + cs.length ≤ sizeLine
            exact Nat.le_trans (m := 3) (by omega) (by decide)
          · rw [tl] at h'
            cases h'
            exact lc
          · rw [tl] at h'
            rcases List.mem_cons.mp h' with rfl | h'
            · exact .inl lc
            · exact hsg c' h'
      rintro σ H3 ⟨b3, g3, z, o7', hz, hz3, rfl⟩
      refine ⟨_, rfl, (by show 1 ≤ sizeLine; decide), fun l1 h1 => ?_⟩
      have e1 := Ext.upd (o := .lst [.str z]) h1
      have hl1 : upd H3 l1 (.lst [.str z]) l1 = some (.lst [.str z]) := upd_same
      have g4 := g3.ext e1
      generalize upd H3 l1 (.lst [.str z]) = H4 at *
      refine ⟨10, 100, rfl, ⟨by decide, by decide, by decide, by decide⟩, fun D hD => ?_⟩
      have nDr := g4.fresh hD
      refine lc_range (lo := 10) (n := 90) (fun i H' => Ext H4 H' ∧ H' D = some (.lst (((tens.take i).map (z ++ ·)).map V.str))) ⟨ext_put Ext.rfl' hD, upd_same⟩ ?_ ?_
      · rintro i' H5 hi' ⟨e5, h5⟩
        refine ⟨rfl, yes_of ?_⟩
        have ht : tens[i']? = some (toString ((10 : Int) + (i' : Int)) : Str) := by
          unfold tens
          rw [List.getElem?_map, List.getElem?_range hi']
          rfl
        have t2 := List.all_eq_true.mp tens_ok _ (List.mem_of_getElem? ht)
        rw [Bool.and_eq_true_iff] at t2
        have t3 := of_decide_eq_true t2.1
        refine ⟨_, rfl, _, rfl, _, rfl, ?_, _, _, rfl, rfl, ?_, _, h5, Nat.lt_of_lt_of_le (m := 100) (by rw [List.length_map, List.length_map, List.length_take]; omega) (by decide), ext_put e5 hD, ?_⟩
        · refine Nat.lt_of_le_of_lt (Nat.log2_le_self _) ?_
          omega
        · rw [t3]
          exact Nat.le_trans (m := 5) (by omega) (by decide)
        · rw [upd_same, List.take_add_one, ht, List.map_append, List.map_append]
          rfl
      · rintro H5 ⟨e5, h5⟩
        have tl90 : tens.take 90 = tens := List.take_of_length_le (by unfold tens; rw [List.length_map, List.length_range]; decide)
        rw [tl90] at h5
        refine ⟨l1, D, _, _, rfl, rfl, e5 _ _ hl1, h5, ?_, fun sp hsp => ?_⟩
        · rw [List.length_map, List.length_map]
          unfold tens
          rw [List.length_map, List.length_range]
          show 1 + 90 ≤ sizeLine
          decide
        have e6 := Ext.upd (o := .lst ([.str z] ++ ((tens.map (z ++ ·)).map V.str))) hsp
        have hsp6 : upd H5 sp (.lst ([.str z] ++ ((tens.map (z ++ ·)).map V.str))) sp = some (.lst ((spare z).map V.str)) := upd_same
        generalize upd H5 sp (.lst ([.str z] ++ ((tens.map (z ++ ·)).map V.str))) = H6 at *
        have b26 : But r H H6 := ((b02.trans b3).ext e1).ext (e5.trans e6)
        have g6 := g4.ext (e5.trans e6)
        have hss6 : H6 fd = some (.lst (ss.map V.str)) := e6 _ _ (e5 _ _ (e1 _ _ (b3 _ _ (b2 _ _ (b1 _ _ hss nfr) nfr) nfr)))
        have htk6 : H6 tk = some (.lst (ts.map V.str)) := b26 _ _ htk ntk
        refine ⟨_, rfl, .inl ⟨rfl, _, SqL.of hss6⟩, _, rfl, sp, rfl, ⟨_, SqL.of hsp6⟩, fun D2 hD2 => ?_⟩
        refine lc_list (xs := (spare z).map V.str) (fun i H' => Ext H6 H' ∧ H' D2 = some (.lst ((((spare z).take i).filter fun y => decide (y ∉ ss) && decide (y ∉ ts)).map V.str))) ⟨ext_put Ext.rfl' hD2, upd_same⟩ (fun i H' _ q => SqL.of (q.1 _ _ hsp6)) ?_ ?_
        · rintro i' x H7 hx ⟨e7, h7⟩
          rw [List.getElem?_map] at hx
          obtain ⟨y, hy, rfl⟩ := Option.map_eq_some_iff.mp hx
          have et : (spare z).take (i' + 1) = (spare z).take i' ++ [y] := by rw [List.take_add_one, hy]; rfl
          have i91 : i' < 91 := by
            have := (List.getElem?_eq_some_iff.mp hy).1
            unfold spare tens at this
            rw [List.length_cons, List.length_map, List.length_map, List.length_range] at this
            exact this
          have lw : ((((spare z).take i').filter fun y => decide (y ∉ ss) && decide (y ∉ ts)).map V.str).length < sizeLine := by
            rw [List.length_map]
            refine Nat.lt_of_le_of_lt (Nat.le_trans (List.length_filter_le _ _) (List.length_take_le _ _)) (Nat.lt_of_lt_of_le i91 (by decide))
          refine ⟨rfl, _, rfl, _, rfl, fd, _, rfl, .inl (SqL.of (e7 _ _ hss6)), rfl, flat_strs ss, _, rfl, ?_⟩
          by_cases hy1 : y ∈ ss
          · refine iteN (by simp [inV_str, hy1]) (iteF ⟨e7, ?_⟩)
            rw [et, List.filter_append, h7]
            simp [hy1]
          · refine iteY (by simp [inV_str, hy1]) ?_
            refine ⟨_, rfl, _, rfl, tk, _, rfl, .inl (SqL.of (e7 _ _ htk6)), rfl, flat_strs ts, _, rfl, ?_⟩
            by_cases hy2 : y ∈ ts
            · refine iteN (by simp [inV_str, hy2]) ⟨e7, ?_⟩
              rw [et, List.filter_append, h7]
              simp [hy2]
            · refine iteY (by simp [inV_str, hy2]) ⟨_, rfl, _, h7, lw, ext_put e7 hD2, ?_⟩
              rw [upd_same, et, List.filter_append]
              simp [hy1, hy2]
        · rintro H7 ⟨e7, h7⟩
          rw [List.length_map, List.take_length] at h7
          obtain ⟨y0, hy0, hn0⟩ := spare_free (s := z) (ts := ss ++ ts) (by rw [List.length_append]; omega)
          have hy1 : y0 ∈ (spare z).filter fun y => decide (y ∉ ss) && decide (y ∉ ts) := by
            refine List.mem_filter.mpr ⟨hy0, ?_⟩
            rw [Bool.and_eq_true_iff]
            exact ⟨decide_eq_true fun q => hn0 (List.mem_append_left _ q), decide_eq_true fun q => hn0 (List.mem_append_right _ q)⟩
          generalize hW : ((spare z).filter fun y => decide (y ∉ ss) && decide (y ∉ ts)) = W at h7 hy1
          cases W with
          | nil => cases hy1
          | cons y W =>
            have hyW : y ∈ (spare z).filter fun y => decide (y ∉ ss) && decide (y ∉ ts) := by rw [hW]; exact .head _
            obtain ⟨m1, m2⟩ := List.mem_filter.mp hyW
            rw [Bool.and_eq_true_iff] at m2
            have n1 := of_decide_eq_true m2.1
            have n2 := of_decide_eq_true m2.2
            have hss7 := e7 _ _ hss6
            refine ⟨D2, _, 0, .str y, rfl, rfl, SqL.of h7, atI_nat (j := 0) rfl, fd, _, _, rfl, rfl, hss7, Nat.lt_of_lt_of_le (m := 60) (by rw [List.length_map]; omega) (by decide), ?_⟩
            refine ⟨but_put (b26.ext e7) hfd, (g6.ext e7).put nfr, ss ++ [y], _, _, _, _, _, _, ?_, by rw [List.length_append, hl]; rfl, ?_, fun q hq => ?_, rfl⟩
            · rw [upd_same, List.map_append]
              rfl
            · rw [List.nodup_append]
              refine ⟨hnd, List.pairwise_singleton _ _, fun p hp q hq e => ?_⟩
              rw [List.mem_singleton] at hq
              rw [e, hq] at hp
              exact n1 hp
            · rcases List.mem_append.mp hq with hq | hq
              · exact hok q hq
              · rw [List.mem_singleton.mp hq]
                obtain ⟨k1, k2⟩ := spare_nm hz hz3 m1
                exact ⟨k1, k2, n2⟩
    · rintro σ H' ⟨b0, g0, ss, o4, o5, o6, o7, o8, o9, hss, hl, hnd, hok, rfl⟩
      exact ⟨_, rfl, h fd ss H' b0 g0 hfd hss hl hnd hok⟩
end
end P

namespace P
open PySem L2 NS

/-! ### lists, keys, terms -/
/-- a list or a tuple of xs -/
def Sq (K : PySem.W.Frag) (H : Hp) (v : V) (xs : List V) : Prop := ∃ l, v = .ref l ∧ (SqL K H l xs ∨ SqT K H l xs)
theorem Sq.ext {K : PySem.W.Frag} {H H' : Hp} {v : V} {xs : List V} (h : Sq K H v xs) (e : Ext H H') : Sq K H' v xs := by
  obtain ⟨l, rfl, h⟩ := h
  exact ⟨l, rfl, h.elim (fun z => .inl (z.ext e)) fun z => .inr (z.ext e)⟩
theorem sqL_ty {K : PySem.W.Frag} {H : Hp} {l : Addr} {xs : List V} (h : SqL K H l xs) : TyX K H (.ref l) (.type "list") := by
  rcases h with (h | ⟨o, h⟩) | ⟨o, its, n, h1, h2, _⟩
  · exact .base (.lst h)
  · exact .base (.frz h)
  · exact .kList h1 h2
theorem sqT_ty {K : PySem.W.Frag} {H : Hp} {l : Addr} {xs : List V} (h : SqT K H l xs) : TyX K H (.ref l) (.type "tuple") := by
  rcases h with (h | ⟨o, h⟩) | ⟨o, its, n, h1, h2, _⟩
  · exact .base (.tup h)
  · exact .fTuple h
  · exact .kTuple h1 h2
def Nms (p : List Str) : Prop := ∀ s, s ∈ p → Nm s
/-- a term: (number, keys) -/
def TermAt (K : PySem.W.Frag) (C : Addr) (H : Hp) (v : V) (t : Tm) : Prop := ∃ tp num kk, v = .ref tp ∧ SqT K H tp [num, kk] ∧ IsNum C H num t.1 ∧ Sq K H kk (t.2.map V.str)
theorem TermAt.ext {K : PySem.W.Frag} {C : Addr} {H H' : Hp} {v : V} {t : Tm} (h : TermAt K C H v t) (e : Ext H H') : TermAt K C H' v t := by
  obtain ⟨tp, num, kk, rfl, h1, h2, h3⟩ := h
  exact ⟨tp, num, kk, rfl, h1.ext e, h2.ext e, h3.ext e⟩
structure TmOk (b : Nat) (t : Tm) : Prop where
  nm : Nms t.2
  few : t.2.length ≤ 100
  sz : Sz b t.1
/-- a list or tuple of terms -/
def TermsAt (K : PySem.W.Frag) (C : Addr) (H : Hp) (v : V) (ts : List Tm) : Prop := ∃ vs, Sq K H v vs ∧ Paired (TermAt K C H) vs ts
theorem TermsAt.ext {K : PySem.W.Frag} {C : Addr} {H H' : Hp} {v : V} {ts : List Tm} (h : TermsAt K C H v ts) (e : Ext H H') : TermsAt K C H' v ts := by
  obtain ⟨vs, h1, h2⟩ := h
  exact ⟨vs, h1.ext e, paired_imp (fun _ _ z => z.ext e) h2⟩
theorem pair_at {α β : Type} {F : α → β → Prop} {xs : List α} {ys : List β} (h : Paired F xs ys) {i : Nat} {x : α} (hx : xs[i]? = some x) : ∃ y, ys[i]? = some y ∧ F x y := paired_get h hx
/-- one proof for a list and a tuple -/
def SqB (K : PySem.W.Frag) (b : Bool) (H : Hp) (v : V) (xs : List V) : Prop := ∃ l, v = .ref l ∧ ((b = true ∧ SqL K H l xs) ∨ (b = false ∧ SqT K H l xs))
theorem SqB.ext {K : PySem.W.Frag} {b : Bool} {H H' : Hp} {v : V} {xs : List V} (h : SqB K b H v xs) (e : Ext H H') : SqB K b H' v xs := by
  obtain ⟨l, rfl, h⟩ := h
  exact ⟨l, rfl, h.elim (fun z => .inl ⟨z.1, z.2.ext e⟩) fun z => .inr ⟨z.1, z.2.ext e⟩⟩
theorem Sq.tag {K : PySem.W.Frag} {H : Hp} {v : V} {xs : List V} (h : Sq K H v xs) : ∃ b, SqB K b H v xs := by
  obtain ⟨l, rfl, h | h⟩ := h
  · exact ⟨true, l, rfl, .inl ⟨rfl, h⟩⟩
  · exact ⟨false, l, rfl, .inr ⟨rfl, h⟩⟩
def iSeqV (K : PySem.W.Frag) (i : Nat) : TI := fun σ H R => ∃ v xs b, σ[i]? = some (some v) ∧ SqB K b H v xs ∧ ∀ J, Walk J xs.length (fun H' => SqB K b H' v xs) (YAt xs) → R J H
theorem pi_seqV {X : Cx} {tg l : Expr} {i : Nat} (hl : PE X l (tVar i)) : PI X tg l (iSeqV X.K i) := by
  refine ⟨fun pins s σ H R I h => (pi_seq hl).run pins s σ H R I ?_⟩
  obtain ⟨v, xs, b, hv, ⟨l, rfl, ⟨rfl, h⟩ | ⟨rfl, h⟩⟩, hR⟩ := h
  · exact ⟨_, hv, l, rfl, .inl ⟨⟨xs, h⟩, hR _ (walk_list.mono (fun H' ⟨_, e, z⟩ => by cases e; exact z.elim (·.2) fun y => nomatch y.1) fun _ _ _ _ _ _ y => y)⟩⟩
  · exact ⟨_, hv, l, rfl, .inr ⟨⟨xs, h⟩, hR _ (walk_tup.mono (fun H' ⟨_, e, z⟩ => by cases e; exact z.elim (fun y => nomatch y.1) (·.2)) fun _ _ _ _ _ _ y => y)⟩⟩
def iEnumV (K : PySem.W.Frag) (i : Nat) : TI := fun σ H R => ∃ v xs b, σ[i]? = some (some v) ∧ SqB K b H v xs ∧ ∀ J, Walk J xs.length (fun H' => SqB K b H' v xs) (YPair (fun i => some (.int (i : Nat))) (fun i => xs[i]?)) → R J H
theorem pi_enumV {X : Cx} {e : Expr} {i : Nat} {p pos tpos : Pos} {elts : List Expr} {kk : Nat} (hg : Gl X "enumerate") (hm : X.mg "enumerate" = none) (ha : PE X e (tVar i)) (hs : starEach [e] X.env = [(false, eval e X.env)] := by rfl) :
    PI X (.Tuple elts kk tpos) (.Call (.Name "enumerate" p) [e] [] pos) (iEnumV X.K i) := by
  refine ⟨fun pins s σ H R I h => (pi_enumA hg hm (pa_cons ha pa_nil hs) hs).run pins s σ H R I ?_⟩
  obtain ⟨v, xs, b, hv, ⟨l, rfl, ⟨rfl, h⟩ | ⟨rfl, h⟩⟩, hR⟩ := h
  · exact ⟨_, hv, l, xs, rfl, .inl ⟨h, hR _ (walk_enum.mono (fun H' ⟨_, e, z⟩ => by cases e; exact z.elim (·.2) fun y => nomatch y.1) fun _ _ _ _ _ _ y => y)⟩⟩
  · exact ⟨_, hv, l, xs, rfl, .inr ⟨h, hR _ (walk_enumT.mono (fun H' ⟨_, e, z⟩ => by cases e; exact z.elim (fun y => nomatch y.1) (·.2)) fun _ _ _ _ _ _ y => y)⟩⟩
def spIsList (K : PySem.W.Frag) : Sp := fun vs H Q _ => ∃ v xs, vs = [v] ∧ Sq K H v xs ∧ ∀ H', Ext H H' → Q (.bl true) H'
def spAreKeys (K : PySem.W.Frag) : Sp := fun vs H Q _ => ∃ (v : V) (ks : List Str), vs = [v] ∧ Sq K H v (ks.map V.str) ∧ Nms ks ∧ ks.length ≤ 100 ∧ ∀ H', Ext H H' → Q (.bl true) H'
def spIsTerm (K : PySem.W.Frag) (C : Addr) : Sp := fun vs H Q _ => ∃ v t b, vs = [v] ∧ TermAt K C H v t ∧ TmOk b t ∧ ∀ H', Ext H H' → Q (.bl true) H'
def spWantTerms (K : PySem.W.Frag) (C : Addr) : Sp := fun vs H Q _ => ∃ v ts b, vs = [v] ∧ TermsAt K C H v ts ∧ (∀ t, t ∈ ts → TmOk b t) ∧ ∀ H', Ext H H' → Q .non H'
def spKeyQ : Sp := fun vs H Q _ => ∃ (q : Addr) (p : Pd), vs = [.ref q] ∧ H q = some (.tup (p.map V.str)) ∧ ∀ v H', Ext H H' → TupH H' v (keyQ p) → Q v H'
section
variable {P : Program} {w : World} {K : PySem.W.Frag} {mg : Str → Option Value} {base : Heap} {a : Ad}
theorem B_is_list (T : Txt K mg a) : Binds K a.d_is_list ["value"] [] := T.is_list.F.binds fun _ _ _ _ _ _ us hl => match us, hl with | [_], _ => rfl
theorem ok_is_list (T : Txt K mg a) : FnOk P w K mg base CX0 1 a.is_list a.d_is_list ["value"] (spIsList K) := by
  refine T.is_list.F.ok sc_is_list (fun vs H Q E h => ?_) (fun cdv A outer s H vs Q E hr h => ?_)
  · obtain ⟨v, xs, rfl, _⟩ := h
    rfl
  · obtain ⟨v, xs, rfl, ⟨l, rfl, hq⟩, h⟩ := h
    refine ⟨_, (pss_one (ps_ret (pe_callB call_isiT (by rfl) T.b_isinstance (by decide +kernel) (pa_cons (pv 0) (pa_cons (pe_tup (pa_cons (pe_bltn (v := .ty "list") (by rfl) T.b_list (by decide +kernel) rfl) (pa_cons (pe_bltn (v := .ty "tuple") (by rfl) T.b_tuple (by decide +kernel) rfl) pa_nil))) pa_nil))))), ?_⟩
    refine ⟨_, rfl, (by decide), fun tp htp => ?_⟩
    have e := Ext.upd (o := .tup [.ty "list", .ty "tuple"]) htp
    rcases hq with hq | hq
    · exact ⟨.ref l, tp, _, _, [.type "list", .type "tuple"], true, rfl, upd_same, .cons (.ty _) (.cons (.ty _) .nil), sqL_ty (hq.ext e), (by rfl), h _ e⟩
    · exact ⟨.ref l, tp, _, _, [.type "list", .type "tuple"], true, rfl, upd_same, .cons (.ty _) (.cons (.ty _) .nil), sqT_ty (hq.ext e), (by rfl), h _ e⟩
theorem B_are_keys (T : Txt K mg a) : Binds K a.d_are_keys ["value"] [] := T.are_keys.F.binds fun _ _ _ _ _ _ us hl => match us, hl with | [_], _ => rfl
theorem ok_are_keys (T : Txt K mg a) : FnOk P w K mg base CX0 2 a.are_keys a.d_are_keys ["value"] (spAreKeys K) := by
  have G_is_list := ok_is_list (P := P) (w := w) (base := base) T
  have b_is_list := B_is_list T
  have G_is_key := ok_is_key (P := P) (w := w) (base := base) T
  have b_is_key := B_is_key T
  refine T.are_keys.F.ok sc_are_keys (fun vs H Q E h => ?_) (fun cdv A outer s H vs Q E hr h => ?_)
  · obtain ⟨v, ks, rfl, _⟩ := h
    rfl
  · obtain ⟨v, ks, rfl, hq, hk, hn, h⟩ := h
    refine ⟨_, (pss_one (ps_ret (pe_and (pe_call G_is_list (hr.mono (by decide)) (by rfl) T.is_list.g T.is_list.F.kp b_is_list .nil pass0 (pa_cons (pv 0) pa_nil)) (pe_one (pe_callB (cr_all rfl) (by rfl) T.b_all (by decide +kernel) (pa_cons (pe_lc (own := [("key", 1)]) (g := gName 1) (by rfl) sc_are_keys.nd (pi_seqV (pv 0)) (blkOk_by (N := ["value", "key"]) (sc := defScope s_are_keys) (by decide +kernel)) (fun _ _ _ _ _ => (pg_name (i := 1) sc_are_keys.nd rfl (.inl rfl) (.inr rfl))) (fun _ _ _ _ _ => pts_nil) (fun _ _ _ _ _ => (pe_call G_is_key (hr.mono (by decide)) (by rfl) T.is_key.g T.is_key.F.kp b_is_key .nil pass0 (pa_cons (pv 1) pa_nil)))) pa_nil)))))), ?_⟩
    refine ⟨_, rfl, v, _, rfl, hq, fun H1 e1 => ⟨_, rfl, iteT ?_⟩⟩
    obtain ⟨tb, hb⟩ := (hq.ext e1).tag
    refine ⟨_, _, tb, rfl, hb, fun J wk D hD => ?_⟩
    refine lc_it wk (fun i H' => Ext H1 H' ∧ H' D = some (.lst ((List.replicate i true).map V.bl))) ⟨ext_put Ext.rfl' hD, upd_same⟩ (fun i H' _ q => hb.ext q.1) ?_ ?_
    · rintro i x H' H'' hi ⟨e, h3⟩ ⟨rfl, hx⟩
      rw [List.getElem?_map] at hx
      obtain ⟨k, hk1, rfl⟩ := Option.map_eq_some_iff.mp hx
      refine ⟨rfl, yes_of ⟨_, rfl, k, rfl, hk k (List.mem_of_getElem? hk1), fun H4 e4 => ⟨_, e4 _ _ h3, ?_, ext_put (e.trans e4) hD, ?_⟩⟩⟩
      · rw [List.length_map] at hi
        rw [List.length_map, List.length_replicate]
        exact Nat.lt_of_lt_of_le hi (Nat.le_trans hn (by decide))
      · rw [upd_same, List.replicate_succ']
        simp
    · rintro H' ⟨e, h3⟩
      refine ⟨D, List.replicate (ks.map V.str).length true, rfl, SqL.of h3, ?_⟩
      rw [show (List.replicate (ks.map V.str).length true).all id = true by simp]
      exact h H' (e1.trans e)
theorem B_is_term (T : Txt K mg a) : Binds K a.d_is_term ["value"] [] := T.is_term.F.binds fun _ _ _ _ _ _ us hl => match us, hl with | [_], _ => rfl
theorem ok_is_term (T : Txt K mg a) : FnOk P w K mg base CX0 3 a.is_term a.d_is_term ["value"] (spIsTerm K a.Ratio) := by
  have G_is_number := ok_is_number (P := P) (w := w) (base := base) T
  have b_is_number := B_is_number T
  have G_are_keys := ok_are_keys (P := P) (w := w) (base := base) T
  have b_are_keys := B_are_keys T
  refine T.is_term.F.ok sc_is_term (fun vs H Q E h => ?_) (fun cdv A outer s H vs Q E hr h => ?_)
  · obtain ⟨v, t, b, rfl, _⟩ := h
    rfl
  · obtain ⟨v, t, b, rfl, ⟨tp, num, kk, rfl, ht, hn, hk⟩, ok, h⟩ := h
    refine ⟨_, (pss_one (ps_ret (pe_and (pe_callB call_isi (by rfl) T.b_isinstance (by decide +kernel) (pa_cons (pv 0) (pa_cons (pe_bltn (v := .ty "tuple") (by rfl) T.b_tuple (by decide +kernel) rfl) pa_nil))) (pe_and (pe_cmpR op_eq (pe_callB call_len (by rfl) T.b_len (by decide +kernel) (pa_cons (pv 0) pa_nil)) pe_int (nomark _)) (pe_and (pe_call G_is_number (hr.mono (by decide)) (by rfl) T.is_number.g T.is_number.F.kp b_is_number .nil pass0 (pa_cons (pe_ix ix_tup (pv 0) pe_int (fun _ _ => rfl)) pa_nil)) (pe_one (pe_call G_are_keys (hr.mono (by decide)) (by rfl) T.are_keys.g T.are_keys.F.kp b_are_keys .nil pass0 (pa_cons (pe_ix ix_tup (pv 0) pe_int (fun _ _ => rfl)) pa_nil)))))))), ?_⟩
    refine ⟨_, rfl, _, _, _, _, _, rfl, .ty _, sqT_ty ht, kit_ty (r := true) (by decide +kernel), _, rfl, iteT ?_⟩
    refine ⟨_, rfl, _, 2, rfl, .inr ⟨_, ht, rfl⟩, rfl, _, rfl, iteT ?_⟩
    refine ⟨_, rfl, tp, _, 0, _, rfl, rfl, ht, rfl, num, _, rfl, hn, _, rfl, iteT ?_⟩
    exact ⟨_, rfl, tp, _, 1, _, rfl, rfl, ht, rfl, kk, _, rfl, hk, ok.nm, ok.few, h⟩
theorem B_want_terms (T : Txt K mg a) : Binds K a.d_want_terms ["terms"] [] := T.want_terms.F.binds fun _ _ _ _ _ _ us hl => match us, hl with | [_], _ => rfl
theorem ok_want_terms (T : Txt K mg a) : FnOk P w K mg base CX0 4 a.want_terms a.d_want_terms ["terms"] (spWantTerms K a.Ratio) := by
  have G_is_list := ok_is_list (P := P) (w := w) (base := base) T
  have b_is_list := B_is_list T
  have G_is_term := ok_is_term (P := P) (w := w) (base := base) T
  have b_is_term := B_is_term T
  refine T.want_terms.F.ok sc_want_terms (fun vs H Q E h => ?_) (fun cdv A outer s H vs Q E hr h => ?_)
  · obtain ⟨v, t, b, rfl, _⟩ := h
    rfl
  · obtain ⟨v, ts, b, rfl, ⟨vs, hq, hp⟩, ok, h⟩ := h
    refine ⟨_, (pss_cons (ps_if (pt_not (pt_val (pe_call G_is_list (hr.mono (by decide)) (by rfl) T.is_list.g T.is_list.F.kp b_is_list .nil pass0 (pa_cons (pv 0) pa_nil)))) (pss_one ps_never) pss_nil)
      (pss_one (ps_for PassesOwn.never rfl (pi_enumV (by rfl) T.b_enumerate (pv 0)) (pg_tup rfl (pgs_cons (pg_name (i := 1) sc_want_terms.nd rfl (.inl rfl)) (pgs_cons (pg_name (i := 2) sc_want_terms.nd rfl (.inl rfl)) pgs_nil))) (pss_one (ps_if (pt_not (pt_val (pe_call G_is_term (hr.mono (by decide)) (by rfl) T.is_term.g T.is_term.F.kp b_is_term .nil pass0 (pa_cons (pv 2) pa_nil)))) (pss_one ps_never) pss_nil))))), ?_⟩
    refine ⟨_, rfl, v, _, rfl, hq, fun H1 e1 => ⟨_, rfl, iteF ?_⟩⟩
    obtain ⟨tb, hb⟩ := (hq.ext e1).tag
    refine ⟨_, _, tb, rfl, hb, fun J wk => ?_⟩
    refine for_it wk (fun i σ H' => Ext H H' ∧ Ext H1 H' ∧ ∃ x y, σ = [some v, x, y]) ⟨e1, Ext.rfl', _, _, rfl⟩ (fun i σ H' _ q => hb.ext q.2.1) ?_ ?_
    · rintro i x σ H' H'' hi ⟨e0, e1, x1, y1, rfl⟩ ⟨tq, x2, y2, rfl, hn, rfl, hx2, hy2⟩
      cases hx2
      obtain ⟨t, ht, hta⟩ := pair_at hp hy2
      have e2 := Ext.upd (o := .tup [.int (i : Nat), y2]) hn
      refine ⟨tq, _, rfl, SqT.of upd_same, rfl, ?_⟩
      refine ⟨_, _, rfl, _, _, rfl, rfl, ?_⟩
      refine ⟨_, rfl, y2, t, b, rfl, hta.ext (e0.trans e2), ok t (List.mem_of_getElem? ht), fun H4 e4 => ⟨_, rfl, iteF ?_⟩⟩
      exact ⟨(e0.trans e2).trans e4, (e1.trans e2).trans e4, _, _, rfl⟩
    · rintro σ H' ⟨e0, e1, x1, y1, rfl⟩
      exact h H' e0
theorem B_product_key (T : Txt K mg a) : Binds K a.d_product_key ["product"] [] := T.product_key.F.binds fun _ _ _ _ _ _ us hl => match us, hl with | [_], _ => rfl
theorem ok_product_key (T : Txt K mg a) : FnOk P w K mg base CX0 1 a.product_key a.d_product_key ["product"] spKeyQ := by
  refine T.product_key.F.ok sc_product_key (fun vs H Q E h => ?_) (fun cdv A outer s H vs Q E hr h => ?_)
  · obtain ⟨q, p, rfl, _⟩ := h
    rfl
  · obtain ⟨q, p, rfl, hq, h⟩ := h
    refine ⟨_, (pss_one (ps_ret (pe_tup (pa_cons (pe_callB call_len (by rfl) T.b_len (by decide +kernel) (pa_cons (pv 0) pa_nil)) (pa_cons (pv 0) pa_nil))))), ?_⟩
    refine ⟨_, rfl, _, p.length, rfl, .inr ⟨_, SqT.of hq, (List.length_map _).symm⟩, _, rfl, (by show 2 ≤ sizeLine; decide), fun tp htp => ?_⟩
    exact h _ _ (Ext.upd htp) ⟨tp, _, rfl, upd_same, .cons ⟨q, rfl, Ext.upd htp _ _ hq⟩ .nil⟩
end
end P

namespace P
open PySem L2 NS

/-! ### dicts of weights -/
def kk (p : Pd) : List L2.Key := p.map Sum.inr
theorem kk_inj {p q : Pd} (h : kk p = kk q) : p = q := by
  refine List.map_inj_right (f := (Sum.inr : Str → L2.Key)) (fun x y z => ?_) |>.mp h
  injection z
theorem kk_v (p : Pd) : (kk p).map kV = p.map V.str := by
  unfold kk
  rw [List.map_map]
  rfl
def DW (C : Addr) (H : Hp) (kvs : List (List L2.Key × V)) (ws : Wts) : Prop := Paired (fun kv w => kv.1 = kk w.1 ∧ IsRat C H kv.2 w.2) kvs ws
theorem DW.ext {C : Addr} {H H' : Hp} {kvs : List (List L2.Key × V)} {ws : Wts} (h : DW C H kvs ws) (e : Ext H H') : DW C H' kvs ws := paired_imp (fun _ _ z => ⟨z.1, z.2.ext e⟩) h
theorem paired_len {α β : Type} {F : α → β → Prop} : ∀ {xs : List α} {ys : List β}, Paired F xs ys → xs.length = ys.length
  | _, _, .nil => rfl
  | _, _, .cons _ b => congrArg (· + 1) (paired_len b)
theorem DW.len {C : Addr} {H : Hp} {kvs : List (List L2.Key × V)} {ws : Wts} (h : DW C H kvs ws) : kvs.length = ws.length := paired_len h
theorem wv_pos {w : Pd × Rat} {r : Wts} {p : Pd} (e : w.1 = p) : wv (w :: r) p = w.2 := by simp [wv, List.find?_cons, e]
theorem wv_neg {w : Pd × Rat} {r : Wts} {p : Pd} (e : ¬ w.1 = p) : wv (w :: r) p = wv r p := by simp [wv, List.find?_cons, e]
theorem DW.val {C : Addr} {H : Hp} {p : Pd} : ∀ {kvs : List (List L2.Key × V)} {ws : Wts}, DW C H kvs ws → p ∈ ws.map (·.1) → ∃ v, valV kvs (kk p) = some v ∧ IsRat C H v (wv ws p)
  | _, _, .nil, h => by cases h
  | _, _, .cons (a := kv) (b := w) a b, h => by
    by_cases e : w.1 = p
    · exact ⟨kv.2, valV_pos (a.1.trans (congrArg kk e)), by rw [wv_pos e]; exact a.2⟩
    · rw [List.map_cons, List.mem_cons] at h
      obtain ⟨v, h1, h2⟩ := DW.val (p := p) b (h.resolve_left fun z => e z.symm)
      exact ⟨v, by rw [valV_neg fun z => e (kk_inj (a.1.symm.trans z))]; exact h1, by rw [wv_neg e]; exact h2⟩
theorem DW.none {C : Addr} {H : Hp} {p : Pd} : ∀ {kvs : List (List L2.Key × V)} {ws : Wts}, DW C H kvs ws → p ∉ ws.map (·.1) → valV kvs (kk p) = none
  | _, _, .nil, _ => rfl
  | _, _, .cons (a := kv) (b := w) a b, h => by
    rw [List.map_cons, List.mem_cons, not_or] at h
    rw [valV_neg fun z => h.1 (kk_inj (a.1.symm.trans z)).symm]
    exact DW.none b h.2
theorem DW.any {C : Addr} {H : Hp} {p : Pd} : ∀ {kvs : List (List L2.Key × V)} {ws : Wts}, DW C H kvs ws → ((kvs.any fun kv => decide (kv.1 = kk p)) = true ↔ p ∈ ws.map (·.1))
  | _, _, .nil => by simp
  | _, _, .cons (a := kv) (b := w) a b => by
    rw [List.any_cons, Bool.or_eq_true, DW.any b, List.map_cons, List.mem_cons, decide_eq_true_iff, a.1]
    exact ⟨fun h => h.imp (fun z => (kk_inj z).symm) id, fun h => h.imp (fun z => congrArg kk z.symm) id⟩
theorem DW.put {C : Addr} {H : Hp} {p : Pd} {kvs : List (List L2.Key × V)} {ws : Wts} {v : V} {x : Rat} (h : DW C H kvs ws) (hv : IsRat C H v x) : DW C H (putK kvs (kk p) v) (putW ws p x) := by
  unfold putK putW
  by_cases e : p ∈ ws.map (·.1)
  · rw [if_pos (h.any.mpr e), if_pos e]
    clear e
    unfold DW at h ⊢
    induction h with
    | nil => exact .nil
    | @cons kv w _ _ a b ih =>
      refine .cons ?_ ih
      by_cases e : w.1 = p
      · show (if kv.1 = kk p then (kv.1, v) else kv).1 = kk (if w.1 = p then (w.1, x) else w).1 ∧ IsRat C H (if kv.1 = kk p then (kv.1, v) else kv).2 (if w.1 = p then (w.1, x) else w).2
        rw [if_pos (a.1.trans (congrArg kk e)), if_pos e]
        exact ⟨a.1, hv⟩
      · show (if kv.1 = kk p then (kv.1, v) else kv).1 = kk (if w.1 = p then (w.1, x) else w).1 ∧ IsRat C H (if kv.1 = kk p then (kv.1, v) else kv).2 (if w.1 = p then (w.1, x) else w).2
        rw [if_neg fun z => e (kk_inj (a.1.symm.trans z)), if_neg e]
        exact a
  · rw [if_neg fun z => e (h.any.mp z), if_neg e]
    exact paired_snoc h ⟨rfl, hv⟩
theorem len_putW {ws : Wts} {p : Pd} {x : Rat} : (putW ws p x).length ≤ ws.length + 1 := by
  unfold putW
  by_cases e : p ∈ ws.map (·.1)
  · rw [if_pos e, List.length_map]
    omega
  · rw [if_neg e, List.length_append]
    exact Nat.le_refl _
theorem mem_putW {ws : Wts} {p : Pd} {x : Rat} {w : Pd × Rat} (h : w ∈ putW ws p x) : w.1 = p ∨ w.1 ∈ ws.map (·.1) := by
  have : w.1 ∈ (putW ws p x).map (·.1) := List.mem_map.mpr ⟨w, h, rfl⟩
  rw [keys_putW] at this
  by_cases e : p ∈ ws.map (·.1)
  · rw [if_pos e] at this
    exact .inr this
  · rw [if_neg e, List.mem_append, List.mem_singleton] at this
    exact this.symm
def spSummed (K : PySem.W.Frag) (C : Addr) : Sp := fun vs H Q _ => ∃ v ts, vs = [v] ∧ TermsAt K C H v ts ∧ (∀ t, t ∈ ts → Sz 4000 t.1) ∧ (∀ n p, Sz 4000 (Fs (ts.take n) p)) ∧ ts.length ≤ 1000 ∧
  ∀ d kvs ws H', Ext H H' → H d = none → H' d = some (.dT kvs) → DW C H' kvs ws → (ws.map (·.1)).Nodup → (∀ p, wv ws p = Fs ts p) → (∀ q, q ∈ ws.map (·.1) → ∃ t, t ∈ ts ∧ q = sortP t.2) → ws.length ≤ ts.length → Q (.ref d) H'
section
variable {P : Program} {w : World} {K : PySem.W.Frag} {mg : Str → Option Value} {base : Heap} {a : Ad}
theorem B_summed (T : Txt K mg a) : Binds K a.d_summed ["terms"] [] := T.summed.F.binds fun _ _ _ _ _ _ us hl => match us, hl with | [_], _ => rfl
theorem ok_summed (T : Txt K mg a) : FnOk P w K mg base CX0 6 a.summed a.d_summed ["terms"] (spSummed K a.Ratio) := by
  have G_as_ratio := ok_as_ratio (P := P) (w := w) (base := base) T
  have b_as_ratio := B_as_ratio T
  have G_Ratio_add := ok_Ratio_add (P := P) (w := w) (base := base) T
  have b_Ratio_add := B_Ratio_add T
  refine T.summed.F.ok sc_summed (fun vs H Q E h => ?_) (fun cdv A outer s H vs Q E hr h => ?_)
  · obtain ⟨v, ts, rfl, _⟩ := h
    rfl
  · obtain ⟨v, ts, rfl, ⟨vs, hq, hp⟩, hz, hz2, hl, h⟩ := h
    refine ⟨_, (pss_cons (ps_set (i := 1) sc_summed.nd rfl (.inl rfl) pe_dnewT)
      (pss_cons (ps_for PassesOwn.never rfl (pi_seqV (pv 0)) (pg_tup rfl (pgs_cons (pg_name (i := 2) sc_summed.nd rfl (.inl rfl)) (pgs_cons (pg_name (i := 3) sc_summed.nd rfl (.inl rfl)) pgs_nil))) (pss_mid (ps_par (i := 4) (j := 5) (by rfl) sc_summed.nd rfl rfl (by decide) rfl rfl (pa_cons (pe_callTy call_tuple_of (by rfl) T.b_tuple (by decide +kernel) (pa_cons (pe_callB cr_sortA (by rfl) T.b_sorted (by decide +kernel) (pa_cons (pv 3) pa_nil)) pa_nil)) (pa_cons (pe_call G_as_ratio (hr.mono (by decide)) (by rfl) T.as_ratio.g T.as_ratio.F.kp b_as_ratio .nil pass0 (pa_cons (pv 2) pa_nil)) pa_nil)) (by rfl))
      (pss_one (ps_dput (hu_of hr) (pv 1) (pv 4) (pe_ifExp (pt_cmp (pc_din (hu_of hr) (pv 4) (pv 1))) (pe_op (op_own T.O_Ratio_add (Runs.of G_Ratio_add b_Ratio_add (hr.mono (by decide)) rfl)) (pe_dget (hu_of hr) (pv 1) (pv 4) (fun _ _ => rfl)) (pv 5)) (pv 5)) rfl))))
      (pss_one (ps_ret (pv 1))))), ?_⟩
    intro D hD
    obtain ⟨tb, hb⟩ := hq.tag
    refine ⟨_, _, tb, rfl, hb.ext (Ext.upd hD), fun J wk => ?_⟩
    refine for_it wk (fun i σ H' => Ext H H' ∧ ∃ kvs ws x1 x2 x3 x4, H' D = some (.dT kvs) ∧ DW a.Ratio H' kvs ws ∧ (ws.map (·.1)).Nodup ∧ (∀ p, wv ws p = Fs (ts.take i) p) ∧ (∀ q, q ∈ ws.map (·.1) → ∃ t, t ∈ ts ∧ q = sortP t.2) ∧ ws.length ≤ i ∧ σ = [some v, some (.ref D), x1, x2, x3, x4])
      ⟨Ext.upd hD, [], [], _, _, _, _, upd_same, .nil, List.nodup_nil, fun p => rfl, (fun q hq => by cases hq), Nat.le_refl _, rfl⟩ (fun i σ H' _ q => hb.ext q.1) ?_ ?_
    · rintro i x σ H' H'' hi ⟨e0, kvs, ws, x1, x2, x3, x4, hd, dw, nd, hw, hk, hlw, rfl⟩ ⟨c0, hx⟩
      obtain rfl := c0.symm
      obtain ⟨t, ht, tp, num, ks, rfl, hta, hn, hs⟩ := pair_at hp hx
      have tm : t ∈ ts := List.mem_of_getElem? ht
      have il : i < ts.length := by rw [← paired_len hp]; exact hi
      refine ⟨tp, _, rfl, hta.ext e0, rfl, _, _, rfl, _, _, rfl, rfl, ?_⟩
      refine ⟨fun σ H2 => Ext H' H2 ∧ ∃ b wv', H2 b = some (.tup ((sortP t.2).map V.str)) ∧ IsRat a.Ratio H2 wv' t.1 ∧ σ = [some v, some (.ref D), some num, some ks, some (.ref b), some wv'], ?_, ?_⟩
      · obtain ⟨l, rfl, hs2⟩ := hs.ext e0
        refine ⟨_, rfl, l, t.2, rfl, hs2, fun ys p hys hsy hpn => ?_⟩
        obtain rfl := sortP_of hys hsy
        have e1 := Ext.upd (o := .lst ((sortP t.2).map V.str)) hpn
        refine ⟨p, _, rfl, .inl ⟨SqL.of upd_same, fun b hb => ?_⟩⟩
        have e2 := Ext.upd (o := .tup ((sortP t.2).map V.str)) hb
        refine ⟨_, rfl, num, _, rfl, hn.ext (e0.trans (e1.trans e2)), (hz t tm).mono (by decide), fun v' H2 e3 hv' => ?_⟩
        exact ⟨_, _, rfl, (e1.trans e2).trans e3, b, v', e3 _ _ upd_same, hv', rfl⟩
      · rintro σ H2 ⟨e2, b, v', hb2, hv', rfl⟩
        have et : ts.take (i + 1) = ts.take i ++ [t] := by rw [List.take_add_one, ht]; rfl
        have hd2 := e2 _ _ hd
        have dw2 := dw.ext e2
        have hbk : H2 b = some (.tup ((kk (sortP t.2)).map kV)) := by rw [kk_v]; exact hb2
        have fin : ∀ z H3, Ext H2 H3 → IsRat a.Ratio H3 z (wv ws (sortP t.2) + t.1) → ∃ a' H4, V.ref D = .ref a' ∧ DPut H3 a' (.ref b) z H4 ∧ (Ext H H4 ∧ ∃ kvs ws x1 x2 x3 x4, H4 D = some (.dT kvs) ∧ DW a.Ratio H4 kvs ws ∧ (ws.map (·.1)).Nodup ∧ (∀ p, wv ws p = Fs (ts.take (i + 1)) p) ∧ (∀ q, q ∈ ws.map (·.1) → ∃ t, t ∈ ts ∧ q = sortP t.2) ∧ ws.length ≤ i + 1 ∧ [some v, some (.ref D), some num, some ks, some (.ref b), some v'] = [some v, some (.ref D), x1, x2, x3, x4]) := by
          intro z H3 e3 hz3
          have hd3 := e3 _ _ hd2
          have lk : kvs.length < sizeLine := by rw [dw.len]; exact Nat.lt_of_le_of_lt hlw (Nat.lt_of_lt_of_le il (Nat.le_trans hl (by decide)))
          refine ⟨D, _, rfl, .t hd3 (e3 _ _ hbk) lk, ext_put ((e0.trans e2).trans e3) hD, _, putW ws (sortP t.2) (wv ws (sortP t.2) + t.1), _, _, _, _, upd_same, ?_, nd_putW nd, fun p => ?_, fun q hq => ?_, Nat.le_trans len_putW (by omega), rfl⟩
          · refine paired_imp (fun kv w z => ⟨z.1, ?_⟩) ((dw2.ext e3).put (p := sortP t.2) hz3)
            obtain ⟨pp, dx, h1, h2⟩ := z.2
            refine ⟨pp, dx, h1, ?_⟩
            rw [upd_ne (ne_of h2 hd3 (fun y => nomatch y))]
            exact h2
          · rw [wv_putW nd, et, fs_snoc, ← hw p]
            by_cases e : sortP t.2 = p
            · rw [if_pos e, if_pos e, e]
            · rw [if_neg e, if_neg e, Rat.add_zero]
          · obtain ⟨w', hw', rfl⟩ := List.mem_map.mp hq
            rcases mem_putW hw' with e | e
            · exact ⟨t, tm, e⟩
            · exact hk _ e
        refine ⟨_, rfl, _, rfl, D, _, rfl, .t hd2 hbk, _, rfl, ?_⟩
        by_cases hm : sortP t.2 ∈ ws.map (·.1)
        · obtain ⟨u, hu1, hu2⟩ := dw2.val hm
          rw [hu1]
          refine iteT ?_
          have := hz2 i (sortP t.2)
          rw [← hw] at this
          refine ⟨_, rfl, _, rfl, D, u, rfl, ?_, ?_⟩
          · have := DGet.t hd2 hbk
            rw [hu1] at this
            exact this
          obtain ⟨pp, dx, rfl, hpp⟩ := id hu2
          obtain ⟨p2, dx2, rfl, hp2⟩ := id hv'
          exact ⟨_, rfl, pp, dx, _, rfl, hpp, .inr ⟨p2, dx2, _, rfl, hp2⟩, _, _, _, _, rfl, hu2, .inr hv', this, hz t tm, fun z H3 e3 hz3 => ⟨_, rfl, _, rfl, fin z H3 e3 hz3⟩⟩
        · rw [dw2.none hm]
          refine iteF ⟨_, rfl, _, rfl, _, rfl, fin _ _ Ext.rfl' ?_⟩
          rw [wv_off hm, Rat.zero_add]
          exact hv'
    · rintro σ H' ⟨e0, kvs, ws, x1, x2, x3, x4, hd, dw, nd, hw, hk, hlw, rfl⟩
      rw [paired_len hp] at hw hlw
      rw [List.take_length] at hw
      exact ⟨_, rfl, h D kvs ws H' e0 hD hd dw nd hw hk hlw⟩
end
end P

namespace P
open PySem L2 NS

/-! ### weights in order -/
def unS : V → Str
  | .str s => s
  | _ => ""
def unR : V → Addr
  | .ref t => t
  | _ => 0
def pOf (H : Hp) (v : V) : Pd := match H (unR v) with
  | some (.tup vs) => vs.map unS
  | _ => []
def Pt (H : Hp) (t : Addr) (p : Pd) : Prop := H t = some (.tup (p.map V.str))
theorem pOf_at {H : Hp} {t : Addr} {p : Pd} (h : Pt H t p) : pOf H (.ref t) = p := by
  unfold pOf
  rw [show unR (.ref t) = t from rfl, h]
  show (p.map V.str).map unS = p
  rw [List.map_map, show (unS ∘ V.str) = id from rfl, List.map_id]
theorem pOf_all {H : Hp} : ∀ {ts : List Addr} {ps : List Pd}, Paired (Pt H) ts ps → (ts.map V.ref).map (pOf H) = ps
  | _, _, .nil => rfl
  | _, _, .cons a b => by rw [List.map_cons, List.map_cons, pOf_at a, pOf_all b]
theorem pt_each {H : Hp} : ∀ {ts : List Addr} {ps : List Pd}, Paired (Pt H) ts ps → ∀ t, t ∈ ts → Pt H t (pOf H (.ref t))
  | _, _, .nil, _, h => by cases h
  | _, _, .cons a b, t, h => by
    rcases List.mem_cons.mp h with e | e
    · rw [e, pOf_at a]
      exact a
    · exact pt_each b t e
theorem refs_of {H : Hp} : ∀ (ys : List V), (∀ y, y ∈ ys → ∃ t, y = .ref t ∧ Pt H t (pOf H y)) → ∃ us : List Addr, ys = us.map V.ref ∧ Paired (Pt H) us (ys.map (pOf H))
  | [], _ => ⟨[], rfl, .nil⟩
  | y :: ys, h => by
    obtain ⟨us, e, p⟩ := refs_of ys fun z hz => h z (.tail _ hz)
    obtain ⟨t, rfl, ht⟩ := h y (.head _)
    exact ⟨t :: us, by rw [List.map_cons, ← e], .cons ht p⟩
theorem sorted_refs {H : Hp} {ts : List Addr} {ps : List Pd} {ys : List V} (hp : Paired (Pt H) ts ps) (hy : ys.Perm (ts.map V.ref)) (hs : SrtO.Srtd (fun x y => ltT (keyQ (pOf H x)) (keyQ (pOf H y))) ys) :
    ∃ us qs, ys = us.map V.ref ∧ Paired (Pt H) us qs ∧ qs.Perm ps ∧ SrtO.Srtd ltQ qs := by
  obtain ⟨us, e, p⟩ := refs_of (H := H) ys fun y h => by
    obtain ⟨t, ht, rfl⟩ := List.mem_map.mp (hy.mem_iff.mp h)
    exact ⟨t, rfl, pt_each hp t ht⟩
  refine ⟨us, _, e, p, ?_, List.pairwise_map.mpr hs⟩
  have := hy.map (pOf H)
  rw [pOf_all hp] at this
  exact this
theorem hu2 {k : Nat} {A : Around} (r : Room k A) : A.units + 2 < cLine := by have := hu64 r; omega
theorem live_snoc {ws : Wts} {w : Pd × Rat} : live (ws ++ [w]) = live ws ++ if w.2 = 0 then [] else [w.1] := by
  unfold live
  rw [List.filter_append, List.map_append]
  by_cases h : w.2 = 0
  · simp [h]
  · simp [h]
theorem sgn_ne {q : Rat} (h : q ≠ 0) : sgn q.num ≠ 0 := by
  have : q.num ≠ 0 := fun z => h (Rat.num_eq_zero.mp z)
  rcases Int.lt_or_gt_of_ne this with h1 | h1
  · unfold sgn
    rw [decide_eq_false (show ¬ 0 < q.num by omega), decide_eq_true h1]
    decide
  · unfold sgn
    rw [decide_eq_false (show ¬ q.num < 0 by omega), decide_eq_true (show 0 < q.num by omega)]
    decide
theorem live_mem {ws : Wts} {p : Pd} (h : p ∈ live ws) : p ∈ ws.map (·.1) := by
  obtain ⟨w, hw, rfl⟩ := List.mem_map.mp h
  exact List.mem_map.mpr ⟨w, (List.mem_filter.mp hw).1, rfl⟩
theorem dw_keys {C : Addr} {H : Hp} : ∀ {kvs : List (List L2.Key × V)} {ws : Wts}, DW C H kvs ws → kvs.map (·.1) = ws.map fun w => kk w.1
  | _, _, .nil => rfl
  | _, _, .cons a b => by rw [List.map_cons, List.map_cons, dw_keys b, a.1]
def PairH (H : Hp) (p : Addr) (t : Addr × List L2.Key × V) : Prop := H p = some (.tup [.ref t.1, t.2.2]) ∧ H t.1 = some (.tup (t.2.1.map kV))
theorem PairH.ext {H H' : Hp} {p : Addr} {t : Addr × List L2.Key × V} (h : PairH H p t) (e : Ext H H') : PairH H' p t := ⟨e _ _ h.1, e _ _ h.2⟩
theorem PairH.put {H : Hp} {p D : Addr} {t : Addr × List L2.Key × V} {xs ys : List V} (h : PairH H p t) (hD : H D = some (.lst xs)) : PairH (upd H D (.lst ys)) p t := ⟨by rw [upd_ne (ne_of h.1 hD fun y => nomatch y)]; exact h.1, by rw [upd_ne (ne_of h.2 hD fun y => nomatch y)]; exact h.2⟩
theorem IsRat.put {C : Addr} {H : Hp} {D : Addr} {v : V} {q : Rat} {xs ys : List V} (h : IsRat C H v q) (hD : H D = some (.lst xs)) : IsRat C (upd H D (.lst ys)) v q := by
  obtain ⟨p, dx, h1, h2⟩ := h
  exact ⟨p, dx, h1, by rw [upd_ne (ne_of h2 hD fun y => nomatch y)]; exact h2⟩
theorem DW.putL {C : Addr} {H : Hp} {D : Addr} {kvs : List (List L2.Key × V)} {ws : Wts} {xs ys : List V} (h : DW C H kvs ws) (hD : H D = some (.lst xs)) : DW C (upd H D (.lst ys)) kvs ws := paired_imp (fun _ _ z => ⟨z.1, z.2.put hD⟩) h
def spInOrder (C : Addr) : Sp := fun vs H Q _ => ∃ d kvs ws, vs = [.ref d] ∧ H d = some (.dT kvs) ∧ DW C H kvs ws ∧ (ws.map (·.1)).Nodup ∧ ws.length ≤ 1000 ∧
  ∀ d' kvs' ys H', Ext H H' → H d' = none → H' d' = some (.dT kvs') → DW C H' kvs' (ys.map fun p => (p, wv ws p)) → ys.Perm (live ws) → SrtO.Srtd ltQ ys → Q (.ref d') H'
theorem paired_cat {α β : Type} {F : α → β → Prop} {x : α} {y : β} {xs : List α} {ys : List β} (h : Paired F xs ys) (k : F x y) : Paired F (xs ++ [x]) (ys ++ [y]) := paired_snoc h k
section
variable {P : Program} {w : World} {K : PySem.W.Frag} {mg : Str → Option Value} {base : Heap} {a : Ad}
theorem B_in_order (T : Txt K mg a) : Binds K a.d_in_order ["weights"] [] := T.in_order.F.binds fun _ _ _ _ _ _ us hl => match us, hl with | [_], _ => rfl
theorem ok_in_order (T : Txt K mg a) : FnOk P w K mg base CX0 4 a.in_order a.d_in_order ["weights"] (spInOrder a.Ratio) := by
  have G_Ratio_sign := ok_Ratio_sign (P := P) (w := w) (base := base) T
  have b_Ratio_sign := B_Ratio_sign T
  have G_product_key := ok_product_key (P := P) (w := w) (base := base) T
  have b_product_key := B_product_key T
  refine T.in_order.F.ok sc_in_order (fun vs H Q E h => ?_) (fun cdv A outer s H vs Q E hr h => ?_)
  · obtain ⟨d, kvs, ws, rfl, _⟩ := h
    rfl
  · obtain ⟨d, kvs, ws, rfl, hd, dw, nd, hl, h⟩ := h
    refine ⟨_, (pss_mid (ps_lock (ps_setLc (i := 1) (own := [("product", 2)]) (g := gName 2) (by rfl) sc_in_order.nd rfl rfl (sw_true rfl rfl rfl (by decide +kernel)) (pi_keys (pv 0)) (blkOk_by (N := ["weights", "products", "product"]) (sc := defScope s_in_order) (by decide +kernel)) (fun _ _ _ _ _ => (pg_name (i := 2) sc_in_order.nd rfl (.inl rfl) (.inr rfl))) (fun _ _ _ _ _ => pts_one (pt_cmpR op_ne (pe_prop (pe_dget (hu_of hr) (pv 0) (pv 2) (fun _ _ => rfl)) T.Ratio.cls T.Ratio_sign.pr G_Ratio_sign (hr.mono (by decide)) b_Ratio_sign .nil pass0 rfl) pe_int (nomark _))) (fun _ _ _ _ _ => (pv 2))))
      (pss_one (ps_ret (pe_callTy (call_dictPT rfl (hu2 hr)) (by rfl) T.b_dict (by decide +kernel) (pa_cons (pe_lc (own := [("product", 2)]) (g := gName 2) (by rfl) sc_in_order.nd (pi_list (pe_callBK (cr_sortKey (Runs0.of G_product_key b_product_key (hr.in1.in1.mono (by decide)) rfl) hr) (by rfl) T.b_sorted (by decide +kernel) (pa_cons (pv 1) pa_nil) (pk_cons (pe_glob (v := .ref a.product_key) (by rfl) T.product_key.g rfl) pk_nil))) (blkOk_by (N := ["weights", "products", "product"]) (sc := defScope s_in_order) (by decide +kernel)) (fun _ _ _ _ _ => (pg_name (i := 2) sc_in_order.nd rfl (.inl rfl) (.inr rfl))) (fun _ _ _ _ _ => pts_nil) (fun _ _ _ _ _ => (pe_tup (pa_cons (pv 2) (pa_cons (pe_dget (hu_of hr) (pv 0) (pv 2) (fun _ _ => rfl)) pa_nil))))) pa_nil))))), ?_⟩
    refine ⟨fun σ H1 => Ext H H1 ∧ ∃ D ts, H1 D = some (.lst (ts.map V.ref)) ∧ Paired (Pt H1) ts (live ws) ∧ σ = [some (.ref d), some (.ref D), none], ?_, ?_⟩
    · refine ⟨d, _, hd, trivial, fun od => ?_⟩
      have hf : upd H d (.frz od (.dT kvs)) d = some (.frz od (.dT kvs)) := upd_same
      have dw0 : DW a.Ratio (upd H d (.frz od (.dT kvs))) kvs ws := paired_imp (fun kv w z => ⟨z.1, by
        obtain ⟨pp, dx, h1, h2⟩ := z.2
        refine ⟨pp, dx, h1, ?_⟩
        rw [upd_ne (ne_of h2 hd (fun y => nomatch y))]
        exact h2⟩) dw
      generalize hH0 : upd H d (.frz od (.dT kvs)) = H0 at *
      refine ⟨_, rfl, d, od, rfl, .inr ⟨kvs, hf, fun D hD => ?_⟩⟩
      refine lc_it walk_keysT (fun i H' => Ext H0 H' ∧ ∃ ts, H' D = some (.lst (ts.map V.ref)) ∧ ts.length ≤ i ∧ Paired (Pt H') ts (live (ws.take i))) ⟨ext_put Ext.rfl' hD, [], upd_same, Nat.le_refl _, .nil⟩ (fun i H' _ q => q.1 _ _ hf) ?_ ?_
      · rintro i x H' H'' hi ⟨e0, ts, hts, hlt, hpt⟩ ⟨c0, k, v, q, hk, rfl, hq⟩
        obtain rfl := c0.symm
        obtain ⟨w', hw', hkw, hv⟩ := pair_at dw0 hk
        subst hkw
        have wm : w' ∈ ws := List.mem_of_getElem? hw'
        have hm : w'.1 ∈ ws.map (·.1) := List.mem_map.mpr ⟨w', wm, rfl⟩
        obtain ⟨u, hu1, hu2⟩ := dw0.val hm
        rw [wv_mem nd wm] at hu2
        have hu3 := hu2.ext e0
        have et : ws.take (i + 1) = ws.take i ++ [w'] := by rw [List.take_add_one, hw']; rfl
        have lt : ts.length < sizeLine := by
          have : i < ws.length := (List.getElem?_eq_some_iff.mp hw').1
          exact Nat.lt_of_le_of_lt hlt (Nat.lt_of_lt_of_le this (Nat.le_trans hl (by decide)))
        obtain ⟨pp, dx, rfl, hpp⟩ := id hu3
        refine ⟨rfl, _, rfl, _, rfl, d, .ref pp, rfl, .inr ⟨kvs, kk w'.1, q, .inr ⟨od, e0 _ _ hf⟩, rfl, hq, hu1.symm⟩, pp, dx, _, rfl, hpp, _, _, rfl, hu3, rfl, _, rfl, ?_⟩
        by_cases hz : w'.2 = 0
        · refine iteN (by rw [hz]; decide) ⟨e0, ts, hts, by omega, ?_⟩
          rw [et, live_snoc, if_pos hz, List.append_nil]
          exact hpt
        · refine iteY (by simp [sgn_ne hz]) ⟨_, rfl, _, hts, by rw [List.length_map]; exact lt, ext_put e0 hD, ts ++ [q], ?_, by rw [List.length_append]; exact Nat.succ_le_succ hlt, ?_⟩
          · rw [upd_same, List.map_append]
            rfl
          · rw [et, live_snoc, if_neg hz]
            refine paired_snoc (paired_imp (fun t p z => ?_) hpt) ?_
            · show upd H' D _ t = _
              rw [upd_ne (ne_of z hts (fun y => nomatch y))]
              exact z
            · show upd H' D _ q = _
              rw [upd_ne (ne_of hq hts (fun y => nomatch y)), hq, kk_v]
      · rintro H' ⟨e0, ts, hts, hlt, hpt⟩
        have hdf := e0 _ _ hf
        rw [dw0.len, List.take_length] at hpt
        have hne : D ≠ d := fun z => by rw [← z] at hf; rw [hD] at hf; cases hf
        subst hH0
        refine ⟨hdf, ext_unlock hd e0, D, ts, ?_, paired_imp (fun t p z => ?_) hpt, rfl⟩
        · rw [upd_ne hne]
          exact hts
        · show upd H' d _ t = _
          rw [upd_ne (ne_of z hdf (fun y => nomatch y))]
          exact z
    · rintro σ H1 ⟨e1, D, ts, hD, hpt, rfl⟩
      refine ⟨_, rfl, D, ts, fun v => keyQ (pOf H1 v), rfl, rfl, SqL.of hD, fun t _ u _ => likeQ _ _, fun t ht H2 e2 R hR => ⟨t, pOf H1 (.ref t), rfl, e2 _ _ (pt_each hpt t ht), fun v H3 e3 hv => hR v H3 e3 hv⟩, fun ys p H2 e2 hpn hp2 hy hs => ?_⟩
      obtain ⟨us, qs, rfl, hu, hqp, hqs⟩ := sorted_refs hpt hy hs
      refine ⟨p, rfl, ⟨_, SqL.of hp2⟩, fun D2 hD2 => ?_⟩
      refine lc_list (xs := us.map V.ref) (fun i H' => Ext H2 H' ∧ ∃ ts' xs, H' D2 = some (.lst (ts'.map V.ref)) ∧ ts'.length = i ∧ Paired (PairH H') ts' xs ∧ DW a.Ratio H' (xs.map (·.2)) ((qs.take i).map fun p => (p, wv ws p)))
        ⟨ext_put Ext.rfl' hD2, [], [], upd_same, rfl, .nil, .nil⟩ (fun i H' _ q => SqL.of (q.1 _ _ hp2)) ?_ ?_
      · rintro i x H' hx ⟨e3, ts', xs, h3, hl3, hp3, dw3⟩
        rw [List.getElem?_map] at hx
        obtain ⟨t, ht, rfl⟩ := Option.map_eq_some_iff.mp hx
        obtain ⟨q, hq, hpq⟩ := pair_at hu ht
        have e03 := (e1.trans e2).trans e3
        have qm : q ∈ ws.map (·.1) := live_mem (hqp.mem_iff.mp (List.mem_of_getElem? hq))
        obtain ⟨u, hu1, hu2⟩ := (dw.ext e03).val qm
        have hq' : H' t = some (.tup ((kk q).map kV)) := by rw [kk_v]; exact e3 _ _ (e2 _ _ hpq)
        refine ⟨rfl, yes_of ⟨_, rfl, _, rfl, _, rfl, d, u, rfl, .inr ⟨kvs, kk q, t, .inl (e03 _ _ hd), rfl, hq', hu1.symm⟩, (by show 2 ≤ sizeLine; decide), fun tq htq => ?_⟩⟩
        have e4 := Ext.upd (o := .tup [.ref t, u]) htq
        have h4 := e4 _ _ h3
        have et : qs.take (i + 1) = qs.take i ++ [q] := by rw [List.take_add_one, hq]; rfl
        have il : i < 1000 := by
          have h5 : i < qs.length := (List.getElem?_eq_some_iff.mp hq).1
          have h6 : (live ws).length ≤ ws.length := by unfold live; rw [List.length_map]; exact List.length_filter_le _ _
          rw [hqp.length_eq] at h5
          omega
        refine ⟨_, h4, Nat.lt_of_lt_of_le (by rw [List.length_map, hl3]; exact il) (by decide), ext_put (e3.trans e4) hD2, ts' ++ [tq], xs ++ [(t, kk q, u)], ?_, by rw [List.length_append, hl3]; rfl, ?_, ?_⟩
        · rw [upd_same, List.map_append]
          rfl
        · exact paired_snoc (paired_imp (fun _ _ z => (z.ext e4).put h4) hp3) (PairH.put ⟨upd_same, e4 _ _ hq'⟩ h4)
        · rw [et, List.map_append, List.map_append]
          exact paired_snoc ((dw3.ext e4).putL h4) ⟨rfl, (hu2.ext e4).put h4⟩
      · rintro H' ⟨e3, ts', xs, h3, hl3, hp3, dw3⟩
        rw [List.length_map, paired_len hu, List.take_length] at dw3
        have e03 := (e1.trans e2).trans e3
        have nq : qs.Nodup := hqp.nodup_iff.mpr ((List.filter_sublist.map _).nodup nd)
        refine ⟨D2, ts', xs, rfl, SqL.of h3, paired_imp (fun _ _ z => ⟨SqT.of z.1, z.2⟩) hp3, ?_, fun d' hd' => ?_⟩
        · have := dw_keys dw3
          rw [List.map_map, List.map_map] at this
          show (xs.map ((·.1) ∘ (·.2))).Nodup
          rw [this]
          exact List.pairwise_map.mpr (nq.imp fun z c => z (kk_inj c))
        · have e4 := Ext.upd (o := .dT (xs.map (·.2))) hd'
          refine h d' _ qs _ (e03.trans e4) ?_ upd_same (dw3.ext e4) hqp hqs
          cases c : H d' with
          | none => rfl
          | some o => rw [e03 _ _ c] at hd'; cases hd'
end
end P

namespace P
open PySem L2 NS

/-! ### questions -/
def TolT (C : Addr) (H : Hp) (t : Addr) (w : Pd × Rat) : Prop := ∃ u q, H t = some (.tup [u, .ref q]) ∧ IsRat C H u w.2 ∧ Pt H q w.1
theorem TolT.ext {C : Addr} {H H' : Hp} {t : Addr} {w : Pd × Rat} (h : TolT C H t w) (e : Ext H H') : TolT C H' t w := by
  obtain ⟨u, q, h1, h2, h3⟩ := h
  exact ⟨u, q, e _ _ h1, h2.ext e, e _ _ h3⟩
theorem TolT.put {C D : Addr} {H : Hp} {t : Addr} {w : Pd × Rat} {xs ys : List V} (h : TolT C H t w) (hD : H D = some (.lst xs)) : TolT C (upd H D (.lst ys)) t w := by
  obtain ⟨u, q, h1, h2, h3⟩ := h
  refine ⟨u, q, ?_, h2.put hD, ?_⟩
  · rw [upd_ne (ne_of h1 hD fun y => nomatch y)]
    exact h1
  · show upd H D _ q = _
    rw [upd_ne (ne_of h3 hD fun y => nomatch y)]
    exact h3
theorem TolT.at {K : PySem.W.Frag} {C : Addr} {H : Hp} {t : Addr} {w : Pd × Rat} (h : TolT C H t w) : TermAt K C H (.ref t) (w.2, w.1) := by
  obtain ⟨u, q, h1, h2, h3⟩ := h
  exact ⟨t, u, .ref q, rfl, SqT.of h1, .inr h2, q, rfl, .inr (SqT.of h3)⟩
theorem paired_maps {α β γ δ : Type} {F : α → β → Prop} {G : γ → δ → Prop} {f : α → γ} {g : β → δ} (h : ∀ x y, F x y → G (f x) (g y)) : ∀ {xs : List α} {ys : List β}, Paired F xs ys → Paired G (xs.map f) (ys.map g)
  | _, _, .nil => .nil
  | _, _, .cons a b => .cons (h _ _ a) (paired_maps h b)
theorem tol_terms {K : PySem.W.Frag} {C : Addr} {H : Hp} {l : Addr} {ts : List Addr} {ws : Wts} (hl : H l = some (.lst (ts.map V.ref))) (h : Paired (TolT C H) ts ws) : TermsAt K C H (.ref l) (tmW ws) :=
  ⟨_, ⟨l, rfl, .inl (SqL.of hl)⟩, paired_maps (fun _ _ z => z.at) h⟩
def spTold (C : Addr) : Sp := fun vs H Q _ => ∃ d kvs ws, vs = [.ref d] ∧ H d = some (.dT kvs) ∧ DW C H kvs ws ∧ ws.length ≤ 1000 ∧
  ∀ l ts H', Ext H H' → H l = none → H' l = some (.lst (ts.map V.ref)) → Paired (TolT C H') ts ws → Q (.ref l) H'
def IsQ (CQ C : Addr) (H : Hp) (v : V) (ws : Wts) : Prop := ∃ p dx d kvs, v = .ref p ∧ H p = some (.ins CQ dx [("own_weights", .ref d)]) ∧ H d = some (.dT kvs) ∧ DW C H kvs ws
theorem IsQ.ext {CQ C : Addr} {H H' : Hp} {v : V} {ws : Wts} (h : IsQ CQ C H v ws) (e : Ext H H') : IsQ CQ C H' v ws := by
  obtain ⟨p, dx, d, kvs, h1, h2, h3, h4⟩ := h
  exact ⟨p, dx, d, kvs, h1, e _ _ h2, e _ _ h3, h4.ext e⟩
structure TsOk (b : Nat) (ts : List Tm) : Prop where
  tm : ∀ t, t ∈ ts → TmOk b t
  bb : b ≤ 4000
  pre : ∀ n p, Sz 4000 (Fs (ts.take n) p)
  few : ts.length ≤ 1000
theorem TsOk.of {b : Nat} {ts : List Tm} (h : ∀ t, t ∈ ts → TmOk b t) (hb : 3 ≤ b) (hb4 : b ≤ 4000) (hl : ts.length * (b + 1) + 1 ≤ 4000) : TsOk b ts := by
  have h1 : ts.length * 4 ≤ ts.length * (b + 1) := Nat.mul_le_mul_left _ (by omega)
  refine ⟨h, hb4, fun n p => ?_, by omega⟩
  refine (sz_fs (by omega) (ts := ts.take n) (fun t ht => (h t (List.mem_of_mem_take ht)).sz) p).mono ?_
  have h2 : (ts.take n).length * (b + 1) ≤ ts.length * (b + 1) := Nat.mul_le_mul_right _ (by rw [List.length_take]; omega)
  omega
def spInitQ (K : PySem.W.Frag) (CQ C : Addr) : Sp := fun vs H Q _ => ∃ p dx v ts b, vs = [.ref p, v] ∧ H p = some (.ins CQ dx []) ∧ TermsAt K C H v ts ∧ TsOk b ts ∧
  ∀ H' d kvs, But p H H' → H d = none → H' p = some (.ins CQ dx [("own_weights", .ref d)]) → H' d = some (.dT kvs) → DW C H' kvs (mkQ ts) → Q .non H'
/-- a new question: what is asked of Question(v) -/
theorem rd_Q {K : PySem.W.Frag} {CQ C : Addr} {H : Hp} {v : V} {ts : List Tm} {b : Nat} {Q : VK} (hm : TermsAt K C H v ts) (ok : TsOk b ts) (k : ∀ v' H', Ext H H' → IsQ CQ C H' v' (mkQ ts) → Q v' H') :
    ∀ x dx, H x = none → H dx = none → dx ≠ x → spInitQ K CQ C [.ref x, v] (upd (upd H dx (.own x)) x (.ins CQ dx [])) (fun v H2 => v = .non ∧ Q (.ref x) H2) E0 := by
  intro x dx hx hd ne
  have e1 : Ext H (upd (upd H dx (.own x)) x (.ins CQ dx [])) := fun b o hb => by
    rw [upd_ne (ne_of_none hb hx), upd_ne (ne_of_none hb hd)]
    exact hb
  refine ⟨x, dx, v, ts, b, rfl, upd_same, hm.ext e1, ok, fun H' d kvs keep nd hp hd' dw => ⟨rfl, k _ _ (fun c o hc => keep c o (e1 _ _ hc) (ne_of_none hc hx)) ⟨x, dx, d, kvs, rfl, hp, hd', dw⟩⟩⟩
section
variable {P : Program} {w : World} {K : PySem.W.Frag} {mg : Str → Option Value} {base : Heap} {a : Ad}
theorem B_told_terms (T : Txt K mg a) : Binds K a.d_told_terms ["weights"] [] := T.told_terms.F.binds fun _ _ _ _ _ _ us hl => match us, hl with | [_], _ => rfl
theorem ok_told_terms (T : Txt K mg a) : FnOk P w K mg base CX0 1 a.told_terms a.d_told_terms ["weights"] (spTold a.Ratio) := by
  refine T.told_terms.F.ok sc_told_terms (fun vs H Q E h => ?_) (fun cdv A outer s H vs Q E hr h => ?_)
  · obtain ⟨d, kvs, ws, rfl, _⟩ := h
    rfl
  · obtain ⟨d, kvs, ws, rfl, hd, dw, hl, h⟩ := h
    refine ⟨_, (pss_one (ps_ret (pe_lock (pe_lc (own := [("product", 1), ("weight", 2)]) (g := gTup K 2 (gCons (gName 1) (gCons (gName 2) gNil))) (by rfl) sc_told_terms.nd (pi_itemsT (pv 0)) (blkOk_by (N := ["weights", "product", "weight"]) (sc := defScope s_told_terms) (by decide +kernel)) (fun _ _ _ _ _ => (pg_tup rfl (pgs_cons (pg_name (i := 1) sc_told_terms.nd rfl (.inl rfl) (.inr rfl)) (pgs_cons (pg_name (i := 2) sc_told_terms.nd rfl (.inl rfl) (.inr rfl)) pgs_nil)))) (fun _ _ _ _ _ => pts_nil) (fun _ _ _ _ _ => (pe_tup (pa_cons (pv 2) (pa_cons (pv 1) pa_nil)))))))), ?_⟩
    refine ⟨d, _, hd, trivial, fun od => ?_⟩
    have hf : upd H d (.frz od (.dT kvs)) d = some (.frz od (.dT kvs)) := upd_same
    have dw0 : DW a.Ratio (upd H d (.frz od (.dT kvs))) kvs ws := paired_imp (fun kv w z => ⟨z.1, by
      obtain ⟨pp, dx, h1, h2⟩ := z.2
      refine ⟨pp, dx, h1, ?_⟩
      rw [upd_ne (ne_of h2 hd (fun y => nomatch y))]
      exact h2⟩) dw
    generalize hH0 : upd H d (.frz od (.dT kvs)) = H0 at *
    refine ⟨_, rfl, d, od, kvs, rfl, hf, fun D hD => ?_⟩
    refine lc_it walk_itemsT (fun i H' => Ext H0 H' ∧ ∃ ts, H' D = some (.lst (ts.map V.ref)) ∧ ts.length = i ∧ Paired (TolT a.Ratio H') ts (ws.take i)) ⟨ext_put Ext.rfl' hD, [], upd_same, rfl, .nil⟩ (fun i H' _ q => q.1 _ _ hf) ?_ ?_
    · rintro i x H' H'' hi ⟨e0, ts, hts, hlt, hpt⟩ ⟨tq, q, k, v, hk, rfl, hT, hq, rfl⟩
      obtain ⟨w', hw', hkw, hv⟩ := pair_at dw0 hk
      subst hkw
      have e1 := Ext.upd (o := .tup [.ref q, v]) hT
      have et : ws.take (i + 1) = ws.take i ++ [w'] := by rw [List.take_add_one, hw']; rfl
      have il : i < 1000 := by
        have : i < ws.length := (List.getElem?_eq_some_iff.mp hw').1
        omega
      refine ⟨tq, _, rfl, SqT.of upd_same, rfl, _, _, rfl, _, _, rfl, rfl, rfl, yes_of ?_⟩
      refine ⟨_, rfl, _, rfl, (by show 2 ≤ sizeLine; decide), fun t ht => ?_⟩
      have e2 := Ext.upd (o := .tup [v, .ref q]) ht
      have e12 := e1.trans e2
      have h3 := e12 _ _ hts
      refine ⟨_, h3, Nat.lt_of_lt_of_le (by rw [List.length_map, hlt]; exact il) (by decide), ext_put (e0.trans e12) hD, ts ++ [t], ?_, by rw [List.length_append, hlt]; rfl, ?_⟩
      · rw [upd_same, List.map_append]
        rfl
      · rw [et]
        refine paired_snoc (paired_imp (fun _ _ z => (z.ext e12).put h3) hpt) (TolT.put ⟨v, q, upd_same, hv.ext (e0.trans e12), ?_⟩ h3)
        have := e12 _ _ hq
        rw [kk_v] at this
        exact this
    · rintro H' ⟨e0, ts, hts, hlt, hpt⟩
      have hdf := e0 _ _ hf
      rw [dw0.len, List.take_length] at hpt
      have hne : D ≠ d := fun z => by rw [← z] at hf; rw [hD] at hf; cases hf
      subst hH0
      have hDn : H D = none := by
        rw [upd_ne hne] at hD
        exact hD
      refine ⟨hdf, h D ts _ (ext_unlock hd e0) hDn ?_ (paired_imp (fun t p z => ?_) hpt)⟩
      · rw [upd_ne hne]
        exact hts
      · obtain ⟨u, q, h1, ⟨pp, dx, h2, h3⟩, h4⟩ := z
        refine ⟨u, q, ?_, ⟨pp, dx, h2, ?_⟩, ?_⟩
        · rw [upd_ne (ne_of h1 hdf (fun y => nomatch y))]
          exact h1
        · rw [upd_ne (ne_of h3 hdf (fun y => nomatch y))]
          exact h3
        · show upd H' d _ q = _
          rw [upd_ne (ne_of h4 hdf (fun y => nomatch y))]
          exact h4
theorem B_Question1 (T : Txt K mg a) : Binds K a.d_Question_init ["self", "terms"] [] := by
  obtain ⟨ds, v, b⟩ := T.Question_init.F.binds1 (ps := ["self", "terms"]) 2 1 (List.cons_ne_nil _ _) rfl fun T kV doc pm an cdv ct us its h1 h2 => match us, its, h1, h2 with
    | [_, _], [_], _, _ => ⟨_, rfl, rfl⟩
  cases v
  exact b
theorem B_Question0 (T : Txt K mg a) : ∃ ds, Vals [.ref a.u_Question_init] ds ∧ Binds K a.d_Question_init ["self", "terms"] ds :=
  T.Question_init.F.binds1 (ps := ["self", "terms"]) 1 0 (List.cons_ne_nil _ _) rfl fun T kV doc pm an cdv ct us its h1 h2 => match us, its, h1, h2 with
    | [_], [_], _, _ => ⟨_, rfl, rfl⟩
theorem Mk_Question (T : Txt K mg a) : Mk K a.Question a.Question_init := ⟨T.Question.mks, T.Question_init.at_, T.Question_init.fn, T.Question.kp⟩
theorem none_terms (T : Txt K mg a) (H : Hp) : TermsAt K a.Ratio H (.ref a.u_Question_init) [] := by
  obtain ⟨d, n, sl, h⟩ := T.e_Question_init
  exact ⟨[], ⟨_, rfl, .inr (.inr ⟨_, #[], n, h, rfl, rfl, Nat.zero_le _, .nil⟩)⟩, .nil⟩
theorem ok_Question_init (T : Txt K mg a) : FnOk P w K mg base CX0 7 a.Question_init a.d_Question_init ["self", "terms"] (spInitQ K a.Question a.Ratio) := by
  have G_want_terms := ok_want_terms (P := P) (w := w) (base := base) T
  have b_want_terms := B_want_terms T
  have G_summed := ok_summed (P := P) (w := w) (base := base) T
  have b_summed := B_summed T
  have G_in_order := ok_in_order (P := P) (w := w) (base := base) T
  have b_in_order := B_in_order T
  refine T.Question_init.F.ok sc_Question_init (fun vs H Q E h => ?_) (fun cdv A outer s H vs Q E hr h => ?_)
  · obtain ⟨p, dx, v, ts, b, rfl, _⟩ := h
    rfl
  · obtain ⟨p, dx, v, ts, b, rfl, hp, hm, ok, h⟩ := h
    refine ⟨_, PSs.nox (pss_cons (ps_expr (pe_call G_want_terms (hr.mono (by decide)) (by rfl) T.want_terms.g T.want_terms.F.kp b_want_terms .nil pass0 (pa_cons (pv 1) pa_nil)))
      (pss_one (ps_fld (pv 0) (pe_call G_in_order (hr.mono (by decide)) (by rfl) T.in_order.g T.in_order.F.kp b_in_order .nil pass0 (pa_cons (pe_call G_summed (hr.mono (by decide)) (by rfl) T.summed.g T.summed.F.kp b_summed .nil pass0 (pa_cons (pv 1) pa_nil)) pa_nil)) rfl))), ?_⟩
    refine ⟨_, rfl, v, ts, b, rfl, hm, ok.tm, fun H1 e1 => ?_⟩
    refine ⟨_, rfl, v, ts, rfl, hm.ext e1, fun t ht => ((ok.tm t ht).sz).mono ok.bb, ok.pre, ok.few, fun d kvs ws H2 e2 hdn hd dw nd hw hk hl => ?_⟩
    refine ⟨d, kvs, ws, rfl, hd, dw, nd, Nat.le_trans hl ok.few, fun d' kvs' ys H3 e3 hdn' hd' dw' hy hs => ?_⟩
    have e03 := (e1.trans e2).trans e3
    refine ⟨_, rfl, p, _, dx, _, rfl, e03 _ _ hp, T.Question.cls, T.no_Question_own_weights, (by show 0 < 1000; decide), ?_⟩
    have cq := canQ_of nd hy hs
    rw [show wv ws = Fs ts from funext hw] at cq
    have em := mkQ_of cq
    have hdn0 : H d' = none := by
      cases c : H d' with
      | none => rfl
      | some o => rw [(e1.trans e2) _ _ c] at hdn'; cases hdn'
    have hpd : d' ≠ p := fun z => by
      rw [z, hp] at hdn0
      cases hdn0
    refine h _ d' kvs' (fun b o hb hne => ?_) hdn0 ?_ ?_ ?_
    · rw [upd_ne hne]
      exact e03 _ _ hb
    · rw [upd_same]
      rfl
    · rw [upd_ne hpd]
      exact hd'
    · rw [← em, ← show wv ws = Fs ts from funext hw]
      refine paired_imp (fun kv w' z => ⟨z.1, ?_⟩) dw'
      obtain ⟨pp, dx', h1, h2⟩ := z.2
      refine ⟨pp, dx', h1, ?_⟩
      have : pp ≠ p := fun z => by
        rw [z, e03 _ _ hp] at h2
        injection h2 with h2
        injection h2 with _ _ h2
        cases h2
      rw [upd_ne this]
      exact h2
end
end P

namespace P
open PySem L2 NS

/-! ### what is done with questions -/
def spAsQ (CQ C : Addr) : Sp := fun vs H Q _ => ∃ v ws, vs = [v] ∧ IsQ CQ C H v ws ∧ Q v H
def spAddQ (CQ C : Addr) : Sp := fun vs H Q _ => ∃ v1 v2 ws1 ws2 b, vs = [v1, v2] ∧ IsQ CQ C H v1 ws1 ∧ IsQ CQ C H v2 ws2 ∧ TsOk b (tmW ws1 ++ tmW ws2) ∧ ∀ v' H', Ext H H' → IsQ CQ C H' v' (mkQ (tmW ws1 ++ tmW ws2)) → Q v' H'
def spNegQ (CQ C : Addr) : Sp := fun vs H Q _ => ∃ v ws b, vs = [v] ∧ IsQ CQ C H v ws ∧ TsOk b (negT (tmW ws)) ∧ ∀ v' H', Ext H H' → IsQ CQ C H' v' (mkQ (negT (tmW ws))) → Q v' H'
def spSubQ (CQ C : Addr) : Sp := fun vs H Q _ => ∃ v1 v2 ws1 ws2 b b2, vs = [v1, v2] ∧ IsQ CQ C H v1 ws1 ∧ IsQ CQ C H v2 ws2 ∧ TsOk b (negT (tmW ws2)) ∧ TsOk b2 (tmW ws1 ++ tmW (mkQ (negT (tmW ws2)))) ∧
  ∀ v' H', Ext H H' → IsQ CQ C H' v' (mkQ (tmW ws1 ++ tmW (mkQ (negT (tmW ws2))))) → Q v' H'
def spOfKey (CQ C : Addr) : Sp := fun vs H Q _ => ∃ s : Str, vs = [.ref CQ, .str s] ∧ Nm s ∧ ∀ v' H', Ext H H' → IsQ CQ C H' v' (mkQ [(1, [s])]) → Q v' H'
def spConst (CQ C : Addr) : Sp := fun vs H Q _ => ∃ n q, vs = [.ref CQ, n] ∧ IsNum C H n q ∧ Sz 1000 q ∧ ∀ v' H', Ext H H' → IsQ CQ C H' v' (mkQ [(q, [])]) → Q v' H'
def spTerms (CQ C : Addr) : Sp := fun vs H Q _ => ∃ v ws, vs = [v] ∧ IsQ CQ C H v ws ∧ ws.length ≤ 1000 ∧ ∀ l ts H', Ext H H' → H l = none → H' l = some (.lst (ts.map V.ref)) → Paired (TolT C H') ts ws → Q (.ref l) H'
theorem tmW_len (ws : Wts) : (tmW ws).length = ws.length := List.length_map _
theorem paired_app {α β : Type} {F : α → β → Prop} : ∀ {xs : List α} {ys : List β} {us : List α} {vs : List β}, Paired F xs ys → Paired F us vs → Paired F (xs ++ us) (ys ++ vs)
  | _, _, _, _, .nil, k => k
  | _, _, _, _, .cons a b, k => .cons a (paired_app b k)
section
variable {P : Program} {w : World} {K : PySem.W.Frag} {mg : Str → Option Value} {base : Heap} {a : Ad}
theorem B_as_question (T : Txt K mg a) : Binds K a.d_as_question ["value"] [] := T.as_question.F.binds fun _ _ _ _ _ _ us hl => match us, hl with | [_], _ => rfl
theorem ok_as_question (T : Txt K mg a) : FnOk P w K mg base CX0 9 a.as_question a.d_as_question ["value"] (spAsQ a.Question a.Ratio) := by
  have G_is_number := ok_is_number (P := P) (w := w) (base := base) T
  have b_is_number := B_is_number T
  have G_Question_init := ok_Question_init (P := P) (w := w) (base := base) T
  have M_Question := Mk_Question T
  have b_Question1 := B_Question1 T
  refine T.as_question.F.ok sc_as_question (fun vs H Q E h => ?_) (fun cdv A outer s H vs Q E hr h => ?_)
  · obtain ⟨v, ws, rfl, _⟩ := h
    rfl
  · obtain ⟨v, ws, rfl, ⟨p, dx, d, kvs, rfl, hp, hd, dw⟩, h⟩ := h
    refine ⟨_, (pss_cons (ps_if (pt_val (pe_callB call_isi (by rfl) T.b_isinstance (by decide +kernel) (pa_cons (pv 0) (pa_cons (pe_glob (v := .ref a.Question) (by rfl) T.Question.g rfl) pa_nil)))) (pss_one (ps_ret (pv 0))) pss_nil)
      (pss_cons (ps_if (pt_not (pt_val (pe_call G_is_number (hr.mono (by decide)) (by rfl) T.is_number.g T.is_number.F.kp b_is_number .nil pass0 (pa_cons (pv 0) pa_nil)))) (pss_one ps_never) pss_nil)
      (pss_one (ps_ret (pe_make M_Question G_Question_init (hr.mono (by decide)) (by rfl) T.Question.g b_Question1 .nil pass0 (pa_cons (pe_lst (pa_cons (pe_tup (pa_cons (pv 0) (pa_cons (pe_tup pa_nil) pa_nil))) pa_nil)) pa_nil)))))), ?_⟩
    exact ⟨_, rfl, _, _, _, _, _, rfl, .own _, T.Question.ty hp, T.Question.k_own, _, rfl, iteT ⟨_, rfl, h⟩⟩
theorem B_Question_terms (T : Txt K mg a) : Binds K a.d_Question_terms ["self"] [] := T.Question_terms.F.binds fun _ _ _ _ _ _ us hl => match us, hl with | [_], _ => rfl
theorem ok_Question_terms (T : Txt K mg a) : FnOk P w K mg base CX0 2 a.Question_terms a.d_Question_terms ["self"] (spTerms a.Question a.Ratio) := by
  have G_told_terms := ok_told_terms (P := P) (w := w) (base := base) T
  have b_told_terms := B_told_terms T
  refine T.Question_terms.F.ok sc_Question_terms (fun vs H Q E h => ?_) (fun cdv A outer s H vs Q E hr h => ?_)
  · obtain ⟨v, ws, rfl, _⟩ := h
    rfl
  · obtain ⟨v, ws, rfl, ⟨p, dx, d, kvs, rfl, hp, hd, dw⟩, hl, h⟩ := h
    refine ⟨_, (pss_one (ps_ret (pe_call G_told_terms (hr.mono (by decide)) (by rfl) T.told_terms.g T.told_terms.F.kp b_told_terms .nil pass0 (pa_cons (pe_fld (pv 0) rfl) pa_nil)))), ?_⟩
    exact ⟨_, rfl, p, _, dx, _, _, rfl, hp, T.Question.cls, T.no_Question_own_weights, rfl, d, kvs, ws, rfl, hd, dw, hl, h⟩
theorem B_Question_add (T : Txt K mg a) : Binds K a.d_Question_add ["self", "other"] [] := T.Question_add.F.binds fun _ _ _ _ _ _ us hl => match us, hl with | [_, _], _ => rfl
theorem ok_Question_add (T : Txt K mg a) : FnOk P w K mg base CX0 10 a.Question_add a.d_Question_add ["self", "other"] (spAddQ a.Question a.Ratio) := by
  have G_told_terms := ok_told_terms (P := P) (w := w) (base := base) T
  have b_told_terms := B_told_terms T
  have G_as_question := ok_as_question (P := P) (w := w) (base := base) T
  have b_as_question := B_as_question T
  have G_Question_init := ok_Question_init (P := P) (w := w) (base := base) T
  have M_Question := Mk_Question T
  have b_Question1 := B_Question1 T
  refine T.Question_add.F.ok sc_Question_add (fun vs H Q E h => ?_) (fun cdv A outer s H vs Q E hr h => ?_)
  · obtain ⟨v1, v2, ws1, ws2, b, rfl, _⟩ := h
    rfl
  · obtain ⟨v1, v2, ws1, ws2, b, rfl, ⟨p, dx, d, kvs, rfl, hp, hd, dw⟩, h2, ok, h⟩ := h
    refine ⟨_, (pss_cons (ps_set (i := 2) sc_Question_add.nd rfl (.inl rfl) (pe_call G_as_question (hr.mono (by decide)) (by rfl) T.as_question.g T.as_question.F.kp b_as_question .nil pass0 (pa_cons (pv 1) pa_nil)))
      (pss_one (ps_ret (pe_make M_Question G_Question_init (hr.mono (by decide)) (by rfl) T.Question.g b_Question1 .nil pass0 (pa_cons (pe_op op_cat (pe_call G_told_terms (hr.mono (by decide)) (by rfl) T.told_terms.g T.told_terms.F.kp b_told_terms .nil pass0 (pa_cons (pe_fld (pv 0) rfl) pa_nil)) (pe_call G_told_terms (hr.mono (by decide)) (by rfl) T.told_terms.g T.told_terms.F.kp b_told_terms .nil pass0 (pa_cons (pe_fld (pv 2) rfl) pa_nil))) pa_nil))))), ?_⟩
    have l12 := ok.few
    rw [List.length_append, tmW_len, tmW_len] at l12
    refine ⟨_, rfl, v2, ws2, rfl, h2, ?_⟩
    obtain ⟨p2, dx2, d2, kvs2, rfl, hp2, hd2, dw2⟩ := h2
    refine ⟨_, rfl, p, _, dx, _, _, rfl, hp, T.Question.cls, T.no_Question_own_weights, rfl, d, kvs, ws1, rfl, hd, dw, by omega, fun l1 ts1 H1 e1 _ hl1 hp1 => ?_⟩
    refine ⟨_, rfl, p2, _, dx2, _, _, rfl, e1 _ _ hp2, T.Question.cls, T.no_Question_own_weights, rfl, d2, kvs2, ws2, rfl, e1 _ _ hd2, dw2.ext e1, by omega, fun l2 ts2 H2 e2 _ hl2 hp3 => ?_⟩
    have q1 := paired_len hp1
    have q2 := paired_len hp3
    refine ⟨l1, l2, _, _, rfl, rfl, e2 _ _ hl1, hl2, Nat.le_trans (m := 1000) (by rw [List.length_map, List.length_map]; omega) (by decide), fun l3 hl3 => ?_⟩
    have e3 := Ext.upd (o := .lst (ts1.map V.ref ++ ts2.map V.ref)) hl3
    refine rd_Q (b := b) ⟨_, ⟨l3, rfl, .inl (SqL.of upd_same)⟩, ?_⟩ ok fun v' H3 e4 hq => h v' H3 ((e1.trans e2).trans (e3.trans e4)) hq
    exact paired_app (paired_maps (f := V.ref) (g := fun w : Pd × Rat => (w.2, w.1)) (fun x y z => ((TolT.ext z e2).ext e3).at) hp1) (paired_maps (f := V.ref) (g := fun w : Pd × Rat => (w.2, w.1)) (fun x y z => (TolT.ext z e3).at) hp3)
theorem B_Question_neg (T : Txt K mg a) : Binds K a.d_Question_neg ["self"] [] := T.Question_neg.F.binds fun _ _ _ _ _ _ us hl => match us, hl with | [_], _ => rfl
theorem ok_Question_neg (T : Txt K mg a) : FnOk P w K mg base CX0 9 a.Question_neg a.d_Question_neg ["self"] (spNegQ a.Question a.Ratio) := by
  have G_Ratio_neg := ok_Ratio_neg (P := P) (w := w) (base := base) T
  have b_Ratio_neg := B_Ratio_neg T
  have G_Question_init := ok_Question_init (P := P) (w := w) (base := base) T
  have M_Question := Mk_Question T
  have b_Question1 := B_Question1 T
  refine T.Question_neg.F.ok sc_Question_neg (fun vs H Q E h => ?_) (fun cdv A outer s H vs Q E hr h => ?_)
  · obtain ⟨v1, ws1, b, rfl, _⟩ := h
    rfl
  · obtain ⟨v1, ws, b, rfl, ⟨p, dx, d, kvs, rfl, hp, hd, dw⟩, ok, h⟩ := h
    refine ⟨_, (pss_one (ps_ret (pe_make M_Question G_Question_init (hr.mono (by decide)) (by rfl) T.Question.g b_Question1 .nil pass0 (pa_cons (pe_lock (pe_lc (own := [("product", 1), ("weight", 2)]) (g := gTup K 2 (gCons (gName 1) (gCons (gName 2) gNil))) (by rfl) sc_Question_neg.nd (pi_itemsT (pe_fld (pv 0) rfl)) (blkOk_by (N := ["self", "product", "weight"]) (sc := defScope s_Question_neg) (by decide +kernel)) (fun _ _ _ _ _ => (pg_tup rfl (pgs_cons (pg_name (i := 1) sc_Question_neg.nd rfl (.inl rfl) (.inr rfl)) (pgs_cons (pg_name (i := 2) sc_Question_neg.nd rfl (.inl rfl) (.inr rfl)) pgs_nil)))) (fun _ _ _ _ _ => pts_nil) (fun _ _ _ _ _ => (pe_tup (pa_cons (pe_un (un_own T.O_Ratio_neg (Runs.of G_Ratio_neg b_Ratio_neg (hr.mono (by decide)) rfl)) (pv 2)) (pa_cons (pv 1) pa_nil)))))) pa_nil)))), ?_⟩
    have hl := ok.few
    rw [show (negT (tmW ws)).length = ws.length by unfold negT tmW; rw [List.length_map, List.length_map]] at hl
    refine ⟨d, _, hd, trivial, fun od => ?_⟩
    have hf : upd H d (.frz od (.dT kvs)) d = some (.frz od (.dT kvs)) := upd_same
    have dw0 : DW a.Ratio (upd H d (.frz od (.dT kvs))) kvs ws := paired_imp (fun kv w z => ⟨z.1, by
      obtain ⟨pp, dx, h1, h2⟩ := z.2
      refine ⟨pp, dx, h1, ?_⟩
      rw [upd_ne (ne_of h2 hd (fun y => nomatch y))]
      exact h2⟩) dw
    have hpd : p ≠ d := ne_of hp hd (fun z => nomatch z)
    have hp0 : upd H d (.frz od (.dT kvs)) p = some (.ins a.Question dx [("own_weights", .ref d)]) := by rw [upd_ne hpd]; exact hp
    generalize hH0 : upd H d (.frz od (.dT kvs)) = H0 at *
    refine ⟨_, rfl, p, _, dx, _, _, rfl, hp0, T.Question.cls, T.no_Question_own_weights, rfl, d, od, kvs, rfl, hf, fun D hD => ?_⟩
    refine lc_it walk_itemsT (fun i H' => Ext H0 H' ∧ ∃ ts, H' D = some (.lst (ts.map V.ref)) ∧ ts.length = i ∧ Paired (TolT a.Ratio H') ts ((ws.take i).map fun w => (w.1, -w.2))) ⟨ext_put Ext.rfl' hD, [], upd_same, rfl, .nil⟩ (fun i H' _ q => q.1 _ _ hf) ?_ ?_
    · rintro i x H' H'' hi ⟨e0, ts, hts, hlt, hpt⟩ ⟨tq, q, k, v, hk, rfl, hT, hq, rfl⟩
      obtain ⟨w', hw', hkw, hv⟩ := pair_at dw0 hk
      subst hkw
      have e1 := Ext.upd (o := .tup [.ref q, v]) hT
      have et : (ws.take (i + 1)).map (fun w => (w.1, -w.2)) = (ws.take i).map (fun w => (w.1, -w.2)) ++ [(w'.1, -w'.2)] := by rw [List.take_add_one, hw', List.map_append]; rfl
      have il : i < 1000 := by
        have : i < ws.length := (List.getElem?_eq_some_iff.mp hw').1
        omega
      have sz : Sz 9000 w'.2 := by
        have := (ok.tm (-w'.2, w'.1) (List.mem_map.mpr ⟨(w'.2, w'.1), List.mem_map.mpr ⟨w', List.mem_of_getElem? hw', rfl⟩, rfl⟩)).sz
        have := sz_neg this
        rw [Rat.neg_neg] at this
        exact this.mono (Nat.le_trans ok.bb (by decide))
      have hv1 := hv.ext (e0.trans e1)
      refine ⟨tq, _, rfl, SqT.of upd_same, rfl, _, _, rfl, _, _, rfl, rfl, rfl, yes_of ?_⟩
      obtain ⟨pp, dxx, rfl, hpp⟩ := id hv1
      refine ⟨_, rfl, pp, dxx, _, rfl, hpp, _, _, rfl, hv1, sz, fun v' H2 e2 hv' => ?_⟩
      refine ⟨_, rfl, (by show 2 ≤ sizeLine; decide), fun t ht => ?_⟩
      have e3 := Ext.upd (o := .tup [v', .ref q]) ht
      have e13 := (e1.trans e2).trans e3
      have h3 := e13 _ _ hts
      refine ⟨_, h3, Nat.lt_of_lt_of_le (by rw [List.length_map, hlt]; exact il) (by decide), ext_put (e0.trans e13) hD, ts ++ [t], ?_, by rw [List.length_append, hlt]; rfl, ?_⟩
      · rw [upd_same, List.map_append]
        rfl
      · rw [et]
        refine paired_snoc (paired_imp (fun _ _ z => (z.ext e13).put h3) hpt) (TolT.put ⟨v', q, upd_same, hv'.ext e3, ?_⟩ h3)
        have := e13 _ _ hq
        rw [kk_v] at this
        exact this
    · rintro H' ⟨e0, ts, hts, hlt, hpt⟩
      have hdf := e0 _ _ hf
      rw [dw0.len, List.take_length] at hpt
      have hne : D ≠ d := fun z => by rw [← z] at hf; rw [hD] at hf; cases hf
      subst hH0
      refine ⟨hdf, ?_⟩
      have hpt' : Paired (TolT a.Ratio (upd H' d (.dT kvs))) ts (ws.map fun w => (w.1, -w.2)) := paired_imp (fun t p z => by
        obtain ⟨u, q, h1, ⟨pp, dx, h2, h3⟩, h4⟩ := z
        refine ⟨u, q, ?_, ⟨pp, dx, h2, ?_⟩, ?_⟩
        · rw [upd_ne (ne_of h1 hdf (fun y => nomatch y))]
          exact h1
        · rw [upd_ne (ne_of h3 hdf (fun y => nomatch y))]
          exact h3
        · show upd H' d _ q = _
          rw [upd_ne (ne_of h4 hdf (fun y => nomatch y))]
          exact h4) hpt
      have hts' : upd H' d (.dT kvs) D = some (.lst (ts.map V.ref)) := by rw [upd_ne hne]; exact hts
      have em : tmW (ws.map fun w => (w.1, -w.2)) = negT (tmW ws) := by
        unfold tmW negT
        rw [List.map_map, List.map_map]
        rfl
      have ht := tol_terms (K := K) hts' hpt'
      rw [em] at ht
      exact rd_Q ht ok fun v' H3 e4 hq => h v' H3 ((ext_unlock hd e0).trans e4) hq
theorem B_Question_sub (T : Txt K mg a) : Binds K a.d_Question_sub ["self", "other"] [] := T.Question_sub.F.binds fun _ _ _ _ _ _ us hl => match us, hl with | [_, _], _ => rfl
theorem ok_Question_sub (T : Txt K mg a) : FnOk P w K mg base CX0 11 a.Question_sub a.d_Question_sub ["self", "other"] (spSubQ a.Question a.Ratio) := by
  have G_Question_neg := ok_Question_neg (P := P) (w := w) (base := base) T
  have b_Question_neg := B_Question_neg T
  have G_Question_add := ok_Question_add (P := P) (w := w) (base := base) T
  have b_Question_add := B_Question_add T
  have G_as_question := ok_as_question (P := P) (w := w) (base := base) T
  have b_as_question := B_as_question T
  refine T.Question_sub.F.ok sc_Question_sub (fun vs H Q E h => ?_) (fun cdv A outer s H vs Q E hr h => ?_)
  · obtain ⟨v1, v2, ws1, ws2, b, b2, rfl, _⟩ := h
    rfl
  · obtain ⟨v1, v2, ws1, ws2, b, b2, rfl, h1, h2, ok, ok2, h⟩ := h
    refine ⟨_, (pss_one (ps_ret (pe_op (op_own T.O_Question_add (Runs.of G_Question_add b_Question_add (hr.mono (by decide)) rfl)) (pv 0) (pe_un (un_own T.O_Question_neg (Runs.of G_Question_neg b_Question_neg (hr.mono (by decide)) rfl)) (pe_call G_as_question (hr.mono (by decide)) (by rfl) T.as_question.g T.as_question.F.kp b_as_question .nil pass0 (pa_cons (pv 1) pa_nil)))))), ?_⟩
    refine ⟨_, rfl, _, rfl, v2, ws2, rfl, h2, ?_⟩
    obtain ⟨p2, dx2, d2, kvs2, rfl, hp2, hd2, dw2⟩ := id h2
    refine ⟨p2, dx2, _, rfl, hp2, _, ws2, b, rfl, h2, ok, fun v' H1 e1 hq => ?_⟩
    obtain ⟨p, dx, d, kvs, rfl, hp, hd, dw⟩ := h1.ext e1
    obtain ⟨p3, dx3, d3, kvs3, rfl, hp3, hd3, dw3⟩ := id hq
    exact ⟨p, dx, _, rfl, hp, .inr ⟨p3, dx3, _, rfl, hp3⟩, _, _, ws1, _, b2, rfl, h1.ext e1, hq, ok2, fun v' H2 e2 hq2 => h v' H2 (e1.trans e2) hq2⟩
theorem B_Question_of_key (T : Txt K mg a) : Binds K a.d_Question_of_key ["cls", "key"] [] := T.Question_of_key.binds fun _ _ _ _ _ _ us hl => match us, hl with | [_, _], _ => rfl
theorem ok_Question_of_key (T : Txt K mg a) : FnOk P w K mg base CX0 9 a.Question_of_key a.d_Question_of_key ["cls", "key"] (spOfKey a.Question a.Ratio) := by
  have G_is_key := ok_is_key (P := P) (w := w) (base := base) T
  have b_is_key := B_is_key T
  have G_Question_init := ok_Question_init (P := P) (w := w) (base := base) T
  have M_Question := Mk_Question T
  have b_Question1 := B_Question1 T
  refine T.Question_of_key.ok sc_Question_of_key (fun vs H Q E h => ?_) (fun cdv A outer s H vs Q E hr h => ?_)
  · obtain ⟨z, rfl, _⟩ := h
    rfl
  · obtain ⟨z, rfl, hz, h⟩ := h
    refine ⟨_, (pss_cons (ps_if (pt_not (pt_val (pe_call G_is_key (hr.mono (by decide)) (by rfl) T.is_key.g T.is_key.F.kp b_is_key .nil pass0 (pa_cons (pv 1) pa_nil)))) (pss_one ps_never) pss_nil)
      (pss_one (ps_ret (pe_makeL (i := 0) M_Question G_Question_init (hr.mono (by decide)) (by rfl) (.inl rfl) b_Question1 .nil pass0 (pa_cons (pe_lst (pa_cons (pe_tup (pa_cons pe_int (pa_cons (pe_tup (pa_cons (pv 1) pa_nil)) pa_nil))) pa_nil)) pa_nil))))), ?_⟩
    refine ⟨_, rfl, z, rfl, hz, fun H1 e1 => ⟨_, rfl, iteF ⟨rfl, ?_⟩⟩⟩
    refine ⟨_, rfl, (by show 1 ≤ sizeLine; decide), fun t1 ht1 => ?_⟩
    have e2 := Ext.upd (o := .tup [.str z]) ht1
    refine ⟨(by show 2 ≤ sizeLine; decide), fun t2 ht2 => ⟨(by show 1 ≤ sizeLine; decide), fun l hl => ?_⟩⟩
    have e3 := Ext.upd (o := .tup [.int 1, .ref t1]) ht2
    have e4 := Ext.upd (o := .lst [.ref t2]) hl
    refine rd_Q (b := 8) (ts := [(1, [z])]) ⟨[.ref t2], ⟨l, rfl, .inl (SqL.of upd_same)⟩, .cons ⟨t2, .int 1, .ref t1, rfl, SqT.of (e4 _ _ upd_same), .inl ⟨1, rfl, rfl⟩, t1, rfl, .inr (SqT.of (e4 _ _ (e3 _ _ upd_same)))⟩ .nil⟩ ?_ fun v' H2 e5 hq => h v' H2 ((e1.trans (e2.trans (e3.trans e4))).trans e5) hq
    refine TsOk.of (fun t ht => ?_) (by decide) (by decide) (by show 1 * (8 + 1) + 1 ≤ 4000; decide)
    rw [List.mem_singleton.mp ht]
    exact ⟨fun s hs => by rw [List.mem_singleton.mp hs]; exact hz, by show 1 ≤ 100; decide, sz_int (i := 1) (by decide) (by decide)⟩
theorem B_Question_constant (T : Txt K mg a) : Binds K a.d_Question_constant ["cls", "number"] [] := T.Question_constant.binds fun _ _ _ _ _ _ us hl => match us, hl with | [_, _], _ => rfl
theorem ok_Question_constant (T : Txt K mg a) : FnOk P w K mg base CX0 9 a.Question_constant a.d_Question_constant ["cls", "number"] (spConst a.Question a.Ratio) := by
  have G_is_number := ok_is_number (P := P) (w := w) (base := base) T
  have b_is_number := B_is_number T
  have G_Question_init := ok_Question_init (P := P) (w := w) (base := base) T
  have M_Question := Mk_Question T
  have b_Question1 := B_Question1 T
  refine T.Question_constant.ok sc_Question_constant (fun vs H Q E h => ?_) (fun cdv A outer s H vs Q E hr h => ?_)
  · obtain ⟨n, q, rfl, _⟩ := h
    rfl
  · obtain ⟨n, q, rfl, hn, hz, h⟩ := h
    refine ⟨_, (pss_cons (ps_if (pt_not (pt_val (pe_call G_is_number (hr.mono (by decide)) (by rfl) T.is_number.g T.is_number.F.kp b_is_number .nil pass0 (pa_cons (pv 1) pa_nil)))) (pss_one ps_never) pss_nil)
      (pss_one (ps_ret (pe_makeL (i := 0) M_Question G_Question_init (hr.mono (by decide)) (by rfl) (.inl rfl) b_Question1 .nil pass0 (pa_cons (pe_lst (pa_cons (pe_tup (pa_cons (pv 1) (pa_cons (pe_tup pa_nil) pa_nil))) pa_nil)) pa_nil))))), ?_⟩
    refine ⟨_, rfl, n, q, rfl, hn, _, rfl, iteF ⟨rfl, ?_⟩⟩
    refine ⟨_, rfl, (by show 0 ≤ sizeLine; decide), fun t1 ht1 => ?_⟩
    have e2 := Ext.upd (o := .tup []) ht1
    refine ⟨(by show 2 ≤ sizeLine; decide), fun t2 ht2 => ⟨(by show 1 ≤ sizeLine; decide), fun l hl => ?_⟩⟩
    have e3 := Ext.upd (o := .tup [n, .ref t1]) ht2
    have e4 := Ext.upd (o := .lst [.ref t2]) hl
    refine rd_Q (b := 1000) (ts := [(q, [])]) ⟨[.ref t2], ⟨l, rfl, .inl (SqL.of upd_same)⟩, .cons ⟨t2, n, .ref t1, rfl, SqT.of (e4 _ _ upd_same), hn.ext (e2.trans (e3.trans e4)), t1, rfl, .inr (SqT.of (e4 _ _ (e3 _ _ upd_same)))⟩ .nil⟩ ?_ fun v' H2 e5 hq => h v' H2 ((e2.trans (e3.trans e4)).trans e5) hq
    refine TsOk.of (fun t ht => ?_) (by decide) (by decide) (by show 1 * (1000 + 1) + 1 ≤ 4000; decide)
    rw [List.mem_singleton.mp ht]
    exact ⟨fun s hs => (by cases hs), by show 0 ≤ 100; decide, hz⟩
end
end P

namespace P
open PySem L2 NS

/-! ### texts -/
abbrev emp : Str := Str.ofString ""
def numN (n b : Int) : Str := if b = 1 then tx n else tx n ++ Str.ofString "/" ++ tx b
def keyT (t : Str) (p : Pd) : Str := p.foldl (fun t k => if t = emp then k else t ++ Str.ofString "*" ++ k) t
def onesT (n b : Int) (p : Pd) : Str := if p ≠ [] ∧ numN n b = Str.ofString "1" then emp else numN n b
def plainN (n b : Int) (p : Pd) : Str := keyT (onesT n b p) p
theorem numN_len {n b : Int} (hn : n.natAbs.log2 < 1920) (hb : b.natAbs.log2 < 1920) : (numN n b).length ≤ 3843 := by
  unfold numN
  have := tx_len hn
  have := tx_len hb
  split
  · omega
  · rw [strLen_append, strLen_append, show (Str.ofString "/").length = 1 from rfl]
    omega
theorem onesT_len {n b : Int} {p : Pd} (hn : n.natAbs.log2 < 1920) (hb : b.natAbs.log2 < 1920) : (onesT n b p).length ≤ 3843 := by
  unfold onesT
  split
  · exact Nat.zero_le _
  · exact numN_len hn hb
theorem keyT_snoc {t : Str} {p : Pd} {k : Str} : keyT t (p ++ [k]) = if keyT t p = emp then k else keyT t p ++ Str.ofString "*" ++ k := by
  unfold keyT
  rw [List.foldl_append]
  rfl
theorem keyT_len : ∀ {p : Pd} {t : Str}, (∀ s, s ∈ p → s.length ≤ 8) → (keyT t p).length ≤ t.length + 9 * p.length
  | [], t, _ => Nat.le_refl _
  | k :: p, t, h => by
    show (keyT (if t = emp then k else t ++ Str.ofString "*" ++ k) p).length ≤ _
    have h1 := keyT_len (p := p) (t := if t = emp then k else t ++ Str.ofString "*" ++ k) fun s hs => h s (.tail _ hs)
    have h2 := h k (.head _)
    have h3 : (if t = emp then k else t ++ Str.ofString "*" ++ k).length ≤ t.length + 9 := by
      split
      · omega
      · rw [strLen_append, strLen_append, show (Str.ofString "*").length = 1 from rfl]
        omega
    rw [List.length_cons]
    omega
theorem plainN_len {n b : Int} {p : Pd} (hn : n.natAbs.log2 < 1920) (hb : b.natAbs.log2 < 1920) (hp : Nms p) (hl : p.length ≤ 100) : (plainN n b p).length ≤ 4743 := by
  have h1 := keyT_len (p := p) (t := onesT n b p) fun s hs => (hp s hs).most
  have h2 := onesT_len (p := p) hn hb
  unfold plainN
  omega
theorem nm_str {s : Str} (h : Nm s) : PyData.strOk s = true := by
  unfold PyData.strOk
  rw [Array.all_eq_true_iff_forall_mem]
  intro c hc
  have := h.all c (Array.mem_toList_iff.mpr hc)
  unfold sig at this
  simp only [Bool.and_eq_true, decide_eq_true_eq]
  omega
theorem pln_keys {p : Pd} (h : Nms p) : Pln 1 (.tuple (p.map PyData.str)) := pln_tuple fun d hd => by
  obtain ⟨s, hs, rfl⟩ := List.mem_map.mp hd
  exact pln_str (nm_str (h s hs))
theorem dp_keys {K : PySem.W.Frag} {H : Hp} {q : Addr} {p : Pd} (h : Pt H q p) : Dp K H (.ref q) (.tuple (p.map PyData.str)) := .tup (SqT.of h) (dpAll_map fun x _ => .str x)
def spTermText : Sp := fun vs H Q _ => ∃ (n b : Int) (q : Addr) (p : Pd), vs = [.int n, .int b, .ref q] ∧ n.natAbs.log2 < 1920 ∧ b.natAbs.log2 < 1920 ∧ Pt H q p ∧ Nms p ∧ p.length ≤ 100 ∧ ∀ H', Ext H H' → Q (.str (plainN n b p)) H'
def absN (i : Int) : Int := if i < 0 then -i else i
def plQ (w : Pd × Rat) : Str := plainN (absN w.2.num) (w.2.den : Int) w.1
def stepT (t : Str) (w : Pd × Rat) : Str := if t = emp then (if w.2.num < 0 then Str.ofString "-" ++ plQ w else plQ w) else (if w.2.num < 0 then t ++ Str.ofString " - " ++ plQ w else t ++ Str.ofString " + " ++ plQ w)
def runT (ws : Wts) : Str := ws.foldl stepT emp
def qTxt (ws : Wts) : Str := if runT ws.reverse ≠ emp then runT ws.reverse else Str.ofString "0"
theorem absN_log {q : Rat} (h : Sz 1900 q) : (absN q.num).natAbs.log2 < 1920 := by
  have := (h.mono (show 1900 ≤ 1920 by decide)).top.log (by decide)
  unfold absN
  split
  · rw [Int.natAbs_neg]
    exact this
  · exact this
theorem plQ_len {w : Pd × Rat} (h : TmOk 1900 (w.2, w.1)) : (plQ w).length ≤ 4743 := plainN_len (absN_log h.sz) ((h.sz.mono (show 1900 ≤ 1920 by decide)).bot.log (by decide)) h.nm h.few
theorem stepT_len {t : Str} {w : Pd × Rat} (h : TmOk 1900 (w.2, w.1)) : (stepT t w).length ≤ t.length + 4746 := by
  have := plQ_len h
  unfold stepT
  split
  · split
    · rw [strLen_append, show (Str.ofString "-").length = 1 from rfl]
      omega
    · omega
  · split
    · rw [strLen_append, strLen_append, show (Str.ofString " - ").length = 3 from rfl]
      omega
    · rw [strLen_append, strLen_append, show (Str.ofString " + ").length = 3 from rfl]
      omega
theorem runT_snoc {ws : Wts} {w : Pd × Rat} : runT (ws ++ [w]) = stepT (runT ws) w := by
  unfold runT
  rw [List.foldl_append]
  rfl
theorem runT_go : ∀ {ws : Wts} {t : Str}, (∀ w, w ∈ ws → TmOk 1900 (w.2, w.1)) → (ws.foldl stepT t).length ≤ t.length + 4746 * ws.length
  | [], t, _ => Nat.le_refl _
  | w :: ws, t, h => by
    have h1 := runT_go (ws := ws) (t := stepT t w) fun u hu => h u (.tail _ hu)
    have h2 := stepT_len (t := t) (h w (.head _))
    rw [List.foldl_cons, List.length_cons]
    omega
theorem runT_len {ws : Wts} (h : ∀ w, w ∈ ws → TmOk 1900 (w.2, w.1)) : (runT ws).length ≤ 4746 * ws.length := by
  have := runT_go (t := emp) h
  rw [show (emp : Str).length = 0 from rfl] at this
  unfold runT
  omega
theorem paired_rev {α β : Type} {F : α → β → Prop} : ∀ {xs : List α} {ys : List β}, Paired F xs ys → Paired F xs.reverse ys.reverse
  | _, _, .nil => .nil
  | _, _, .cons a b => by
    rw [List.reverse_cons, List.reverse_cons]
    exact paired_snoc (paired_rev b) a
theorem paired_zip {α β γ : Type} {F : α → β → Prop} {G : α → γ → Prop} : ∀ {xs : List α} {ys : List β} {zs : List γ}, Paired F xs ys → Paired G xs zs → Paired (fun y z => ∃ x, F x y ∧ G x z) ys zs
  | _, _, _, .nil, .nil => .nil
  | _, _, _, .cons a b, .cons c d => .cons ⟨_, a, c⟩ (paired_zip b d)
def spQT (C : Addr) : Sp := fun vs H Q _ => ∃ d kvs ws, vs = [.ref d] ∧ H d = some (.dT kvs) ∧ DW C H kvs ws ∧ (ws.map (·.1)).Nodup ∧ ws.length ≤ 1000 ∧ (∀ w, w ∈ ws → TmOk 1900 (w.2, w.1)) ∧ ∀ H', Ext H H' → Q (.str (qTxt ws)) H'
def spStrQ (CQ C : Addr) : Sp := fun vs H Q _ => ∃ v ws, vs = [v] ∧ IsQ CQ C H v ws ∧ (ws.map (·.1)).Nodup ∧ ws.length ≤ 1000 ∧ (∀ w, w ∈ ws → TmOk 1900 (w.2, w.1)) ∧ ∀ H', Ext H H' → Q (.str (qTxt ws)) H'
section
variable {P : Program} {w : World} {K : PySem.W.Frag} {mg : Str → Option Value} {base : Heap} {a : Ad}
theorem B_term_text (T : Txt K mg a) : Binds K a.d_term_text ["top", "bottom", "product"] [] := T.term_text.F.binds fun _ _ _ _ _ _ us hl => match us, hl with | [_, _, _], _ => rfl
theorem ok_term_text (T : Txt K mg a) : FnOk P w K mg base CX0 1 a.term_text a.d_term_text ["top", "bottom", "product"] spTermText := by
  refine T.term_text.F.ok sc_term_text (fun vs H Q E h => ?_) (fun cdv A outer s H vs Q E hr h => ?_)
  · obtain ⟨n, b, q, p, rfl, _⟩ := h
    rfl
  · obtain ⟨n, b, q, p, rfl, hn, hb, hq, hp, hl, h⟩ := h
    refine ⟨_, (pss_mid (ps_set (i := 3) sc_term_text.nd rfl (.inl rfl) (pe_ifExp (pt_cmpR op_eq (pv 1) pe_int (nomark _)) (pe_callTy call_str_int (by rfl) T.b_str (by decide +kernel) (pa_cons (pv 0) pa_nil)) (pe_joined (.cons (pe_fmt (pv 0)) (.cons pe_str (.cons (pe_fmt (pv 1)) PJ.nil))))))
      (pss_mid (ps_if (PW.pt (pw_and (pt_cmpR (op_neD (hu64 hr)) (pv 2) (pe_tup pa_nil) (nomark _)) (pw_and1 (pt_cmpR op_eq (pv 3) pe_str (nomark _))))) (pss_one (ps_set (i := 3) sc_term_text.nd rfl (.inl rfl) pe_str)) pss_nil)
      (pss_cons (ps_for PassesOwn.never rfl (pi_tup (pv 2)) (pg_name (i := 4) sc_term_text.nd rfl (.inl rfl)) (pss_one (ps_set (i := 3) sc_term_text.nd rfl (.inl rfl) (pe_ifExp (pt_cmpR op_eq (pv 3) pe_str (nomark _)) (pv 4) (pe_joined (.cons (pe_fmt (pv 3)) (.cons pe_str (.cons (pe_fmt (pv 4)) PJ.nil))))))))
      (pss_one (ps_ret (pv 3)))))), ?_⟩
    have l1 := tx_len hn
    have l2 := tx_len hb
    have ll := line_ge
    have c1 : (Str.ofString "/").length = 1 := rfl
    refine ⟨fun σ H1 => H1 = H ∧ σ = [some (.int n), some (.int b), some (.ref q), some (.str (numN n b)), none], ?_, ?_⟩
    · refine ⟨_, rfl, rfl, _, rfl, ?_⟩
      by_cases h1 : b = 1
      · refine iteY (by simp [h1]) ⟨_, rfl, n, rfl, hn, rfl, ?_⟩
        unfold numN
        rw [if_pos h1]
        rfl
      · refine iteN (by simp [h1]) ?_
        refine ⟨_, rfl, .inr ⟨_, rfl, hn, _, rfl, ?_, _, rfl, ?_, ?_⟩⟩
        · rw [Str.empty_append]
          show (tx n).length ≤ _
          omega
        · rw [Str.empty_append, strLen_append, c1]
          show (tx n).length + 1 ≤ _
          omega
        refine ⟨_, rfl, .inr ⟨_, rfl, hb, _, rfl, ?_, rfl, ?_⟩⟩
        · rw [Str.empty_append, strLen_append, strLen_append, c1]
          show (tx n).length + 1 + (tx b).length ≤ _
          omega
        · rw [Str.empty_append]
          unfold numN
          rw [if_neg h1]
          rfl
    rintro σ H1 ⟨rfl, rfl⟩
    refine ⟨fun σ H2 => Ext H1 H2 ∧ σ = [some (.int n), some (.int b), some (.ref q), some (.str (onesT n b p)), none], ?_, ?_⟩
    · refine ⟨_, rfl, (by show 0 ≤ sizeLine; decide), fun tq htq => ?_⟩
      have e1 := Ext.upd (o := .tup []) htq
      refine ⟨.tuple (p.map PyData.str), .tuple [], dp_keys (e1 _ _ hq), .tup (SqT.of upd_same) .nil, (pln_keys hp).shaped (by decide), (by decide), _, rfl, ?_⟩
      unfold onesT
      cases p with
      | nil => exact iteN rfl ⟨e1, by simp⟩
      | cons k p =>
        refine iteY rfl ⟨_, rfl, rfl, _, rfl, ?_⟩
        by_cases h1 : numN n b = Str.ofString "1"
        · refine iteY (by simp [h1]) ⟨e1, ?_⟩
          rw [if_pos ⟨List.cons_ne_nil _ _, h1⟩]
          rfl
        · refine iteN (by simp [h1]) ⟨e1, ?_⟩
          rw [if_neg fun z => h1 z.2]
    rintro σ H2 ⟨e2, rfl⟩
    have hq2 := e2 _ _ hq
    refine ⟨_, rfl, q, rfl, ⟨_, SqT.of hq2⟩, ?_⟩
    refine for_tup (xs := p.map V.str) (fun i σ H' => H' = H2 ∧ ∃ x, σ = [some (.int n), some (.int b), some (.ref q), some (.str (keyT (onesT n b p) (p.take i))), x]) ⟨rfl, _, rfl⟩ (fun i σ H' _ z => by rw [z.1]; exact SqT.of hq2) ?_ ?_
    · rintro i x σ H' hx ⟨rfl, x1, rfl⟩
      rw [List.getElem?_map] at hx
      obtain ⟨k, hk, rfl⟩ := Option.map_eq_some_iff.mp hx
      have et : p.take (i + 1) = p.take i ++ [k] := by rw [List.take_add_one, hk]; rfl
      have kl := (hp k (List.mem_of_getElem? hk)).most
      have tl : (keyT (onesT n b p) (p.take i)).length ≤ 4743 := by
        have h1 := keyT_len (p := p.take i) (t := onesT n b p) fun s hs => (hp s (List.mem_of_mem_take hs)).most
        have h2 := onesT_len (p := p) hn hb
        have h3 : (p.take i).length ≤ p.length := by rw [List.length_take]; omega
        omega
      have cs : (Str.ofString "*").length = 1 := rfl
      refine ⟨_, rfl, rfl, _, rfl, ?_⟩
      by_cases h1 : keyT (onesT n b p) (p.take i) = emp
      · refine iteY (by simp [h1]) ⟨_, rfl, rfl, some (.str k), ?_⟩
        rw [et, keyT_snoc, if_pos h1]
        rfl
      · refine iteN (by simp [h1]) ⟨_, rfl, .inl ⟨_, rfl, by omega, _, rfl, ?_, _, rfl, ?_, _, rfl, .inl ⟨_, rfl, by omega, _, rfl, ?_, rfl, some (.str k), ?_⟩⟩⟩
        · rw [Str.empty_append]
          omega
        · rw [Str.empty_append, strLen_append, cs]
          omega
        · rw [Str.empty_append, strLen_append, strLen_append, cs]
          omega
        · rw [Str.empty_append, et, keyT_snoc, if_neg h1]
          rfl
    · rintro σ H' ⟨rfl, x, rfl⟩
      rw [List.length_map, List.take_length]
      exact ⟨_, rfl, h _ e2⟩
theorem B_question_text (T : Txt K mg a) : Binds K a.d_question_text ["weights"] [] := T.question_text.F.binds fun _ _ _ _ _ _ us hl => match us, hl with | [_], _ => rfl
theorem ok_question_text (T : Txt K mg a) : FnOk P w K mg base CX0 2 a.question_text a.d_question_text ["weights"] (spQT a.Ratio) := by
  have G_term_text := ok_term_text (P := P) (w := w) (base := base) T
  have b_term_text := B_term_text T
  refine T.question_text.F.ok sc_question_text (fun vs H Q E h => ?_) (fun cdv A outer s H vs Q E hr h => ?_)
  · obtain ⟨d, kvs, ws, rfl, _⟩ := h
    rfl
  · obtain ⟨d, kvs, ws, rfl, hd, dw, nd, hl, ok, h⟩ := h
    refine ⟨_, (pss_cons (ps_set (i := 1) sc_question_text.nd rfl (.inl rfl) pe_str)
      (pss_cons (ps_for PassesOwn.never rfl (pi_list (pe_revL (pe_callTy (call_list_dT rfl) (by rfl) T.b_list (by decide +kernel) (pa_cons (pv 0) pa_nil)))) (pg_name (i := 2) sc_question_text.nd rfl (.inl rfl)) (pss_cons (ps_set (i := 3) sc_question_text.nd rfl (.inl rfl) (pe_dget (hu_of hr) (pv 0) (pv 2) (fun _ _ => rfl)))
      (pss_cons (ps_set (i := 4) sc_question_text.nd rfl (.inl rfl) (pe_call G_term_text (hr.mono (by decide)) (by rfl) T.term_text.g T.term_text.F.kp b_term_text .nil pass0 (pa_cons (pe_callB call_abs (by rfl) T.b_abs (by decide +kernel) (pa_cons (pe_fld (pv 3) rfl) pa_nil)) (pa_cons (pe_fld (pv 3) rfl) (pa_cons (pv 2) pa_nil)))))
      (pss_one (ps_if (pt_cmpR op_eq (pv 1) pe_str (nomark _)) (pss_one (ps_set (i := 1) sc_question_text.nd rfl (.inl rfl) (pe_ifExp (pt_cmpR op_lt (pe_fld (pv 3) rfl) pe_int (nomark _)) (pe_joined (.cons pe_str (.cons (pe_fmt (pv 4)) PJ.nil))) (pv 4)))) (pss_one (ps_set (i := 1) sc_question_text.nd rfl (.inl rfl) (pe_ifExp (pt_cmpR op_lt (pe_fld (pv 3) rfl) pe_int (nomark _)) (pe_joined (.cons (pe_fmt (pv 1)) (.cons pe_str (.cons (pe_fmt (pv 4)) PJ.nil)))) (pe_joined (.cons (pe_fmt (pv 1)) (.cons pe_str (.cons (pe_fmt (pv 4)) PJ.nil))))))))))))
      (pss_one (ps_ret (pe_ifExp (pt_cmpR op_ne (pv 1) pe_str (nomark _)) (pv 1) pe_str))))), ?_⟩
    refine ⟨_, rfl, d, kvs, rfl, .inl hd, fun p1 bs hp1 hk => ⟨p1, _, rfl, SqL.of upd_same, fun p2 hp2 => ?_⟩⟩
    have e1 := Ext.upd (o := .lst (bs.map V.ref)) hp1
    have e2 := Ext.upd (o := .lst (bs.map V.ref).reverse) hp2
    have h2 : upd (upd H p1 (.lst (bs.map V.ref))) p2 (.lst (bs.map V.ref).reverse) p2 = some (.lst (bs.reverse.map V.ref)) := by rw [upd_same, List.map_reverse]
    generalize upd (upd H p1 (.lst (bs.map V.ref))) p2 (.lst (bs.map V.ref).reverse) = H2 at *
    have e02 := e1.trans e2
    have hb := paired_rev (paired_zip hk dw)
    refine ⟨p2, rfl, ⟨_, SqL.of h2⟩, ?_⟩
    have ll : (5000000 : Nat) ≤ sizeLine := by decide
    refine for_list (xs := bs.reverse.map V.ref) (fun i σ H' => Ext H2 H' ∧ ∃ x1 x2 x3, σ = [some (.ref d), some (.str (runT (ws.reverse.take i))), x1, x2, x3]) ⟨Ext.rfl', _, _, _, rfl⟩ (fun i σ H' _ z => SqL.of (z.1 _ _ h2)) ?_ ?_
    · rintro i x σ H' hx ⟨e3, x1, x2, x3, rfl⟩
      rw [List.getElem?_map] at hx
      obtain ⟨q, hq, rfl⟩ := Option.map_eq_some_iff.mp hx
      obtain ⟨w', hw', kv, hkv, hk1, _⟩ := pair_at hb hq
      have e03 := e02.trans e3
      have wm : w' ∈ ws := List.mem_reverse.mp (List.mem_of_getElem? hw')
      have tm := ok w' wm
      have hq0 := e03 _ _ hkv
      rw [hk1] at hq0
      obtain ⟨u, hu1, hu2⟩ := (dw.ext e03).val (List.mem_map.mpr ⟨w', wm, rfl⟩)
      rw [wv_mem nd wm] at hu2
      obtain ⟨pp, dx, rfl, hpp⟩ := id hu2
      refine ⟨_, rfl, _, rfl, d, .ref pp, rfl, .inr ⟨kvs, kk w'.1, q, .inl (e03 _ _ hd), rfl, hq0, hu1.symm⟩, ?_⟩
      refine ⟨_, rfl, pp, _, dx, _, _, rfl, hpp, T.Ratio.cls, T.no_Ratio_own_top, rf_top _, _, rfl, _, rfl, pp, _, dx, _, _, rfl, hpp, T.Ratio.cls, T.no_Ratio_own_bottom, rf_bot _, _, rfl, ?_⟩
      have hq1 : Pt H' q w'.1 := by rw [kk_v] at hq0; exact hq0
      refine ⟨absN w'.2.num, (w'.2.den : Int), q, w'.1, rfl, absN_log tm.sz, (tm.sz.mono (show 1900 ≤ 1920 by decide)).bot.log (by decide), hq1, tm.nm, tm.few, fun H4 e4 => ?_⟩
      have et : ws.reverse.take (i + 1) = ws.reverse.take i ++ [w'] := by rw [List.take_add_one, hw']; rfl
      have pl := plQ_len tm
      have rl : (runT (ws.reverse.take i)).length ≤ 4746000 := by
        have h1 := runT_len (ws := ws.reverse.take i) fun u hu => ok u (List.mem_reverse.mp (List.mem_of_mem_take hu))
        have h3 : (ws.reverse.take i).length ≤ ws.length := by rw [List.length_take, List.length_reverse]; omega
        omega
      have hp4 := e4 _ _ hpp
      have cm : (Str.ofString "-").length = 1 := rfl
      have c3 : (Str.ofString " - ").length = 3 := rfl
      have c4 : (Str.ofString " + ").length = 3 := rfl
      rw [et, runT_snoc]
      unfold stepT
      refine ⟨_, rfl, rfl, _, rfl, ?_⟩
      by_cases h1 : runT (ws.reverse.take i) = emp
      · refine iteY (by simp [h1]) ⟨_, rfl, pp, _, dx, _, _, rfl, hp4, T.Ratio.cls, T.no_Ratio_own_top, rf_top _, _, _, rfl, rfl, _, rfl, ?_⟩
        rw [if_pos h1]
        by_cases h2 : w'.2.num < 0
        · refine iteY (decide_eq_true h2) ⟨_, rfl, ?_, _, rfl, .inl ⟨_, rfl, Nat.le_trans pl (by omega), _, rfl, ?_, e3.trans e4, some (.ref q), some (.ref pp), some (.str (plQ w')), ?_⟩⟩
          · rw [Str.empty_append, cm]
            omega
          · rw [Str.empty_append, strLen_append, cm]
            show 1 + (plQ w').length ≤ _
            omega
          · rw [if_pos h2, Str.empty_append]
            rfl
        · refine iteN (decide_eq_false h2) ⟨_, rfl, e3.trans e4, some (.ref q), some (.ref pp), some (.str (plQ w')), ?_⟩
          rw [if_neg h2]
          rfl
      · refine iteN (by simp [h1]) ⟨_, rfl, pp, _, dx, _, _, rfl, hp4, T.Ratio.cls, T.no_Ratio_own_top, rf_top _, _, _, rfl, rfl, _, rfl, ?_⟩
        rw [if_neg h1]
        by_cases h2 : w'.2.num < 0
        · refine iteY (decide_eq_true h2) ⟨_, rfl, .inl ⟨_, rfl, by omega, _, rfl, ?_, _, rfl, ?_, _, rfl, .inl ⟨_, rfl, Nat.le_trans pl (by omega), _, rfl, ?_, e3.trans e4, some (.ref q), some (.ref pp), some (.str (plQ w')), ?_⟩⟩⟩
          · rw [Str.empty_append]
            omega
          · rw [Str.empty_append, strLen_append, c3]
            omega
          · rw [Str.empty_append, strLen_append, strLen_append, c3]
            show _ + 3 + (plQ w').length ≤ _
            omega
          · rw [if_pos h2, Str.empty_append]
            rfl
        · refine iteN (decide_eq_false h2) ⟨_, rfl, .inl ⟨_, rfl, by omega, _, rfl, ?_, _, rfl, ?_, _, rfl, .inl ⟨_, rfl, Nat.le_trans pl (by omega), _, rfl, ?_, e3.trans e4, some (.ref q), some (.ref pp), some (.str (plQ w')), ?_⟩⟩⟩
          · rw [Str.empty_append]
            omega
          · rw [Str.empty_append, strLen_append, c4]
            omega
          · rw [Str.empty_append, strLen_append, strLen_append, c4]
            show _ + 3 + (plQ w').length ≤ _
            omega
          · rw [if_neg h2, Str.empty_append]
            rfl
    · rintro σ H' ⟨e3, x1, x2, x3, rfl⟩
      have el : (bs.reverse.map V.ref).length = ws.reverse.length := by rw [List.length_map]; exact paired_len hb
      rw [el, List.take_length]
      refine ⟨_, rfl, rfl, _, rfl, ?_⟩
      have := h H' (e02.trans e3)
      unfold qTxt at this
      by_cases h1 : runT ws.reverse = emp
      · rw [if_neg fun z => z h1] at this
        exact iteN (by simp [h1]) this
      · rw [if_pos h1] at this
        exact iteY (by simp [h1]) ⟨_, rfl, this⟩
theorem B_Question_str (T : Txt K mg a) : Binds K a.d_Question_str ["self"] [] := T.Question_str.F.binds fun _ _ _ _ _ _ us hl => match us, hl with | [_], _ => rfl
theorem ok_Question_str (T : Txt K mg a) : FnOk P w K mg base CX0 3 a.Question_str a.d_Question_str ["self"] (spStrQ a.Question a.Ratio) := by
  have G_question_text := ok_question_text (P := P) (w := w) (base := base) T
  have b_question_text := B_question_text T
  refine T.Question_str.F.ok sc_Question_str (fun vs H Q E h => ?_) (fun cdv A outer s H vs Q E hr h => ?_)
  · obtain ⟨v, ws, rfl, _⟩ := h
    rfl
  · obtain ⟨v, ws, rfl, ⟨p, dx, d, kvs, rfl, hp, hd, dw⟩, nd, hl, ok, h⟩ := h
    refine ⟨_, (pss_one (ps_ret (pe_callTy SkE.call_str_str (by rfl) T.b_str (by decide +kernel) (pa_cons (pe_call G_question_text (hr.mono (by decide)) (by rfl) T.question_text.g T.question_text.F.kp b_question_text .nil pass0 (pa_cons (pe_fld (pv 0) rfl) pa_nil)) pa_nil)))), ?_⟩
    exact ⟨_, rfl, p, _, dx, _, _, rfl, hp, T.Question.cls, T.no_Question_own_weights, rfl, d, kvs, ws, rfl, hd, dw, nd, hl, ok, fun H1 e1 => ⟨_, rfl, h H1 e1⟩⟩
end
end P

namespace P
open PySem L2 NS

/-! ### repr of a question -/
def keysTx (p : Pd) : Str := tupleText (p.map reprText)
def termTx (w : Pd × Rat) : Str := tupleText [reprQ w.2, keysTx w.1]
def reprW (ws : Wts) : Str := Str.ofString "Question(" ++ listText (ws.map termTx) ++ Str.ofString ")"
theorem nm_repr {s : Str} (h : Nm s) : (reprText s).length ≤ 82 := by
  have := StrLaws.reprText_len s fun c hc => by
    have := h.all c hc
    have : c ≤ 122 := by
      rcases this with z | z <;> omega
    exact Nat.lt_of_le_of_lt this (by decide)
  have := h.most
  omega
theorem reprQ_le {q : Rat} (z : Sz 1900 q) : (reprQ q).length ≤ 3851 := by
  have z' := z.mono (show 1900 ≤ 1920 by decide)
  have h1 := tx_len (z'.top.log (by decide))
  have h2 := tx_len (z'.bot.log (by decide))
  unfold reprQ
  rw [strLen_append, strLen_append, strLen_append, strLen_append]
  show 6 + (tx q.num).length + 2 + (tx (q.den : Int)).length + 1 ≤ _
  omega
theorem sum_le {α : Type} {f : α → Nat} {m : Nat} : ∀ {l : List α}, (∀ x, x ∈ l → f x ≤ m) → (l.map f).sum ≤ m * l.length
  | [], _ => Nat.le_refl _
  | x :: l, h => by
    have h1 := h x (.head _)
    have h2 := sum_le (l := l) fun y hy => h y (.tail _ hy)
    rw [List.map_cons, List.sum_cons, List.length_cons, Nat.mul_succ]
    omega
theorem keysTx_len {p : Pd} (h : Nms p) (hl : p.length ≤ 100) : (keysTx p).length ≤ 8403 := by
  have h1 := tupleText_len_le (p.map reprText)
  rw [List.map_map, List.length_map] at h1
  have h2 := sum_le (f := (fun t : Str => t.length) ∘ reprText) (l := p) (m := 82) fun s hs => nm_repr (h s hs)
  unfold keysTx
  omega
theorem termTx_len {w : Pd × Rat} (h : TmOk 1900 (w.2, w.1)) : (termTx w).length ≤ 12300 := by
  have h1 := tupleText_len_le [reprQ w.2, keysTx w.1]
  have h2 := reprQ_le h.sz
  have h3 := keysTx_len h.nm h.few
  have e : (([reprQ w.2, keysTx w.1] : List Str).map (·.length)).sum = (reprQ w.2).length + ((keysTx w.1).length + 0) := rfl
  rw [e] at h1
  unfold termTx
  simp only [List.length_cons, List.length_nil] at h1
  show (tupleText [reprQ w.2, keysTx w.1]).length ≤ _
  have h2' : (reprQ w.2).length ≤ 3851 := h2
  have h3' : (keysTx w.1).length ≤ 8403 := h3
  omega
theorem terms_len {ws : Wts} (h : ∀ w, w ∈ ws → TmOk 1900 (w.2, w.1)) (hl : ws.length ≤ 1000) : (listText (ws.map termTx)).length ≤ 12400000 := by
  have h1 := listText_len_le (ws.map termTx)
  rw [List.map_map, List.length_map] at h1
  have h2 := sum_le (f := (fun t : Str => t.length) ∘ termTx) (l := ws) (m := 12300) fun w hw => termTx_len (h w hw)
  omega
section
variable {X : Cx} {a : Ad}
theorem rep_strs {n : Nat} {as : List Addr} {H : Hp} : ∀ {p : Pd}, Nms p → RepL X n as (p.map V.str) H (p.map reprText)
  | [], _ => .nil
  | s :: p, h => by
    have := nm_repr (h s (.head _))
    exact .cons (repV_str s (Nat.le_trans this (by decide))) (rep_strs fun t ht => h t (.tail _ ht))
theorem rep_keys {H : Hp} {q : Addr} {p : Pd} (hq : Pt H q p) (h : Nms p) : RepV X 1 [q] (.ref q) H (keysTx p) := repV_tup (as := []) (fun z => by cases z) hq (rep_strs h)
theorem rep_ratio {as : List Addr} {H : Hp} {v : V} {q : Rat} (T : Txt X.K X.mg a) (h : IsRat a.Ratio H v q) (z : Sz 1920 q) : RepV X 2 as v H (reprQ q) := by
  obtain ⟨p, dx, rfl, hp⟩ := id h
  exact repV_own T.O_Ratio_repr (fun A h1 h2 => Runs.of (ok_Ratio_repr T) (B_Ratio_repr T) (h1.mono (by decide)) h2) hp fun H1 e1 Q k => ⟨_, q, rfl, h.ext e1, z, k H1 Ext.rfl'⟩
theorem rep_tol {H : Hp} {t : Addr} {w : Pd × Rat} (T : Txt X.K X.mg a) (h : TolT a.Ratio H t w) (ok : TmOk 1900 (w.2, w.1)) : ∃ as, (∀ b, b ∈ as → ∃ xs, H b = some (.tup xs)) ∧ RepV X 3 as (.ref t) H (termTx w) := by
  obtain ⟨u, q, h1, h2, h3⟩ := h
  have hne : t ∉ [q] := fun z => by
    rw [List.mem_singleton] at z
    rw [z, h3] at h1
    injection h1 with h1
    injection h1 with h1
    cases hp : w.1 with
    | nil => rw [hp] at h1; cases h1
    | cons s p =>
      rw [hp] at h1
      cases p with
      | nil => cases h1
      | cons s2 p =>
        rw [List.map_cons, List.map_cons] at h1
        injection h1 with _ h1
        injection h1 with h1 _
        cases h1
  refine ⟨[t, q], fun b hb => ?_, repV_tup hne h1 (.cons (rep_ratio T h2 (ok.sz.mono (by decide))) (.cons ((rep_keys h3 ok.nm).mono (fun b hb => hb) (by decide) Ext.rfl') .nil))⟩
  rcases List.mem_cons.mp hb with e | e
  · exact ⟨_, by rw [e]; exact h1⟩
  · exact ⟨_, by rw [List.mem_singleton.mp e]; exact h3⟩
theorem RepL.wide {n : Nat} {as as' : List Addr} {H : Hp} {xs : List V} {ts : List Str} (h : RepL X n as xs H ts) (ha : ∀ b, b ∈ as → b ∈ as') : RepL X n as' xs H ts :=
  ⟨h.len, fun i x hx => by
    obtain ⟨t, h1, h2⟩ := h.at_ i x hx
    exact ⟨t, h1, h2.mono (fun b hb => ha b hb) (Nat.le_refl _) Ext.rfl'⟩⟩
theorem rep_tols {H : Hp} (T : Txt X.K X.mg a) : ∀ {ts : List Addr} {ws : Wts}, Paired (TolT a.Ratio H) ts ws → (∀ w, w ∈ ws → TmOk 1900 (w.2, w.1)) → ∃ as, (∀ b, b ∈ as → ∃ xs, H b = some (.tup xs)) ∧ RepL X 3 as (ts.map V.ref) H (ws.map termTx)
  | _, _, .nil, _ => ⟨[], (fun b hb => by cases hb), .nil⟩
  | _, _, .cons p q, h => by
    obtain ⟨as1, h1, r1⟩ := rep_tol T p (h _ (.head _))
    obtain ⟨as2, h2, r2⟩ := rep_tols T q fun w hw => h w (.tail _ hw)
    refine ⟨as1 ++ as2, fun b hb => (List.mem_append.mp hb).elim (h1 b) (h2 b), .cons (r1.mono (fun b hb => List.mem_append_left _ hb) (Nat.le_refl _) Ext.rfl') (RepL.wide r2 fun b hb => List.mem_append_right _ hb)⟩
end
def spReprW (CQ C : Addr) : Sp := fun vs H Q _ => ∃ v ws, vs = [v] ∧ IsQ CQ C H v ws ∧ ws.length ≤ 1000 ∧ (∀ w, w ∈ ws → TmOk 1900 (w.2, w.1)) ∧ ∀ H', Ext H H' → Q (.str (reprW ws)) H'
section
variable {P : Program} {w : World} {K : PySem.W.Frag} {mg : Str → Option Value} {base : Heap} {a : Ad}
theorem B_Question_repr (T : Txt K mg a) : Binds K a.d_Question_repr ["self"] [] := T.Question_repr.F.binds fun _ _ _ _ _ _ us hl => match us, hl with | [_], _ => rfl
theorem ok_Question_repr (T : Txt K mg a) : FnG P w K mg base 6 a.Question_repr a.d_Question_repr ["self"] (spReprW a.Question a.Ratio) := by
  have G_Question_terms := ok_Question_terms (P := P) (w := w) (base := base) T
  have b_Question_terms := B_Question_terms T
  refine okG T.Question_repr.F sc_Question_repr (fun vs H Q E h => ?_) (fun cdv A outer s H vs Q hg hr h => ?_)
  · obtain ⟨v, ws, rfl, _⟩ := h
    rfl
  · obtain ⟨v, ws, rfl, ⟨p, dx, d, kvs, rfl, hp, hd, dw⟩, hl, ok, h⟩ := h
    have hgd : (A.deeper (PyProof.Rows.envOfC "Question.__repr__" (defScope s_Question_repr) s.heap.objs.size a.Question_repr cdv)).guards = some [] := hg
    have ll : 12500000 ≤ sizeLine := by decide
    have lz := terms_len ok hl
    have c9 : (Str.ofString "Question(").length = 9 := rfl
    refine ⟨_, (pss_one (ps_ret (pe_joined (.cons pe_str (.cons (pe_fmtL (n := 3) hr hgd (pe_meth0 (pv 0) T.Question.cls T.Question_terms.meth G_Question_terms (hr.mono (by decide)) b_Question_terms .nil pass0)) (.cons pe_str PJ.nil)))))), ?_⟩
    refine ⟨_, rfl, ?_, _, rfl, p, dx, _, rfl, hp, rfl, _, ws, rfl, ⟨p, dx, d, kvs, rfl, hp, hd, dw⟩, hl, fun l ts H1 e1 _ hl1 hpt => ?_⟩
    · rw [Str.empty_append, c9]
      omega
    obtain ⟨as, ha, rl⟩ := rep_tols (X := (cxOf CX0 P w K mg base ["self"] "Question.__repr__" (defScope s_Question_repr) a.Question_repr cdv A outer s H E0).nox) (H := H1) T hpt ok
    refine ⟨l, _, _, as, rfl, fun z => ?_, hl1, rl, by omega, fun H2 e2 => ⟨_, rfl, ?_, _, rfl, ?_, ?_⟩⟩
    · obtain ⟨xs, hx⟩ := ha l z
      rw [hl1] at hx
      cases hx
    · rw [Str.empty_append, strLen_append, c9]
      omega
    · rw [Str.empty_append, strLen_append, strLen_append, c9]
      show 9 + _ + 1 ≤ _
      omega
    · rw [Str.empty_append]
      exact h H2 (e1.trans e2)
end
end P

namespace P
open PySem L2 NS

/-! ### the law's terms -/
def spCommon : Sp := fun vs H Q _ => ∃ x y : Int, vs = [.int x, .int y] ∧ Q (.int (Nat.gcd x.natAbs y.natAbs : Nat)) H
/-- a dict from products, its values told by F -/
def DF (F : V → Rat → Prop) (kvs : List (List L2.Key × V)) (ws : Wts) : Prop := Paired (fun kv w => kv.1 = kk w.1 ∧ F kv.2 w.2) kvs ws
theorem DF.imp {F G : V → Rat → Prop} {kvs : List (List L2.Key × V)} {ws : Wts} (h : DF F kvs ws) (e : ∀ v q, F v q → G v q) : DF G kvs ws := paired_imp (fun _ _ z => ⟨z.1, e _ _ z.2⟩) h
theorem DF.any {F : V → Rat → Prop} {p : Pd} : ∀ {kvs : List (List L2.Key × V)} {ws : Wts}, DF F kvs ws → ((kvs.any fun kv => decide (kv.1 = kk p)) = true ↔ p ∈ ws.map (·.1))
  | _, _, .nil => by simp
  | _, _, .cons (a := kv) (b := w) a b => by
    rw [List.any_cons, Bool.or_eq_true, DF.any b, List.map_cons, List.mem_cons, decide_eq_true_iff, a.1]
    exact ⟨fun h => h.imp (fun z => (kk_inj z).symm) id, fun h => h.imp (fun z => congrArg kk z.symm) id⟩
theorem DF.val {F : V → Rat → Prop} {p : Pd} : ∀ {kvs : List (List L2.Key × V)} {ws : Wts}, DF F kvs ws → p ∈ ws.map (·.1) → ∃ v, valV kvs (kk p) = some v ∧ F v (wv ws p)
  | _, _, .nil, h => by cases h
  | _, _, .cons (a := kv) (b := w) a b, h => by
    by_cases e : w.1 = p
    · exact ⟨kv.2, valV_pos (a.1.trans (congrArg kk e)), by rw [wv_pos e]; exact a.2⟩
    · rw [List.map_cons, List.mem_cons] at h
      obtain ⟨v, h1, h2⟩ := DF.val (p := p) b (h.resolve_left fun z => e z.symm)
      exact ⟨v, by rw [valV_neg fun z => e (kk_inj (a.1.symm.trans z))]; exact h1, by rw [wv_neg e]; exact h2⟩
theorem DF.put {F : V → Rat → Prop} {p : Pd} {kvs : List (List L2.Key × V)} {ws : Wts} {v : V} {x : Rat} (h : DF F kvs ws) (hv : F v x) : DF F (putK kvs (kk p) v) (putW ws p x) := by
  unfold putK putW
  by_cases e : p ∈ ws.map (·.1)
  · rw [if_pos (h.any.mpr e), if_pos e]
    clear e
    unfold DF at h ⊢
    induction h with
    | nil => exact .nil
    | @cons kv w _ _ a b ih =>
      refine .cons ?_ ih
      by_cases e : w.1 = p
      · show (if kv.1 = kk p then (kv.1, v) else kv).1 = kk (if w.1 = p then (w.1, x) else w).1 ∧ F (if kv.1 = kk p then (kv.1, v) else kv).2 (if w.1 = p then (w.1, x) else w).2
        rw [if_pos (a.1.trans (congrArg kk e)), if_pos e]
        exact ⟨a.1, hv⟩
      · show (if kv.1 = kk p then (kv.1, v) else kv).1 = kk (if w.1 = p then (w.1, x) else w).1 ∧ F (if kv.1 = kk p then (kv.1, v) else kv).2 (if w.1 = p then (w.1, x) else w).2
        rw [if_neg fun z => e (kk_inj (a.1.symm.trans z)), if_neg e]
        exact a
  · rw [if_neg fun z => e (h.any.mp z), if_neg e]
    exact paired_snoc h ⟨rfl, hv⟩
def PairR (H : Hp) (v : V) (q : Rat) : Prop := ∃ t, v = .ref t ∧ H t = some (.tup [.int q.num, .int (q.den : Int)])
theorem PairR.ext {H H' : Hp} {v : V} {q : Rat} (h : PairR H v q) (e : Ext H H') : PairR H' v q := by
  obtain ⟨t, h1, h2⟩ := h
  exact ⟨t, h1, e _ _ h2⟩
theorem PairR.but {H H' : Hp} {r : Addr} {v : V} {q : Rat} (h : PairR H v q) (g : Rng H r) (e : But r H H') : PairR H' v q := by
  obtain ⟨t, h1, h2⟩ := h
  exact ⟨t, h1, e _ _ h2 (g.ne_tup h2)⟩
theorem PairR.putD {H : Hp} {D : Addr} {v : V} {q : Rat} {xs ys : List (List L2.Key × V)} (h : PairR H v q) (hD : H D = some (.dT xs)) : PairR (upd H D (.dT ys)) v q := by
  obtain ⟨t, h1, h2⟩ := h
  exact ⟨t, h1, by rw [upd_ne (ne_of h2 hD fun y => nomatch y)]; exact h2⟩
/-- a term of the law: top, bottom, product -/
def LT (H : Hp) (t : Addr) (w : Pd × Rat) : Prop := ∃ q, H t = some (.tup [.int w.2.num, .int (w.2.den : Int), .ref q]) ∧ Pt H q w.1
theorem LT.ext {H H' : Hp} {t : Addr} {w : Pd × Rat} (h : LT H t w) (e : Ext H H') : LT H' t w := by
  obtain ⟨q, h1, h2⟩ := h
  exact ⟨q, e _ _ h1, e _ _ h2⟩
theorem LT.put {D : Addr} {H : Hp} {t : Addr} {w : Pd × Rat} {xs ys : List V} (h : LT H t w) (hD : H D = some (.lst xs)) : LT (upd H D (.lst ys)) t w := by
  obtain ⟨q, h1, h2⟩ := h
  refine ⟨q, ?_, ?_⟩
  · rw [upd_ne (ne_of h1 hD fun y => nomatch y)]
    exact h1
  · show upd H D _ q = _
    rw [upd_ne (ne_of h2 hD fun y => nomatch y)]
    exact h2
structure LOk (w : Pd × Rat) : Prop where
  so : sortP w.1 = w.1
  nz : w.2 ≠ 0
  tm : TmOk 100 (w.2, w.1)
  short : w.1.length ≤ 4
structure LwOk (ws : Wts) : Prop where
  nd : (ws.map (·.1)).Nodup
  all : ∀ w, w ∈ ws → LOk w
  few : ws.length ≤ 5
def spLT : Sp := fun vs H Q _ => ∃ (r n : Addr) (ns : List Str), vs = [.ref r, .ref n] ∧ Rng H r ∧ H n = some (.lst (ns.map V.str)) ∧ n ≠ r ∧ 0 < ns.length ∧ ns.length ≤ 50 ∧ Nms ns ∧
  ∀ l ts ws H', But r H H' → Rng H' r → H l = none → H' l = some (.lst (ts.map V.ref)) → Paired (LT H') ts ws → LwOk ws → Q (.ref l) H'
theorem all_putW {F : Pd × Rat → Prop} {ws : Wts} {p : Pd} {x : Rat} (h : ∀ w, w ∈ ws → F w) (k : F (p, x)) : ∀ w, w ∈ putW ws p x → F w := by
  intro w hw
  unfold putW at hw
  by_cases e : p ∈ ws.map (·.1)
  · rw [if_pos e] at hw
    obtain ⟨u, hu, rfl⟩ := List.mem_map.mp hw
    by_cases z : u.1 = p
    · rw [if_pos z, z]
      exact k
    · rw [if_neg z]
      exact h u hu
  · rw [if_neg e, List.mem_append, List.mem_singleton] at hw
    rcases hw with hw | rfl
    · exact h w hw
    · exact k
theorem ltops_ok : ∀ v ∈ ([.int 1, .int (-1), .int 1, .int (-1), .int 2, .int (-3), .int 12, .int (10 ^ 12), .int (-(10 ^ 28))] : List V), ∃ t, v = .int t ∧ t ≠ 0 ∧ Bt 100 t := by
  intro v hv
  simp only [List.mem_cons, List.not_mem_nil, or_false] at hv
  rcases hv with rfl | rfl | rfl | rfl | rfl | rfl | rfl | rfl | rfl <;> exact ⟨_, rfl, by decide +kernel, by decide +kernel⟩
theorem lbots_ok : ∀ v ∈ ([.int 1, .int 1, .int 1, .int 2, .int 3, .int 12, .int (10 ^ 9)] : List V), ∃ t, v = .int t ∧ 0 < t ∧ Bt 100 t := by
  intro v hv
  simp only [List.mem_cons, List.not_mem_nil, or_false] at hv
  rcases hv with rfl | rfl | rfl | rfl | rfl | rfl | rfl <;> exact ⟨_, rfl, by decide +kernel, by decide +kernel⟩
section
variable {P : Program} {w : World} {K : PySem.W.Frag} {mg : Str → Option Value} {base : Heap} {a : Ad}
theorem B_law_common (T : Txt K mg a) : Binds K a.d_law_common ["_law_one", "_law_other"] [] := T.law_common.F.binds fun _ _ _ _ _ _ us hl => match us, hl with | [_, _], _ => rfl
theorem ok_law_common (T : Txt K mg a) : FnOk P w K mg base CX0 1 a.law_common a.d_law_common ["_law_one", "_law_other"] spCommon := by
  refine T.law_common.F.ok sc_law_common (fun vs H Q E h => ?_) (fun cdv A outer s H vs Q E hr h => ?_)
  · obtain ⟨m, n, rfl, _⟩ := h
    rfl
  · obtain ⟨x, y, rfl, h⟩ := h
    refine ⟨_, (pss_cons (ps_par (i := 0) (j := 1) (by rfl) sc_law_common.nd rfl rfl (by decide) rfl rfl (pa_cons (pe_callB call_abs (by rfl) T.b_abs (by decide +kernel) (pa_cons (pv 0) pa_nil)) (pa_cons (pe_callB call_abs (by rfl) T.b_abs (by decide +kernel) (pa_cons (pv 1) pa_nil)) pa_nil)) (by rfl))
      (pss_cons (ps_while PassesOwn.never (pt_cmpR op_gt (pv 1) pe_int (nomark _)) (pss_one (ps_par (i := 0) (j := 1) (by rfl) sc_law_common.nd rfl rfl (by decide) rfl rfl (pa_cons (pv 1) (pa_cons (pe_op op_modN (pe_callTy call_int1 (by rfl) T.b_int (by decide +kernel) (pa_cons (pv 0) pa_nil)) (pv 1)) pa_nil)) (by rfl))))
      (pss_one (ps_ret (pv 0))))), ?_⟩
    refine ⟨_, rfl, _, rfl, _, rfl, _, rfl, _, _, rfl, ?_⟩
    rw [abs_nat, abs_nat]
    refine ⟨fun k σ H1 => H1 = H ∧ ∃ m' : Nat, σ = [some (.int m'), some (.int k)] ∧ Nat.gcd m' k = Nat.gcd x.natAbs y.natAbs, ⟨y.natAbs, rfl, x.natAbs, rfl, rfl⟩, ?_⟩
    rintro k σ H1 ⟨rfl, m', rfl, e⟩
    refine ⟨_, rfl, _, _, rfl, rfl, _, rfl, ?_⟩
    by_cases hk : k = 0
    · subst hk
      rw [Nat.gcd_zero_right] at e
      refine iteN (by decide) ?_
      refine ⟨_, rfl, ?_⟩
      rw [e]
      exact h
    · have hk' : ((k : Nat) : Int) ≠ 0 := by omega
      refine iteY (decide_eq_true (by omega)) ?_
      refine ⟨fun σ' H' => H' = H1 ∧ σ' = [some (.int (k : Int)), some (.int ((m' % k : Nat) : Int))], ?_, ?_⟩
      · rintro σ' H' ⟨rfl, rfl⟩
        exact ⟨m' % k, Nat.mod_lt _ (by omega), rfl, k, rfl, (gcd_turn hk).trans e⟩
      · refine ⟨_, rfl, _, rfl, .inl ⟨_, rfl, _, rfl, _, _, rfl, rfl, hk', _, _, rfl, rfl, ?_⟩⟩
        show [_, some (V.int ((m' : Int).fmod (k : Int)))] = _
        rw [Int.fmod_eq_emod_of_nonneg _ (by omega)]
        rfl
theorem B_law_terms (T : Txt K mg a) : Binds K a.d_law_terms ["_law_rng_here", "_law_names_here"] [] := T.law_terms.F.binds fun _ _ _ _ _ _ us hl => match us, hl with | [_, _], _ => rfl
theorem ok_law_terms (T : Txt K mg a) : FnOk P w K mg base CX0 3 a.law_terms a.d_law_terms ["_law_rng_here", "_law_names_here"] spLT := by
  have G_law_draw := ok_law_draw (P := P) (w := w) (base := base) T
  have b_law_draw := B_law_draw T
  have G_law_choice := ok_law_choice (P := P) (w := w) (base := base) T
  have b_law_choice := B_law_choice T
  have G_law_common := ok_law_common (P := P) (w := w) (base := base) T
  have b_law_common := B_law_common T
  have pw : ∀ i j : Int, (0 ≤ j ∧ j ≤ 1000000 ∧ i.natAbs < 2 ^ 64) → CPow i j := fun _ _ h => h
  refine T.law_terms.F.ok sc_law_terms (fun vs H Q E h => ?_) (fun cdv A outer s H vs Q E hr h => ?_)
  · obtain ⟨r, n, ns, rfl, _⟩ := h
    rfl
  · obtain ⟨r, n, ns, rfl, g, hn, nr, n0, n1, hnm, h⟩ := h
    refine ⟨_, (pss_cons (ps_set (i := 2) sc_law_terms.nd rfl (.inr rfl) pe_dnewT)
      (pss_cons (ps_for PassesOwn.never rfl (pi_range1 (by rfl) T.b_range (pa_cons (pe_call G_law_draw (hr.mono (by decide)) (by rfl) T.law_draw.g T.law_draw.F.kp b_law_draw .nil pass0 (pa_cons (pv 0) (pa_cons pe_int pa_nil))) pa_nil)) (pg_name (i := 3) sc_law_terms.nd rfl (.inl rfl)) (pss_mid (ps_set (i := 4) sc_law_terms.nd rfl (.inl rfl) (pe_callTy call_tuple_of (by rfl) T.b_tuple (by decide +kernel) (pa_cons (pe_callB cr_sortA (by rfl) T.b_sorted (by decide +kernel) (pa_cons (pe_lc (own := [("_law_k", 5)]) (g := gName 5) (by rfl) sc_law_terms.nd (pi_range1 (by rfl) T.b_range (pa_cons (pe_call G_law_draw (hr.mono (by decide)) (by rfl) T.law_draw.g T.law_draw.F.kp b_law_draw .nil pass0 (pa_cons (pv 0) (pa_cons pe_int pa_nil))) pa_nil)) (blkOk_by (N := ["_law_rng_here", "_law_names_here", "_law_found", "_law_turn", "_law_product", "_law_k", "_law_top", "_law_bottom", "_law_common_here"]) (sc := defScope s_law_terms) (by decide +kernel)) (fun _ _ _ _ _ => (pg_name (i := 5) sc_law_terms.nd rfl (.inl rfl) (.inr rfl))) (fun _ _ _ _ _ => pts_nil) (fun _ _ _ _ _ => (pe_call G_law_choice (hr.mono (by decide)) (by rfl) T.law_choice.g T.law_choice.F.kp b_law_choice .nil pass0 (pa_cons (pv 0) (pa_cons (pv 1) pa_nil))))) pa_nil)) pa_nil)))
      (pss_mid (ps_set (i := 6) sc_law_terms.nd rfl (.inl rfl) (pe_call G_law_choice (hr.mono (by decide)) (by rfl) T.law_choice.g T.law_choice.F.kp b_law_choice .nil pass0 (pa_cons (pv 0) (pa_cons (pe_lst (pa_cons pe_int (pa_cons (pe_un un_neg pe_int) (pa_cons pe_int (pa_cons (pe_un un_neg pe_int) (pa_cons pe_int (pa_cons (pe_un un_neg pe_int) (pa_cons pe_int (pa_cons (pe_op op_pow pe_int pe_int) (pa_cons (pe_un un_neg (pe_op op_pow pe_int pe_int)) pa_nil)))))))))) pa_nil))))
      (pss_mid (ps_set (i := 7) sc_law_terms.nd rfl (.inl rfl) (pe_call G_law_choice (hr.mono (by decide)) (by rfl) T.law_choice.g T.law_choice.F.kp b_law_choice .nil pass0 (pa_cons (pv 0) (pa_cons (pe_lst (pa_cons pe_int (pa_cons pe_int (pa_cons pe_int (pa_cons pe_int (pa_cons pe_int (pa_cons pe_int (pa_cons (pe_op op_pow pe_int pe_int) pa_nil)))))))) pa_nil))))
      (pss_mid (ps_set (i := 8) sc_law_terms.nd rfl (.inl rfl) (pe_call G_law_common (hr.mono (by decide)) (by rfl) T.law_common.g T.law_common.F.kp b_law_common .nil pass0 (pa_cons (pv 6) (pa_cons (pv 7) pa_nil))))
      (pss_one (ps_dput (hu_of hr) (pv 2) (pv 4) (pe_tup (pa_cons (pe_op op_fdivX (pv 6) (pv 8)) (pa_cons (pe_op op_fdivX (pv 7) (pv 8)) pa_nil))) rfl)))))))
      (pss_one (ps_ret (pe_lock (pe_lc (own := [("_law_product", 4)]) (g := gName 4) (by rfl) sc_law_terms.nd (pi_keys (pv 2)) (blkOk_by (N := ["_law_rng_here", "_law_names_here", "_law_found", "_law_turn", "_law_product", "_law_k", "_law_top", "_law_bottom", "_law_common_here"]) (sc := defScope s_law_terms) (by decide +kernel)) (fun _ _ _ _ _ => (pg_name (i := 4) sc_law_terms.nd rfl (.inl rfl) (.inr rfl))) (fun _ _ _ _ _ => pts_nil) (fun _ _ _ _ _ => (pe_tup (pa_cons (pe_ix (r := rIxT K) ix_tup (pe_dget (hu_of hr) (pv 2) (pv 4) (fun _ _ => rfl)) pe_int (fun _ _ => rfl)) (pa_cons (pe_ix (r := rIxT K) ix_tup (pe_dget (hu_of hr) (pv 2) (pv 4) (fun _ _ => rfl)) pe_int (fun _ _ => rfl)) (pa_cons (pv 4) pa_nil))))))))))), ?_⟩
    intro D hD
    have nDr := g.fresh hD
    have nnD : n ≠ D := ne_of_none hn hD
    have g0 : Rng (upd H D (.dT [])) r := g.put nDr
    refine ⟨_, rfl, r, 6, rfl, g0, by decide, by decide, fun d H0 d0 d1 b0 g1 => ?_⟩
    refine ⟨d, rfl, by omega, by omega, ?_⟩
    have hd0 : H0 D = some (.dT []) := b0 _ _ upd_same nDr
    have b00 : But r H H0 := fun b o hb hne => b0 b o (by rw [upd_ne (ne_of_none hb hD)]; exact hb) hne
    refine for_range (n := d.toNat) (fun i σ H' => But r H H' ∧ Rng H' r ∧ ∃ kvs ws o3 o4 o6 o7 o8, H' D = some (.dT kvs) ∧ DF (PairR H') kvs ws ∧ (ws.map (·.1)).Nodup ∧ (∀ w, w ∈ ws → LOk w) ∧ ws.length ≤ i ∧ σ = [some (.ref r), some (.ref n), some (.ref D), o3, o4, none, o6, o7, o8])
      ⟨b00, g1, [], [], _, _, _, _, _, hd0, .nil, List.nodup_nil, fun w hw => (by cases hw), Nat.le_refl _, rfl⟩ ?_ ?_
    · rintro i σ H' hi ⟨b1, g2, kvs, ws, o3, o4, o6, o7, o8, hd, df, nd, ok, hl, rfl⟩
      have hn' : H' n = some (.lst (ns.map V.str)) := b1 _ _ hn nr
      refine ⟨fun σ H1 => But r H' H1 ∧ Rng H1 r ∧ ∃ q p, Pt H1 q p ∧ sortP p = p ∧ Nms p ∧ p.length ≤ 4 ∧ σ = [some (.ref r), some (.ref n), some (.ref D), some (.int (0 + (i : Int))), some (.ref q), none, o6, o7, o8], ?_, ?_⟩
      · refine ⟨_, rfl, r, 5, rfl, g2, by decide, by decide, fun d2 H1 d20 d21 b2 g3 => ?_⟩
        refine ⟨d2, rfl, by omega, by omega, fun E1 hE1 => ?_⟩
        have nEr := g3.fresh hE1
        refine lc_range (n := d2.toNat) (fun i H2 => But r H1 H2 ∧ Rng H2 r ∧ ∃ p : List Str, H2 E1 = some (.lst (p.map V.str)) ∧ p.length = i ∧ Nms p) ⟨but_put But.rfl' hE1, g3.put nEr, [], upd_same, rfl, fun s hs => (by cases hs)⟩ ?_ ?_
        · rintro i' H2 hi' ⟨b3, g4, p, hp, hpl, hpn⟩
          refine ⟨rfl, yes_of ?_⟩
          refine ⟨_, rfl, _, rfl, r, g4, .inl ⟨n, _, rfl, b3 _ _ (b2 _ _ hn' nr) nr, nr, by rw [List.length_map]; omega, by rw [List.length_map]; omega, fun v H3 hv b4 g5 => ?_⟩⟩
          obtain ⟨s, hs, rfl⟩ := List.mem_map.mp hv
          have hp3 := b4 _ _ hp nEr
          refine ⟨_, hp3, Nat.lt_of_lt_of_le (m := 10) (by rw [List.length_map]; omega) (by decide), but_put (b3.trans b4) hE1, g5.put nEr, p ++ [s], ?_, by rw [List.length_append, hpl]; rfl, fun t ht => ?_⟩
          · rw [upd_same, List.map_append]
            rfl
          · rcases List.mem_append.mp ht with ht | ht
            · exact hpn t ht
            · rw [List.mem_singleton.mp ht]
              exact hnm s hs
        · rintro H2 ⟨b3, g4, p, hp, hpl, hpn⟩
          refine ⟨E1, p, rfl, .inl (SqL.of hp), fun ys l1 hys hsy hl1 => ?_⟩
          obtain rfl := sortP_of hys hsy
          have e1 := Ext.upd (o := .lst ((sortP p).map V.str)) hl1
          refine ⟨l1, _, rfl, .inl ⟨SqL.of upd_same, fun q hq => ?_⟩⟩
          have e2 := Ext.upd (o := .tup ((sortP p).map V.str)) hq
          refine ⟨((b2.trans b3).ext e1).ext e2, (g4.ext e1).ext e2, q, sortP p, upd_same, sortP_idem p, fun s hs => hpn s ((sortP_perm p).mem_iff.mp hs), by rw [sortP_len]; omega, rfl⟩
      rintro σ H1 ⟨b2, g3, q, p, hq, hso, hpn, hp4, rfl⟩
      refine ⟨fun σ H2 => But r H1 H2 ∧ Rng H2 r ∧ ∃ t : Int, t ≠ 0 ∧ Bt 100 t ∧ σ = [some (.ref r), some (.ref n), some (.ref D), some (.int (0 + (i : Int))), some (.ref q), none, some (.int t), o7, o8], ?_, ?_⟩
      · refine ⟨_, rfl, _, rfl, _, rfl, _, rfl, _, _, rfl, rfl, pw _ _ (by decide), _, _, rfl, rfl, pw _ _ (by decide), _, rfl, (by show 9 ≤ sizeLine; decide), fun l hl => ?_⟩
        refine ⟨r, g3.ext (Ext.upd hl), .inl ⟨l, _, rfl, upd_same, g3.fresh hl, (by show 0 < 9; decide), (by show 9 ≤ 1000; decide), fun v H3 hv e3 x3 => ?_⟩⟩
        obtain ⟨t, rfl, t0, zt⟩ := ltops_ok v hv
        exact ⟨(but_of (Ext.upd hl)).trans e3, x3, t, t0, zt, rfl⟩
      rintro σ H2 ⟨b3, g4, t, t0, bt, rfl⟩
      refine ⟨fun σ H3 => But r H2 H3 ∧ Rng H3 r ∧ ∃ b : Int, 0 < b ∧ Bt 100 b ∧ σ = [some (.ref r), some (.ref n), some (.ref D), some (.int (0 + (i : Int))), some (.ref q), none, some (.int t), some (.int b), o8], ?_, ?_⟩
      · refine ⟨_, rfl, _, _, rfl, rfl, pw _ _ (by decide), (by show 7 ≤ sizeLine; decide), fun l hl => ?_⟩
        refine ⟨r, g4.ext (Ext.upd hl), .inl ⟨l, _, rfl, upd_same, g4.fresh hl, (by show 0 < 7; decide), (by show 7 ≤ 1000; decide), fun v H3 hv e3 x3 => ?_⟩⟩
        obtain ⟨t, rfl, t0, zt⟩ := lbots_ok v hv
        exact ⟨(but_of (Ext.upd hl)).trans e3, x3, t, t0, zt, rfl⟩
      rintro σ H3 ⟨b4, g5, b, b0, bb, rfl⟩
      refine ⟨fun σ H4 => H4 = H3 ∧ σ = [some (.ref r), some (.ref n), some (.ref D), some (.int (0 + (i : Int))), some (.ref q), none, some (.int t), some (.int b), some (.int (dv t b))], ?_, ?_⟩
      · refine ⟨_, rfl, _, rfl, t, b, rfl, rfl, ?_⟩
        rw [show dv t b = ((Nat.gcd t.natAbs b.natAbs : Nat) : Int) from if_neg (by omega)]
        rfl
      rintro σ H4 ⟨rfl, rfl⟩
      have bne : b ≠ 0 := by omega
      have zd : Bt 9000 (dv t b) := by
        unfold Bt
        rw [dv_abs]
        exact Nat.lt_of_le_of_lt (Nat.gcd_le_right _ (by omega)) (bb.mono (by decide))
      refine ⟨_, rfl, _, rfl, _, _, rfl, rfl, cdivX (dv_ne bne) zd (by decide) (by decide), _, rfl, _, rfl, _, _, rfl, rfl, cdivX (dv_ne bne) zd (by decide) (by decide), (by show 2 ≤ sizeLine; decide), fun u hu => ?_⟩
      have eu := Ext.upd (o := .tup [.int (t.fdiv (dv t b)), .int (b.fdiv (dv t b))]) hu
      have b14 : But r H' H4 := (b2.trans b3).trans b4
      have hd4 : H4 D = some (.dT kvs) := b14 _ _ hd nDr
      have hq4 : Pt H4 q p := (b3.trans b4) _ _ hq (g3.ne_tup hq)
      have hqk : upd H4 u (.tup [.int (t.fdiv (dv t b)), .int (b.fdiv (dv t b))]) q = some (.tup ((kk p).map kV)) := by rw [kk_v]; exact eu _ _ hq4
      have lk : kvs.length < sizeLine := by rw [paired_len df]; exact Nat.lt_of_le_of_lt hl (Nat.lt_of_lt_of_le (show i < 10 by omega) (by decide))
      have pr : PairR (upd H4 u (.tup [.int (t.fdiv (dv t b)), .int (b.fdiv (dv t b))])) (.ref u) (Rat.divInt t b) := ⟨u, rfl, by rw [upd_same, dv_num bne, dv_den bne]⟩
      generalize upd H4 u (.tup [.int (t.fdiv (dv t b)), .int (b.fdiv (dv t b))]) = H5 at *
      have hd5 := eu _ _ hd4
      refine ⟨_, rfl, _, rfl, D, _, rfl, .t hd5 hqk lk, but_put ((b1.trans b14).ext eu) hD, (g5.ext eu).put nDr, _, putW ws p (Rat.divInt t b), _, _, _, _, _, upd_same, ?_, nd_putW nd, all_putW ok ⟨hso, ?_, ⟨hpn, by show p.length ≤ 100; omega, sz_divInt bne bt bb⟩, hp4⟩, Nat.le_trans len_putW (by omega), rfl⟩
      · refine ((DF.put (p := p) (df.imp fun v q z => ?_) pr)).imp fun v q z => z.putD hd5
        exact (z.but g2 b14).ext eu
      · show Rat.divInt t b ≠ 0
        intro z
        have z2 : Rat.divInt t b = Rat.divInt 0 1 := z.trans (by decide)
        have := (Rat.divInt_eq_divInt_iff bne (by decide)).mp z2
        omega
    · rintro σ H' ⟨b1, g2, kvs, ws, o3, o4, o6, o7, o8, hd, df, nd, ok, hl, rfl⟩
      have il : ws.length ≤ 5 := by omega
      refine ⟨D, _, hd, trivial, fun od => ?_⟩
      have hf : upd H' D (.frz od (.dT kvs)) D = some (.frz od (.dT kvs)) := upd_same
      have df0 : DF (PairR (upd H' D (.frz od (.dT kvs)))) kvs ws := df.imp fun v q z => by
        obtain ⟨t, h1, h2⟩ := z
        exact ⟨t, h1, by rw [upd_ne (ne_of h2 hd fun y => nomatch y)]; exact h2⟩
      generalize hH0 : upd H' D (.frz od (.dT kvs)) = H0' at *
      refine ⟨_, rfl, D, od, rfl, .inr ⟨kvs, hf, fun L hL => ?_⟩⟩
      refine lc_it walk_keysT (fun i H2 => Ext H0' H2 ∧ ∃ ts, H2 L = some (.lst (ts.map V.ref)) ∧ ts.length = i ∧ Paired (LT H2) ts (ws.take i)) ⟨ext_put Ext.rfl' hL, [], upd_same, rfl, .nil⟩ (fun i H2 _ q => q.1 _ _ hf) ?_ ?_
      · rintro i x H2 H3 hi ⟨e0, ts, hts, hlt, hpt⟩ ⟨c0, k, v, q, hk, rfl, hq⟩
        obtain rfl := c0.symm
        obtain ⟨w', hw', hkw, hv⟩ := pair_at df0 hk
        subst hkw
        have wm : w' ∈ ws := List.mem_of_getElem? hw'
        obtain ⟨u, hu1, hu2⟩ := df0.val (List.mem_map.mpr ⟨w', wm, rfl⟩ : w'.1 ∈ ws.map (·.1))
        rw [wv_mem nd wm] at hu2
        obtain ⟨t, rfl, ht⟩ := hu2
        have et : ws.take (i + 1) = ws.take i ++ [w'] := by rw [List.take_add_one, hw']; rfl
        have i5 : i < 5 := by
          have : i < ws.length := (List.getElem?_eq_some_iff.mp hw').1
          omega
        have dg : DGet H2 D (.ref q) (some (.ref t)) := .inr ⟨kvs, kk w'.1, q, .inr ⟨od, e0 _ _ hf⟩, rfl, hq, hu1.symm⟩
        refine ⟨rfl, yes_of ?_⟩
        refine ⟨_, rfl, _, rfl, D, _, rfl, dg, t, _, 0, _, rfl, rfl, SqT.of (e0 _ _ ht), rfl, _, rfl, _, rfl, D, _, rfl, dg, t, _, 1, _, rfl, rfl, SqT.of (e0 _ _ ht), rfl, _, rfl, (by show 3 ≤ sizeLine; decide), fun tq htq => ?_⟩
        have e1 := Ext.upd (o := .tup [.int w'.2.num, .int (w'.2.den : Int), .ref q]) htq
        have h3 := e1 _ _ hts
        refine ⟨_, h3, Nat.lt_of_lt_of_le (by rw [List.length_map, hlt]; exact i5) (by decide), ext_put (e0.trans e1) hL, ts ++ [tq], ?_, by rw [List.length_append, hlt]; rfl, ?_⟩
        · rw [upd_same, List.map_append]
          rfl
        · rw [et]
          refine paired_snoc (paired_imp (fun _ _ z => (z.ext e1).put h3) hpt) (LT.put ⟨q, upd_same, ?_⟩ h3)
          have := e1 _ _ hq
          rw [kk_v] at this
          exact this
      · rintro H2 ⟨e0, ts, hts, hlt, hpt⟩
        have hdf := e0 _ _ hf
        rw [paired_len df, List.take_length] at hpt
        have hne : L ≠ D := fun z => by rw [← z] at hf; rw [hL] at hf; cases hf
        subst hH0
        have hLn : H' L = none := by
          rw [upd_ne hne] at hL
          exact hL
        have eu := ext_unlock hd e0
        refine ⟨hdf, h L ts ws _ (b1.ext eu) (g2.ext eu) ?_ ?_ (paired_imp (fun t p z => ?_) hpt) ⟨nd, ok, il⟩⟩
        · cases c : H L with
          | none => rfl
          | some o =>
            have : L ≠ r := g2.fresh hLn
            rw [b1 _ _ c this] at hLn
            cases hLn
        · rw [upd_ne hne]
          exact hts
        · obtain ⟨q, h1, h2⟩ := z
          refine ⟨q, ?_, ?_⟩
          · rw [upd_ne (ne_of h1 hdf fun y => nomatch y)]
            exact h1
          · show upd H2 D _ q = _
            rw [upd_ne (ne_of h2 hdf fun y => nomatch y)]
            exact h2
end
end P

namespace P
open PySem L2 NS

/-! ### the greatest product first -/
def key4 (w : Pd × Rat) : Int × List Att := ((w.1.length : Int), [.sts w.1, .int w.2.num, .int (w.2.den : Int)])
theorem like4 (w u : Pd × Rat) : LikeT (key4 w) (key4 u) := by
  intro j a b ha hb
  match j with
  | 0 => cases ha; cases hb; rfl
  | 1 => cases ha; cases hb; rfl
  | 2 => cases ha; cases hb; rfl
  | j + 3 => simp [key4] at ha
theorem lt_key4 {w u : Pd × Rat} (h : ltQ w.1 u.1 = true) : ltT (key4 w) (key4 u) = true := by
  unfold ltQ ltT keyQ at h
  unfold ltT key4
  unfold lexA at h ⊢
  unfold lexG at h ⊢
  by_cases e : (Att.int (w.1.length : Int)) = Att.int (u.1.length : Int)
  · rw [if_pos e] at h ⊢
    unfold lexG at h ⊢
    by_cases e2 : Att.sts w.1 = Att.sts u.1
    · rw [if_pos e2] at h
      cases h
    · rw [if_neg e2] at h ⊢
      exact h
  · rw [if_neg e] at h ⊢
    exact h
/-- the law's order is the program's -/
theorem mkQ_law {ws zs : Wts} (ok : LwOk ws) (hp : zs.Perm ws) (hs : SrtO.Srtd (fun x y => ltT (key4 x) (key4 y)) zs) : zs = mkQ (tmW ws) := by
  have nl : live ws = ws.map (·.1) := by
    unfold live
    rw [List.filter_eq_self.mpr fun w hw => decide_eq_true (ok.all w hw).nz]
  have h1 := canQ_of (ys := zs.map (·.1)) ok.nd (by rw [nl]; exact hp.map _) (List.pairwise_map.mpr (hs.imp fun {x y} z => by
    cases e : ltQ y.1 x.1 with
    | false => rfl
    | true =>
      have z2 : ltT (key4 y) (key4 x) = false := z
      rw [lt_key4 e] at z2
      cases z2))
  have h2 : (zs.map (·.1)).map (fun p => (p, wv ws p)) = zs := by
    rw [List.map_map]
    refine (List.map_congr_left fun w hw => ?_).trans (List.map_id zs)
    show (w.1, wv ws w.1) = w
    rw [wv_mem ok.nd (hp.mem_iff.mp hw)]
  rw [h2] at h1
  refine mkQ_of ?_
  rw [show Fs (tmW ws) = wv ws from funext (fs_tmW ok.nd fun w hw => (ok.all w hw).so)]
  exact h1
def L4 (H : Hp) (t : Addr) (w : Pd × Rat) : Prop := ∃ q, H t = some (.tup [.int (w.1.length : Int), .ref q, .int w.2.num, .int (w.2.den : Int)]) ∧ Pt H q w.1
theorem L4.ext {H H' : Hp} {t : Addr} {w : Pd × Rat} (h : L4 H t w) (e : Ext H H') : L4 H' t w := by
  obtain ⟨q, h1, h2⟩ := h
  exact ⟨q, e _ _ h1, e _ _ h2⟩
theorem L4.put {D : Addr} {H : Hp} {t : Addr} {w : Pd × Rat} {xs ys : List V} (h : L4 H t w) (hD : H D = some (.lst xs)) : L4 (upd H D (.lst ys)) t w := by
  obtain ⟨q, h1, h2⟩ := h
  refine ⟨q, ?_, ?_⟩
  · rw [upd_ne (ne_of h1 hD fun y => nomatch y)]
    exact h1
  · show upd H D _ q = _
    rw [upd_ne (ne_of h2 hD fun y => nomatch y)]
    exact h2
def wOf (H : Hp) (v : V) : Pd × Rat := match H (unR v) with
  | some (.tup [_, q, .int n, .int b]) => (pOf H q, Rat.divInt n b)
  | _ => ([], 0)
theorem wOf_at {H : Hp} {t : Addr} {w : Pd × Rat} (h : L4 H t w) : wOf H (.ref t) = w := by
  obtain ⟨q, h1, h2⟩ := h
  unfold wOf
  rw [show unR (.ref t) = t from rfl, h1]
  show (pOf H (.ref q), Rat.divInt w.2.num (w.2.den : Int)) = w
  rw [pOf_at h2, divInt_self_eq]
theorem rd_all {α : Type} {F : Addr → α → Prop} {rd : V → α} (hr : ∀ t x, F t x → rd (.ref t) = x) : ∀ {ts : List Addr} {xs : List α}, Paired F ts xs → (ts.map V.ref).map rd = xs
  | _, _, .nil => rfl
  | _, _, .cons a b => by rw [List.map_cons, List.map_cons, hr _ _ a, rd_all hr b]
theorem rd_each {α : Type} {F : Addr → α → Prop} {rd : V → α} (hr : ∀ t x, F t x → rd (.ref t) = x) : ∀ {ts : List Addr} {xs : List α}, Paired F ts xs → ∀ t, t ∈ ts → F t (rd (.ref t))
  | _, _, .nil, _, h => by cases h
  | _, _, .cons a b, t, h => by
    rcases List.mem_cons.mp h with e | e
    · rw [e, hr _ _ a]
      exact a
    · exact rd_each hr b t e
theorem rd_refs {α : Type} {F : Addr → α → Prop} {rd : V → α} : ∀ (ys : List V), (∀ y, y ∈ ys → ∃ t, y = .ref t ∧ F t (rd y)) → ∃ us : List Addr, ys = us.map V.ref ∧ Paired F us (ys.map rd)
  | [], _ => ⟨[], rfl, .nil⟩
  | y :: ys, h => by
    obtain ⟨us, e, p⟩ := rd_refs ys fun z hz => h z (.tail _ hz)
    obtain ⟨t, rfl, ht⟩ := h y (.head _)
    exact ⟨t :: us, by rw [List.map_cons, ← e], .cons ht p⟩
theorem sorted_rd {α : Type} {F : Addr → α → Prop} {rd : V → α} (hr : ∀ t x, F t x → rd (.ref t) = x) {lt : α → α → Bool} {ts : List Addr} {xs : List α} {ys : List V} (hp : Paired F ts xs) (hy : ys.Perm (ts.map V.ref)) (hs : SrtO.Srtd (fun x y => lt (rd x) (rd y)) ys) :
    ∃ us zs, ys = us.map V.ref ∧ Paired F us zs ∧ zs.Perm xs ∧ SrtO.Srtd lt zs := by
  obtain ⟨us, e, p⟩ := rd_refs (F := F) (rd := rd) ys fun y h => by
    obtain ⟨t, ht, rfl⟩ := List.mem_map.mp (hy.mem_iff.mp h)
    exact ⟨t, rfl, rd_each hr hp t ht⟩
  refine ⟨us, _, e, p, ?_, List.pairwise_map.mpr hs⟩
  have := hy.map rd
  rw [rd_all hr hp] at this
  exact this
def spGF : Sp := fun vs H Q _ => ∃ l ts ws, vs = [.ref l] ∧ H l = some (.lst (ts.map V.ref)) ∧ Paired (LT H) ts ws ∧ LwOk ws ∧ ∀ l' us H', Ext H H' → H l' = none → H' l' = some (.lst (us.map V.ref)) → Paired (LT H') us (mkQ (tmW ws)).reverse → Q (.ref l') H'
/-! ### the text of a product -/
theorem len_ne {s : Str} (h : 1 ≤ s.length) : s ≠ emp := fun e => by
  rw [e] at h
  exact absurd h (by decide)
theorem app_ne {s t : Str} (h : t ≠ emp) : s ++ t ≠ emp := fun e => h (by
  have := congrArg Str.length e
  rw [strLen_append, show (emp : Str).length = 0 from rfl] at this
  have h0 : t.length = 0 := by omega
  exact Str.ext' (by
    have : t.cps.size = 0 := h0
    exact Array.eq_empty_of_size_eq_zero this))
theorem keyT_join : ∀ {p : Pd} {t : Str}, t ≠ emp → (∀ s, s ∈ p → s ≠ emp) → keyT t p = Str.join "*" (t :: p)
  | [], t, _, _ => rfl
  | k :: p, t, h, g => by
    show keyT (if t = emp then k else t ++ Str.ofString "*" ++ k) p = _
    rw [if_neg h, keyT_join (app_ne (g k (.head _))) fun s hs => g s (.tail _ hs)]
    exact StrLaws.join_shift _ _ _ _
theorem numN_ne {n b : Int} : numN n b ≠ emp := by
  have tne : ∀ i, tx i ≠ emp := fun i => len_ne (by
    unfold tx
    rw [ofString_length]
    cases i with
    | ofNat m =>
      have e : toString (Int.ofNat m) = Nat.repr m := rfl
      rw [e]
      exact Nat.length_repr_pos
    | negSucc m =>
      have e : toString (Int.negSucc m) = "-" ++ Nat.repr (m + 1) := rfl
      rw [e, String.length_append]
      have e1 : "-".length = 1 := rfl
      omega)
  unfold numN
  split
  · exact tne n
  · exact app_ne (tne b)
theorem plain_eq {n b : Int} {p : Pd} (h : Nms p) : plainN n b p = if p = [] then numN n b else if numN n b = Str.ofString "1" then Str.join "*" p else numN n b ++ Str.ofString "*" ++ Str.join "*" p := by
  have g : ∀ s, s ∈ p → s ≠ emp := fun s hs => len_ne (h s hs).one
  unfold plainN onesT
  cases p with
  | nil => rfl
  | cons k p =>
    rw [if_neg (List.cons_ne_nil k p)]
    by_cases e : numN n b = Str.ofString "1"
    · rw [if_pos ⟨List.cons_ne_nil k p, e⟩, if_pos e]
      show keyT (if emp = emp then k else _) p = _
      rw [if_pos rfl]
      exact keyT_join (g k (.head _)) fun s hs => g s (.tail _ hs)
    · rw [if_neg fun z => e z.2, if_neg e]
      exact keyT_join numN_ne g
def spPlain : Sp := fun vs H Q _ => ∃ (n b : Int) (q : Addr) (p : Pd), vs = [.int n, .int b, .ref q] ∧ n.natAbs.log2 < 1920 ∧ b.natAbs.log2 < 1920 ∧ Pt H q p ∧ Nms p ∧ p.length ≤ 100 ∧ ∀ H', Ext H H' → Q (.str (plainN (absN n) b p)) H'
section
variable {P : Program} {w : World} {K : PySem.W.Frag} {mg : Str → Option Value} {base : Heap} {a : Ad}
theorem B_law_greatest_first (T : Txt K mg a) : Binds K a.d_law_greatest_first ["_law_terms_here"] [] := T.law_greatest_first.F.binds fun _ _ _ _ _ _ us hl => match us, hl with | [_], _ => rfl
theorem ok_law_greatest_first (T : Txt K mg a) : FnOk P w K mg base CX0 3 a.law_greatest_first a.d_law_greatest_first ["_law_terms_here"] spGF := by
  refine T.law_greatest_first.F.ok sc_law_greatest_first (fun vs H Q E h => ?_) (fun cdv A outer s H vs Q E hr h => ?_)
  · obtain ⟨l, ts, ws, rfl, _⟩ := h
    rfl
  · obtain ⟨l, ts, ws, rfl, hl, hp, ok, h⟩ := h
    refine ⟨_, (pss_mid (ps_set (i := 1) sc_law_greatest_first.nd rfl (.inl rfl) (pe_callB (cr_sortTup hr) (by rfl) T.b_sorted (by decide +kernel) (pa_cons (pe_lc (own := [("_law_top", 2), ("_law_bottom", 3), ("_law_product", 4)]) (g := gTup K 3 (gCons (gName 2) (gCons (gName 3) (gCons (gName 4) gNil)))) (by rfl) sc_law_greatest_first.nd (pi_list (pv 0)) (blkOk_by (N := ["_law_terms_here", "_law_ranked", "_law_top", "_law_bottom", "_law_product", "_law_size"]) (sc := defScope s_law_greatest_first) (by decide +kernel)) (fun _ _ _ _ _ => (pg_tup rfl (pgs_cons (pg_name (i := 2) sc_law_greatest_first.nd rfl (.inl rfl) (.inr rfl)) (pgs_cons (pg_name (i := 3) sc_law_greatest_first.nd rfl (.inl rfl) (.inr rfl)) (pgs_cons (pg_name (i := 4) sc_law_greatest_first.nd rfl (.inl rfl) (.inr rfl)) pgs_nil))))) (fun _ _ _ _ _ => pts_nil) (fun _ _ _ _ _ => (pe_tup (pa_cons (pe_callB (r := rLen K) call_len (by rfl) T.b_len (by decide +kernel) (pa_cons (pv 4) pa_nil)) (pa_cons (pv 4) (pa_cons (pv 2) (pa_cons (pv 3) pa_nil))))))) pa_nil)))
      (pss_one (ps_ret (pe_lc (own := [("_law_size", 5), ("_law_product", 4), ("_law_top", 2), ("_law_bottom", 3)]) (g := gTup K 4 (gCons (gName 5) (gCons (gName 4) (gCons (gName 2) (gCons (gName 3) gNil))))) (by rfl) sc_law_greatest_first.nd (pi_list (pe_revL (pv 1))) (blkOk_by (N := ["_law_terms_here", "_law_ranked", "_law_top", "_law_bottom", "_law_product", "_law_size"]) (sc := defScope s_law_greatest_first) (by decide +kernel)) (fun _ _ _ _ _ => (pg_tup rfl (pgs_cons (pg_name (i := 5) sc_law_greatest_first.nd rfl (.inl rfl) (.inr rfl)) (pgs_cons (pg_name (i := 4) sc_law_greatest_first.nd rfl (.inl rfl) (.inr rfl)) (pgs_cons (pg_name (i := 2) sc_law_greatest_first.nd rfl (.inl rfl) (.inr rfl)) (pgs_cons (pg_name (i := 3) sc_law_greatest_first.nd rfl (.inl rfl) (.inr rfl)) pgs_nil)))))) (fun _ _ _ _ _ => pts_nil) (fun _ _ _ _ _ => (pe_tup (pa_cons (pv 2) (pa_cons (pv 3) (pa_cons (pv 4) pa_nil))))))))), ?_⟩
    refine ⟨fun σ H1 => Ext H H1 ∧ ∃ r us, H1 r = some (.lst (us.map V.ref)) ∧ Paired (L4 H1) us (mkQ (tmW ws)) ∧ σ = [some (.ref l), some (.ref r), none, none, none, none], ?_, ?_⟩
    · refine ⟨_, rfl, l, rfl, ⟨_, SqL.of hl⟩, fun D hD => ?_⟩
      refine lc_list (xs := ts.map V.ref) (fun i H' => Ext H H' ∧ ∃ us, H' D = some (.lst (us.map V.ref)) ∧ us.length = i ∧ Paired (L4 H') us (ws.take i)) ⟨ext_put Ext.rfl' hD, [], upd_same, rfl, .nil⟩ (fun i H' _ z => SqL.of (z.1 _ _ hl)) ?_ ?_
      · rintro i x H' hx ⟨e0, us, hus, hul, hup⟩
        rw [List.getElem?_map] at hx
        obtain ⟨t, ht, rfl⟩ := Option.map_eq_some_iff.mp hx
        obtain ⟨w', hw', q, h1, h2⟩ := pair_at hp ht
        have et : ws.take (i + 1) = ws.take i ++ [w'] := by rw [List.take_add_one, hw']; rfl
        have i5 : i < 5 := by
          have := (List.getElem?_eq_some_iff.mp hw').1
          have := ok.few
          omega
        refine ⟨t, _, rfl, SqT.of (e0 _ _ h1), rfl, _, _, rfl, _, _, rfl, _, _, rfl, rfl, rfl, yes_of ?_⟩
        refine ⟨_, rfl, _, w'.1.length, rfl, .inr ⟨_, SqT.of (e0 _ _ h2), (List.length_map _).symm⟩, _, rfl, _, rfl, _, rfl, (by show 4 ≤ sizeLine; decide), fun tq htq => ?_⟩
        have e1 := Ext.upd (o := .tup [.int (w'.1.length : Int), .ref q, .int w'.2.num, .int (w'.2.den : Int)]) htq
        have h3 := e1 _ _ hus
        refine ⟨_, h3, Nat.lt_of_lt_of_le (by rw [List.length_map, hul]; exact i5) (by decide), ext_put (e0.trans e1) hD, us ++ [tq], ?_, by rw [List.length_append, hul]; rfl, ?_⟩
        · rw [upd_same, List.map_append]
          rfl
        · rw [et]
          exact paired_snoc (paired_imp (fun _ _ z => (z.ext e1).put h3) hup) (L4.put ⟨q, upd_same, e1 _ _ (e0 _ _ h2)⟩ h3)
      · rintro H' ⟨e0, us, hus, hul, hup⟩
        rw [List.length_map, paired_len hp, List.take_length] at hup
        refine ⟨D, _, fun v => key4 (wOf H' v), rfl, SqL.of hus, fun x hx => ?_, fun x _ y _ => like4 _ _, fun ys p hys hyp hpn => ?_⟩
        · obtain ⟨t, ht, rfl⟩ := List.mem_map.mp hx
          obtain ⟨q, h1, h2⟩ := rd_each (rd := wOf H') (fun _ _ z => wOf_at z) hup t ht
          exact ⟨t, _, rfl, h1, .cons ⟨q, rfl, h2⟩ (.cons rfl (.cons rfl .nil))⟩
        · obtain ⟨us', zs, rfl, hz, hzp, hzs⟩ := sorted_rd (lt := fun x y => ltT (key4 x) (key4 y)) (fun _ _ z => wOf_at z) hup hyp hys
          obtain rfl := mkQ_law ok hzp hzs
          have e1 := Ext.upd (o := .lst (us'.map V.ref)) hpn
          exact ⟨e0.trans e1, p, us', upd_same, paired_imp (fun _ _ z => z.ext e1) hz, rfl⟩
    · rintro σ H1 ⟨e1, r, us, hr1, hup, rfl⟩
      have zl : (mkQ (tmW ws)).length ≤ 5 := Nat.le_trans (mkQ_len _) (by rw [tmW_len]; exact ok.few)
      refine ⟨_, rfl, r, _, rfl, SqL.of hr1, fun p hp2 => ?_⟩
      have e2 := Ext.upd (o := .lst (us.map V.ref).reverse) hp2
      have h2 : upd H1 p (.lst (us.map V.ref).reverse) p = some (.lst (us.reverse.map V.ref)) := by rw [upd_same, List.map_reverse]
      generalize upd H1 p (.lst (us.map V.ref).reverse) = H2 at *
      have hup2 := paired_rev (paired_imp (fun _ _ z => L4.ext z e2) hup)
      refine ⟨p, rfl, ⟨_, SqL.of h2⟩, fun D hD => ?_⟩
      refine lc_list (xs := us.reverse.map V.ref) (fun i H' => Ext H2 H' ∧ ∃ vs, H' D = some (.lst (vs.map V.ref)) ∧ vs.length = i ∧ Paired (LT H') vs ((mkQ (tmW ws)).reverse.take i)) ⟨ext_put Ext.rfl' hD, [], upd_same, rfl, .nil⟩ (fun i H' _ z => SqL.of (z.1 _ _ h2)) ?_ ?_
      · rintro i x H' hx ⟨e0, vs, hvs, hvl, hvp⟩
        rw [List.getElem?_map] at hx
        obtain ⟨t, ht, rfl⟩ := Option.map_eq_some_iff.mp hx
        obtain ⟨w', hw', q, h3, h4⟩ := pair_at hup2 ht
        have et : (mkQ (tmW ws)).reverse.take (i + 1) = (mkQ (tmW ws)).reverse.take i ++ [w'] := by rw [List.take_add_one, hw']; rfl
        have i5 : i < 5 := by
          have := (List.getElem?_eq_some_iff.mp hw').1
          rw [List.length_reverse] at this
          omega
        refine ⟨t, _, rfl, SqT.of (e0 _ _ h3), rfl, _, _, rfl, _, _, rfl, _, _, rfl, _, _, rfl, rfl, rfl, yes_of ?_⟩
        refine ⟨_, rfl, _, rfl, _, rfl, (by show 3 ≤ sizeLine; decide), fun tq htq => ?_⟩
        have e3 := Ext.upd (o := .tup [.int w'.2.num, .int (w'.2.den : Int), .ref q]) htq
        have h5 := e3 _ _ hvs
        refine ⟨_, h5, Nat.lt_of_lt_of_le (by rw [List.length_map, hvl]; exact i5) (by decide), ext_put (e0.trans e3) hD, vs ++ [tq], ?_, by rw [List.length_append, hvl]; rfl, ?_⟩
        · rw [upd_same, List.map_append]
          rfl
        · rw [et]
          exact paired_snoc (paired_imp (fun _ _ z => (z.ext e3).put h5) hvp) (LT.put ⟨q, upd_same, e3 _ _ (e0 _ _ h4)⟩ h5)
      · rintro H' ⟨e0, vs, hvs, hvl, hvp⟩
        rw [List.length_map, paired_len hup2, List.take_length] at hvp
        refine h D vs H' ((e1.trans e2).trans e0) ?_ hvs hvp
        cases c : H D with
        | none => rfl
        | some o => rw [(e1.trans e2) _ _ c] at hD; cases hD
theorem B_law_plain (T : Txt K mg a) : Binds K a.d_law_plain ["_law_top", "_law_bottom", "_law_product"] [] := T.law_plain.F.binds fun _ _ _ _ _ _ us hl => match us, hl with | [_, _, _], _ => rfl
theorem ok_law_plain (T : Txt K mg a) : FnOk P w K mg base CX0 1 a.law_plain a.d_law_plain ["_law_top", "_law_bottom", "_law_product"] spPlain := by
  refine T.law_plain.F.ok sc_law_plain (fun vs H Q E h => ?_) (fun cdv A outer s H vs Q E hr h => ?_)
  · obtain ⟨n, b, q, p, rfl, _⟩ := h
    rfl
  · obtain ⟨n, b, q, p, rfl, hn, hb, hq, hp, hl, h⟩ := h
    refine ⟨_, (pss_mid (ps_set (i := 3) sc_law_plain.nd rfl (.inl rfl) (pe_ifExp (pt_cmpR op_eq (pv 1) pe_int (nomark _)) (pe_callTy call_str_int (by rfl) T.b_str (by decide +kernel) (pa_cons (pe_callB call_abs (by rfl) T.b_abs (by decide +kernel) (pa_cons (pv 0) pa_nil)) pa_nil)) (pe_op op_add_str (pe_op op_add_str (pe_callTy call_str_int (by rfl) T.b_str (by decide +kernel) (pa_cons (pe_callB call_abs (by rfl) T.b_abs (by decide +kernel) (pa_cons (pv 0) pa_nil)) pa_nil)) pe_str) (pe_callTy call_str_int (by rfl) T.b_str (by decide +kernel) (pa_cons (pv 1) pa_nil)))))
      (pss_cons (ps_if (pt_cmpR (op_eqD (hu64 hr)) (pv 2) (pe_tup pa_nil) (nomark _)) (pss_one (ps_ret (pv 3))) pss_nil)
      (pss_one (ps_ret (pe_ifExp (pt_cmpR op_eq (pv 3) pe_str (nomark _)) (pe_join pe_str (pv 2)) (pe_op op_add_str (pe_op op_add_str (pv 3) pe_str) (pe_join pe_str (pv 2)))))))), ?_⟩
    have hn' : (absN n).natAbs.log2 < 1920 := by
      unfold absN
      split
      · rw [Int.natAbs_neg]
        exact hn
      · exact hn
    have l1 := tx_len hn'
    have l2 := tx_len hb
    have ll := line_ge
    have c1 : (Str.ofString "/").length = 1 := rfl
    have nl := numN_len hn' hb
    refine ⟨fun σ H1 => H1 = H ∧ σ = [some (.int n), some (.int b), some (.ref q), some (.str (numN (absN n) b))], ?_, ?_⟩
    · refine ⟨_, rfl, rfl, _, rfl, ?_⟩
      by_cases h1 : b = 1
      · refine iteY (by simp [h1]) ⟨_, rfl, n, rfl, absN n, rfl, hn', rfl, ?_⟩
        unfold numN
        rw [if_pos h1]
        rfl
      · refine iteN (by simp [h1]) ?_
        refine ⟨_, rfl, n, rfl, absN n, rfl, hn', _, _, rfl, rfl, ?_, _, rfl, b, rfl, hb, _, _, rfl, rfl, ?_, rfl, ?_⟩
        · show (tx (absN n)).length + 1 ≤ _
          omega
        · rw [strLen_append]
          show (tx (absN n)).length + 1 + (tx b).length ≤ _
          omega
        · unfold numN
          rw [if_neg h1]
          rfl
    rintro σ H1 ⟨rfl, rfl⟩
    refine ⟨_, rfl, (by show 0 ≤ sizeLine; decide), fun tq htq => ?_⟩
    have e1 := Ext.upd (o := .tup []) htq
    refine ⟨.tuple (p.map PyData.str), .tuple [], dp_keys (e1 _ _ hq), .tup (SqT.of upd_same) .nil, (pln_keys hp).shaped (by decide), (by decide), _, rfl, ?_⟩
    have fin := h _ e1
    rw [plain_eq hp] at fin
    have hq1 := e1 _ _ hq
    have jl : ∀ c : Str, c.length = 1 → (p.map (·.length)).sum + p.length * c.length ≤ 16777216 := fun c hc => by
      have := sum_le (f := fun t : Str => t.length) (l := p) (m := 8) fun s hs => (hp s hs).most
      rw [hc]
      omega
    have jl2 : (Str.join "*" p).length ≤ 900 := by
      have h1 := StrLaws.join_length_le "*" p
      have := sum_le (f := fun t : Str => t.length) (l := p) (m := 8) fun s hs => (hp s hs).most
      have h3 : ("*" : Str).length = 1 := rfl
      rw [h3] at h1
      omega
    cases p with
    | nil =>
      rw [if_pos rfl] at fin
      exact iteY rfl ⟨_, rfl, fin⟩
    | cons k p =>
      rw [if_neg (List.cons_ne_nil k p)] at fin
      refine iteN rfl ⟨_, rfl, rfl, _, rfl, ?_⟩
      by_cases h1 : numN (absN n) b = Str.ofString "1"
      · rw [if_pos h1] at fin
        refine iteY (by simp [h1]) ⟨⟨_, rfl⟩, _, rfl, _, q, k :: p, rfl, rfl, .inr (SqT.of hq1), jl _ rfl, ?_⟩
        rw [TL.join_eq]
        exact fin
      · rw [if_neg h1] at fin
        refine iteN (by simp [h1]) ⟨_, rfl, _, _, rfl, rfl, ?_, ⟨_, rfl⟩, _, rfl, _, q, k :: p, rfl, rfl, .inr (SqT.of hq1), jl _ rfl, _, _, rfl, rfl, ?_, ?_⟩
        · show (numN (absN n) b).length + 1 ≤ _
          omega
        · rw [strLen_append, TL.join_eq]
          show (numN (absN n) b).length + 1 + _ ≤ _
          omega
        · rw [TL.join_eq]
          exact fin
end
end P

namespace P
open PySem L2 NS

/-! ### the law's texts -/
theorem mem_law {ws : Wts} (ok : LwOk ws) {w : Pd × Rat} (h : w ∈ mkQ (tmW ws)) : w ∈ ws := by
  have h1 := mkQ_val h
  have h2 := mkQ_ne h
  rw [fs_tmW ok.nd fun u hu => (ok.all u hu).so] at h1
  rw [h1] at h2
  have h3 := wv_on ok.nd h2
  rw [← h1] at h3
  exact h3
theorem tm_law {ws : Wts} (ok : LwOk ws) {w : Pd × Rat} (h : w ∈ mkQ (tmW ws)) : TmOk 1900 (w.2, w.1) := by
  have z := (ok.all w (mem_law ok h)).tm
  exact ⟨z.nm, z.few, z.sz.mono (by decide)⟩
theorem len_law {ws : Wts} (ok : LwOk ws) : (mkQ (tmW ws)).length ≤ 5 := Nat.le_trans (mkQ_len _) (by rw [tmW_len]; exact ok.few)
def spLText : Sp := fun vs H Q _ => ∃ l ts ws, vs = [.ref l] ∧ H l = some (.lst (ts.map V.ref)) ∧ Paired (LT H) ts ws ∧ LwOk ws ∧ ∀ H', Ext H H' → Q (.str (qTxt (mkQ (tmW ws)))) H'
def spLShown : Sp := fun vs H Q _ => ∃ l ts ws, vs = [.ref l] ∧ H l = some (.lst (ts.map V.ref)) ∧ Paired (LT H) ts ws ∧ LwOk ws ∧ ∀ H', Ext H H' → Q (.str (reprW (mkQ (tmW ws)))) H'
def spLMade (CQ C : Addr) : Sp := fun vs H Q _ => ∃ l ts ws, vs = [.ref l] ∧ H l = some (.lst (ts.map V.ref)) ∧ Paired (LT H) ts ws ∧ LwOk ws ∧ ∀ v' H', Ext H H' → IsQ CQ C H' v' (mkQ (tmW ws)) → Q v' H'
/-- a term as the law shows it -/
def shownL (w : Pd × Rat) : Str := Str.ofString "(Ratio(" ++ tx w.2.num ++ Str.ofString ", " ++ tx (w.2.den : Int) ++ Str.ofString "), " ++ keysTx w.1 ++ Str.ofString ")"
theorem shownL_eq (w : Pd × Rat) : shownL w = termTx w := by
  unfold shownL termTx tupleText
  show _ = Str.ofString "(" ++ (reprQ w.2 ++ Str.ofString ", " ++ keysTx w.1) ++ Str.ofString ")"
  unfold reprQ
  have e1 : Str.ofString "(Ratio(" = Str.ofString "(" ++ Str.ofString "Ratio(" := by decide +kernel
  have e2 : Str.ofString "), " = Str.ofString ")" ++ Str.ofString ", " := by decide +kernel
  rw [e1, e2]
  simp only [Str.append_assoc]
theorem reprW_eq (ws : Wts) : Str.ofString "Question([" ++ Str.join ", " (ws.map shownL) ++ Str.ofString "])" = reprW ws := by
  unfold reprW
  rw [listText_eq_join]
  have e0 : ws.map shownL = ws.map termTx := List.map_congr_left fun w _ => shownL_eq w
  rw [e0]
  have e1 : Str.ofString "Question([" = Str.ofString "Question(" ++ Str.ofString "[" := by decide +kernel
  have e2 : Str.ofString "])" = Str.ofString "]" ++ Str.ofString ")" := by decide +kernel
  rw [e1, e2]
  simp only [Str.append_assoc]
theorem rd_RatioN {C : Addr} {H : Hp} {t b : Int} {x dx : Addr} {Q : VK} (hb : b ≠ 0) (zt : Bt 9000 t) (zb : Bt 9000 b) (hx : H x = none) (hd : H dx = none) (ne : dx ≠ x) (k : ∀ H', Ext H H' → IsRat C H' (.ref x) (Rat.divInt t b) → Q .non H') :
    spInit C [.ref x, .int t, .int b] (upd (upd H dx (.own x)) x (.ins C dx [])) Q E0 := by
  obtain ⟨p, dx', t', b', h1, h2, h3, h4, h5, h6⟩ := rd_Ratio (C := C) (H := H) (Q := fun v H2 => v = .ref x → Q .non H2) hb zt zb (fun v' H' e r hv => by
    subst hv
    exact k H' e r) x dx hx hd ne
  exact ⟨p, dx', t', b', h1, h2, h3, h4, h5, fun H' z1 z2 => (h6 H' z1 z2).2 rfl⟩
theorem rd_QN {K : PySem.W.Frag} {CQ C : Addr} {H : Hp} {v : V} {ts : List Tm} {b : Nat} {x dx : Addr} {Q : VK} (hm : TermsAt K C H v ts) (ok : TsOk b ts) (hx : H x = none) (hd : H dx = none) (ne : dx ≠ x) (k : ∀ H', Ext H H' → IsQ CQ C H' (.ref x) (mkQ ts) → Q .non H') :
    spInitQ K CQ C [.ref x, v] (upd (upd H dx (.own x)) x (.ins CQ dx [])) Q E0 := by
  obtain ⟨p, dx', v', ts', b', h1, h2, h3, h4, h6⟩ := rd_Q (K := K) (CQ := CQ) (C := C) (H := H) (Q := fun v H2 => v = .ref x → Q .non H2) hm ok (fun v' H' e r hv => by
    subst hv
    exact k H' e r) x dx hx hd ne
  exact ⟨p, dx', v', ts', b', h1, h2, h3, h4, fun H' d kvs z1 z2 z3 z4 z5 => (h6 H' d kvs z1 z2 z3 z4 z5).2 rfl⟩
def rListOf (K : PySem.W.Frag) : List V → Hp → VK → Prop := fun xs H Q => ∃ p ys, xs = [V.ref p] ∧ (SqL K H p ys ∨ SqT K H p ys) ∧ ∀ l : Addr, H l = none → Q (V.ref l) (upd H l (.lst ys))
section
variable {P : Program} {w : World} {K : PySem.W.Frag} {mg : Str → Option Value} {base : Heap} {a : Ad}
theorem B_law_text (T : Txt K mg a) : Binds K a.d_law_text ["_law_terms_here"] [] := T.law_text.F.binds fun _ _ _ _ _ _ us hl => match us, hl with | [_], _ => rfl
theorem ok_law_text (T : Txt K mg a) : FnOk P w K mg base CX0 4 a.law_text a.d_law_text ["_law_terms_here"] spLText := by
  have G_law_greatest_first := ok_law_greatest_first (P := P) (w := w) (base := base) T
  have b_law_greatest_first := B_law_greatest_first T
  have G_law_plain := ok_law_plain (P := P) (w := w) (base := base) T
  have b_law_plain := B_law_plain T
  refine T.law_text.F.ok sc_law_text (fun vs H Q E h => ?_) (fun cdv A outer s H vs Q E hr h => ?_)
  · obtain ⟨l, ts, ws, rfl, _⟩ := h
    rfl
  · obtain ⟨l, ts, ws, rfl, hl, hp, ok, h⟩ := h
    refine ⟨_, (pss_cons (ps_set (i := 1) sc_law_text.nd rfl (.inl rfl) pe_str)
      (pss_cons (ps_for PassesOwn.never rfl (pi_list (pe_call G_law_greatest_first (hr.mono (by decide)) (by rfl) T.law_greatest_first.g T.law_greatest_first.F.kp b_law_greatest_first .nil pass0 (pa_cons (pv 0) pa_nil))) (pg_tup rfl (pgs_cons (pg_name (i := 2) sc_law_text.nd rfl (.inl rfl)) (pgs_cons (pg_name (i := 3) sc_law_text.nd rfl (.inl rfl)) (pgs_cons (pg_name (i := 4) sc_law_text.nd rfl (.inl rfl)) pgs_nil)))) (pss_cons (ps_set (i := 5) sc_law_text.nd rfl (.inl rfl) (pe_call G_law_plain (hr.mono (by decide)) (by rfl) T.law_plain.g T.law_plain.F.kp b_law_plain .nil pass0 (pa_cons (pv 2) (pa_cons (pv 3) (pa_cons (pv 4) pa_nil)))))
      (pss_one (ps_if (pt_cmpR op_eq (pv 1) pe_str (nomark _)) (pss_one (ps_set (i := 1) sc_law_text.nd rfl (.inl rfl) (pe_ifExp (pt_cmpR op_lt (pv 2) pe_int (nomark _)) (pe_op op_add_str pe_str (pv 5)) (pv 5)))) (pss_one (ps_set (i := 1) sc_law_text.nd rfl (.inl rfl) (pe_op op_add_str (pe_op op_add_str (pv 1) (pe_ifExp (pt_cmpR op_lt (pv 2) pe_int (nomark _)) pe_str pe_str)) (pv 5))))))))
      (pss_one (ps_ret (pe_ifExp (pt_cmpR op_ne (pv 1) pe_str (nomark _)) (pv 1) pe_str))))), ?_⟩
    refine ⟨_, rfl, l, ts, ws, rfl, hl, hp, ok, fun l1 us H1 e1 _ hl1 hup => ⟨l1, rfl, ⟨_, SqL.of hl1⟩, ?_⟩⟩
    have ll : (5000000 : Nat) ≤ sizeLine := by decide
    have zl := len_law ok
    generalize hzs : mkQ (tmW ws) = zs at *
    refine for_list (xs := us.map V.ref) (fun i σ H' => Ext H1 H' ∧ ∃ x2 x3 x4 x5, σ = [some (.ref l), some (.str (runT (zs.reverse.take i))), x2, x3, x4, x5]) ⟨Ext.rfl', _, _, _, _, rfl⟩ (fun i σ H' _ z => SqL.of (z.1 _ _ hl1)) ?_ ?_
    · rintro i x σ H' hx ⟨e2, x2, x3, x4, x5, rfl⟩
      rw [List.getElem?_map] at hx
      obtain ⟨t, ht, rfl⟩ := Option.map_eq_some_iff.mp hx
      obtain ⟨w', hw', q, h1, h2⟩ := pair_at hup ht
      have wm : w' ∈ zs := List.mem_reverse.mp (List.mem_of_getElem? hw')
      have tm : TmOk 1900 (w'.2, w'.1) := tm_law ok (by rw [hzs]; exact wm)
      refine ⟨t, _, rfl, SqT.of (e2 _ _ h1), rfl, _, _, rfl, _, _, rfl, _, _, rfl, rfl, ?_⟩
      refine ⟨_, rfl, _, rfl, _, rfl, w'.2.num, (w'.2.den : Int), q, w'.1, rfl, (tm.sz.mono (show 1900 ≤ 1920 by decide)).top.log (by decide), (tm.sz.mono (show 1900 ≤ 1920 by decide)).bot.log (by decide), e2 _ _ h2, tm.nm, tm.few, fun H4 e4 => ?_⟩
      have et : zs.reverse.take (i + 1) = zs.reverse.take i ++ [w'] := by rw [List.take_add_one, hw']; rfl
      have pl := plQ_len tm
      have rl : (runT (zs.reverse.take i)).length ≤ 4746000 := by
        have h1 := runT_len (ws := zs.reverse.take i) fun u hu => tm_law ok (by rw [hzs]; exact List.mem_reverse.mp (List.mem_of_mem_take hu))
        have h3 : (zs.reverse.take i).length ≤ zs.length := by rw [List.length_take, List.length_reverse]; omega
        omega
      have cm : (Str.ofString "-").length = 1 := rfl
      have c3 : (Str.ofString " - ").length = 3 := rfl
      have c4 : (Str.ofString " + ").length = 3 := rfl
      rw [et, runT_snoc]
      unfold stepT
      refine ⟨_, rfl, rfl, _, rfl, ?_⟩
      by_cases h1 : runT (zs.reverse.take i) = emp
      · refine iteY (by simp [h1]) ⟨_, rfl, _, _, rfl, rfl, _, rfl, ?_⟩
        rw [if_pos h1]
        by_cases h2 : w'.2.num < 0
        · refine iteY (decide_eq_true h2) ⟨_, rfl, _, _, rfl, rfl, ?_, e2.trans e4, some (.int w'.2.num), some (.int (w'.2.den : Int)), some (.ref q), some (.str (plQ w')), ?_⟩
          · show 1 + (plQ w').length ≤ _
            omega
          · rw [if_pos h2]
            rfl
        · refine iteN (decide_eq_false h2) ⟨_, rfl, e2.trans e4, some (.int w'.2.num), some (.int (w'.2.den : Int)), some (.ref q), some (.str (plQ w')), ?_⟩
          rw [if_neg h2]
          rfl
      · refine iteN (by simp [h1]) ⟨_, rfl, _, rfl, _, _, rfl, rfl, _, rfl, ?_⟩
        rw [if_neg h1]
        by_cases h2 : w'.2.num < 0
        · refine iteY (decide_eq_true h2) ⟨_, _, rfl, rfl, ?_, _, rfl, _, _, rfl, rfl, ?_, e2.trans e4, some (.int w'.2.num), some (.int (w'.2.den : Int)), some (.ref q), some (.str (plQ w')), ?_⟩
          · rw [c3]
            omega
          · rw [strLen_append, c3]
            show _ + 3 + (plQ w').length ≤ _
            omega
          · rw [if_pos h2]
            rfl
        · refine iteN (decide_eq_false h2) ⟨_, _, rfl, rfl, ?_, _, rfl, _, _, rfl, rfl, ?_, e2.trans e4, some (.int w'.2.num), some (.int (w'.2.den : Int)), some (.ref q), some (.str (plQ w')), ?_⟩
          · rw [c4]
            omega
          · rw [strLen_append, c4]
            show _ + 3 + (plQ w').length ≤ _
            omega
          · rw [if_neg h2]
            rfl
    · rintro σ H' ⟨e2, x2, x3, x4, x5, rfl⟩
      have el : (us.map V.ref).length = zs.reverse.length := by rw [List.length_map]; exact paired_len hup
      rw [el, List.take_length]
      refine ⟨_, rfl, rfl, _, rfl, ?_⟩
      have := h H' (e1.trans e2)
      unfold qTxt at this
      by_cases h1 : runT zs.reverse = emp
      · rw [if_neg fun z => z h1] at this
        exact iteN (by simp [h1]) this
      · rw [if_pos h1] at this
        exact iteY (by simp [h1]) ⟨_, rfl, this⟩
theorem B_law_shown (T : Txt K mg a) : Binds K a.d_law_shown ["_law_terms_here"] [] := T.law_shown.F.binds fun _ _ _ _ _ _ us hl => match us, hl with | [_], _ => rfl
theorem ok_law_shown (T : Txt K mg a) : FnG P w K mg base 4 a.law_shown a.d_law_shown ["_law_terms_here"] spLShown := by
  have G_law_greatest_first := ok_law_greatest_first (P := P) (w := w) (base := base) T
  have b_law_greatest_first := B_law_greatest_first T
  refine okG T.law_shown.F sc_law_shown (fun vs H Q E h => ?_) (fun cdv A outer s H vs Q hg hr h => ?_)
  · obtain ⟨l, ts, ws, rfl, _⟩ := h
    rfl
  · obtain ⟨l, ts, ws, rfl, hl, hp, ok, h⟩ := h
    have hgd : (A.deeper (PyProof.Rows.envOfC "_law_shown" (defScope s_law_shown) s.heap.objs.size a.law_shown cdv)).guards = some [] := hg
    refine ⟨_, (pss_cons (ps_set (i := 1) sc_law_shown.nd rfl (.inl rfl) (pe_lst pa_nil))
      (pss_cons (ps_for PassesOwn.never rfl (pi_list (pe_revL (pe_call G_law_greatest_first (hr.mono (by decide)) (by rfl) T.law_greatest_first.g T.law_greatest_first.F.kp b_law_greatest_first .nil pass0 (pa_cons (pv 0) pa_nil)))) (pg_tup rfl (pgs_cons (pg_name (i := 2) sc_law_shown.nd rfl (.inl rfl)) (pgs_cons (pg_name (i := 3) sc_law_shown.nd rfl (.inl rfl)) (pgs_cons (pg_name (i := 4) sc_law_shown.nd rfl (.inl rfl)) pgs_nil)))) (pss_one (ps_expr (pe_bm PySem.F.plainAttrs_list PySem.F.slot_list_append PySem.F.type_list_append mt_append (pv 1) (pa_cons (pe_op op_add_str (pe_op op_add_str (pe_op op_add_str (pe_op op_add_str (pe_op op_add_str (pe_op op_add_str pe_str (pe_callTy call_str_int (by rfl) T.b_str (by decide +kernel) (pa_cons (pv 2) pa_nil))) pe_str) (pe_callTy call_str_int (by rfl) T.b_str (by decide +kernel) (pa_cons (pv 3) pa_nil))) pe_str) (pe_callB (call_reprT (n := 0) (hr.mono (by decide)) hgd) (by rfl) T.b_repr (by decide +kernel) (pa_cons (pv 4) pa_nil))) pe_str) pa_nil)))))
      (pss_one (ps_ret (pe_op op_add_str (pe_op op_add_str pe_str (pe_join pe_str (pv 1))) pe_str))))), ?_⟩
    refine ⟨(by show 0 ≤ sizeLine; decide), fun D hD => ?_⟩
    have e0 := Ext.upd (o := .lst []) hD
    refine ⟨_, rfl, l, ts, ws, rfl, e0 _ _ hl, paired_imp (fun _ _ z => z.ext e0) hp, ok, fun l1 us H1 e1 hl1n hl1 hup => ⟨l1, _, rfl, SqL.of hl1, fun l2 hl2 => ?_⟩⟩
    have ll : (5000000 : Nat) ≤ sizeLine := by decide
    have zl := len_law ok
    generalize hzs : mkQ (tmW ws) = zs at *
    have e2 := Ext.upd (o := .lst (us.map V.ref).reverse) hl2
    have h2 : upd H1 l2 (.lst (us.map V.ref).reverse) l2 = some (.lst (us.reverse.map V.ref)) := by rw [upd_same, List.map_reverse]
    have hD2 : upd H1 l2 (.lst (us.map V.ref).reverse) D = some (.lst (([] : List Str).map V.str)) := e2 _ _ (e1 _ _ upd_same)
    generalize upd H1 l2 (.lst (us.map V.ref).reverse) = H2 at *
    have hup2 := paired_rev (paired_imp (fun _ _ z => LT.ext z e2) hup)
    rw [List.reverse_reverse] at hup2
    have hl2n : H l2 = none := by
      cases c : H l2 with
      | none => rfl
      | some o => rw [(e0.trans e1) _ _ c] at hl2; cases hl2
    have nDl : l2 ≠ D := fun z => by
      rw [z, e1 _ _ upd_same] at hl2
      cases hl2
    have tml : ∀ w', w' ∈ zs → TmOk 1900 (w'.2, w'.1) := fun w' hw => tm_law ok (by rw [hzs]; exact hw)
    have shl : ∀ w', w' ∈ zs → (shownL w').length ≤ 12300 := fun w' hw => by rw [shownL_eq]; exact termTx_len (tml w' hw)
    refine ⟨l2, rfl, ⟨_, SqL.of h2⟩, ?_⟩
    refine for_list (xs := us.reverse.map V.ref) (fun i σ H' => (∀ b o, H2 b = some o → b ≠ D → H' b = some o) ∧ H' D = some (.lst (((zs.take i).map shownL).map V.str)) ∧ ∃ x2 x3 x4, σ = [some (.ref l), some (.ref D), x2, x3, x4]) ⟨fun _ _ z _ => z, hD2, _, _, _, rfl⟩ (fun i σ H' _ z => SqL.of (z.1 _ _ h2 nDl)) ?_ ?_
    · rintro i x σ H' hx ⟨e3, hD3, x2, x3, x4, rfl⟩
      rw [List.getElem?_map] at hx
      obtain ⟨t, ht, rfl⟩ := Option.map_eq_some_iff.mp hx
      obtain ⟨w', hw', q, h3, h4⟩ := pair_at hup2 ht
      have wm : w' ∈ zs := List.mem_of_getElem? hw'
      have tm := tml w' wm
      have et : zs.take (i + 1) = zs.take i ++ [w'] := by rw [List.take_add_one, hw']; rfl
      have n1 : t ≠ D := ne_of h3 hD2 fun y => nomatch y
      have n2 : q ≠ D := ne_of h4 hD2 fun y => nomatch y
      have i5 : i < 5 := by
        have := (List.getElem?_eq_some_iff.mp hw').1
        omega
      have zt := (tm.sz.mono (show 1900 ≤ 1920 by decide)).top.log (by decide)
      have zb := (tm.sz.mono (show 1900 ≤ 1920 by decide)).bot.log (by decide)
      have l1' : (tx w'.2.num).length ≤ 1921 := tx_len zt
      have l2' : (tx (w'.2.den : Int)).length ≤ 1921 := tx_len zb
      have l3' : (keysTx w'.1).length ≤ 8403 := keysTx_len tm.nm tm.few
      refine ⟨t, _, rfl, SqT.of (e3 _ _ h3 n1), rfl, _, _, rfl, _, _, rfl, _, _, rfl, rfl, ?_⟩
      refine ⟨_, rfl, .inl ⟨rfl, _, SqL.of hD3⟩, _, rfl, _, rfl, zt, _, _, rfl, rfl, ?_, _, _, rfl, rfl, ?_, _, rfl, _, rfl, zb, _, _, rfl, rfl, ?_, _, _, rfl, rfl, ?_, ?_⟩
      · show 7 + (tx w'.2.num).length ≤ _
        omega
      · rw [strLen_append]
        show 7 + (tx w'.2.num).length + 2 ≤ _
        omega
      · rw [strLen_append, strLen_append]
        show 7 + (tx w'.2.num).length + 2 + (tx (w'.2.den : Int)).length ≤ _
        omega
      · rw [strLen_append, strLen_append, strLen_append]
        show 7 + (tx w'.2.num).length + 2 + (tx (w'.2.den : Int)).length + 3 ≤ _
        omega
      refine ⟨_, rfl, q, _, _, [], rfl, (fun z => by cases z), e3 _ _ h4 n2, rep_strs tm.nm, Nat.le_trans l3' (by decide), fun H4 e4 => ?_⟩
      refine ⟨_, _, rfl, rfl, ?_, _, _, rfl, rfl, ?_, D, _, _, rfl, rfl, e4 _ _ hD3, ?_, ?_⟩
      · rw [strLen_append, strLen_append, strLen_append, strLen_append]
        show 7 + (tx w'.2.num).length + 2 + (tx (w'.2.den : Int)).length + 3 + (keysTx w'.1).length ≤ _
        omega
      · rw [strLen_append, strLen_append, strLen_append, strLen_append, strLen_append]
        show 7 + (tx w'.2.num).length + 2 + (tx (w'.2.den : Int)).length + 3 + (keysTx w'.1).length + 1 ≤ _
        omega
      · refine Nat.lt_of_lt_of_le (m := 10) ?_ (by decide)
        rw [List.length_map, List.length_map, List.length_take]
        omega
      · refine ⟨fun b o hb hne => ?_, ?_, _, _, _, rfl⟩
        · rw [upd_ne hne]
          exact e4 _ _ (e3 _ _ hb hne)
        · rw [upd_same, et, List.map_append, List.map_append]
          rfl
    · rintro σ H' ⟨e3, hD3, x2, x3, x4, rfl⟩
      have el : (us.reverse.map V.ref).length = zs.length := by rw [List.length_map]; exact paired_len hup2
      rw [el, List.take_length] at hD3
      have sl := sum_le (f := fun t : Str => t.length) (l := zs.map shownL) (m := 12300) fun s hs => by
        obtain ⟨w', hw, rfl⟩ := List.mem_map.mp hs
        exact shl w' hw
      rw [List.length_map] at sl
      have jl := StrLaws.join_length_le ", " (zs.map shownL)
      rw [List.length_map, show (", " : Str).length = 2 from rfl] at jl
      have hn : Ext H H' := fun b o hb => e3 b o (e2 _ _ (e1 _ _ (e0 _ _ hb))) (ne_of_none hb hD)
      have fin := h H' hn
      rw [← reprW_eq] at fin
      refine ⟨⟨_, rfl⟩, _, rfl, _, D, zs.map shownL, rfl, rfl, .inl (SqL.of hD3), ?_, _, _, rfl, rfl, ?_, _, _, rfl, rfl, ?_, ?_⟩
      · rw [List.length_map, show (Str.ofString ", ").length = 2 from rfl]
        omega
      · rw [TL.join_eq]
        show 10 + (Str.join ", " (zs.map shownL)).length ≤ _
        omega
      · rw [TL.join_eq, strLen_append]
        show 10 + (Str.join ", " (zs.map shownL)).length + 2 ≤ _
        omega
      · rw [TL.join_eq]
        exact fin
theorem B_law_made (T : Txt K mg a) : Binds K a.d_law_made ["_law_terms_here"] [] := T.law_made.F.binds fun _ _ _ _ _ _ us hl => match us, hl with | [_], _ => rfl
theorem lw_ts {ws : Wts} (ok : LwOk ws) : TsOk 100 (tmW ws) := TsOk.of (fun t ht => by
  obtain ⟨w', hw, rfl⟩ := List.mem_map.mp ht
  exact (ok.all w' hw).tm) (by decide) (by decide) (by
  rw [tmW_len]
  have := ok.few
  omega)
theorem ok_law_made (T : Txt K mg a) : FnOk P w K mg base CX0 9 a.law_made a.d_law_made ["_law_terms_here"] (spLMade a.Question a.Ratio) := by
  have G_Question_init := ok_Question_init (P := P) (w := w) (base := base) T
  have M_Question := Mk_Question T
  have b_Question1 := B_Question1 T
  have G_Ratio_init := ok_Ratio_init (P := P) (w := w) (base := base) T
  have M_Ratio := Mk_Ratio T
  have b_Ratio2 := B_Ratio2 T
  refine T.law_made.F.ok sc_law_made (fun vs H Q E h => ?_) (fun cdv A outer s H vs Q E hr h => ?_)
  · obtain ⟨l, ts, ws, rfl, _⟩ := h
    rfl
  · obtain ⟨l, ts, ws, rfl, hl, hp, ok, h⟩ := h
    refine ⟨_, (pss_one (ps_ret (pe_make M_Question G_Question_init (hr.mono (by decide)) (by rfl) T.Question.g b_Question1 .nil pass0 (pa_cons (pe_lc (own := [("_law_top", 1), ("_law_bottom", 2), ("_law_product", 3)]) (g := gTup K 3 (gCons (gName 1) (gCons (gName 2) (gCons (gName 3) gNil)))) (by rfl) sc_law_made.nd (pi_list (pv 0)) (blkOk_by (N := ["_law_terms_here", "_law_top", "_law_bottom", "_law_product"]) (sc := defScope s_law_made) (by decide +kernel)) (fun _ _ _ _ _ => (pg_tup rfl (pgs_cons (pg_name (i := 1) sc_law_made.nd rfl (.inl rfl) (.inr rfl)) (pgs_cons (pg_name (i := 2) sc_law_made.nd rfl (.inl rfl) (.inr rfl)) (pgs_cons (pg_name (i := 3) sc_law_made.nd rfl (.inl rfl) (.inr rfl)) pgs_nil))))) (fun _ _ _ _ _ => pts_nil) (fun _ _ _ _ _ => (pe_tup (pa_cons (pe_make M_Ratio G_Ratio_init (hr.mono (by decide)) (by rfl) T.Ratio.g b_Ratio2 .nil pass0 (pa_cons (pv 1) (pa_cons (pv 2) pa_nil))) (pa_cons (pe_callTy (r := rListOf K) call_list_of (by rfl) T.b_list (by decide +kernel) (pa_cons (pv 3) pa_nil)) pa_nil))))) pa_nil)))), ?_⟩
    refine ⟨_, rfl, l, rfl, ⟨_, SqL.of hl⟩, fun D hD => ?_⟩
    refine lc_list (xs := ts.map V.ref) (fun i H' => Ext H H' ∧ ∃ us, H' D = some (.lst (us.map V.ref)) ∧ us.length = i ∧ Paired (fun u w => ∃ x k, H' u = some (.tup [x, .ref k]) ∧ IsRat a.Ratio H' x w.2 ∧ H' k = some (.lst (w.1.map V.str)) ∧ k ≠ D) us (ws.take i)) ⟨ext_put Ext.rfl' hD, [], upd_same, rfl, .nil⟩ (fun i H' _ z => SqL.of (z.1 _ _ hl)) ?_ ?_
    · rintro i x H' hx ⟨e0, us, hus, hul, hup⟩
      rw [List.getElem?_map] at hx
      obtain ⟨t, ht, rfl⟩ := Option.map_eq_some_iff.mp hx
      obtain ⟨w', hw', q, h1, h2⟩ := pair_at hp ht
      have wm : w' ∈ ws := List.mem_of_getElem? hw'
      have tm := (ok.all w' wm).tm
      have et : ws.take (i + 1) = ws.take i ++ [w'] := by rw [List.take_add_one, hw']; rfl
      have i5 : i < 5 := by
        have := (List.getElem?_eq_some_iff.mp hw').1
        have := ok.few
        omega
      refine ⟨t, _, rfl, SqT.of (e0 _ _ h1), rfl, _, _, rfl, _, _, rfl, _, _, rfl, rfl, rfl, yes_of ?_⟩
      refine ⟨_, rfl, _, rfl, ?_⟩
      refine fun x' dx' hx' hdx' ne' => rd_RatioN (den_ne w'.2) (tm.sz.mono (show 100 ≤ 9000 by decide)).top (tm.sz.mono (show 100 ≤ 9000 by decide)).bot hx' hdx' ne' fun H1 e1 hv => ⟨rfl, ?_⟩
      rw [divInt_self_eq] at hv
      refine ⟨_, rfl, q, _, rfl, .inr (SqT.of (e1 _ _ (e0 _ _ h2))), fun k hk => ?_⟩
      have e2 := Ext.upd (o := .lst (w'.1.map V.str)) hk
      refine ⟨(by show 2 ≤ sizeLine; decide), fun u hu => ?_⟩
      have e3 := Ext.upd (o := .tup [.ref x', .ref k]) hu
      have e13 := e1.trans (e2.trans e3)
      have h3 := e13 _ _ hus
      have nkD : k ≠ D := fun z => by
        rw [z, e1 _ _ hus] at hk
        cases hk
      refine ⟨_, h3, Nat.lt_of_lt_of_le (by rw [List.length_map, hul]; exact i5) (by decide), ext_put (e0.trans e13) hD, us ++ [u], ?_, by rw [List.length_append, hul]; rfl, ?_⟩
      · rw [upd_same, List.map_append]
        rfl
      · rw [et]
        refine paired_snoc (paired_imp (fun u' w'' z => ?_) hup) ⟨.ref x', k, ?_, (hv.ext (e2.trans e3)).put h3, ?_, nkD⟩
        · obtain ⟨x', k', z1, z2, z3, z4⟩ := z
          refine ⟨x', k', ?_, (z2.ext e13).put h3, ?_, z4⟩
          · rw [upd_ne (ne_of (e13 _ _ z1) h3 fun y => nomatch y)]
            exact e13 _ _ z1
          · rw [upd_ne z4]
            exact e13 _ _ z3
        · have := upd_same (H := upd H1 k (.lst (w'.1.map V.str))) (a := u) (o := .tup [.ref x', .ref k])
          rw [upd_ne (ne_of this h3 fun y => nomatch y)]
          exact this
        · rw [upd_ne nkD]
          exact e3 _ _ upd_same
    · rintro H' ⟨e0, us, hus, hul, hup⟩
      rw [List.length_map, paired_len hp, List.take_length] at hup
      refine rd_Q (b := 100) ⟨_, ⟨D, rfl, .inl (SqL.of hus)⟩, paired_maps (f := V.ref) (g := fun w : Pd × Rat => (w.2, w.1)) (fun u w' z => ?_) hup⟩ (lw_ts ok) fun v' H3 e4 hq => h v' H3 (e0.trans e4) hq
      obtain ⟨x', k', z1, z2, z3, _⟩ := z
      exact ⟨u, x', .ref k', rfl, SqT.of z1, .inr z2, k', rfl, .inl (SqL.of z3)⟩
end
end P

namespace P
open PySem L2 NS

/-! ### what the law's turn rests on, plain -/
theorem qTxt_nil : qTxt [] = Str.ofString "0" := if_neg fun z => z rfl
theorem reprW_nil : reprW [] = Str.ofString "Question([])" := by decide +kernel
theorem mkQ_one {q : Rat} {p : List Str} (h : q ≠ 0) : mkQ [(q, p)] = [(sortP p, q)] := by
  symm
  refine mkQ_of ⟨List.pairwise_singleton _ _, fun w hw => ?_, fun r hr => ?_⟩
  · rw [List.mem_singleton.mp hw]
    refine ⟨?_, h⟩
    show q = Fs [(q, p)] (sortP p)
    rw [fs_cons, fs_nil, if_pos rfl, Rat.add_zero]
  · rw [fs_cons, fs_nil, Rat.add_zero] at hr ⊢
    by_cases e : sortP p = r
    · rw [if_pos e, e]
      exact .head _
    · rw [if_neg e] at hr
      exact absurd rfl hr
theorem sortP_one (s : Str) : sortP [s] = [s] := sortP_id (List.pairwise_singleton _ _)
theorem run_one (w : Pd × Rat) : runT [w] = if w.2.num < 0 then Str.ofString "-" ++ plQ w else plQ w := by
  show stepT emp w = _
  unfold stepT
  rw [if_pos rfl]
theorem qTxt_key {s : Str} (h : Nm s) : qTxt (mkQ [(1, [s])]) = s := by
  rw [mkQ_one (by decide), sortP_one]
  have e : runT [(([s], 1) : Pd × Rat)] = s := by
    rw [run_one, if_neg (show ¬ (1 : Rat).num < 0 by decide)]
    show plainN (absN 1) 1 [s] = s
    rw [plain_eq (p := [s]) fun t ht => by rw [List.mem_singleton.mp ht]; exact h]
    rw [if_neg (List.cons_ne_nil s []), if_pos (by decide +kernel)]
    rfl
  unfold qTxt
  show (if runT [(([s], 1) : Pd × Rat)] ≠ emp then runT [(([s], 1) : Pd × Rat)] else _) = s
  rw [e, if_pos (len_ne h.one)]
theorem qTxt_seven : qTxt (mkQ [(-7, [])]) = Str.ofString "-7" := by
  rw [mkQ_one (by decide), sortP_id (l := []) List.Pairwise.nil]
  decide +kernel
def negW (ws : Wts) : Wts := ws.map fun w => (w.1, -w.2)
theorem tmW_neg (ws : Wts) : tmW (negW ws) = negT (tmW ws) := by
  unfold tmW negT negW
  rw [List.map_map, List.map_map]
  rfl
theorem LOk.neg {w : Pd × Rat} (h : LOk w) : LOk (w.1, -w.2) := ⟨h.so, fun z => h.nz (by
  have := congrArg (fun x => -x) z
  simpa using this), ⟨h.tm.nm, h.tm.few, sz_neg h.tm.sz⟩, h.short⟩
theorem LwOk.neg {ws : Wts} (h : LwOk ws) : LwOk (negW ws) := ⟨by
  unfold negW
  rw [List.map_map]
  exact h.nd, fun w hw => by
  obtain ⟨u, hu, rfl⟩ := List.mem_map.mp hw
  exact (h.all u hu).neg, by unfold negW; rw [List.length_map]; exact h.few⟩
theorem LwOk.rev {ws : Wts} (h : LwOk ws) : LwOk ws.reverse := ⟨by
  rw [List.map_reverse]
  exact List.pairwise_reverse.mpr (h.nd.imp fun z => Ne.symm z), fun w hw => h.all w (List.mem_reverse.mp hw), by rw [List.length_reverse]; exact h.few⟩
theorem LwOk.take {ws : Wts} (h : LwOk ws) (i : Nat) : LwOk (ws.take i) := ⟨((List.take_sublist i ws).map _).nodup h.nd, fun w hw => h.all w (List.mem_of_mem_take hw), Nat.le_trans (by rw [List.length_take]; omega) h.few⟩
theorem LwOk.one {ws : Wts} (h : LwOk ws) {w : Pd × Rat} (hw : w ∈ ws) : LwOk [w] := ⟨List.pairwise_singleton _ _, fun u hu => by rw [List.mem_singleton.mp hu]; exact h.all w hw, by show 1 ≤ 5; decide⟩
theorem mkQ_rev (ws : Wts) : mkQ (tmW ws.reverse) = mkQ (tmW ws) := mkQ_perm ((List.reverse_perm ws).map _)
/-- all of it is small -/
def Sml (ts : List Tm) : Prop := ∀ t, t ∈ ts → TmOk 100 t
theorem Sml.ok {ts : List Tm} (h : Sml ts) (hl : ts.length ≤ 20) : TsOk 100 ts := TsOk.of h (by decide) (by decide) (by omega)
theorem Sml.app {ts us : List Tm} (h : Sml ts) (k : Sml us) : Sml (ts ++ us) := fun t ht => (List.mem_append.mp ht).elim (h t) (k t)
theorem sml_law {ws : Wts} (ok : LwOk ws) : Sml (tmW (mkQ (tmW ws))) := fun t ht => by
  obtain ⟨w', hw, rfl⟩ := List.mem_map.mp ht
  exact (ok.all w' (mem_law ok hw)).tm
theorem neg_law (ws : Wts) : mkQ (negT (tmW (mkQ (tmW ws)))) = mkQ (tmW (negW ws)) := by rw [mkQ_neg, tmW_neg]
theorem ok_neg {ws : Wts} (ok : LwOk ws) : TsOk 100 (negT (tmW (mkQ (tmW ws)))) := by
  refine Sml.ok (fun t ht => ?_) ?_
  · obtain ⟨u, hu, rfl⟩ := List.mem_map.mp ht
    have := sml_law ok u hu
    exact ⟨this.nm, this.few, sz_neg this.sz⟩
  · unfold negT
    rw [List.length_map, tmW_len]
    have := len_law ok
    omega
theorem ok_sub {ws : Wts} (ok : LwOk ws) : TsOk 100 (tmW (mkQ (tmW ws)) ++ tmW (mkQ (negT (tmW (mkQ (tmW ws)))))) := by
  rw [neg_law]
  refine Sml.ok ((sml_law ok).app (sml_law ok.neg)) ?_
  rw [List.length_append, tmW_len, tmW_len]
  have := len_law ok
  have := len_law ok.neg
  omega
theorem sub_law (ws : Wts) : mkQ (tmW (mkQ (tmW ws)) ++ tmW (mkQ (negT (tmW (mkQ (tmW ws)))))) = [] := mkQ_zero fun p => by
  rw [fs_app, fs_back, fs_back, fs_neg, fs_back, Rat.add_neg_cancel]
theorem sortP_rev (p : List Str) : sortP p.reverse = sortP p := sortP_same (List.reverse_perm p)
theorem add_law {ws : Wts} {i : Nat} {w : Pd × Rat} (h : ws[i]? = some w) : mkQ (tmW (mkQ (tmW (ws.take i))) ++ tmW (mkQ [(w.2, w.1.reverse)])) = mkQ (tmW (ws.take (i + 1))) := by
  rw [mkQ_add]
  refine mkQ_congr fun p => ?_
  have e : tmW (ws.take (i + 1)) = tmW (ws.take i) ++ [(w.2, w.1)] := by
    unfold tmW
    rw [List.take_add_one, h, List.map_append]
    rfl
  rw [e, fs_app, fs_app, fs_cons, fs_cons, sortP_rev]
theorem ok_add {ws : Wts} (ok : LwOk ws) {i : Nat} {w : Pd × Rat} (hw : w ∈ ws) : TsOk 100 (tmW (mkQ (tmW (ws.take i))) ++ tmW (mkQ [(w.2, w.1.reverse)])) := by
  have z := ok.all w hw
  rw [mkQ_one (p := w.1.reverse) z.nz, sortP_rev, z.so]
  refine Sml.ok ((sml_law (ok.take i)).app fun t ht => ?_) ?_
  · rw [List.mem_singleton.mp ht]
    exact z.tm
  · rw [List.length_append, tmW_len, tmW_len]
    have := len_law (ok.take i)
    show _ + 1 ≤ 20
    omega
theorem nd_mkQ (ts : List Tm) : ((mkQ ts).map (·.1)).Nodup := (canQ_mkQ ts).nd
theorem ok_rev1 {w : Pd × Rat} (z : LOk w) : TsOk 100 [(w.2, w.1.reverse)] := Sml.ok (fun t ht => by
  rw [List.mem_singleton.mp ht]
  exact ⟨fun s hs => z.tm.nm s (List.mem_reverse.mp hs), by show w.1.reverse.length ≤ 100; rw [List.length_reverse]; exact z.tm.few, z.tm.sz⟩) (by show 1 ≤ 20; decide)
theorem ok_none : TsOk 100 [] := Sml.ok (fun t ht => by cases ht) (Nat.zero_le _)
end P

namespace P
open PySem L2 NS

/-! ### _law_right -/
def spRight : Sp := fun vs H Q _ => ∃ r : Addr, vs = [.ref r] ∧ Rng H r ∧ ∀ H', But r H H' → Rng H' r → Q (.bl true) H'
theorem paired_mem {α β : Type} {F : α → β → Prop} : ∀ {xs : List α} {ys : List β}, Paired F xs ys → ∀ {x : α}, x ∈ xs → ∃ y, y ∈ ys ∧ F x y
  | _, _, .nil, _, h => by cases h
  | _, _, .cons p q, x, h => by
    rcases List.mem_cons.mp h with e | e
    · subst e
      exact ⟨_, .head _, p⟩
    · obtain ⟨y, hy, z⟩ := paired_mem q e
      exact ⟨y, .tail _ hy, z⟩
theorem ne_str (x : Str) : (!decide (V.str x = V.str x)) = false := by simp
theorem eq_str (x : Str) : decide (V.str x = V.str x) = true := by simp
section
variable {P : Program} {w : World} {K : PySem.W.Frag} {mg : Str → Option Value} {base : Heap} {a : Ad}
theorem B_law_right (T : Txt K mg a) : Binds K a.d_law_right ["_law_rng_here"] [] := T.law_right.F.binds fun _ _ _ _ _ _ us hl => match us, hl with | [_], _ => rfl
theorem ok_law_right (T : Txt K mg a) : FnG P w K mg base 14 a.law_right a.d_law_right ["_law_rng_here"] spRight := by
  have G_law_names := ok_law_names (P := P) (w := w) (base := base) T
  have b_law_names := B_law_names T
  have G_law_draw := ok_law_draw (P := P) (w := w) (base := base) T
  have b_law_draw := B_law_draw T
  have G_law_terms := ok_law_terms (P := P) (w := w) (base := base) T
  have b_law_terms := B_law_terms T
  have G_law_made := ok_law_made (P := P) (w := w) (base := base) T
  have b_law_made := B_law_made T
  have G_law_text := ok_law_text (P := P) (w := w) (base := base) T
  have b_law_text := B_law_text T
  have G_law_shown := ok_law_shown (P := P) (w := w) (base := base) T
  have b_law_shown := B_law_shown T
  have G_Question_str := ok_Question_str (P := P) (w := w) (base := base) T
  have b_Question_str := B_Question_str T
  have G_Question_repr := ok_Question_repr (P := P) (w := w) (base := base) T
  have b_Question_repr := B_Question_repr T
  have G_Question_neg := ok_Question_neg (P := P) (w := w) (base := base) T
  have b_Question_neg := B_Question_neg T
  have G_Question_add := ok_Question_add (P := P) (w := w) (base := base) T
  have b_Question_add := B_Question_add T
  have G_Question_sub := ok_Question_sub (P := P) (w := w) (base := base) T
  have b_Question_sub := B_Question_sub T
  have G_Question_of_key := ok_Question_of_key (P := P) (w := w) (base := base) T
  have b_Question_of_key := B_Question_of_key T
  have G_Question_constant := ok_Question_constant (P := P) (w := w) (base := base) T
  have b_Question_constant := B_Question_constant T
  have G_Question_init := ok_Question_init (P := P) (w := w) (base := base) T
  have M_Question := Mk_Question T
  have b_Question1 := B_Question1 T
  obtain ⟨ds0, v_Question0, b_Question0⟩ := B_Question0 T
  have G_Ratio_init := ok_Ratio_init (P := P) (w := w) (base := base) T
  have M_Ratio := Mk_Ratio T
  have b_Ratio2 := B_Ratio2 T
  refine okG T.law_right.F sc_law_right (fun vs H Q E h => ?_) (fun cdv A outer s H vs Q hg hr h => ?_)
  · obtain ⟨r, rfl, _⟩ := h
    rfl
  · obtain ⟨r, rfl, g, h⟩ := h
    have hgd : (A.deeper (PyProof.Rows.envOfC "_law_right" (defScope s_law_right) s.heap.objs.size a.law_right cdv)).guards = some [] := hg
    refine ⟨_, (pss_mid (ps_set (i := 1) sc_law_right.nd rfl (.inl rfl) (pe_call G_law_names (hr.mono (by decide)) (by rfl) T.law_names.g T.law_names.F.kp b_law_names .nil pass0 (pa_cons (pv 0) (pa_cons (pe_op op_add pe_int (pe_call G_law_draw (hr.mono (by decide)) (by rfl) T.law_draw.g T.law_draw.F.kp b_law_draw .nil pass0 (pa_cons (pv 0) (pa_cons pe_int pa_nil)))) (pa_cons (pe_lst pa_nil) pa_nil)))))
      (pss_mid (ps_set (i := 2) sc_law_right.nd rfl (.inl rfl) (pe_call G_law_terms (hr.mono (by decide)) (by rfl) T.law_terms.g T.law_terms.F.kp b_law_terms .nil pass0 (pa_cons (pv 0) (pa_cons (pv 1) pa_nil))))
      (pss_mid (ps_set (i := 3) sc_law_right.nd rfl (.inl rfl) (pe_call G_law_made (hr.mono (by decide)) (by rfl) T.law_made.g T.law_made.F.kp b_law_made .nil pass0 (pa_cons (pv 2) pa_nil)))
      (pss_mid (ps_setLc (i := 4) (own := [("_law_top", 5), ("_law_bottom", 6), ("_law_product", 7)]) (g := gTup K 3 (gCons (gName 5) (gCons (gName 6) (gCons (gName 7) gNil)))) (by rfl) sc_law_right.nd rfl rfl (sw_true rfl rfl rfl (by decide +kernel)) (pi_list (pv 2)) (blkOk_by (N := ["_law_rng_here", "_law_names_here", "_law_terms_here", "_law_one", "_law_turned", "_law_top", "_law_bottom", "_law_product", "_law_parts", "_law_alone"]) (sc := defScope s_law_right) (by decide +kernel)) (fun _ _ _ _ _ => (pg_tup rfl (pgs_cons (pg_name (i := 5) sc_law_right.nd rfl (.inl rfl) (.inr rfl)) (pgs_cons (pg_name (i := 6) sc_law_right.nd rfl (.inl rfl) (.inr rfl)) (pgs_cons (pg_name (i := 7) sc_law_right.nd rfl (.inl rfl) (.inr rfl)) pgs_nil))))) (fun _ _ _ _ _ => pts_nil) (fun _ _ _ _ _ => (pe_tup (pa_cons (pe_un un_neg (pv 5)) (pa_cons (pv 6) (pa_cons (pv 7) pa_nil))))))
      (pss_mid (ps_if (PW.pt (pw_or (pt_cmpR op_ne (pe_callTy (call_strO T.O_Question_str hr.in1.in1.units0 (Runs.of G_Question_str b_Question_str (hr.in1.in1.mono (by decide)) rfl)) (by rfl) T.b_str (by decide +kernel) (pa_cons (pv 3) pa_nil)) (pe_call G_law_text (hr.mono (by decide)) (by rfl) T.law_text.g T.law_text.F.kp b_law_text .nil pass0 (pa_cons (pv 2) pa_nil)) (nomark _)) (pw_or (pt_cmpR op_ne (pe_callB (call_reprO T.O_Question_repr hr.in1.units0 (Runs.ofG G_Question_repr b_Question_repr hgd (hr.in1.mono (by decide)) rfl)) (by rfl) T.b_repr (by decide +kernel) (pa_cons (pv 3) pa_nil)) (pe_callR (Runs.ofG G_law_shown b_law_shown hgd (hr.mono (by decide)) rfl) (by rfl) T.law_shown.g T.law_shown.F.kp (pa_cons (pv 2) pa_nil)) (nomark _)) (pw_or1 (pt_cmpR op_ne (pe_callTy (call_strO T.O_Question_str hr.in1.in1.units0 (Runs.of G_Question_str b_Question_str (hr.in1.in1.mono (by decide)) rfl)) (by rfl) T.b_str (by decide +kernel) (pa_cons (pe_un (un_own T.O_Question_neg (Runs.of G_Question_neg b_Question_neg (hr.mono (by decide)) rfl)) (pv 3)) pa_nil)) (pe_call G_law_text (hr.mono (by decide)) (by rfl) T.law_text.g T.law_text.F.kp b_law_text .nil pass0 (pa_cons (pv 4) pa_nil)) (nomark _)))))) (pss_one (ps_ret pe_bl)) pss_nil)
      (pss_mid (ps_set (i := 8) sc_law_right.nd rfl (.inl rfl) (pe_make0 M_Question G_Question_init (hr.mono (by decide)) (by rfl) T.Question.g b_Question0 v_Question0 pass0))
      (pss_mid (ps_for PassesOwn.never rfl (pi_list (pv 2)) (pg_tup rfl (pgs_cons (pg_name (i := 5) sc_law_right.nd rfl (.inl rfl)) (pgs_cons (pg_name (i := 6) sc_law_right.nd rfl (.inl rfl)) (pgs_cons (pg_name (i := 7) sc_law_right.nd rfl (.inl rfl)) pgs_nil)))) (pss_one (ps_set (i := 8) sc_law_right.nd rfl (.inl rfl) (pe_op (op_own T.O_Question_add (Runs.of G_Question_add b_Question_add (hr.mono (by decide)) rfl)) (pv 8) (pe_make M_Question G_Question_init (hr.mono (by decide)) (by rfl) T.Question.g b_Question1 .nil pass0 (pa_cons (pe_lst (pa_cons (pe_tup (pa_cons (pe_make M_Ratio G_Ratio_init (hr.mono (by decide)) (by rfl) T.Ratio.g b_Ratio2 .nil pass0 (pa_cons (pv 5) (pa_cons (pv 6) pa_nil))) (pa_cons (pe_revT (pv 7)) pa_nil))) pa_nil)) pa_nil))))))
      (pss_mid (ps_if (PW.pt (pw_or (pt_cmpR op_ne (pe_callTy (call_strO T.O_Question_str hr.in1.in1.units0 (Runs.of G_Question_str b_Question_str (hr.in1.in1.mono (by decide)) rfl)) (by rfl) T.b_str (by decide +kernel) (pa_cons (pv 8) pa_nil)) (pe_callTy (call_strO T.O_Question_str hr.in1.in1.units0 (Runs.of G_Question_str b_Question_str (hr.in1.in1.mono (by decide)) rfl)) (by rfl) T.b_str (by decide +kernel) (pa_cons (pv 3) pa_nil)) (nomark _)) (pw_or (pt_cmpR op_ne (pe_callTy (call_strO T.O_Question_str hr.in1.in1.units0 (Runs.of G_Question_str b_Question_str (hr.in1.in1.mono (by decide)) rfl)) (by rfl) T.b_str (by decide +kernel) (pa_cons (pe_call G_law_made (hr.mono (by decide)) (by rfl) T.law_made.g T.law_made.F.kp b_law_made .nil pass0 (pa_cons (pe_revL (pv 2)) pa_nil)) pa_nil)) (pe_call G_law_text (hr.mono (by decide)) (by rfl) T.law_text.g T.law_text.F.kp b_law_text .nil pass0 (pa_cons (pv 2) pa_nil)) (nomark _)) (pw_or1 (pt_cmpR op_ne (pe_callTy (call_strO T.O_Question_str hr.in1.in1.units0 (Runs.of G_Question_str b_Question_str (hr.in1.in1.mono (by decide)) rfl)) (by rfl) T.b_str (by decide +kernel) (pa_cons (pe_op (op_own T.O_Question_sub (Runs.of G_Question_sub b_Question_sub (hr.mono (by decide)) rfl)) (pv 3) (pv 3)) pa_nil)) pe_str (nomark _)))))) (pss_one (ps_ret pe_bl)) pss_nil)
      (pss_mid (ps_if (PW.pt (pw_or (pt_cmpR op_ne (pe_callTy (call_strO T.O_Question_str hr.in1.in1.units0 (Runs.of G_Question_str b_Question_str (hr.in1.in1.mono (by decide)) rfl)) (by rfl) T.b_str (by decide +kernel) (pa_cons (pe_make0 M_Question G_Question_init (hr.mono (by decide)) (by rfl) T.Question.g b_Question0 v_Question0 pass0) pa_nil)) pe_str (nomark _)) (pw_or1 (pt_cmpR op_ne (pe_callB (call_reprO T.O_Question_repr hr.in1.units0 (Runs.ofG G_Question_repr b_Question_repr hgd (hr.in1.mono (by decide)) rfl)) (by rfl) T.b_repr (by decide +kernel) (pa_cons (pe_make0 M_Question G_Question_init (hr.mono (by decide)) (by rfl) T.Question.g b_Question0 v_Question0 pass0) pa_nil)) pe_str (nomark _))))) (pss_one (ps_ret pe_bl)) pss_nil)
      (pss_mid (ps_for PassesOwn.never rfl (pi_list (pe_slice sl_list (pv 2) po_none (po_some pe_int))) (pg_tup rfl (pgs_cons (pg_name (i := 5) sc_law_right.nd rfl (.inl rfl)) (pgs_cons (pg_name (i := 6) sc_law_right.nd rfl (.inl rfl)) (pgs_cons (pg_name (i := 7) sc_law_right.nd rfl (.inl rfl)) pgs_nil)))) (pss_cons (ps_set (i := 9) sc_law_right.nd rfl (.inl rfl) (pe_make M_Question G_Question_init (hr.mono (by decide)) (by rfl) T.Question.g b_Question1 .nil pass0 (pa_cons (pe_lst (pa_cons (pe_tup (pa_cons (pe_make M_Ratio G_Ratio_init (hr.mono (by decide)) (by rfl) T.Ratio.g b_Ratio2 .nil pass0 (pa_cons (pv 5) (pa_cons (pv 6) pa_nil))) (pa_cons (pv 7) pa_nil))) pa_nil)) pa_nil)))
      (pss_one (ps_if (pt_cmpR op_ne (pe_callTy (call_strO T.O_Question_str hr.in1.in1.units0 (Runs.of G_Question_str b_Question_str (hr.in1.in1.mono (by decide)) rfl)) (by rfl) T.b_str (by decide +kernel) (pa_cons (pv 9) pa_nil)) (pe_call G_law_text (hr.mono (by decide)) (by rfl) T.law_text.g T.law_text.F.kp b_law_text .nil pass0 (pa_cons (pe_lst (pa_cons (pe_tup (pa_cons (pv 5) (pa_cons (pv 6) (pa_cons (pv 7) pa_nil)))) pa_nil)) pa_nil)) (nomark _)) (pss_one (ps_ret pe_bl)) pss_nil))))
      (pss_mid (ps_if (PW.pt (pw_or (pt_cmpR op_ne (pe_callTy (call_strO T.O_Question_str hr.in1.in1.units0 (Runs.of G_Question_str b_Question_str (hr.in1.in1.mono (by decide)) rfl)) (by rfl) T.b_str (by decide +kernel) (pa_cons (ClX.pe_cmeth (pe_glob (v := .ref a.Question) (by rfl) T.Question.g rfl) T.rd_Question T.at_Question_of_key (G_Question_of_key.raw b_Question_of_key .nil) (hr.mono (by decide)) pass0 (pa_cons (pe_ix ix_list (pv 1) pe_int (fun _ _ => rfl)) pa_nil)) pa_nil)) (pe_ix ix_list (pv 1) pe_int (fun _ _ => rfl)) (nomark _)) (pw_or1 (pt_cmpR op_ne (pe_callTy (call_strO T.O_Question_str hr.in1.in1.units0 (Runs.of G_Question_str b_Question_str (hr.in1.in1.mono (by decide)) rfl)) (by rfl) T.b_str (by decide +kernel) (pa_cons (ClX.pe_cmeth (pe_glob (v := .ref a.Question) (by rfl) T.Question.g rfl) T.rd_Question T.at_Question_constant (G_Question_constant.raw b_Question_constant .nil) (hr.mono (by decide)) pass0 (pa_cons (pe_un un_neg pe_int) pa_nil)) pa_nil)) pe_str (nomark _))))) (pss_one (ps_ret pe_bl)) pss_nil)
      (pss_one (ps_ret (pe_and (pe_cmpR op_eq (pe_callTy (call_strO T.O_Question_str hr.in1.in1.units0 (Runs.of G_Question_str b_Question_str (hr.in1.in1.mono (by decide)) rfl)) (by rfl) T.b_str (by decide +kernel) (pa_cons (pv 3) pa_nil)) (pe_call G_law_text (hr.mono (by decide)) (by rfl) T.law_text.g T.law_text.F.kp b_law_text .nil pass0 (pa_cons (pv 2) pa_nil)) (nomark _)) (pe_one (pe_cmpR op_eq (pe_callB (call_reprO T.O_Question_repr hr.in1.units0 (Runs.ofG G_Question_repr b_Question_repr hgd (hr.in1.mono (by decide)) rfl)) (by rfl) T.b_repr (by decide +kernel) (pa_cons (pv 3) pa_nil)) (pe_callR (Runs.ofG G_law_shown b_law_shown hgd (hr.mono (by decide)) rfl) (by rfl) T.law_shown.g T.law_shown.F.kp (pa_cons (pv 2) pa_nil)) (nomark _))))))))))))))))), ?_⟩
    refine ⟨fun σ H1 => But r H H1 ∧ Rng H1 r ∧ ∃ n ns, H1 n = some (.lst (ns.map V.str)) ∧ n ≠ r ∧ 0 < ns.length ∧ ns.length ≤ 50 ∧ Nms ns ∧ σ = [some (.ref r), some (.ref n), none, none, none, none, none, none, none, none], ?_, ?_⟩
    · refine ⟨_, rfl, _, rfl, r, 4, rfl, g, by decide, by decide, fun d H0 d0 d1 b0 g0 => ⟨_, _, rfl, rfl, (by show 0 ≤ sizeLine; decide), fun tk htk => ?_⟩⟩
      obtain ⟨k, hk⟩ : ∃ k : Nat, (1 : Int) + d = (k : Int) := ⟨(1 + d).toNat, by omega⟩
      have e1 := Ext.upd (o := .lst []) htk
      refine ⟨r, tk, k, [], by show [V.ref r, V.int (1 + d), V.ref tk] = _; rw [hk], g0.ext e1, upd_same, g0.fresh htk, by omega, Nat.zero_le _, fun p ss H1 b1 g1 _ hp hl _ hok => ?_⟩
      refine ⟨(b0.ext e1).trans b1, g1, p, ss, hp, ?_, by omega, by omega, fun s hs => (hok s hs).1, rfl⟩
      obtain ⟨x, y, hr1, _⟩ := g1
      exact fun z => by
        rw [z, hr1] at hp
        cases ss with
        | nil => cases hp
        | cons s0 ss => cases hp
    rintro σ H1 ⟨b1, g1, n, ns, hn, nr, n0, n50, hnm, rfl⟩
    refine ⟨fun σ H2 => But r H H2 ∧ Rng H2 r ∧ H2 n = some (.lst (ns.map V.str)) ∧ ∃ l ts ws, H2 l = some (.lst (ts.map V.ref)) ∧ Paired (LT H2) ts ws ∧ LwOk ws ∧ σ = [some (.ref r), some (.ref n), some (.ref l), none, none, none, none, none, none, none], ?_, ?_⟩
    · exact ⟨_, rfl, _, rfl, r, n, ns, rfl, g1, hn, nr, n0, n50, hnm, fun l ts ws H2 b2 g2 _ hl hp ok => ⟨b1.trans b2, g2, b2 _ _ hn nr, l, ts, ws, hl, hp, ok, rfl⟩⟩
    rintro σ H2 ⟨b2, g2, hn2, l, ts, ws, hl, hp, ok, rfl⟩
    have tmz : ∀ w, w ∈ mkQ (tmW ws) → TmOk 1900 (w.2, w.1) := fun w hw => tm_law ok hw
    have lz : (mkQ (tmW ws)).length ≤ 1000 := Nat.le_trans (len_law ok) (by decide)
    have ndz := nd_mkQ (tmW ws)
    refine ⟨fun σ H3 => Ext H2 H3 ∧ ∃ v, IsQ a.Question a.Ratio H3 v (mkQ (tmW ws)) ∧ σ = [some (.ref r), some (.ref n), some (.ref l), some v, none, none, none, none, none, none], ?_, ?_⟩
    · exact ⟨_, rfl, l, ts, ws, rfl, hl, hp, ok, fun v H3 e3 hv => ⟨e3, v, hv, rfl⟩⟩
    rintro σ H3 ⟨e3, v, hv, rfl⟩
    obtain ⟨pv, dxv, dvv, kvv, rfl, hpv, _⟩ := id hv
    refine ⟨fun σ H4 => Ext H3 H4 ∧ ∃ l4 ts4, H4 l4 = some (.lst (ts4.map V.ref)) ∧ Paired (LT H4) ts4 (negW ws) ∧ σ = [some (.ref r), some (.ref n), some (.ref l), some (.ref pv), some (.ref l4), none, none, none, none, none], ?_, ?_⟩
    · have hl3 := e3 _ _ hl
      refine ⟨_, rfl, l, rfl, ⟨_, SqL.of hl3⟩, fun D hD => ?_⟩
      refine lc_list (xs := ts.map V.ref) (fun i H' => Ext H3 H' ∧ ∃ us, H' D = some (.lst (us.map V.ref)) ∧ us.length = i ∧ Paired (LT H') us (negW (ws.take i))) ⟨ext_put Ext.rfl' hD, [], upd_same, rfl, .nil⟩ (fun i H' _ z => SqL.of (z.1 _ _ hl3)) ?_ ?_
      · rintro i x H' hx ⟨e0, us, hus, hul, hup⟩
        rw [List.getElem?_map] at hx
        obtain ⟨t, ht, rfl⟩ := Option.map_eq_some_iff.mp hx
        obtain ⟨w', hw', q, h1, h2⟩ := pair_at hp ht
        have et : negW (ws.take (i + 1)) = negW (ws.take i) ++ [(w'.1, -w'.2)] := by unfold negW; rw [List.take_add_one, hw', List.map_append]; rfl
        have i5 : i < 5 := by
          have := (List.getElem?_eq_some_iff.mp hw').1
          have := ok.few
          omega
        have e30 := e3.trans e0
        refine ⟨t, _, rfl, SqT.of (e30 _ _ h1), rfl, _, _, rfl, _, _, rfl, _, _, rfl, rfl, rfl, yes_of ?_⟩
        refine ⟨_, rfl, _, rfl, _, rfl, _, rfl, (by show 3 ≤ sizeLine; decide), fun tq htq => ?_⟩
        have e1 := Ext.upd (o := .tup [.int (-w'.2.num), .int (w'.2.den : Int), .ref q]) htq
        have h3 := e1 _ _ hus
        refine ⟨_, h3, Nat.lt_of_lt_of_le (by rw [List.length_map, hul]; exact i5) (by decide), ext_put (e0.trans e1) hD, us ++ [tq], ?_, by rw [List.length_append, hul]; rfl, ?_⟩
        · rw [upd_same, List.map_append]
          rfl
        · rw [et]
          refine paired_snoc (paired_imp (fun _ _ z => (z.ext e1).put h3) hup) (LT.put ⟨q, ?_, e1 _ _ (e30 _ _ h2)⟩ h3)
          rw [upd_same, Rat.neg_num, Rat.neg_den]
      · rintro H' ⟨e0, us, hus, hul, hup⟩
        rw [List.length_map, paired_len hp, List.take_length] at hup
        exact ⟨e0, D, us, hus, hup, rfl⟩
    rintro σ H4 ⟨e4, l4, ts4, hl4, hp4, rfl⟩
    have e24 := e3.trans e4
    refine ⟨fun σ H5 => Ext H4 H5 ∧ σ = [some (.ref r), some (.ref n), some (.ref l), some (.ref pv), some (.ref l4), none, none, none, none, none], ?_, ?_⟩
    · refine ⟨_, rfl, pv, dxv, _, rfl, e4 _ _ hpv, _, _, rfl, hv.ext e4, ndz, lz, tmz, fun H5 e5 => ⟨_, rfl, ?_⟩⟩
      refine ⟨_, rfl, l, ts, ws, rfl, (e24.trans e5) _ _ hl, paired_imp (fun _ _ z => z.ext (e24.trans e5)) hp, ok, fun H6 e6 => ⟨rfl, _, rfl, iteN (ne_str _) ?_⟩⟩
      have e46 := e5.trans e6
      refine ⟨_, rfl, pv, dxv, _, rfl, (e4.trans e46) _ _ hpv, _, _, rfl, hv.ext (e4.trans e46), lz, tmz, fun H7 e7 => ⟨_, rfl, ?_⟩⟩
      refine ⟨_, rfl, l, ts, ws, rfl, (e24.trans (e46.trans e7)) _ _ hl, paired_imp (fun _ _ z => z.ext (e24.trans (e46.trans e7))) hp, ok, fun H8 e8 => ⟨rfl, _, rfl, iteN (ne_str _) ?_⟩⟩
      have e48 := e46.trans (e7.trans e8)
      have hv8 := hv.ext (e4.trans e48)
      refine ⟨_, rfl, pv, dxv, _, rfl, (e4.trans e48) _ _ hpv, _, _, 100, rfl, hv8, ok_neg ok, fun v9 H9 e9 hv9 => ?_⟩
      rw [neg_law] at hv9
      obtain ⟨p9, dx9, d9, kv9, rfl, hp9, _⟩ := id hv9
      refine ⟨p9, dx9, _, rfl, hp9, _, _, rfl, hv9, (nd_mkQ _), (Nat.le_trans (len_law ok.neg) (by decide)), (fun w hw => tm_law ok.neg hw), fun H10 e10 => ⟨_, rfl, ?_⟩⟩
      have e410 := e48.trans (e9.trans e10)
      exact ⟨_, rfl, l4, ts4, negW ws, rfl, e410 _ _ hl4, paired_imp (fun _ _ z => z.ext e410) hp4, ok.neg, fun H11 e11 => ⟨rfl, _, rfl, iteN (ne_str _) ⟨e410.trans e11, rfl⟩⟩⟩
    rintro σ H5 ⟨e5, rfl⟩
    refine ⟨fun σ H6 => Ext H5 H6 ∧ ∃ u, IsQ a.Question a.Ratio H6 u (mkQ (tmW (ws.take 0))) ∧ σ = [some (.ref r), some (.ref n), some (.ref l), some (.ref pv), some (.ref l4), none, none, none, some u, none], ?_, ?_⟩
    · exact fun x dx hx hdx ne => rd_QN (none_terms T _) ok_none hx hdx ne fun H6 e6 hq => ⟨rfl, e6, _, hq, rfl⟩
    rintro σ H6 ⟨e6, u, hu, rfl⟩
    refine ⟨fun σ H7 => Ext H6 H7 ∧ ∃ u o5 o6 o7, IsQ a.Question a.Ratio H7 u (mkQ (tmW ws)) ∧ σ = [some (.ref r), some (.ref n), some (.ref l), some (.ref pv), some (.ref l4), o5, o6, o7, some u, none], ?_, ?_⟩
    · have e26 := (e24.trans e5).trans e6
      have hl6 := e26 _ _ hl
      refine ⟨_, rfl, l, rfl, ⟨_, SqL.of hl6⟩, ?_⟩
      refine for_list (xs := ts.map V.ref) (fun i σ H' => Ext H6 H' ∧ ∃ u o5 o6 o7, IsQ a.Question a.Ratio H' u (mkQ (tmW (ws.take i))) ∧ σ = [some (.ref r), some (.ref n), some (.ref l), some (.ref pv), some (.ref l4), o5, o6, o7, some u, none]) ⟨Ext.rfl', u, _, _, _, hu, rfl⟩ (fun i σ H' _ z => SqL.of (z.1 _ _ hl6)) ?_ ?_
      · rintro i x σ H' hx ⟨e0, u', o5, o6, o7, hu', rfl⟩
        rw [List.getElem?_map] at hx
        obtain ⟨t, ht, rfl⟩ := Option.map_eq_some_iff.mp hx
        obtain ⟨w', hw', q, h1, h2⟩ := pair_at hp ht
        have wm : w' ∈ ws := List.mem_of_getElem? hw'
        have lo := ok.all w' wm
        have e20 := e26.trans e0
        refine ⟨t, _, rfl, SqT.of (e20 _ _ h1), rfl, _, _, rfl, _, _, rfl, _, _, rfl, rfl, ?_⟩
        refine ⟨_, rfl, _, rfl, _, rfl, fun x dx hx hdx ne => rd_RatioN (den_ne w'.2) (lo.tm.sz.mono (show 100 ≤ 9000 by decide)).top (lo.tm.sz.mono (show 100 ≤ 9000 by decide)).bot hx hdx ne fun H8 e8 hx8 => ⟨rfl, ?_⟩⟩
        rw [divInt_self_eq] at hx8
        refine ⟨_, rfl, q, _, rfl, SqT.of (e8 _ _ (e20 _ _ h2)), fun q2 hq2 => ?_⟩
        have e9 := Ext.upd (o := .tup (w'.1.map V.str).reverse) hq2
        have hq9 : upd H8 q2 (.tup (w'.1.map V.str).reverse) q2 = some (.tup (w'.1.reverse.map V.str)) := by rw [upd_same, List.map_reverse]
        generalize upd H8 q2 (.tup (w'.1.map V.str).reverse) = H9 at *
        refine ⟨(by show 2 ≤ sizeLine; decide), fun t2 ht2 => ⟨(by show 1 ≤ sizeLine; decide), fun l2 hl2 => ?_⟩⟩
        have e10 := Ext.upd (o := .tup [.ref x, .ref q2]) ht2
        have e11 := Ext.upd (o := .lst [.ref t2]) hl2
        refine fun x2 dx2 hx2 hdx2 ne2 => rd_QN (b := 100) (ts := [(w'.2, w'.1.reverse)]) ⟨[.ref t2], ⟨l2, rfl, .inl (SqL.of upd_same)⟩, .cons ⟨t2, .ref x, .ref q2, rfl, SqT.of (e11 _ _ upd_same), .inr (hx8.ext (e9.trans (e10.trans e11))), q2, rfl, .inr (SqT.of (e11 _ _ (e10 _ _ hq9)))⟩ .nil⟩ (ok_rev1 lo) hx2 hdx2 ne2 fun H12 e12 hq12 => ⟨rfl, ?_⟩
        have e012 := e8.trans (e9.trans (e10.trans (e11.trans e12)))
        have hu12 := hu'.ext e012
        obtain ⟨pu, dxu, du, kvu, rfl, hpu, _⟩ := id hu12
        obtain ⟨p3, dx3, d3, kv3, e3', hp3, _⟩ := id hq12
        refine ⟨pu, dxu, _, rfl, hpu, .inr ⟨p3, dx3, _, e3', hp3⟩, _, _, _, _, 100, rfl, hu12, hq12, ok_add ok wm, fun v' H13 e13 hq13 => ?_⟩
        rw [add_law hw'] at hq13
        exact ⟨e0.trans (e012.trans e13), v', _, _, _, hq13, rfl⟩
      · rintro σ H' ⟨e0, u', o5, o6, o7, hu', rfl⟩
        rw [List.length_map, paired_len hp, List.take_length] at hu'
        exact ⟨e0, u', o5, o6, o7, hu', rfl⟩
    rintro σ H7 ⟨e7, u, o5, o6, o7, hu, rfl⟩
    obtain ⟨pu, dxu, du, kvu, rfl, hpu, _⟩ := id hu
    have e27 := ((e24.trans e5).trans e6).trans e7
    have hv7 := hv.ext (((e4.trans e5).trans e6).trans e7)
    have hpv7 := (((e4.trans e5).trans e6).trans e7) _ _ hpv
    have hl7 := e27 _ _ hl
    have hp7 := paired_imp (fun _ _ z => LT.ext z e27) hp
    refine ⟨fun σ H8 => Ext H7 H8 ∧ σ = [some (.ref r), some (.ref n), some (.ref l), some (.ref pv), some (.ref l4), o5, o6, o7, some (.ref pu), none], ?_, ?_⟩
    · refine ⟨_, rfl, pu, dxu, _, rfl, hpu, _, _, rfl, hu, ndz, lz, tmz, fun H8 e8 => ⟨_, rfl, _, rfl, pv, dxv, _, rfl, e8 _ _ hpv7, _, _, rfl, hv7.ext e8, ndz, lz, tmz, fun H9 e9 => ⟨_, rfl, rfl, _, rfl, iteN (ne_str _) ?_⟩⟩⟩
      have e79 := e8.trans e9
      refine ⟨_, rfl, l, _, rfl, SqL.of (e79 _ _ hl7), fun l2 hl2 => ?_⟩
      have e10 := Ext.upd (o := .lst (ts.map V.ref).reverse) hl2
      have hl10 : upd H9 l2 (.lst (ts.map V.ref).reverse) l2 = some (.lst (ts.reverse.map V.ref)) := by rw [upd_same, List.map_reverse]
      generalize upd H9 l2 (.lst (ts.map V.ref).reverse) = H10 at *
      have e710 := e79.trans e10
      refine ⟨l2, ts.reverse, ws.reverse, rfl, hl10, paired_rev (paired_imp (fun _ _ z => LT.ext z e710) hp7), ok.rev, fun v11 H11 e11 hv11 => ?_⟩
      rw [mkQ_rev] at hv11
      obtain ⟨p11, dx11, d11, kv11, rfl, hp11, _⟩ := id hv11
      refine ⟨p11, dx11, _, rfl, hp11, _, _, rfl, hv11, ndz, lz, tmz, fun H12 e12 => ⟨_, rfl, ?_⟩⟩
      have e712 := e710.trans (e11.trans e12)
      refine ⟨_, rfl, l, ts, ws, rfl, e712 _ _ hl7, paired_imp (fun _ _ z => LT.ext z e712) hp7, ok, fun H13 e13 => ⟨rfl, _, rfl, iteN (ne_str _) ?_⟩⟩
      have e713 := e712.trans e13
      have hv13 := hv7.ext e713
      refine ⟨_, rfl, _, rfl, pv, dxv, _, rfl, e713 _ _ hpv7, .inr ⟨pv, dxv, _, rfl, e713 _ _ hpv7⟩, _, _, _, _, 100, 100, rfl, hv13, hv13, ok_neg ok, ok_sub ok, fun v14 H14 e14 hv14 => ?_⟩
      rw [sub_law] at hv14
      obtain ⟨p14, dx14, d14, kv14, rfl, hp14, _⟩ := id hv14
      refine ⟨p14, dx14, _, rfl, hp14, _, _, rfl, hv14, List.nodup_nil, (Nat.zero_le _), (fun w hw => by cases hw), fun H15 e15 => ⟨_, rfl, ?_⟩⟩
      rw [qTxt_nil]
      exact ⟨rfl, _, rfl, iteN (ne_str _) ⟨e713.trans (e14.trans e15), rfl⟩⟩
    rintro σ H8 ⟨e8, rfl⟩
    refine ⟨fun σ H9 => Ext H8 H9 ∧ σ = [some (.ref r), some (.ref n), some (.ref l), some (.ref pv), some (.ref l4), o5, o6, o7, some (.ref pu), none], ?_, ?_⟩
    · refine fun x dx hx hdx ne => rd_QN (none_terms T _) ok_none hx hdx ne fun H9 e9 hq => ⟨rfl, ?_⟩
      rw [show mkQ [] = [] from mkQ_zero fun p => fs_nil p] at hq
      obtain ⟨p14, dx14, d14, kv14, e14, hp14, _⟩ := id hq
      refine ⟨p14, dx14, _, (by rw [e14]), hp14, _, _, (by rw [e14]), hq, List.nodup_nil, (Nat.zero_le _), (fun w hw => by cases hw), fun H10 e10 => ⟨_, rfl, ?_⟩⟩
      rw [qTxt_nil]
      refine ⟨rfl, _, rfl, iteN (ne_str _) ?_⟩
      refine fun x dx hx hdx ne => rd_QN (none_terms T _) ok_none hx hdx ne fun H11 e11 hq => ⟨rfl, ?_⟩
      rw [show mkQ [] = [] from mkQ_zero fun p => fs_nil p] at hq
      obtain ⟨p14, dx14, d14, kv14, e14, hp14, _⟩ := id hq
      refine ⟨p14, dx14, _, (by rw [e14]), hp14, _, _, (by rw [e14]), hq, (Nat.zero_le _), (fun w hw => by cases hw), fun H12 e12 => ⟨_, rfl, ?_⟩⟩
      rw [reprW_nil]
      exact ⟨rfl, _, rfl, iteN (ne_str _) ⟨e9.trans (e10.trans (e11.trans e12)), rfl⟩⟩
    rintro σ H9 ⟨e9, rfl⟩
    have e79 := e8.trans e9
    have hl9 := e79 _ _ hl7
    have hp9 := paired_imp (fun _ _ z => LT.ext z e79) hp7
    refine ⟨fun σ H10 => Ext H9 H10 ∧ ∃ o5 o6 o7 o9, σ = [some (.ref r), some (.ref n), some (.ref l), some (.ref pv), some (.ref l4), o5, o6, o7, some (.ref pu), o9], ?_, ?_⟩
    · refine ⟨_, rfl, 2, rfl, l, _, rfl, SqL.of hl9, fun l2 hl2 => ⟨l2, rfl, ⟨_, SqL.of upd_same⟩, ?_⟩⟩
      have ea := Ext.upd (o := .lst (cutV (ts.map V.ref) none (some 2))) hl2
      have hl2' : upd H9 l2 (.lst (cutV (ts.map V.ref) none (some 2))) l2 = some (.lst (cutV (ts.map V.ref) none (some 2))) := upd_same
      generalize upd H9 l2 (.lst (cutV (ts.map V.ref) none (some 2))) = HA at *
      refine for_list (xs := cutV (ts.map V.ref) none (some 2)) (fun i σ H' => Ext HA H' ∧ ∃ o5 o6 o7 o9, σ = [some (.ref r), some (.ref n), some (.ref l), some (.ref pv), some (.ref l4), o5, o6, o7, some (.ref pu), o9]) ⟨Ext.rfl', _, _, _, _, rfl⟩ (fun i σ H' _ z => SqL.of (z.1 _ _ hl2')) ?_ ?_
      · rintro i x σ H' hx ⟨e0, o5, o6, o7, o9, rfl⟩
        have xm : x ∈ ts.map V.ref := by
          have := List.mem_of_getElem? hx
          unfold cutV at this
          exact List.mem_of_mem_drop (List.mem_of_mem_take this)
        obtain ⟨t, ht, rfl⟩ := List.mem_map.mp xm
        obtain ⟨w', wm, q, h1, h2⟩ := paired_mem hp9 ht
        have lo := ok.all w' wm
        have ea0 := ea.trans e0
        refine ⟨t, _, rfl, SqT.of (ea0 _ _ h1), rfl, _, _, rfl, _, _, rfl, _, _, rfl, rfl, ?_⟩
        refine ⟨_, rfl, _, rfl, fun x dx hx hdx ne => rd_RatioN (den_ne w'.2) (lo.tm.sz.mono (show 100 ≤ 9000 by decide)).top (lo.tm.sz.mono (show 100 ≤ 9000 by decide)).bot hx hdx ne fun H8 e8 hx8 => ⟨rfl, ?_⟩⟩
        rw [divInt_self_eq] at hx8
        refine ⟨_, rfl, (by show 2 ≤ sizeLine; decide), fun t2 ht2 => ⟨(by show 1 ≤ sizeLine; decide), fun l3 hl3 => ?_⟩⟩
        have e10 := Ext.upd (o := .tup [.ref x, .ref q]) ht2
        have e11 := Ext.upd (o := .lst [.ref t2]) hl3
        refine fun x2 dx2 hx2 hdx2 ne2 => rd_QN (b := 100) (ts := [(w'.2, w'.1)]) ⟨[.ref t2], ⟨l3, rfl, .inl (SqL.of upd_same)⟩, .cons ⟨t2, .ref x, .ref q, rfl, SqT.of (e11 _ _ upd_same), .inr (hx8.ext (e10.trans e11)), q, rfl, .inr (SqT.of ((e8.trans (e10.trans e11)) _ _ (ea0 _ _ h2)))⟩ .nil⟩ (Sml.ok (fun t ht => by rw [List.mem_singleton.mp ht]; exact lo.tm) (by show 1 ≤ 20; decide)) hx2 hdx2 ne2 fun H12 e12 hq12 => ⟨rfl, ?_⟩
        have e012 := e8.trans (e10.trans (e11.trans e12))
        have o1 := ok.one wm
        obtain ⟨p3, dx3, d3, kv3, e3', hp3, _⟩ := id hq12
        refine ⟨_, rfl, p3, dx3, _, (by rw [e3']), hp3, _, _, (by rw [e3']), hq12, nd_mkQ _, Nat.le_trans (len_law o1) (by decide), (fun w hw => tm_law o1 hw), fun H13 e13 => ⟨_, rfl, ?_⟩⟩
        refine ⟨_, rfl, _, rfl, _, rfl, (by show 3 ≤ sizeLine; decide), fun tq htq => ⟨(by show 1 ≤ sizeLine; decide), fun l5 hl5 => ?_⟩⟩
        have e14 := Ext.upd (o := .tup [.int w'.2.num, .int (w'.2.den : Int), .ref q]) htq
        have e15 := Ext.upd (o := .lst [.ref tq]) hl5
        have eall := e012.trans (e13.trans (e14.trans e15))
        exact ⟨l5, [tq], [w'], rfl, upd_same, .cons ⟨q, e15 _ _ upd_same, eall _ _ (ea0 _ _ h2)⟩ .nil, o1, fun H16 e16 => ⟨rfl, _, rfl, iteN (ne_str _) ⟨e0.trans (eall.trans e16), _, _, _, _, rfl⟩⟩⟩
      · rintro σ H' ⟨e0, o5, o6, o7, o9, rfl⟩
        exact ⟨ea.trans e0, _, _, _, _, rfl⟩
    rintro σ H10 ⟨e10, o5, o6, o7, o9, rfl⟩
    refine ⟨fun σ H11 => Ext H10 H11 ∧ σ = [some (.ref r), some (.ref n), some (.ref l), some (.ref pv), some (.ref l4), o5, o6, o7, some (.ref pu), o9], ?_, ?_⟩
    · obtain ⟨s0, ns', rfl⟩ : ∃ s0 ns', ns = s0 :: ns' := by
        cases ns with
        | nil => exact absurd n0 (by decide)
        | cons s0 ns' => exact ⟨s0, ns', rfl⟩
      have nm0 := hnm s0 (.head _)
      have hn10 : H10 n = some (.lst ((s0 :: ns').map V.str)) := (e27.trans (e79.trans e10)) _ _ hn2
      refine ⟨rfl, _, rfl, n, _, 0, .str s0, rfl, rfl, SqL.of hn10, atI_nat (j := 0) rfl, s0, rfl, nm0, fun v11 H11 e11 hq11 => ?_⟩
      have zk : mkQ [((1 : Rat), [s0])] = [([s0], 1)] := by rw [mkQ_one (by decide), sortP_one]
      have tk : ∀ w, w ∈ mkQ [((1 : Rat), [s0])] → TmOk 1900 (w.2, w.1) := fun w hw => by
        rw [zk, List.mem_singleton] at hw
        rw [hw]
        exact ⟨fun s hs => by rw [List.mem_singleton.mp hs]; exact nm0, by show 1 ≤ 100; decide, sz_int (i := 1) (by decide +kernel) (by decide)⟩
      obtain ⟨p3, dx3, d3, kv3, rfl, hp3, _⟩ := id hq11
      refine ⟨p3, dx3, _, rfl, hp3, _, _, rfl, hq11, nd_mkQ _, (by rw [zk]; show 1 ≤ 1000; decide), tk, fun H12 e12 => ⟨_, rfl, ?_⟩⟩
      have hn12 := (e11.trans e12) _ _ hn10
      rw [qTxt_key nm0]
      refine ⟨_, rfl, n, _, 0, .str s0, rfl, rfl, SqL.of hn12, atI_nat (j := 0) rfl, rfl, _, rfl, iteN (ne_str _) ?_⟩
      refine ⟨rfl, _, rfl, .int (-7), -7, rfl, .inl ⟨-7, rfl, by decide⟩, (sz_int (i := -7) (by decide +kernel) (by decide)), fun v13 H13 e13 hq13 => ?_⟩
      have z7 : mkQ [((-7 : Rat), [])] = [([], -7)] := by rw [mkQ_one (by decide), sortP_id (l := []) List.Pairwise.nil]
      obtain ⟨p4, dx4, d4, kv4, rfl, hp4', _⟩ := id hq13
      refine ⟨p4, dx4, _, rfl, hp4', _, _, rfl, hq13, nd_mkQ _, (by rw [z7]; show 1 ≤ 1000; decide), (fun w hw => ?_), fun H14 e14 => ⟨_, rfl, ?_⟩⟩
      · rw [z7, List.mem_singleton] at hw
        rw [hw]
        exact ⟨fun s hs => (by cases hs), by show 0 ≤ 100; decide, sz_int (i := -7) (by decide +kernel) (by decide)⟩
      rw [qTxt_seven]
      exact ⟨rfl, _, rfl, iteN (ne_str _) ⟨e11.trans (e12.trans (e13.trans e14)), rfl⟩⟩
    rintro σ H11 ⟨e11, rfl⟩
    have e711 := e79.trans (e10.trans e11)
    refine ⟨_, rfl, pv, dxv, _, rfl, e711 _ _ hpv7, _, _, rfl, hv7.ext e711, ndz, lz, tmz, fun H12 e12 => ⟨_, rfl, ?_⟩⟩
    have e712 := e711.trans e12
    refine ⟨_, rfl, l, ts, ws, rfl, e712 _ _ hl7, paired_imp (fun _ _ z => LT.ext z e712) hp7, ok, fun H13 e13 => ⟨rfl, _, rfl, iteY (eq_str _) ?_⟩⟩
    have e713 := e712.trans e13
    refine ⟨_, rfl, pv, dxv, _, rfl, e713 _ _ hpv7, _, _, rfl, hv7.ext e713, lz, tmz, fun H14 e14 => ⟨_, rfl, ?_⟩⟩
    have e714 := e713.trans e14
    refine ⟨_, rfl, l, ts, ws, rfl, e714 _ _ hl7, paired_imp (fun _ _ z => LT.ext z e714) hp7, ok, fun H15 e15 => ⟨rfl, ?_⟩⟩
    have eE : Ext H2 H15 := e27.trans (e714.trans e15)
    rw [eq_str]
    exact h _ (b2.ext eE) (g2.ext eE)
end
end P

namespace P
open PySem L2 NS

/-! ### law -/
def spLaw (K : PySem.W.Frag) : Sp := fun vs H Q _ => ∃ (s : Addr) (ns : List Int), vs = [.ref s] ∧ SqL K H s (ns.map V.int) ∧ ns.length ≤ 1000000 ∧ ∀ H', Q (.bl true) H'
section
variable {P : Program} {w : World} {K : PySem.W.Frag} {mg : Str → Option Value} {base : Heap} {a : Ad}
theorem ok_law (T : Txt K mg a) : FnG P w K mg base 15 a.law a.d_law ["_law_script"] (spLaw K) := by
  have G_law_rng := ok_law_rng (P := P) (w := w) (base := base) T
  have b_law_rng := B_law_rng T
  have G_law_right := ok_law_right (P := P) (w := w) (base := base) T
  have b_law_right := B_law_right T
  refine okG T.law.F sc_law (fun vs H Q E h => ?_) (fun cdv A outer s0 H vs Q hg hr h => ?_)
  · obtain ⟨s, ns, rfl, _⟩ := h
    rfl
  · obtain ⟨s, ns, rfl, hs, hl, h⟩ := h
    have hgd : (A.deeper (PyProof.Rows.envOfC "law" (defScope s_law) s0.heap.objs.size a.law cdv)).guards = some [] := hg
    refine ⟨_, (pss_cons (ps_for PassesOwn.never rfl (pi_range1 (by rfl) T.b_range (pa_cons (pe_callB (call_max2 rfl) (by rfl) T.b_max (by decide +kernel) (pa_cons pe_int (pa_cons (pe_callB (call_min2 rfl) (by rfl) T.b_min (by decide +kernel) (pa_cons pe_int (pa_cons (pe_callB call_len (by rfl) T.b_len (by decide +kernel) (pa_cons (pv 0) pa_nil)) pa_nil))) pa_nil))) pa_nil)) (pg_name (i := 1) sc_law.nd rfl (.inl rfl)) (pss_cons (ps_set (i := 2) sc_law.nd rfl (.inl rfl) (pe_call G_law_rng (hr.mono (by decide)) (by rfl) T.law_rng.g T.law_rng.F.kp b_law_rng .nil pass0 (pa_cons (pv 0) (pa_cons (pv 1) pa_nil))))
      (pss_one (ps_for PassesOwn.never rfl (pi_range1 (by rfl) T.b_range (pa_cons pe_int pa_nil)) (pg_name (i := 3) sc_law.nd rfl (.inl rfl)) (pss_one (ps_if (pt_not (pt_val (pe_callR (Runs.ofG G_law_right b_law_right hgd (hr.mono (by decide)) rfl) (by rfl) T.law_right.g T.law_right.F.kp (pa_cons (pv 2) pa_nil)))) (pss_one (ps_ret pe_bl)) pss_nil))))))
      (pss_one (ps_ret pe_bl))), ?_⟩
    refine ⟨_, rfl, _, _, rfl, .inl ⟨_, hs, rfl⟩, _, _, rfl, _, _, rfl, _, rfl, ?_⟩
    obtain ⟨k, hk4, hk⟩ : ∃ k : Nat, k ≤ 4 ∧ (if (if ((ns.map V.int).length : Int) < 4 then ((ns.map V.int).length : Int) else 4) > 1 then (if ((ns.map V.int).length : Int) < 4 then ((ns.map V.int).length : Int) else 4) else 1) = (k : Int) := by
      generalize (ns.map V.int).length = l
      by_cases h4 : (l : Int) < 4
      · rw [if_pos h4]
        by_cases h1 : (l : Int) > 1
        · rw [if_pos h1]
          exact ⟨l, by omega, rfl⟩
        · rw [if_neg h1]
          exact ⟨1, by omega, rfl⟩
      · rw [if_neg h4, if_pos (by decide)]
        exact ⟨4, by omega, rfl⟩
    refine ⟨?_, ?_, ?_⟩
    · rw [hk]; omega
    · rw [hk]; omega
    rw [hk]
    refine for_range (n := k) (fun i σ H' => Ext H H' ∧ ∃ o1 o2 o3, σ = [some (.ref s), o1, o2, o3]) ⟨Ext.rfl', _, _, _, rfl⟩ ?_ ?_
    · rintro i σ H1 hi ⟨e1, o1, o2, o3, rfl⟩
      refine ⟨_, rfl, _, rfl, s, ns, i, by rw [Int.zero_add]; rfl, hs.ext e1, by omega, fun r H2 hr2 e2 g2 => ?_⟩
      refine ⟨5, rfl, by decide, by decide, ?_⟩
      refine for_range (n := 5) (fun j σ H' => But r H1 H' ∧ Rng H' r ∧ ∃ o1 o3, σ = [some (.ref s), o1, some (.ref r), o3]) ⟨but_of e2, g2, _, _, rfl⟩ ?_ ?_
      · rintro j σ H3 _ ⟨b3, g3, o1, o3, rfl⟩
        exact ⟨_, rfl, r, rfl, g3, fun H4 b4 g4 => ⟨_, rfl, iteF ⟨b3.trans b4, g4, _, _, rfl⟩⟩⟩
      · rintro σ H3 ⟨b3, _, o1, o3, rfl⟩
        refine ⟨fun b o hb => b3 b o (e1 b o hb) fun z => ?_, _, _, _, rfl⟩
        rw [← z, e1 b o hb] at hr2
        cases hr2
    · rintro σ H1 _
      exact h H1
end
end P

namespace P
open PySem L2 NS
theorem kit_self {K : PySem.W.Frag} {C : Addr} : PySem.W.kitOne K (.ref C) (.ref C) = some true := by
  unfold PySem.W.kitOne
  rw [if_pos (beq_self_eq_true _)]
theorem kit_cl {K : PySem.W.Frag} {C : Addr} {t : Value} {b : Bool} (hne : (t == Value.ref C) = false) (ic : PySem.W.isClsIn K C = true) (tc : PySem.W.typeIn K (.ref C) = some (.type "type")) (hs : PySem.W.subIn K t (.ref C) = some b) : PySem.W.kitOne K t (.ref C) = some b := by
  unfold PySem.W.kitOne
  rw [if_neg (by rw [hne]; exact Bool.false_ne_true)]
  have ic' : (PySem.W.clsIn K C).isSome = true := ic
  show (if ((PySem.W.clsIn K C).isSome && PySem.W.typeIn K (.ref C) == some (.type "type")) = true then _ else _) = _
  rw [if_pos (by rw [ic', tc]; exact beq_self_eq_true _)]
  exact hs
theorem kit_out {K : PySem.W.Frag} {C : Addr} {T : String} {b : Bool} (hm : PySem.W.kitMeta T = true) (hs : PySem.W.subIn K (.ref C) (.type T) = some b) : PySem.W.kitOne K (.ref C) (.type T) = some b := by
  unfold PySem.W.kitOne
  rw [if_neg (show ¬ ((Value.ref C == Value.type T) = true) from Bool.false_ne_true)]
  show (if PySem.W.kitMeta T = true then _ else _) = _
  rw [if_pos hm]
  exact hs
theorem exm_own {K : PySem.W.Frag} {S : Addr} (hb : PySem.W.subIn K (.ref S) (.type "BaseException") = some true) (ic : PySem.W.isClsIn K S = true) (tc : PySem.W.typeIn K (.ref S) = some (.type "type")) (hs : PySem.W.subIn K (.ref S) (.ref S) = some true) :
    PySem.W.exmOne K (.ref S) (.ref S) = some true := by
  have ic' : (PySem.W.clsIn K S).isSome = true := ic
  unfold PySem.W.exmOne
  rw [hb, if_pos (by rfl)]
  show (if ((PySem.W.clsIn K S).isSome && PySem.W.typeIn K (.ref S) == some (.type "type")) = true then _ else _) = _
  rw [if_pos (by rw [ic', tc]; exact beq_self_eq_true _)]
  exact hs
/-! ### the end -/
theorem mk_all {P : Program} {w : World} {K : PySem.W.Frag} {h : Heap} {mg : Str → Option Value} {fa : Addr} (X : K.In h) (G : h.Ns mainGlobals mg) (hfa : mg "law" = some (.ref fa))
    {A_is_integer : Addr}
    {od_is_integer an_is_integer : Option Addr} {sl_is_integer : Array (Option Value)} {oc_is_integer kV_is_integer dc_is_integer pm_is_integer cd_is_integer ct_is_integer : Value}
    {A_is_number : Addr}
    {od_is_number an_is_number : Option Addr} {sl_is_number : Array (Option Value)} {oc_is_number kV_is_number dc_is_number pm_is_number cd_is_number ct_is_number : Value}
    {A_want_number : Addr}
    {od_want_number an_want_number : Option Addr} {sl_want_number : Array (Option Value)} {oc_want_number kV_want_number dc_want_number pm_want_number cd_want_number ct_want_number : Value}
    {A_as_ratio : Addr}
    {od_as_ratio an_as_ratio : Option Addr} {sl_as_ratio : Array (Option Value)} {oc_as_ratio kV_as_ratio dc_as_ratio pm_as_ratio cd_as_ratio ct_as_ratio : Value}
    {A_common_divisor : Addr}
    {od_common_divisor an_common_divisor : Option Addr} {sl_common_divisor : Array (Option Value)} {oc_common_divisor kV_common_divisor dc_common_divisor pm_common_divisor cd_common_divisor ct_common_divisor : Value}
    {A_is_key : Addr}
    {od_is_key an_is_key : Option Addr} {sl_is_key : Array (Option Value)} {oc_is_key kV_is_key dc_is_key pm_is_key cd_is_key ct_is_key : Value}
    {A_is_list : Addr}
    {od_is_list an_is_list : Option Addr} {sl_is_list : Array (Option Value)} {oc_is_list kV_is_list dc_is_list pm_is_list cd_is_list ct_is_list : Value}
    {A_product_key : Addr}
    {od_product_key an_product_key : Option Addr} {sl_product_key : Array (Option Value)} {oc_product_key kV_product_key dc_product_key pm_product_key cd_product_key ct_product_key : Value}
    {A_are_keys : Addr}
    {od_are_keys an_are_keys : Option Addr} {sl_are_keys : Array (Option Value)} {oc_are_keys kV_are_keys dc_are_keys pm_are_keys cd_are_keys ct_are_keys : Value}
    {A_is_term : Addr}
    {od_is_term an_is_term : Option Addr} {sl_is_term : Array (Option Value)} {oc_is_term kV_is_term dc_is_term pm_is_term cd_is_term ct_is_term : Value}
    {A_want_terms : Addr}
    {od_want_terms an_want_terms : Option Addr} {sl_want_terms : Array (Option Value)} {oc_want_terms kV_want_terms dc_want_terms pm_want_terms cd_want_terms ct_want_terms : Value}
    {A_summed : Addr}
    {od_summed an_summed : Option Addr} {sl_summed : Array (Option Value)} {oc_summed kV_summed dc_summed pm_summed cd_summed ct_summed : Value}
    {A_in_order : Addr}
    {od_in_order an_in_order : Option Addr} {sl_in_order : Array (Option Value)} {oc_in_order kV_in_order dc_in_order pm_in_order cd_in_order ct_in_order : Value}
    {A_told_terms : Addr}
    {od_told_terms an_told_terms : Option Addr} {sl_told_terms : Array (Option Value)} {oc_told_terms kV_told_terms dc_told_terms pm_told_terms cd_told_terms ct_told_terms : Value}
    {A_term_text : Addr}
    {od_term_text an_term_text : Option Addr} {sl_term_text : Array (Option Value)} {oc_term_text kV_term_text dc_term_text pm_term_text cd_term_text ct_term_text : Value}
    {A_question_text : Addr}
    {od_question_text an_question_text : Option Addr} {sl_question_text : Array (Option Value)} {oc_question_text kV_question_text dc_question_text pm_question_text cd_question_text ct_question_text : Value}
    {A_as_question : Addr}
    {od_as_question an_as_question : Option Addr} {sl_as_question : Array (Option Value)} {oc_as_question kV_as_question dc_as_question pm_as_question cd_as_question ct_as_question : Value}
    {A_law_rng : Addr}
    {od_law_rng an_law_rng : Option Addr} {sl_law_rng : Array (Option Value)} {oc_law_rng kV_law_rng dc_law_rng pm_law_rng cd_law_rng ct_law_rng : Value}
    {A_law_draw : Addr}
    {od_law_draw an_law_draw : Option Addr} {sl_law_draw : Array (Option Value)} {oc_law_draw kV_law_draw dc_law_draw pm_law_draw cd_law_draw ct_law_draw : Value}
    {A_law_choice : Addr}
    {od_law_choice an_law_choice : Option Addr} {sl_law_choice : Array (Option Value)} {oc_law_choice kV_law_choice dc_law_choice pm_law_choice cd_law_choice ct_law_choice : Value}
    {A_law_names : Addr}
    {od_law_names an_law_names : Option Addr} {sl_law_names : Array (Option Value)} {oc_law_names kV_law_names dc_law_names pm_law_names cd_law_names ct_law_names : Value}
    {A_law_common : Addr}
    {od_law_common an_law_common : Option Addr} {sl_law_common : Array (Option Value)} {oc_law_common kV_law_common dc_law_common pm_law_common cd_law_common ct_law_common : Value}
    {A_law_terms : Addr}
    {od_law_terms an_law_terms : Option Addr} {sl_law_terms : Array (Option Value)} {oc_law_terms kV_law_terms dc_law_terms pm_law_terms cd_law_terms ct_law_terms : Value}
    {A_law_greatest_first : Addr}
    {od_law_greatest_first an_law_greatest_first : Option Addr} {sl_law_greatest_first : Array (Option Value)} {oc_law_greatest_first kV_law_greatest_first dc_law_greatest_first pm_law_greatest_first cd_law_greatest_first ct_law_greatest_first : Value}
    {A_law_plain : Addr}
    {od_law_plain an_law_plain : Option Addr} {sl_law_plain : Array (Option Value)} {oc_law_plain kV_law_plain dc_law_plain pm_law_plain cd_law_plain ct_law_plain : Value}
    {A_law_text : Addr}
    {od_law_text an_law_text : Option Addr} {sl_law_text : Array (Option Value)} {oc_law_text kV_law_text dc_law_text pm_law_text cd_law_text ct_law_text : Value}
    {A_law_shown : Addr}
    {od_law_shown an_law_shown : Option Addr} {sl_law_shown : Array (Option Value)} {oc_law_shown kV_law_shown dc_law_shown pm_law_shown cd_law_shown ct_law_shown : Value}
    {A_law_made : Addr}
    {od_law_made an_law_made : Option Addr} {sl_law_made : Array (Option Value)} {oc_law_made kV_law_made dc_law_made pm_law_made cd_law_made ct_law_made : Value}
    {A_law_right : Addr}
    {od_law_right an_law_right : Option Addr} {sl_law_right : Array (Option Value)} {oc_law_right kV_law_right dc_law_right pm_law_right cd_law_right ct_law_right : Value}
    {A_law : Addr}
    {od_law an_law : Option Addr} {sl_law : Array (Option Value)} {oc_law kV_law dc_law pm_law cd_law ct_law : Value}
    {A_Ratio : Addr}
    {A_Question : Addr}
    {A_Ratio_init : Addr}
    {T_Ratio_init : Addr}
    {tk0_Ratio_init : Tok}
    {od_Ratio_init an_Ratio_init : Option Addr} {sl_Ratio_init : Array (Option Value)} {oc_Ratio_init kV_Ratio_init dc_Ratio_init pm_Ratio_init cd_Ratio_init ct_Ratio_init : Value}
    {n_Ratio_init : Nat} {td_Ratio_init : Option Addr} {tl_Ratio_init : Array (Option Value)} {tt_Ratio_init : Value}
    {A_Ratio_sign : Addr}
    {P_Ratio_sign : Addr}
    {R_Ratio_sign : List Value}
    {od_Ratio_sign an_Ratio_sign : Option Addr} {sl_Ratio_sign : Array (Option Value)} {oc_Ratio_sign kV_Ratio_sign dc_Ratio_sign pm_Ratio_sign cd_Ratio_sign ct_Ratio_sign : Value}
    {A_Ratio_add : Addr}
    {od_Ratio_add an_Ratio_add : Option Addr} {sl_Ratio_add : Array (Option Value)} {oc_Ratio_add kV_Ratio_add dc_Ratio_add pm_Ratio_add cd_Ratio_add ct_Ratio_add : Value}
    {A_Ratio_neg : Addr}
    {od_Ratio_neg an_Ratio_neg : Option Addr} {sl_Ratio_neg : Array (Option Value)} {oc_Ratio_neg kV_Ratio_neg dc_Ratio_neg pm_Ratio_neg cd_Ratio_neg ct_Ratio_neg : Value}
    {A_Ratio_repr : Addr}
    {od_Ratio_repr an_Ratio_repr : Option Addr} {sl_Ratio_repr : Array (Option Value)} {oc_Ratio_repr kV_Ratio_repr dc_Ratio_repr pm_Ratio_repr cd_Ratio_repr ct_Ratio_repr : Value}
    {A_Question_init : Addr}
    {T_Question_init : Addr}
    {U_Question_init : Addr}
    {ud_Question_init : Option Addr} {un_Question_init : Nat} {ul_Question_init : Array (Option Value)}
    {od_Question_init an_Question_init : Option Addr} {sl_Question_init : Array (Option Value)} {oc_Question_init kV_Question_init dc_Question_init pm_Question_init cd_Question_init ct_Question_init : Value}
    {n_Question_init : Nat} {td_Question_init : Option Addr} {tl_Question_init : Array (Option Value)} {tt_Question_init : Value}
    {A_Question_of_key : Addr}
    {P_Question_of_key : Addr}
    {R_Question_of_key : List Value}
    {od_Question_of_key an_Question_of_key : Option Addr} {sl_Question_of_key : Array (Option Value)} {oc_Question_of_key kV_Question_of_key dc_Question_of_key pm_Question_of_key cd_Question_of_key ct_Question_of_key : Value}
    {A_Question_constant : Addr}
    {P_Question_constant : Addr}
    {R_Question_constant : List Value}
    {od_Question_constant an_Question_constant : Option Addr} {sl_Question_constant : Array (Option Value)} {oc_Question_constant kV_Question_constant dc_Question_constant pm_Question_constant cd_Question_constant ct_Question_constant : Value}
    {A_Question_terms : Addr}
    {od_Question_terms an_Question_terms : Option Addr} {sl_Question_terms : Array (Option Value)} {oc_Question_terms kV_Question_terms dc_Question_terms pm_Question_terms cd_Question_terms ct_Question_terms : Value}
    {A_Question_add : Addr}
    {od_Question_add an_Question_add : Option Addr} {sl_Question_add : Array (Option Value)} {oc_Question_add kV_Question_add dc_Question_add pm_Question_add cd_Question_add ct_Question_add : Value}
    {A_Question_sub : Addr}
    {od_Question_sub an_Question_sub : Option Addr} {sl_Question_sub : Array (Option Value)} {oc_Question_sub kV_Question_sub dc_Question_sub pm_Question_sub cd_Question_sub ct_Question_sub : Value}
    {A_Question_neg : Addr}
    {od_Question_neg an_Question_neg : Option Addr} {sl_Question_neg : Array (Option Value)} {oc_Question_neg kV_Question_neg dc_Question_neg pm_Question_neg cd_Question_neg ct_Question_neg : Value}
    {A_Question_str : Addr}
    {od_Question_str an_Question_str : Option Addr} {sl_Question_str : Array (Option Value)} {oc_Question_str kV_Question_str dc_Question_str pm_Question_str cd_Question_str ct_Question_str : Value}
    {A_Question_repr : Addr}
    {od_Question_repr an_Question_repr : Option Addr} {sl_Question_repr : Array (Option Value)} {oc_Question_repr kV_Question_repr dc_Question_repr pm_Question_repr cd_Question_repr ct_Question_repr : Value}
    {fo_Ratio_add ro_Ratio_add : Option Value}
    {fo_Question_add ro_Question_add : Option Value}
    {fo_Question_sub ro_Question_sub : Option Value}
    {tk_LETTERS : Tok}
    {tk_KEY_SIGNS : Tok}
    {tk_LONGEST_KEY : Tok}
    (a_is_integer : PySem.W.nsIn K mainGlobals "is_integer" = some (some (.ref A_is_integer)))
    (l_is_integer : K.lookup A_is_integer = some ⟨oc_is_integer, od_is_integer, .func (PySem.W.fnOf "is_integer" "is_integer" (defArgs s_is_integer) (defBody s_is_integer) (defScope s_is_integer) .none kV_is_integer dc_is_integer pm_is_integer an_is_integer cd_is_integer ct_is_integer), sl_is_integer⟩)
    (c_is_integer : PySem.W.codeIn K cd_is_integer "is_integer" = true)
    (k_is_integer : PySem.W.keepIn K (.ref A_is_integer) = true)
    (a_is_number : PySem.W.nsIn K mainGlobals "is_number" = some (some (.ref A_is_number)))
    (l_is_number : K.lookup A_is_number = some ⟨oc_is_number, od_is_number, .func (PySem.W.fnOf "is_number" "is_number" (defArgs s_is_number) (defBody s_is_number) (defScope s_is_number) .none kV_is_number dc_is_number pm_is_number an_is_number cd_is_number ct_is_number), sl_is_number⟩)
    (c_is_number : PySem.W.codeIn K cd_is_number "is_number" = true)
    (k_is_number : PySem.W.keepIn K (.ref A_is_number) = true)
    (a_want_number : PySem.W.nsIn K mainGlobals "want_number" = some (some (.ref A_want_number)))
    (l_want_number : K.lookup A_want_number = some ⟨oc_want_number, od_want_number, .func (PySem.W.fnOf "want_number" "want_number" (defArgs s_want_number) (defBody s_want_number) (defScope s_want_number) .none kV_want_number dc_want_number pm_want_number an_want_number cd_want_number ct_want_number), sl_want_number⟩)
    (c_want_number : PySem.W.codeIn K cd_want_number "want_number" = true)
    (k_want_number : PySem.W.keepIn K (.ref A_want_number) = true)
    (a_as_ratio : PySem.W.nsIn K mainGlobals "as_ratio" = some (some (.ref A_as_ratio)))
    (l_as_ratio : K.lookup A_as_ratio = some ⟨oc_as_ratio, od_as_ratio, .func (PySem.W.fnOf "as_ratio" "as_ratio" (defArgs s_as_ratio) (defBody s_as_ratio) (defScope s_as_ratio) .none kV_as_ratio dc_as_ratio pm_as_ratio an_as_ratio cd_as_ratio ct_as_ratio), sl_as_ratio⟩)
    (c_as_ratio : PySem.W.codeIn K cd_as_ratio "as_ratio" = true)
    (k_as_ratio : PySem.W.keepIn K (.ref A_as_ratio) = true)
    (a_common_divisor : PySem.W.nsIn K mainGlobals "common_divisor" = some (some (.ref A_common_divisor)))
    (l_common_divisor : K.lookup A_common_divisor = some ⟨oc_common_divisor, od_common_divisor, .func (PySem.W.fnOf "common_divisor" "common_divisor" (defArgs s_common_divisor) (defBody s_common_divisor) (defScope s_common_divisor) .none kV_common_divisor dc_common_divisor pm_common_divisor an_common_divisor cd_common_divisor ct_common_divisor), sl_common_divisor⟩)
    (c_common_divisor : PySem.W.codeIn K cd_common_divisor "common_divisor" = true)
    (k_common_divisor : PySem.W.keepIn K (.ref A_common_divisor) = true)
    (a_is_key : PySem.W.nsIn K mainGlobals "is_key" = some (some (.ref A_is_key)))
    (l_is_key : K.lookup A_is_key = some ⟨oc_is_key, od_is_key, .func (PySem.W.fnOf "is_key" "is_key" (defArgs s_is_key) (defBody s_is_key) (defScope s_is_key) .none kV_is_key dc_is_key pm_is_key an_is_key cd_is_key ct_is_key), sl_is_key⟩)
    (c_is_key : PySem.W.codeIn K cd_is_key "is_key" = true)
    (k_is_key : PySem.W.keepIn K (.ref A_is_key) = true)
    (a_is_list : PySem.W.nsIn K mainGlobals "is_list" = some (some (.ref A_is_list)))
    (l_is_list : K.lookup A_is_list = some ⟨oc_is_list, od_is_list, .func (PySem.W.fnOf "is_list" "is_list" (defArgs s_is_list) (defBody s_is_list) (defScope s_is_list) .none kV_is_list dc_is_list pm_is_list an_is_list cd_is_list ct_is_list), sl_is_list⟩)
    (c_is_list : PySem.W.codeIn K cd_is_list "is_list" = true)
    (k_is_list : PySem.W.keepIn K (.ref A_is_list) = true)
    (a_product_key : PySem.W.nsIn K mainGlobals "product_key" = some (some (.ref A_product_key)))
    (l_product_key : K.lookup A_product_key = some ⟨oc_product_key, od_product_key, .func (PySem.W.fnOf "product_key" "product_key" (defArgs s_product_key) (defBody s_product_key) (defScope s_product_key) .none kV_product_key dc_product_key pm_product_key an_product_key cd_product_key ct_product_key), sl_product_key⟩)
    (c_product_key : PySem.W.codeIn K cd_product_key "product_key" = true)
    (k_product_key : PySem.W.keepIn K (.ref A_product_key) = true)
    (a_are_keys : PySem.W.nsIn K mainGlobals "are_keys" = some (some (.ref A_are_keys)))
    (l_are_keys : K.lookup A_are_keys = some ⟨oc_are_keys, od_are_keys, .func (PySem.W.fnOf "are_keys" "are_keys" (defArgs s_are_keys) (defBody s_are_keys) (defScope s_are_keys) .none kV_are_keys dc_are_keys pm_are_keys an_are_keys cd_are_keys ct_are_keys), sl_are_keys⟩)
    (c_are_keys : PySem.W.codeIn K cd_are_keys "are_keys" = true)
    (k_are_keys : PySem.W.keepIn K (.ref A_are_keys) = true)
    (a_is_term : PySem.W.nsIn K mainGlobals "is_term" = some (some (.ref A_is_term)))
    (l_is_term : K.lookup A_is_term = some ⟨oc_is_term, od_is_term, .func (PySem.W.fnOf "is_term" "is_term" (defArgs s_is_term) (defBody s_is_term) (defScope s_is_term) .none kV_is_term dc_is_term pm_is_term an_is_term cd_is_term ct_is_term), sl_is_term⟩)
    (c_is_term : PySem.W.codeIn K cd_is_term "is_term" = true)
    (k_is_term : PySem.W.keepIn K (.ref A_is_term) = true)
    (a_want_terms : PySem.W.nsIn K mainGlobals "want_terms" = some (some (.ref A_want_terms)))
    (l_want_terms : K.lookup A_want_terms = some ⟨oc_want_terms, od_want_terms, .func (PySem.W.fnOf "want_terms" "want_terms" (defArgs s_want_terms) (defBody s_want_terms) (defScope s_want_terms) .none kV_want_terms dc_want_terms pm_want_terms an_want_terms cd_want_terms ct_want_terms), sl_want_terms⟩)
    (c_want_terms : PySem.W.codeIn K cd_want_terms "want_terms" = true)
    (k_want_terms : PySem.W.keepIn K (.ref A_want_terms) = true)
    (a_summed : PySem.W.nsIn K mainGlobals "summed" = some (some (.ref A_summed)))
    (l_summed : K.lookup A_summed = some ⟨oc_summed, od_summed, .func (PySem.W.fnOf "summed" "summed" (defArgs s_summed) (defBody s_summed) (defScope s_summed) .none kV_summed dc_summed pm_summed an_summed cd_summed ct_summed), sl_summed⟩)
    (c_summed : PySem.W.codeIn K cd_summed "summed" = true)
    (k_summed : PySem.W.keepIn K (.ref A_summed) = true)
    (a_in_order : PySem.W.nsIn K mainGlobals "in_order" = some (some (.ref A_in_order)))
    (l_in_order : K.lookup A_in_order = some ⟨oc_in_order, od_in_order, .func (PySem.W.fnOf "in_order" "in_order" (defArgs s_in_order) (defBody s_in_order) (defScope s_in_order) .none kV_in_order dc_in_order pm_in_order an_in_order cd_in_order ct_in_order), sl_in_order⟩)
    (c_in_order : PySem.W.codeIn K cd_in_order "in_order" = true)
    (k_in_order : PySem.W.keepIn K (.ref A_in_order) = true)
    (a_told_terms : PySem.W.nsIn K mainGlobals "told_terms" = some (some (.ref A_told_terms)))
    (l_told_terms : K.lookup A_told_terms = some ⟨oc_told_terms, od_told_terms, .func (PySem.W.fnOf "told_terms" "told_terms" (defArgs s_told_terms) (defBody s_told_terms) (defScope s_told_terms) .none kV_told_terms dc_told_terms pm_told_terms an_told_terms cd_told_terms ct_told_terms), sl_told_terms⟩)
    (c_told_terms : PySem.W.codeIn K cd_told_terms "told_terms" = true)
    (k_told_terms : PySem.W.keepIn K (.ref A_told_terms) = true)
    (a_term_text : PySem.W.nsIn K mainGlobals "term_text" = some (some (.ref A_term_text)))
    (l_term_text : K.lookup A_term_text = some ⟨oc_term_text, od_term_text, .func (PySem.W.fnOf "term_text" "term_text" (defArgs s_term_text) (defBody s_term_text) (defScope s_term_text) .none kV_term_text dc_term_text pm_term_text an_term_text cd_term_text ct_term_text), sl_term_text⟩)
    (c_term_text : PySem.W.codeIn K cd_term_text "term_text" = true)
    (k_term_text : PySem.W.keepIn K (.ref A_term_text) = true)
    (a_question_text : PySem.W.nsIn K mainGlobals "question_text" = some (some (.ref A_question_text)))
    (l_question_text : K.lookup A_question_text = some ⟨oc_question_text, od_question_text, .func (PySem.W.fnOf "question_text" "question_text" (defArgs s_question_text) (defBody s_question_text) (defScope s_question_text) .none kV_question_text dc_question_text pm_question_text an_question_text cd_question_text ct_question_text), sl_question_text⟩)
    (c_question_text : PySem.W.codeIn K cd_question_text "question_text" = true)
    (k_question_text : PySem.W.keepIn K (.ref A_question_text) = true)
    (a_as_question : PySem.W.nsIn K mainGlobals "as_question" = some (some (.ref A_as_question)))
    (l_as_question : K.lookup A_as_question = some ⟨oc_as_question, od_as_question, .func (PySem.W.fnOf "as_question" "as_question" (defArgs s_as_question) (defBody s_as_question) (defScope s_as_question) .none kV_as_question dc_as_question pm_as_question an_as_question cd_as_question ct_as_question), sl_as_question⟩)
    (c_as_question : PySem.W.codeIn K cd_as_question "as_question" = true)
    (k_as_question : PySem.W.keepIn K (.ref A_as_question) = true)
    (a_law_rng : PySem.W.nsIn K mainGlobals "_law_rng" = some (some (.ref A_law_rng)))
    (l_law_rng : K.lookup A_law_rng = some ⟨oc_law_rng, od_law_rng, .func (PySem.W.fnOf "_law_rng" "_law_rng" (defArgs s_law_rng) (defBody s_law_rng) (defScope s_law_rng) .none kV_law_rng dc_law_rng pm_law_rng an_law_rng cd_law_rng ct_law_rng), sl_law_rng⟩)
    (c_law_rng : PySem.W.codeIn K cd_law_rng "_law_rng" = true)
    (k_law_rng : PySem.W.keepIn K (.ref A_law_rng) = true)
    (a_law_draw : PySem.W.nsIn K mainGlobals "_law_draw" = some (some (.ref A_law_draw)))
    (l_law_draw : K.lookup A_law_draw = some ⟨oc_law_draw, od_law_draw, .func (PySem.W.fnOf "_law_draw" "_law_draw" (defArgs s_law_draw) (defBody s_law_draw) (defScope s_law_draw) .none kV_law_draw dc_law_draw pm_law_draw an_law_draw cd_law_draw ct_law_draw), sl_law_draw⟩)
    (c_law_draw : PySem.W.codeIn K cd_law_draw "_law_draw" = true)
    (k_law_draw : PySem.W.keepIn K (.ref A_law_draw) = true)
    (a_law_choice : PySem.W.nsIn K mainGlobals "_law_choice" = some (some (.ref A_law_choice)))
    (l_law_choice : K.lookup A_law_choice = some ⟨oc_law_choice, od_law_choice, .func (PySem.W.fnOf "_law_choice" "_law_choice" (defArgs s_law_choice) (defBody s_law_choice) (defScope s_law_choice) .none kV_law_choice dc_law_choice pm_law_choice an_law_choice cd_law_choice ct_law_choice), sl_law_choice⟩)
    (c_law_choice : PySem.W.codeIn K cd_law_choice "_law_choice" = true)
    (k_law_choice : PySem.W.keepIn K (.ref A_law_choice) = true)
    (a_law_names : PySem.W.nsIn K mainGlobals "_law_names" = some (some (.ref A_law_names)))
    (l_law_names : K.lookup A_law_names = some ⟨oc_law_names, od_law_names, .func (PySem.W.fnOf "_law_names" "_law_names" (defArgs s_law_names) (defBody s_law_names) (defScope s_law_names) .none kV_law_names dc_law_names pm_law_names an_law_names cd_law_names ct_law_names), sl_law_names⟩)
    (c_law_names : PySem.W.codeIn K cd_law_names "_law_names" = true)
    (k_law_names : PySem.W.keepIn K (.ref A_law_names) = true)
    (a_law_common : PySem.W.nsIn K mainGlobals "_law_common" = some (some (.ref A_law_common)))
    (l_law_common : K.lookup A_law_common = some ⟨oc_law_common, od_law_common, .func (PySem.W.fnOf "_law_common" "_law_common" (defArgs s_law_common) (defBody s_law_common) (defScope s_law_common) .none kV_law_common dc_law_common pm_law_common an_law_common cd_law_common ct_law_common), sl_law_common⟩)
    (c_law_common : PySem.W.codeIn K cd_law_common "_law_common" = true)
    (k_law_common : PySem.W.keepIn K (.ref A_law_common) = true)
    (a_law_terms : PySem.W.nsIn K mainGlobals "_law_terms" = some (some (.ref A_law_terms)))
    (l_law_terms : K.lookup A_law_terms = some ⟨oc_law_terms, od_law_terms, .func (PySem.W.fnOf "_law_terms" "_law_terms" (defArgs s_law_terms) (defBody s_law_terms) (defScope s_law_terms) .none kV_law_terms dc_law_terms pm_law_terms an_law_terms cd_law_terms ct_law_terms), sl_law_terms⟩)
    (c_law_terms : PySem.W.codeIn K cd_law_terms "_law_terms" = true)
    (k_law_terms : PySem.W.keepIn K (.ref A_law_terms) = true)
    (a_law_greatest_first : PySem.W.nsIn K mainGlobals "_law_greatest_first" = some (some (.ref A_law_greatest_first)))
    (l_law_greatest_first : K.lookup A_law_greatest_first = some ⟨oc_law_greatest_first, od_law_greatest_first, .func (PySem.W.fnOf "_law_greatest_first" "_law_greatest_first" (defArgs s_law_greatest_first) (defBody s_law_greatest_first) (defScope s_law_greatest_first) .none kV_law_greatest_first dc_law_greatest_first pm_law_greatest_first an_law_greatest_first cd_law_greatest_first ct_law_greatest_first), sl_law_greatest_first⟩)
    (c_law_greatest_first : PySem.W.codeIn K cd_law_greatest_first "_law_greatest_first" = true)
    (k_law_greatest_first : PySem.W.keepIn K (.ref A_law_greatest_first) = true)
    (a_law_plain : PySem.W.nsIn K mainGlobals "_law_plain" = some (some (.ref A_law_plain)))
    (l_law_plain : K.lookup A_law_plain = some ⟨oc_law_plain, od_law_plain, .func (PySem.W.fnOf "_law_plain" "_law_plain" (defArgs s_law_plain) (defBody s_law_plain) (defScope s_law_plain) .none kV_law_plain dc_law_plain pm_law_plain an_law_plain cd_law_plain ct_law_plain), sl_law_plain⟩)
    (c_law_plain : PySem.W.codeIn K cd_law_plain "_law_plain" = true)
    (k_law_plain : PySem.W.keepIn K (.ref A_law_plain) = true)
    (a_law_text : PySem.W.nsIn K mainGlobals "_law_text" = some (some (.ref A_law_text)))
    (l_law_text : K.lookup A_law_text = some ⟨oc_law_text, od_law_text, .func (PySem.W.fnOf "_law_text" "_law_text" (defArgs s_law_text) (defBody s_law_text) (defScope s_law_text) .none kV_law_text dc_law_text pm_law_text an_law_text cd_law_text ct_law_text), sl_law_text⟩)
    (c_law_text : PySem.W.codeIn K cd_law_text "_law_text" = true)
    (k_law_text : PySem.W.keepIn K (.ref A_law_text) = true)
    (a_law_shown : PySem.W.nsIn K mainGlobals "_law_shown" = some (some (.ref A_law_shown)))
    (l_law_shown : K.lookup A_law_shown = some ⟨oc_law_shown, od_law_shown, .func (PySem.W.fnOf "_law_shown" "_law_shown" (defArgs s_law_shown) (defBody s_law_shown) (defScope s_law_shown) .none kV_law_shown dc_law_shown pm_law_shown an_law_shown cd_law_shown ct_law_shown), sl_law_shown⟩)
    (c_law_shown : PySem.W.codeIn K cd_law_shown "_law_shown" = true)
    (k_law_shown : PySem.W.keepIn K (.ref A_law_shown) = true)
    (a_law_made : PySem.W.nsIn K mainGlobals "_law_made" = some (some (.ref A_law_made)))
    (l_law_made : K.lookup A_law_made = some ⟨oc_law_made, od_law_made, .func (PySem.W.fnOf "_law_made" "_law_made" (defArgs s_law_made) (defBody s_law_made) (defScope s_law_made) .none kV_law_made dc_law_made pm_law_made an_law_made cd_law_made ct_law_made), sl_law_made⟩)
    (c_law_made : PySem.W.codeIn K cd_law_made "_law_made" = true)
    (k_law_made : PySem.W.keepIn K (.ref A_law_made) = true)
    (a_law_right : PySem.W.nsIn K mainGlobals "_law_right" = some (some (.ref A_law_right)))
    (l_law_right : K.lookup A_law_right = some ⟨oc_law_right, od_law_right, .func (PySem.W.fnOf "_law_right" "_law_right" (defArgs s_law_right) (defBody s_law_right) (defScope s_law_right) .none kV_law_right dc_law_right pm_law_right an_law_right cd_law_right ct_law_right), sl_law_right⟩)
    (c_law_right : PySem.W.codeIn K cd_law_right "_law_right" = true)
    (k_law_right : PySem.W.keepIn K (.ref A_law_right) = true)
    (a_law : PySem.W.nsIn K mainGlobals "law" = some (some (.ref A_law)))
    (l_law : K.lookup A_law = some ⟨oc_law, od_law, .func (PySem.W.fnOf "law" "law" (defArgs s_law) (defBody s_law) (defScope s_law) .none kV_law dc_law pm_law an_law cd_law ct_law), sl_law⟩)
    (c_law : PySem.W.codeIn K cd_law "law" = true)
    (k_law : PySem.W.keepIn K (.ref A_law) = true)
    (a_Ratio : PySem.W.nsIn K mainGlobals "Ratio" = some (some (.ref A_Ratio)))
    (pg_Ratio : PySem.W.plainGet K A_Ratio Str.empty = true)
    (hd_Ratio : PySem.W.hasDictIn K A_Ratio = true)
    (po_Ratio : PySem.W.plainOver K A_Ratio = true)
    (sa_Ratio : PySem.W.findIn K (.ref A_Ratio) "__setattr__" = some (some (.builtin "object.__setattr__")))
    (kp_Ratio : PySem.W.keepIn K (.ref A_Ratio) = true)
    (mks_Ratio : PySem.W.makesIn K A_Ratio = true)
    (ca_Ratio : PySem.W.findIn K (.ref A_Ratio) "__class__" = some (some (.builtin "object.__class__")))
    (ob_Ratio : PySem.W.mroIn K A_Ratio (.type "object") = some true)
    (ic_Ratio : PySem.W.isClsIn K A_Ratio = true)
    (tc_Ratio : PySem.W.typeIn K (.ref A_Ratio) = some (.type "type"))
    (si_Ratio : PySem.W.subIn K (.type "int") (.ref A_Ratio) = some false)
    (ss_Ratio : PySem.W.subIn K (.type "str") (.ref A_Ratio) = some false)
    (st_Ratio : PySem.W.subIn K (.type "tuple") (.ref A_Ratio) = some false)
    (sl_Ratio : PySem.W.subIn K (.type "list") (.ref A_Ratio) = some false)
    (sd_Ratio : PySem.W.subIn K (.type "dict") (.ref A_Ratio) = some false)
    (oi_Ratio : PySem.W.subIn K (.ref A_Ratio) (.type "int") = some false)
    (oB_Ratio : PySem.W.subIn K (.ref A_Ratio) (.type "bool") = some false)
    (sf_Ratio : PySem.W.selfFirst K A_Ratio = true)
    (cg_Ratio : PySem.W.specialIn K (.builtin "object.__class__") "__get__" = some (some (.builtin "getset_descriptor.__get__")))
    (ct_Ratio : PySem.W.takesIn K (.builtin "object.__class__") = some true)
    (n_Ratio_own_top : PySem.W.findIn K (.ref A_Ratio) "own_top" = some none)
    (n_Ratio_own_bottom : PySem.W.findIn K (.ref A_Ratio) "own_bottom" = some none)
    (a_Question : PySem.W.nsIn K mainGlobals "Question" = some (some (.ref A_Question)))
    (pg_Question : PySem.W.plainGet K A_Question Str.empty = true)
    (hd_Question : PySem.W.hasDictIn K A_Question = true)
    (po_Question : PySem.W.plainOver K A_Question = true)
    (sa_Question : PySem.W.findIn K (.ref A_Question) "__setattr__" = some (some (.builtin "object.__setattr__")))
    (kp_Question : PySem.W.keepIn K (.ref A_Question) = true)
    (mks_Question : PySem.W.makesIn K A_Question = true)
    (ca_Question : PySem.W.findIn K (.ref A_Question) "__class__" = some (some (.builtin "object.__class__")))
    (ob_Question : PySem.W.mroIn K A_Question (.type "object") = some true)
    (ic_Question : PySem.W.isClsIn K A_Question = true)
    (tc_Question : PySem.W.typeIn K (.ref A_Question) = some (.type "type"))
    (si_Question : PySem.W.subIn K (.type "int") (.ref A_Question) = some false)
    (ss_Question : PySem.W.subIn K (.type "str") (.ref A_Question) = some false)
    (st_Question : PySem.W.subIn K (.type "tuple") (.ref A_Question) = some false)
    (sl_Question : PySem.W.subIn K (.type "list") (.ref A_Question) = some false)
    (sd_Question : PySem.W.subIn K (.type "dict") (.ref A_Question) = some false)
    (oi_Question : PySem.W.subIn K (.ref A_Question) (.type "int") = some false)
    (oB_Question : PySem.W.subIn K (.ref A_Question) (.type "bool") = some false)
    (sf_Question : PySem.W.selfFirst K A_Question = true)
    (cg_Question : PySem.W.specialIn K (.builtin "object.__class__") "__get__" = some (some (.builtin "getset_descriptor.__get__")))
    (ct_Question : PySem.W.takesIn K (.builtin "object.__class__") = some true)
    (n_Question_own_weights : PySem.W.findIn K (.ref A_Question) "own_weights" = some none)
    (f_Ratio_init : PySem.W.findIn K (.ref A_Ratio) "__init__" = some (some (.ref A_Ratio_init)))
    (i_Ratio_init : PySem.W.isFn K (.ref A_Ratio_init) = true)
    (l_Ratio_init : K.lookup A_Ratio_init = some ⟨oc_Ratio_init, od_Ratio_init, .func (PySem.W.fnOf "__init__" "Ratio.__init__" (defArgs s_Ratio_init) (defBody s_Ratio_init) (defScope s_Ratio_init) (.ref T_Ratio_init) kV_Ratio_init dc_Ratio_init pm_Ratio_init an_Ratio_init cd_Ratio_init ct_Ratio_init), sl_Ratio_init⟩)
    (c_Ratio_init : PySem.W.codeIn K cd_Ratio_init "Ratio.__init__" = true)
    (k_Ratio_init : PySem.W.keepIn K (.ref A_Ratio_init) = true)
    (d_Ratio_init : K.lookup T_Ratio_init = some ⟨tt_Ratio_init, td_Ratio_init, .seq #[.int 1 tk0_Ratio_init] n_Ratio_init, tl_Ratio_init⟩)
    (f_Ratio_sign : PySem.W.findIn K (.ref A_Ratio) "sign" = some (some (.ref P_Ratio_sign)))
    (g_Ratio_sign : PySem.W.specialIn K (.ref P_Ratio_sign) "__get__" = some (some (.builtin "property.__get__")))
    (t_Ratio_sign : PySem.W.takesIn K (.ref P_Ratio_sign) = some true)
    (r_Ratio_sign : PySem.W.recIn K P_Ratio_sign "property" = some (.ref A_Ratio_sign :: R_Ratio_sign))
    (l_Ratio_sign : K.lookup A_Ratio_sign = some ⟨oc_Ratio_sign, od_Ratio_sign, .func (PySem.W.fnOf "sign" "Ratio.sign" (defArgs s_Ratio_sign) (defBody s_Ratio_sign) (defScope s_Ratio_sign) .none kV_Ratio_sign dc_Ratio_sign pm_Ratio_sign an_Ratio_sign cd_Ratio_sign ct_Ratio_sign), sl_Ratio_sign⟩)
    (c_Ratio_sign : PySem.W.codeIn K cd_Ratio_sign "Ratio.sign" = true)
    (k_Ratio_sign : PySem.W.keepIn K (.ref A_Ratio_sign) = true)
    (f_Ratio_add : PySem.W.findIn K (.ref A_Ratio) "__add__" = some (some (.ref A_Ratio_add)))
    (i_Ratio_add : PySem.W.isFn K (.ref A_Ratio_add) = true)
    (l_Ratio_add : K.lookup A_Ratio_add = some ⟨oc_Ratio_add, od_Ratio_add, .func (PySem.W.fnOf "__add__" "Ratio.__add__" (defArgs s_Ratio_add) (defBody s_Ratio_add) (defScope s_Ratio_add) .none kV_Ratio_add dc_Ratio_add pm_Ratio_add an_Ratio_add cd_Ratio_add ct_Ratio_add), sl_Ratio_add⟩)
    (c_Ratio_add : PySem.W.codeIn K cd_Ratio_add "Ratio.__add__" = true)
    (k_Ratio_add : PySem.W.keepIn K (.ref A_Ratio_add) = true)
    (f_Ratio_neg : PySem.W.findIn K (.ref A_Ratio) "__neg__" = some (some (.ref A_Ratio_neg)))
    (i_Ratio_neg : PySem.W.isFn K (.ref A_Ratio_neg) = true)
    (l_Ratio_neg : K.lookup A_Ratio_neg = some ⟨oc_Ratio_neg, od_Ratio_neg, .func (PySem.W.fnOf "__neg__" "Ratio.__neg__" (defArgs s_Ratio_neg) (defBody s_Ratio_neg) (defScope s_Ratio_neg) .none kV_Ratio_neg dc_Ratio_neg pm_Ratio_neg an_Ratio_neg cd_Ratio_neg ct_Ratio_neg), sl_Ratio_neg⟩)
    (c_Ratio_neg : PySem.W.codeIn K cd_Ratio_neg "Ratio.__neg__" = true)
    (k_Ratio_neg : PySem.W.keepIn K (.ref A_Ratio_neg) = true)
    (f_Ratio_repr : PySem.W.findIn K (.ref A_Ratio) "__repr__" = some (some (.ref A_Ratio_repr)))
    (i_Ratio_repr : PySem.W.isFn K (.ref A_Ratio_repr) = true)
    (l_Ratio_repr : K.lookup A_Ratio_repr = some ⟨oc_Ratio_repr, od_Ratio_repr, .func (PySem.W.fnOf "__repr__" "Ratio.__repr__" (defArgs s_Ratio_repr) (defBody s_Ratio_repr) (defScope s_Ratio_repr) .none kV_Ratio_repr dc_Ratio_repr pm_Ratio_repr an_Ratio_repr cd_Ratio_repr ct_Ratio_repr), sl_Ratio_repr⟩)
    (c_Ratio_repr : PySem.W.codeIn K cd_Ratio_repr "Ratio.__repr__" = true)
    (k_Ratio_repr : PySem.W.keepIn K (.ref A_Ratio_repr) = true)
    (f_Question_init : PySem.W.findIn K (.ref A_Question) "__init__" = some (some (.ref A_Question_init)))
    (i_Question_init : PySem.W.isFn K (.ref A_Question_init) = true)
    (l_Question_init : K.lookup A_Question_init = some ⟨oc_Question_init, od_Question_init, .func (PySem.W.fnOf "__init__" "Question.__init__" (defArgs s_Question_init) (defBody s_Question_init) (defScope s_Question_init) (.ref T_Question_init) kV_Question_init dc_Question_init pm_Question_init an_Question_init cd_Question_init ct_Question_init), sl_Question_init⟩)
    (c_Question_init : PySem.W.codeIn K cd_Question_init "Question.__init__" = true)
    (k_Question_init : PySem.W.keepIn K (.ref A_Question_init) = true)
    (d_Question_init : K.lookup T_Question_init = some ⟨tt_Question_init, td_Question_init, .seq #[.ref U_Question_init] n_Question_init, tl_Question_init⟩)
    (e_Question_init : K.lookup U_Question_init = some ⟨.type "tuple", ud_Question_init, .seq #[] un_Question_init, ul_Question_init⟩)
    (f_Question_of_key : PySem.W.findCls K (.ref A_Question) (.type "type") "of_key" = some (.get (.builtin "classmethod.__get__") (.ref P_Question_of_key) .none (.ref A_Question)))
    (r_Question_of_key : PySem.W.recIn K P_Question_of_key "classmethod" = some (.ref A_Question_of_key :: R_Question_of_key))
    (fi_Question_of_key : PySem.W.fnIn K A_Question_of_key = true)
    (l_Question_of_key : K.lookup A_Question_of_key = some ⟨oc_Question_of_key, od_Question_of_key, .func (PySem.W.fnOf "of_key" "Question.of_key" (defArgs s_Question_of_key) (defBody s_Question_of_key) (defScope s_Question_of_key) .none kV_Question_of_key dc_Question_of_key pm_Question_of_key an_Question_of_key cd_Question_of_key ct_Question_of_key), sl_Question_of_key⟩)
    (c_Question_of_key : PySem.W.codeIn K cd_Question_of_key "Question.of_key" = true)
    (k_Question_of_key : PySem.W.keepIn K (.ref A_Question_of_key) = true)
    (rd_Question : PySem.W.readsIn K A_Question (.type "type") = true)
    (ga_Question : PySem.W.specialIn K (.ref A_Question) "__getattribute__" = some (some (.builtin "type.__getattribute__")))
    (f_Question_constant : PySem.W.findCls K (.ref A_Question) (.type "type") "constant" = some (.get (.builtin "classmethod.__get__") (.ref P_Question_constant) .none (.ref A_Question)))
    (r_Question_constant : PySem.W.recIn K P_Question_constant "classmethod" = some (.ref A_Question_constant :: R_Question_constant))
    (fi_Question_constant : PySem.W.fnIn K A_Question_constant = true)
    (l_Question_constant : K.lookup A_Question_constant = some ⟨oc_Question_constant, od_Question_constant, .func (PySem.W.fnOf "constant" "Question.constant" (defArgs s_Question_constant) (defBody s_Question_constant) (defScope s_Question_constant) .none kV_Question_constant dc_Question_constant pm_Question_constant an_Question_constant cd_Question_constant ct_Question_constant), sl_Question_constant⟩)
    (c_Question_constant : PySem.W.codeIn K cd_Question_constant "Question.constant" = true)
    (k_Question_constant : PySem.W.keepIn K (.ref A_Question_constant) = true)
    (f_Question_terms : PySem.W.findIn K (.ref A_Question) "terms" = some (some (.ref A_Question_terms)))
    (i_Question_terms : PySem.W.isFn K (.ref A_Question_terms) = true)
    (l_Question_terms : K.lookup A_Question_terms = some ⟨oc_Question_terms, od_Question_terms, .func (PySem.W.fnOf "terms" "Question.terms" (defArgs s_Question_terms) (defBody s_Question_terms) (defScope s_Question_terms) .none kV_Question_terms dc_Question_terms pm_Question_terms an_Question_terms cd_Question_terms ct_Question_terms), sl_Question_terms⟩)
    (c_Question_terms : PySem.W.codeIn K cd_Question_terms "Question.terms" = true)
    (k_Question_terms : PySem.W.keepIn K (.ref A_Question_terms) = true)
    (f_Question_add : PySem.W.findIn K (.ref A_Question) "__add__" = some (some (.ref A_Question_add)))
    (i_Question_add : PySem.W.isFn K (.ref A_Question_add) = true)
    (l_Question_add : K.lookup A_Question_add = some ⟨oc_Question_add, od_Question_add, .func (PySem.W.fnOf "__add__" "Question.__add__" (defArgs s_Question_add) (defBody s_Question_add) (defScope s_Question_add) .none kV_Question_add dc_Question_add pm_Question_add an_Question_add cd_Question_add ct_Question_add), sl_Question_add⟩)
    (c_Question_add : PySem.W.codeIn K cd_Question_add "Question.__add__" = true)
    (k_Question_add : PySem.W.keepIn K (.ref A_Question_add) = true)
    (f_Question_sub : PySem.W.findIn K (.ref A_Question) "__sub__" = some (some (.ref A_Question_sub)))
    (i_Question_sub : PySem.W.isFn K (.ref A_Question_sub) = true)
    (l_Question_sub : K.lookup A_Question_sub = some ⟨oc_Question_sub, od_Question_sub, .func (PySem.W.fnOf "__sub__" "Question.__sub__" (defArgs s_Question_sub) (defBody s_Question_sub) (defScope s_Question_sub) .none kV_Question_sub dc_Question_sub pm_Question_sub an_Question_sub cd_Question_sub ct_Question_sub), sl_Question_sub⟩)
    (c_Question_sub : PySem.W.codeIn K cd_Question_sub "Question.__sub__" = true)
    (k_Question_sub : PySem.W.keepIn K (.ref A_Question_sub) = true)
    (f_Question_neg : PySem.W.findIn K (.ref A_Question) "__neg__" = some (some (.ref A_Question_neg)))
    (i_Question_neg : PySem.W.isFn K (.ref A_Question_neg) = true)
    (l_Question_neg : K.lookup A_Question_neg = some ⟨oc_Question_neg, od_Question_neg, .func (PySem.W.fnOf "__neg__" "Question.__neg__" (defArgs s_Question_neg) (defBody s_Question_neg) (defScope s_Question_neg) .none kV_Question_neg dc_Question_neg pm_Question_neg an_Question_neg cd_Question_neg ct_Question_neg), sl_Question_neg⟩)
    (c_Question_neg : PySem.W.codeIn K cd_Question_neg "Question.__neg__" = true)
    (k_Question_neg : PySem.W.keepIn K (.ref A_Question_neg) = true)
    (f_Question_str : PySem.W.findIn K (.ref A_Question) "__str__" = some (some (.ref A_Question_str)))
    (i_Question_str : PySem.W.isFn K (.ref A_Question_str) = true)
    (l_Question_str : K.lookup A_Question_str = some ⟨oc_Question_str, od_Question_str, .func (PySem.W.fnOf "__str__" "Question.__str__" (defArgs s_Question_str) (defBody s_Question_str) (defScope s_Question_str) .none kV_Question_str dc_Question_str pm_Question_str an_Question_str cd_Question_str ct_Question_str), sl_Question_str⟩)
    (c_Question_str : PySem.W.codeIn K cd_Question_str "Question.__str__" = true)
    (k_Question_str : PySem.W.keepIn K (.ref A_Question_str) = true)
    (f_Question_repr : PySem.W.findIn K (.ref A_Question) "__repr__" = some (some (.ref A_Question_repr)))
    (i_Question_repr : PySem.W.isFn K (.ref A_Question_repr) = true)
    (l_Question_repr : K.lookup A_Question_repr = some ⟨oc_Question_repr, od_Question_repr, .func (PySem.W.fnOf "__repr__" "Question.__repr__" (defArgs s_Question_repr) (defBody s_Question_repr) (defScope s_Question_repr) .none kV_Question_repr dc_Question_repr pm_Question_repr an_Question_repr cd_Question_repr ct_Question_repr), sl_Question_repr⟩)
    (c_Question_repr : PySem.W.codeIn K cd_Question_repr "Question.__repr__" = true)
    (k_Question_repr : PySem.W.keepIn K (.ref A_Question_repr) = true)
    (nr_Ratio_add : PySem.W.findIn K (.ref A_Ratio) "__radd__" = some none)
    (n1_Ratio_add : PySem.W.findIn K (.type "int") "__add__" = some fo_Ratio_add)
    (n2_Ratio_add : PySem.W.findIn K (.type "int") "__radd__" = some ro_Ratio_add)
    (nr_Question_add : PySem.W.findIn K (.ref A_Question) "__radd__" = some none)
    (n1_Question_add : PySem.W.findIn K (.type "int") "__add__" = some fo_Question_add)
    (n2_Question_add : PySem.W.findIn K (.type "int") "__radd__" = some ro_Question_add)
    (nr_Question_sub : PySem.W.findIn K (.ref A_Question) "__rsub__" = some none)
    (n1_Question_sub : PySem.W.findIn K (.type "int") "__sub__" = some fo_Question_sub)
    (n2_Question_sub : PySem.W.findIn K (.type "int") "__rsub__" = some ro_Question_sub)
    (z_abs : PySem.W.nsIn K mainGlobals "abs" = some none)
    (z_all : PySem.W.nsIn K mainGlobals "all" = some none)
    (z_bool : PySem.W.nsIn K mainGlobals "bool" = some none)
    (z_dict : PySem.W.nsIn K mainGlobals "dict" = some none)
    (z_divmod : PySem.W.nsIn K mainGlobals "divmod" = some none)
    (z_enumerate : PySem.W.nsIn K mainGlobals "enumerate" = some none)
    (z_int : PySem.W.nsIn K mainGlobals "int" = some none)
    (z_isinstance : PySem.W.nsIn K mainGlobals "isinstance" = some none)
    (z_len : PySem.W.nsIn K mainGlobals "len" = some none)
    (z_list : PySem.W.nsIn K mainGlobals "list" = some none)
    (z_max : PySem.W.nsIn K mainGlobals "max" = some none)
    (z_min : PySem.W.nsIn K mainGlobals "min" = some none)
    (z_range : PySem.W.nsIn K mainGlobals "range" = some none)
    (z_repr : PySem.W.nsIn K mainGlobals "repr" = some none)
    (z_sorted : PySem.W.nsIn K mainGlobals "sorted" = some none)
    (z_str : PySem.W.nsIn K mainGlobals "str" = some none)
    (z_tuple : PySem.W.nsIn K mainGlobals "tuple" = some none)
    (a_LETTERS : PySem.W.nsIn K mainGlobals "LETTERS" = some (some (.str "abcdefghijklmnopqrstuvwxyz" tk_LETTERS)))
    (a_KEY_SIGNS : PySem.W.nsIn K mainGlobals "KEY_SIGNS" = some (some (.str "abcdefghijklmnopqrstuvwxyz0123456789" tk_KEY_SIGNS)))
    (a_LONGEST_KEY : PySem.W.nsIn K mainGlobals "LONGEST_KEY" = some (some (.int 8 tk_LONGEST_KEY)))
    : ∃ fd : FuncData, (∀ (s : Shared) (u : Value), BindsTo s fd ⟨[u], []⟩ [("_law_script", u)]) ∧ ∀ base : Heap, K.In base → base.Ns mainGlobals mg → FnG P w K mg base 15 fa fd ["_law_script"] (spLaw K) := by
  obtain rfl : fa = A_law := by
    have e := hfa.symm.trans (PySem.W.mg_of X G a_law)
    cases e
    rfl
  have T : Txt K mg {
      is_integer := A_is_integer,
      d_is_integer := PySem.W.fnOf "is_integer" "is_integer" (defArgs s_is_integer) (defBody s_is_integer) (defScope s_is_integer) .none kV_is_integer dc_is_integer pm_is_integer an_is_integer cd_is_integer ct_is_integer,
      is_number := A_is_number,
      d_is_number := PySem.W.fnOf "is_number" "is_number" (defArgs s_is_number) (defBody s_is_number) (defScope s_is_number) .none kV_is_number dc_is_number pm_is_number an_is_number cd_is_number ct_is_number,
      want_number := A_want_number,
      d_want_number := PySem.W.fnOf "want_number" "want_number" (defArgs s_want_number) (defBody s_want_number) (defScope s_want_number) .none kV_want_number dc_want_number pm_want_number an_want_number cd_want_number ct_want_number,
      as_ratio := A_as_ratio,
      d_as_ratio := PySem.W.fnOf "as_ratio" "as_ratio" (defArgs s_as_ratio) (defBody s_as_ratio) (defScope s_as_ratio) .none kV_as_ratio dc_as_ratio pm_as_ratio an_as_ratio cd_as_ratio ct_as_ratio,
      common_divisor := A_common_divisor,
      d_common_divisor := PySem.W.fnOf "common_divisor" "common_divisor" (defArgs s_common_divisor) (defBody s_common_divisor) (defScope s_common_divisor) .none kV_common_divisor dc_common_divisor pm_common_divisor an_common_divisor cd_common_divisor ct_common_divisor,
      is_key := A_is_key,
      d_is_key := PySem.W.fnOf "is_key" "is_key" (defArgs s_is_key) (defBody s_is_key) (defScope s_is_key) .none kV_is_key dc_is_key pm_is_key an_is_key cd_is_key ct_is_key,
      is_list := A_is_list,
      d_is_list := PySem.W.fnOf "is_list" "is_list" (defArgs s_is_list) (defBody s_is_list) (defScope s_is_list) .none kV_is_list dc_is_list pm_is_list an_is_list cd_is_list ct_is_list,
      product_key := A_product_key,
      d_product_key := PySem.W.fnOf "product_key" "product_key" (defArgs s_product_key) (defBody s_product_key) (defScope s_product_key) .none kV_product_key dc_product_key pm_product_key an_product_key cd_product_key ct_product_key,
      are_keys := A_are_keys,
      d_are_keys := PySem.W.fnOf "are_keys" "are_keys" (defArgs s_are_keys) (defBody s_are_keys) (defScope s_are_keys) .none kV_are_keys dc_are_keys pm_are_keys an_are_keys cd_are_keys ct_are_keys,
      is_term := A_is_term,
      d_is_term := PySem.W.fnOf "is_term" "is_term" (defArgs s_is_term) (defBody s_is_term) (defScope s_is_term) .none kV_is_term dc_is_term pm_is_term an_is_term cd_is_term ct_is_term,
      want_terms := A_want_terms,
      d_want_terms := PySem.W.fnOf "want_terms" "want_terms" (defArgs s_want_terms) (defBody s_want_terms) (defScope s_want_terms) .none kV_want_terms dc_want_terms pm_want_terms an_want_terms cd_want_terms ct_want_terms,
      summed := A_summed,
      d_summed := PySem.W.fnOf "summed" "summed" (defArgs s_summed) (defBody s_summed) (defScope s_summed) .none kV_summed dc_summed pm_summed an_summed cd_summed ct_summed,
      in_order := A_in_order,
      d_in_order := PySem.W.fnOf "in_order" "in_order" (defArgs s_in_order) (defBody s_in_order) (defScope s_in_order) .none kV_in_order dc_in_order pm_in_order an_in_order cd_in_order ct_in_order,
      told_terms := A_told_terms,
      d_told_terms := PySem.W.fnOf "told_terms" "told_terms" (defArgs s_told_terms) (defBody s_told_terms) (defScope s_told_terms) .none kV_told_terms dc_told_terms pm_told_terms an_told_terms cd_told_terms ct_told_terms,
      term_text := A_term_text,
      d_term_text := PySem.W.fnOf "term_text" "term_text" (defArgs s_term_text) (defBody s_term_text) (defScope s_term_text) .none kV_term_text dc_term_text pm_term_text an_term_text cd_term_text ct_term_text,
      question_text := A_question_text,
      d_question_text := PySem.W.fnOf "question_text" "question_text" (defArgs s_question_text) (defBody s_question_text) (defScope s_question_text) .none kV_question_text dc_question_text pm_question_text an_question_text cd_question_text ct_question_text,
      as_question := A_as_question,
      d_as_question := PySem.W.fnOf "as_question" "as_question" (defArgs s_as_question) (defBody s_as_question) (defScope s_as_question) .none kV_as_question dc_as_question pm_as_question an_as_question cd_as_question ct_as_question,
      law_rng := A_law_rng,
      d_law_rng := PySem.W.fnOf "_law_rng" "_law_rng" (defArgs s_law_rng) (defBody s_law_rng) (defScope s_law_rng) .none kV_law_rng dc_law_rng pm_law_rng an_law_rng cd_law_rng ct_law_rng,
      law_draw := A_law_draw,
      d_law_draw := PySem.W.fnOf "_law_draw" "_law_draw" (defArgs s_law_draw) (defBody s_law_draw) (defScope s_law_draw) .none kV_law_draw dc_law_draw pm_law_draw an_law_draw cd_law_draw ct_law_draw,
      law_choice := A_law_choice,
      d_law_choice := PySem.W.fnOf "_law_choice" "_law_choice" (defArgs s_law_choice) (defBody s_law_choice) (defScope s_law_choice) .none kV_law_choice dc_law_choice pm_law_choice an_law_choice cd_law_choice ct_law_choice,
      law_names := A_law_names,
      d_law_names := PySem.W.fnOf "_law_names" "_law_names" (defArgs s_law_names) (defBody s_law_names) (defScope s_law_names) .none kV_law_names dc_law_names pm_law_names an_law_names cd_law_names ct_law_names,
      law_common := A_law_common,
      d_law_common := PySem.W.fnOf "_law_common" "_law_common" (defArgs s_law_common) (defBody s_law_common) (defScope s_law_common) .none kV_law_common dc_law_common pm_law_common an_law_common cd_law_common ct_law_common,
      law_terms := A_law_terms,
      d_law_terms := PySem.W.fnOf "_law_terms" "_law_terms" (defArgs s_law_terms) (defBody s_law_terms) (defScope s_law_terms) .none kV_law_terms dc_law_terms pm_law_terms an_law_terms cd_law_terms ct_law_terms,
      law_greatest_first := A_law_greatest_first,
      d_law_greatest_first := PySem.W.fnOf "_law_greatest_first" "_law_greatest_first" (defArgs s_law_greatest_first) (defBody s_law_greatest_first) (defScope s_law_greatest_first) .none kV_law_greatest_first dc_law_greatest_first pm_law_greatest_first an_law_greatest_first cd_law_greatest_first ct_law_greatest_first,
      law_plain := A_law_plain,
      d_law_plain := PySem.W.fnOf "_law_plain" "_law_plain" (defArgs s_law_plain) (defBody s_law_plain) (defScope s_law_plain) .none kV_law_plain dc_law_plain pm_law_plain an_law_plain cd_law_plain ct_law_plain,
      law_text := A_law_text,
      d_law_text := PySem.W.fnOf "_law_text" "_law_text" (defArgs s_law_text) (defBody s_law_text) (defScope s_law_text) .none kV_law_text dc_law_text pm_law_text an_law_text cd_law_text ct_law_text,
      law_shown := A_law_shown,
      d_law_shown := PySem.W.fnOf "_law_shown" "_law_shown" (defArgs s_law_shown) (defBody s_law_shown) (defScope s_law_shown) .none kV_law_shown dc_law_shown pm_law_shown an_law_shown cd_law_shown ct_law_shown,
      law_made := A_law_made,
      d_law_made := PySem.W.fnOf "_law_made" "_law_made" (defArgs s_law_made) (defBody s_law_made) (defScope s_law_made) .none kV_law_made dc_law_made pm_law_made an_law_made cd_law_made ct_law_made,
      law_right := A_law_right,
      d_law_right := PySem.W.fnOf "_law_right" "_law_right" (defArgs s_law_right) (defBody s_law_right) (defScope s_law_right) .none kV_law_right dc_law_right pm_law_right an_law_right cd_law_right ct_law_right,
      law := fa,
      d_law := PySem.W.fnOf "law" "law" (defArgs s_law) (defBody s_law) (defScope s_law) .none kV_law dc_law pm_law an_law cd_law ct_law,
      Ratio := A_Ratio,
      Question := A_Question,
      Ratio_init := A_Ratio_init,
      d_Ratio_init := PySem.W.fnOf "__init__" "Ratio.__init__" (defArgs s_Ratio_init) (defBody s_Ratio_init) (defScope s_Ratio_init) (.ref T_Ratio_init) kV_Ratio_init dc_Ratio_init pm_Ratio_init an_Ratio_init cd_Ratio_init ct_Ratio_init,
      p_Ratio_sign := P_Ratio_sign,
      Ratio_sign := A_Ratio_sign,
      d_Ratio_sign := PySem.W.fnOf "sign" "Ratio.sign" (defArgs s_Ratio_sign) (defBody s_Ratio_sign) (defScope s_Ratio_sign) .none kV_Ratio_sign dc_Ratio_sign pm_Ratio_sign an_Ratio_sign cd_Ratio_sign ct_Ratio_sign,
      Ratio_add := A_Ratio_add,
      d_Ratio_add := PySem.W.fnOf "__add__" "Ratio.__add__" (defArgs s_Ratio_add) (defBody s_Ratio_add) (defScope s_Ratio_add) .none kV_Ratio_add dc_Ratio_add pm_Ratio_add an_Ratio_add cd_Ratio_add ct_Ratio_add,
      Ratio_neg := A_Ratio_neg,
      d_Ratio_neg := PySem.W.fnOf "__neg__" "Ratio.__neg__" (defArgs s_Ratio_neg) (defBody s_Ratio_neg) (defScope s_Ratio_neg) .none kV_Ratio_neg dc_Ratio_neg pm_Ratio_neg an_Ratio_neg cd_Ratio_neg ct_Ratio_neg,
      Ratio_repr := A_Ratio_repr,
      d_Ratio_repr := PySem.W.fnOf "__repr__" "Ratio.__repr__" (defArgs s_Ratio_repr) (defBody s_Ratio_repr) (defScope s_Ratio_repr) .none kV_Ratio_repr dc_Ratio_repr pm_Ratio_repr an_Ratio_repr cd_Ratio_repr ct_Ratio_repr,
      u_Question_init := U_Question_init,
      Question_init := A_Question_init,
      d_Question_init := PySem.W.fnOf "__init__" "Question.__init__" (defArgs s_Question_init) (defBody s_Question_init) (defScope s_Question_init) (.ref T_Question_init) kV_Question_init dc_Question_init pm_Question_init an_Question_init cd_Question_init ct_Question_init,
      p_Question_of_key := P_Question_of_key,
      Question_of_key := A_Question_of_key,
      d_Question_of_key := PySem.W.fnOf "of_key" "Question.of_key" (defArgs s_Question_of_key) (defBody s_Question_of_key) (defScope s_Question_of_key) .none kV_Question_of_key dc_Question_of_key pm_Question_of_key an_Question_of_key cd_Question_of_key ct_Question_of_key,
      p_Question_constant := P_Question_constant,
      Question_constant := A_Question_constant,
      d_Question_constant := PySem.W.fnOf "constant" "Question.constant" (defArgs s_Question_constant) (defBody s_Question_constant) (defScope s_Question_constant) .none kV_Question_constant dc_Question_constant pm_Question_constant an_Question_constant cd_Question_constant ct_Question_constant,
      Question_terms := A_Question_terms,
      d_Question_terms := PySem.W.fnOf "terms" "Question.terms" (defArgs s_Question_terms) (defBody s_Question_terms) (defScope s_Question_terms) .none kV_Question_terms dc_Question_terms pm_Question_terms an_Question_terms cd_Question_terms ct_Question_terms,
      Question_add := A_Question_add,
      d_Question_add := PySem.W.fnOf "__add__" "Question.__add__" (defArgs s_Question_add) (defBody s_Question_add) (defScope s_Question_add) .none kV_Question_add dc_Question_add pm_Question_add an_Question_add cd_Question_add ct_Question_add,
      Question_sub := A_Question_sub,
      d_Question_sub := PySem.W.fnOf "__sub__" "Question.__sub__" (defArgs s_Question_sub) (defBody s_Question_sub) (defScope s_Question_sub) .none kV_Question_sub dc_Question_sub pm_Question_sub an_Question_sub cd_Question_sub ct_Question_sub,
      Question_neg := A_Question_neg,
      d_Question_neg := PySem.W.fnOf "__neg__" "Question.__neg__" (defArgs s_Question_neg) (defBody s_Question_neg) (defScope s_Question_neg) .none kV_Question_neg dc_Question_neg pm_Question_neg an_Question_neg cd_Question_neg ct_Question_neg,
      Question_str := A_Question_str,
      d_Question_str := PySem.W.fnOf "__str__" "Question.__str__" (defArgs s_Question_str) (defBody s_Question_str) (defScope s_Question_str) .none kV_Question_str dc_Question_str pm_Question_str an_Question_str cd_Question_str ct_Question_str,
      Question_repr := A_Question_repr,
      d_Question_repr := PySem.W.fnOf "__repr__" "Question.__repr__" (defArgs s_Question_repr) (defBody s_Question_repr) (defScope s_Question_repr) .none kV_Question_repr dc_Question_repr pm_Question_repr an_Question_repr cd_Question_repr ct_Question_repr,
      NotesumsError := 0,
      InvalidNumber := 0,
      InvalidName := 0,
      InvalidTable := 0,
      InvalidTerms := 0,
      InvalidQuestion := 0,
      InvalidKeys := 0,
      InvalidNumber_init := 0,
      d_InvalidNumber_init := PySem.W.fnOf "law" "law" (defArgs s_law) (defBody s_law) (defScope s_law) .none kV_law dc_law pm_law an_law cd_law ct_law,
      InvalidName_init := 0,
      d_InvalidName_init := PySem.W.fnOf "law" "law" (defArgs s_law) (defBody s_law) (defScope s_law) .none kV_law dc_law pm_law an_law cd_law ct_law,
      InvalidTable_init := 0,
      d_InvalidTable_init := PySem.W.fnOf "law" "law" (defArgs s_law) (defBody s_law) (defScope s_law) .none kV_law dc_law pm_law an_law cd_law ct_law,
      InvalidTerms_init := 0,
      d_InvalidTerms_init := PySem.W.fnOf "law" "law" (defArgs s_law) (defBody s_law) (defScope s_law) .none kV_law dc_law pm_law an_law cd_law ct_law,
      InvalidQuestion_init := 0,
      d_InvalidQuestion_init := PySem.W.fnOf "law" "law" (defArgs s_law) (defBody s_law) (defScope s_law) .none kV_law dc_law pm_law an_law cd_law ct_law,
      InvalidKeys_init := 0,
      d_InvalidKeys_init := PySem.W.fnOf "law" "law" (defArgs s_law) (defBody s_law) (defScope s_law) .none kV_law dc_law pm_law an_law cd_law ct_law
    } := {
      is_integer := ⟨fun_mk (st := s_is_integer) l_is_integer c_is_integer k_is_integer, PySem.W.mg_of X G a_is_integer⟩,
      is_number := ⟨fun_mk (st := s_is_number) l_is_number c_is_number k_is_number, PySem.W.mg_of X G a_is_number⟩,
      want_number := ⟨fun_mk (st := s_want_number) l_want_number c_want_number k_want_number, PySem.W.mg_of X G a_want_number⟩,
      as_ratio := ⟨fun_mk (st := s_as_ratio) l_as_ratio c_as_ratio k_as_ratio, PySem.W.mg_of X G a_as_ratio⟩,
      common_divisor := ⟨fun_mk (st := s_common_divisor) l_common_divisor c_common_divisor k_common_divisor, PySem.W.mg_of X G a_common_divisor⟩,
      is_key := ⟨fun_mk (st := s_is_key) l_is_key c_is_key k_is_key, PySem.W.mg_of X G a_is_key⟩,
      is_list := ⟨fun_mk (st := s_is_list) l_is_list c_is_list k_is_list, PySem.W.mg_of X G a_is_list⟩,
      product_key := ⟨fun_mk (st := s_product_key) l_product_key c_product_key k_product_key, PySem.W.mg_of X G a_product_key⟩,
      are_keys := ⟨fun_mk (st := s_are_keys) l_are_keys c_are_keys k_are_keys, PySem.W.mg_of X G a_are_keys⟩,
      is_term := ⟨fun_mk (st := s_is_term) l_is_term c_is_term k_is_term, PySem.W.mg_of X G a_is_term⟩,
      want_terms := ⟨fun_mk (st := s_want_terms) l_want_terms c_want_terms k_want_terms, PySem.W.mg_of X G a_want_terms⟩,
      summed := ⟨fun_mk (st := s_summed) l_summed c_summed k_summed, PySem.W.mg_of X G a_summed⟩,
      in_order := ⟨fun_mk (st := s_in_order) l_in_order c_in_order k_in_order, PySem.W.mg_of X G a_in_order⟩,
      told_terms := ⟨fun_mk (st := s_told_terms) l_told_terms c_told_terms k_told_terms, PySem.W.mg_of X G a_told_terms⟩,
      term_text := ⟨fun_mk (st := s_term_text) l_term_text c_term_text k_term_text, PySem.W.mg_of X G a_term_text⟩,
      question_text := ⟨fun_mk (st := s_question_text) l_question_text c_question_text k_question_text, PySem.W.mg_of X G a_question_text⟩,
      as_question := ⟨fun_mk (st := s_as_question) l_as_question c_as_question k_as_question, PySem.W.mg_of X G a_as_question⟩,
      law_rng := ⟨fun_mk (st := s_law_rng) l_law_rng c_law_rng k_law_rng, PySem.W.mg_of X G a_law_rng⟩,
      law_draw := ⟨fun_mk (st := s_law_draw) l_law_draw c_law_draw k_law_draw, PySem.W.mg_of X G a_law_draw⟩,
      law_choice := ⟨fun_mk (st := s_law_choice) l_law_choice c_law_choice k_law_choice, PySem.W.mg_of X G a_law_choice⟩,
      law_names := ⟨fun_mk (st := s_law_names) l_law_names c_law_names k_law_names, PySem.W.mg_of X G a_law_names⟩,
      law_common := ⟨fun_mk (st := s_law_common) l_law_common c_law_common k_law_common, PySem.W.mg_of X G a_law_common⟩,
      law_terms := ⟨fun_mk (st := s_law_terms) l_law_terms c_law_terms k_law_terms, PySem.W.mg_of X G a_law_terms⟩,
      law_greatest_first := ⟨fun_mk (st := s_law_greatest_first) l_law_greatest_first c_law_greatest_first k_law_greatest_first, PySem.W.mg_of X G a_law_greatest_first⟩,
      law_plain := ⟨fun_mk (st := s_law_plain) l_law_plain c_law_plain k_law_plain, PySem.W.mg_of X G a_law_plain⟩,
      law_text := ⟨fun_mk (st := s_law_text) l_law_text c_law_text k_law_text, PySem.W.mg_of X G a_law_text⟩,
      law_shown := ⟨fun_mk (st := s_law_shown) l_law_shown c_law_shown k_law_shown, PySem.W.mg_of X G a_law_shown⟩,
      law_made := ⟨fun_mk (st := s_law_made) l_law_made c_law_made k_law_made, PySem.W.mg_of X G a_law_made⟩,
      law_right := ⟨fun_mk (st := s_law_right) l_law_right c_law_right k_law_right, PySem.W.mg_of X G a_law_right⟩,
      law := ⟨fun_mk (st := s_law) l_law c_law k_law, PySem.W.mg_of X G a_law⟩,
      Ratio := ⟨⟨pg_Ratio, hd_Ratio, po_Ratio, sa_Ratio⟩, PySem.W.mg_of X G a_Ratio, kp_Ratio, mks_Ratio, ca_Ratio, cg_Ratio, ct_Ratio, ob_Ratio, kit_cl rfl ic_Ratio tc_Ratio si_Ratio, kit_cl rfl ic_Ratio tc_Ratio ss_Ratio, kit_cl rfl ic_Ratio tc_Ratio st_Ratio, kit_self, kit_out (by decide +kernel) oi_Ratio, kit_out (by decide +kernel) oB_Ratio⟩,
      no_Ratio_own_top := n_Ratio_own_top,
      no_Ratio_own_bottom := n_Ratio_own_bottom,
      Question := ⟨⟨pg_Question, hd_Question, po_Question, sa_Question⟩, PySem.W.mg_of X G a_Question, kp_Question, mks_Question, ca_Question, cg_Question, ct_Question, ob_Question, kit_cl rfl ic_Question tc_Question si_Question, kit_cl rfl ic_Question tc_Question ss_Question, kit_cl rfl ic_Question tc_Question st_Question, kit_self, kit_out (by decide +kernel) oi_Question, kit_out (by decide +kernel) oB_Question⟩,
      no_Question_own_weights := n_Question_own_weights,
      Ratio_init := ⟨⟨⟨_, _, _, _, _, _, _, _, _, _, rfl, l_Ratio_init, c_Ratio_init, .inr ⟨List.cons_ne_nil _ _, T_Ratio_init, _, [.int 1 tk0_Ratio_init], n_Ratio_init, rfl, d_Ratio_init, rfl, .cons ⟨_, rfl⟩ (.nil)⟩, .inl rfl⟩, k_Ratio_init⟩, f_Ratio_init, i_Ratio_init⟩,
      Ratio_sign := ⟨fun_mk (st := s_Ratio_sign) l_Ratio_sign c_Ratio_sign k_Ratio_sign, f_Ratio_sign, g_Ratio_sign, t_Ratio_sign, _, r_Ratio_sign⟩,
      Ratio_add := ⟨fun_mk (st := s_Ratio_add) l_Ratio_add c_Ratio_add k_Ratio_add, f_Ratio_add, i_Ratio_add⟩,
      Ratio_neg := ⟨fun_mk (st := s_Ratio_neg) l_Ratio_neg c_Ratio_neg k_Ratio_neg, f_Ratio_neg, i_Ratio_neg⟩,
      Ratio_repr := ⟨fun_mk (st := s_Ratio_repr) l_Ratio_repr c_Ratio_repr k_Ratio_repr, f_Ratio_repr, i_Ratio_repr⟩,
      e_Question_init := ⟨_, _, _, e_Question_init⟩,
      Question_init := ⟨⟨⟨_, _, _, _, _, _, _, _, _, _, rfl, l_Question_init, c_Question_init, .inr ⟨List.cons_ne_nil _ _, T_Question_init, _, [.ref U_Question_init], n_Question_init, rfl, d_Question_init, rfl, .cons rfl (.nil)⟩, .inl rfl⟩, k_Question_init⟩, f_Question_init, i_Question_init⟩,
      at_Question_of_key := ⟨f_Question_of_key, ⟨_, r_Question_of_key⟩, fi_Question_of_key⟩,
      Question_of_key := fun_mk (st := s_Question_of_key) l_Question_of_key c_Question_of_key k_Question_of_key,
      rd_Question := ⟨rd_Question, ga_Question⟩,
      at_Question_constant := ⟨f_Question_constant, ⟨_, r_Question_constant⟩, fi_Question_constant⟩,
      Question_constant := fun_mk (st := s_Question_constant) l_Question_constant c_Question_constant k_Question_constant,
      Question_terms := ⟨fun_mk (st := s_Question_terms) l_Question_terms c_Question_terms k_Question_terms, f_Question_terms, i_Question_terms⟩,
      Question_add := ⟨fun_mk (st := s_Question_add) l_Question_add c_Question_add k_Question_add, f_Question_add, i_Question_add⟩,
      Question_sub := ⟨fun_mk (st := s_Question_sub) l_Question_sub c_Question_sub k_Question_sub, f_Question_sub, i_Question_sub⟩,
      Question_neg := ⟨fun_mk (st := s_Question_neg) l_Question_neg c_Question_neg k_Question_neg, f_Question_neg, i_Question_neg⟩,
      Question_str := ⟨fun_mk (st := s_Question_str) l_Question_str c_Question_str k_Question_str, f_Question_str, i_Question_str⟩,
      Question_repr := ⟨fun_mk (st := s_Question_repr) l_Question_repr c_Question_repr k_Question_repr, f_Question_repr, i_Question_repr⟩,
      O_Ratio_add := ⟨f_Ratio_add, i_Ratio_add, sf_Ratio, nr_Ratio_add, ⟨_, n1_Ratio_add⟩, ⟨_, n2_Ratio_add⟩, si_Ratio⟩,
      O_Ratio_neg := ⟨f_Ratio_neg, i_Ratio_neg⟩,
      O_Ratio_repr := ⟨f_Ratio_repr, i_Ratio_repr⟩,
      O_Question_add := ⟨f_Question_add, i_Question_add, sf_Question, nr_Question_add, ⟨_, n1_Question_add⟩, ⟨_, n2_Question_add⟩, si_Question⟩,
      O_Question_sub := ⟨f_Question_sub, i_Question_sub, sf_Question, nr_Question_sub, ⟨_, n1_Question_sub⟩, ⟨_, n2_Question_sub⟩, si_Question⟩,
      O_Question_neg := ⟨f_Question_neg, i_Question_neg⟩,
      O_Question_str := ⟨f_Question_str, i_Question_str⟩,
      O_Question_repr := ⟨f_Question_repr, i_Question_repr⟩,
      b_abs := PySem.W.mg_none_of X G z_abs,
      b_all := PySem.W.mg_none_of X G z_all,
      b_bool := PySem.W.mg_none_of X G z_bool,
      b_dict := PySem.W.mg_none_of X G z_dict,
      b_divmod := PySem.W.mg_none_of X G z_divmod,
      b_enumerate := PySem.W.mg_none_of X G z_enumerate,
      b_int := PySem.W.mg_none_of X G z_int,
      b_isinstance := PySem.W.mg_none_of X G z_isinstance,
      b_len := PySem.W.mg_none_of X G z_len,
      b_list := PySem.W.mg_none_of X G z_list,
      b_max := PySem.W.mg_none_of X G z_max,
      b_min := PySem.W.mg_none_of X G z_min,
      b_range := PySem.W.mg_none_of X G z_range,
      b_repr := PySem.W.mg_none_of X G z_repr,
      b_sorted := PySem.W.mg_none_of X G z_sorted,
      b_str := PySem.W.mg_none_of X G z_str,
      b_tuple := PySem.W.mg_none_of X G z_tuple,
      c_LETTERS := ⟨_, PySem.W.mg_of X G a_LETTERS⟩,
      c_KEY_SIGNS := ⟨_, PySem.W.mg_of X G a_KEY_SIGNS⟩,
      c_LONGEST_KEY := ⟨_, PySem.W.mg_of X G a_LONGEST_KEY⟩
    }
  exact ⟨_, fun s u => .of_eq rfl, fun base _ _ => ok_law T⟩
end P
open PySem PySem.W PyProof.Rows
set_option maxRecDepth 100000 in
set_option maxHeartbeats 0 in
theorem PySem.Challenge.cw_notesums_k15_texts_of_questions_holds : PySem.Challenge.rw_notesums_k15_texts_of_questions.Holds := by
  w_on; o_law; k_head; (case hw => w_witness2)
  k_fill
  refine NS.walk_ofG (l := PySem.Challenge.rw_notesums_k15_texts_of_questions) (n := 63) (k := 15) (x := "_law_script") (spK := P.spLaw) rfl (by decide) rfl ⟨rfl, by decide, by decide⟩ (fun w h Y => PySem.W.kIn_of Y) ?F (fun K H b ns hl hS hO => ⟨b, ns, rfl, hS, Nat.le_trans hl (by decide), fun _ => rfl⟩)
  case F =>
    intro w mg fa h KX G hmg
    refine' P.mk_all KX G hmg ?a_is_integer ?l_is_integer ?c_is_integer ?k_is_integer ?a_is_number ?l_is_number ?c_is_number ?k_is_number ?a_want_number ?l_want_number ?c_want_number ?k_want_number ?a_as_ratio ?l_as_ratio ?c_as_ratio ?k_as_ratio ?a_common_divisor ?l_common_divisor ?c_common_divisor ?k_common_divisor ?a_is_key ?l_is_key ?c_is_key ?k_is_key ?a_is_list ?l_is_list ?c_is_list ?k_is_list ?a_product_key ?l_product_key ?c_product_key ?k_product_key ?a_are_keys ?l_are_keys ?c_are_keys ?k_are_keys ?a_is_term ?l_is_term ?c_is_term ?k_is_term ?a_want_terms ?l_want_terms ?c_want_terms ?k_want_terms ?a_summed ?l_summed ?c_summed ?k_summed ?a_in_order ?l_in_order ?c_in_order ?k_in_order ?a_told_terms ?l_told_terms ?c_told_terms ?k_told_terms ?a_term_text ?l_term_text ?c_term_text ?k_term_text ?a_question_text ?l_question_text ?c_question_text ?k_question_text ?a_as_question ?l_as_question ?c_as_question ?k_as_question ?a_law_rng ?l_law_rng ?c_law_rng ?k_law_rng ?a_law_draw ?l_law_draw ?c_law_draw ?k_law_draw ?a_law_choice ?l_law_choice ?c_law_choice ?k_law_choice ?a_law_names ?l_law_names ?c_law_names ?k_law_names ?a_law_common ?l_law_common ?c_law_common ?k_law_common ?a_law_terms ?l_law_terms ?c_law_terms ?k_law_terms ?a_law_greatest_first ?l_law_greatest_first ?c_law_greatest_first ?k_law_greatest_first ?a_law_plain ?l_law_plain ?c_law_plain ?k_law_plain ?a_law_text ?l_law_text ?c_law_text ?k_law_text ?a_law_shown ?l_law_shown ?c_law_shown ?k_law_shown ?a_law_made ?l_law_made ?c_law_made ?k_law_made ?a_law_right ?l_law_right ?c_law_right ?k_law_right ?a_law ?l_law ?c_law ?k_law ?a_Ratio ?pg_Ratio ?hd_Ratio ?po_Ratio ?sa_Ratio ?kp_Ratio ?mks_Ratio ?ca_Ratio ?ob_Ratio ?ic_Ratio ?tc_Ratio ?si_Ratio ?ss_Ratio ?st_Ratio ?sl_Ratio ?sd_Ratio ?oi_Ratio ?oB_Ratio ?sf_Ratio ?cg_Ratio ?ct_Ratio ?n_Ratio_own_top ?n_Ratio_own_bottom ?a_Question ?pg_Question ?hd_Question ?po_Question ?sa_Question ?kp_Question ?mks_Question ?ca_Question ?ob_Question ?ic_Question ?tc_Question ?si_Question ?ss_Question ?st_Question ?sl_Question ?sd_Question ?oi_Question ?oB_Question ?sf_Question ?cg_Question ?ct_Question ?n_Question_own_weights ?f_Ratio_init ?i_Ratio_init ?l_Ratio_init ?c_Ratio_init ?k_Ratio_init ?d_Ratio_init ?f_Ratio_sign ?g_Ratio_sign ?t_Ratio_sign ?r_Ratio_sign ?l_Ratio_sign ?c_Ratio_sign ?k_Ratio_sign ?f_Ratio_add ?i_Ratio_add ?l_Ratio_add ?c_Ratio_add ?k_Ratio_add ?f_Ratio_neg ?i_Ratio_neg ?l_Ratio_neg ?c_Ratio_neg ?k_Ratio_neg ?f_Ratio_repr ?i_Ratio_repr ?l_Ratio_repr ?c_Ratio_repr ?k_Ratio_repr ?f_Question_init ?i_Question_init ?l_Question_init ?c_Question_init ?k_Question_init ?d_Question_init ?e_Question_init ?f_Question_of_key ?r_Question_of_key ?fi_Question_of_key ?l_Question_of_key ?c_Question_of_key ?k_Question_of_key ?rd_Question ?ga_Question ?f_Question_constant ?r_Question_constant ?fi_Question_constant ?l_Question_constant ?c_Question_constant ?k_Question_constant ?f_Question_terms ?i_Question_terms ?l_Question_terms ?c_Question_terms ?k_Question_terms ?f_Question_add ?i_Question_add ?l_Question_add ?c_Question_add ?k_Question_add ?f_Question_sub ?i_Question_sub ?l_Question_sub ?c_Question_sub ?k_Question_sub ?f_Question_neg ?i_Question_neg ?l_Question_neg ?c_Question_neg ?k_Question_neg ?f_Question_str ?i_Question_str ?l_Question_str ?c_Question_str ?k_Question_str ?f_Question_repr ?i_Question_repr ?l_Question_repr ?c_Question_repr ?k_Question_repr ?nr_Ratio_add ?n1_Ratio_add ?n2_Ratio_add ?nr_Question_add ?n1_Question_add ?n2_Question_add ?nr_Question_sub ?n1_Question_sub ?n2_Question_sub ?z_abs ?z_all ?z_bool ?z_dict ?z_divmod ?z_enumerate ?z_int ?z_isinstance ?z_len ?z_list ?z_max ?z_min ?z_range ?z_repr ?z_sorted ?z_str ?z_tuple ?a_LETTERS ?a_KEY_SIGNS ?a_LONGEST_KEY
    case a_is_integer => k_is
    case l_is_integer => k_is
    case c_is_integer => k_is
    case k_is_integer => k_is
    case a_is_number => k_is
    case l_is_number => k_is
    case c_is_number => k_is
    case k_is_number => k_is
    case a_want_number => k_is
    case l_want_number => k_is
    case c_want_number => k_is
    case k_want_number => k_is
    case a_as_ratio => k_is
    case l_as_ratio => k_is
    case c_as_ratio => k_is
    case k_as_ratio => k_is
    case a_common_divisor => k_is
    case l_common_divisor => k_is
    case c_common_divisor => k_is
    case k_common_divisor => k_is
    case a_is_key => k_is
    case l_is_key => k_is
    case c_is_key => k_is
    case k_is_key => k_is
    case a_is_list => k_is
    case l_is_list => k_is
    case c_is_list => k_is
    case k_is_list => k_is
    case a_product_key => k_is
    case l_product_key => k_is
    case c_product_key => k_is
    case k_product_key => k_is
    case a_are_keys => k_is
    case l_are_keys => k_is
    case c_are_keys => k_is
    case k_are_keys => k_is
    case a_is_term => k_is
    case l_is_term => k_is
    case c_is_term => k_is
    case k_is_term => k_is
    case a_want_terms => k_is
    case l_want_terms => k_is
    case c_want_terms => k_is
    case k_want_terms => k_is
    case a_summed => k_is
    case l_summed => k_is
    case c_summed => k_is
    case k_summed => k_is
    case a_in_order => k_is
    case l_in_order => k_is
    case c_in_order => k_is
    case k_in_order => k_is
    case a_told_terms => k_is
    case l_told_terms => k_is
    case c_told_terms => k_is
    case k_told_terms => k_is
    case a_term_text => k_is
    case l_term_text => k_is
    case c_term_text => k_is
    case k_term_text => k_is
    case a_question_text => k_is
    case l_question_text => k_is
    case c_question_text => k_is
    case k_question_text => k_is
    case a_as_question => k_is
    case l_as_question => k_is
    case c_as_question => k_is
    case k_as_question => k_is
    case a_law_rng => k_is
    case l_law_rng => k_is
    case c_law_rng => k_is
    case k_law_rng => k_is
    case a_law_draw => k_is
    case l_law_draw => k_is
    case c_law_draw => k_is
    case k_law_draw => k_is
    case a_law_choice => k_is
    case l_law_choice => k_is
    case c_law_choice => k_is
    case k_law_choice => k_is
    case a_law_names => k_is
    case l_law_names => k_is
    case c_law_names => k_is
    case k_law_names => k_is
    case a_law_common => k_is
    case l_law_common => k_is
    case c_law_common => k_is
    case k_law_common => k_is
    case a_law_terms => k_is
    case l_law_terms => k_is
    case c_law_terms => k_is
    case k_law_terms => k_is
    case a_law_greatest_first => k_is
    case l_law_greatest_first => k_is
    case c_law_greatest_first => k_is
    case k_law_greatest_first => k_is
    case a_law_plain => k_is
    case l_law_plain => k_is
    case c_law_plain => k_is
    case k_law_plain => k_is
    case a_law_text => k_is
    case l_law_text => k_is
    case c_law_text => k_is
    case k_law_text => k_is
    case a_law_shown => k_is
    case l_law_shown => k_is
    case c_law_shown => k_is
    case k_law_shown => k_is
    case a_law_made => k_is
    case l_law_made => k_is
    case c_law_made => k_is
    case k_law_made => k_is
    case a_law_right => k_is
    case l_law_right => k_is
    case c_law_right => k_is
    case k_law_right => k_is
    case a_law => k_is
    case l_law => k_is
    case c_law => k_is
    case k_law => k_is
    case a_Ratio => k_is
    case pg_Ratio => k_is
    case hd_Ratio => k_is
    case po_Ratio => k_is
    case sa_Ratio => k_is
    case kp_Ratio => k_is
    case mks_Ratio => k_is
    case ca_Ratio => k_is
    case ob_Ratio => k_is
    case ic_Ratio => k_is
    case tc_Ratio => k_is
    case si_Ratio => first | k_is | rfl
    case ss_Ratio => first | k_is | rfl
    case st_Ratio => first | k_is | rfl
    case sl_Ratio => first | k_is | rfl
    case sd_Ratio => first | k_is | rfl
    case oi_Ratio => first | k_is | rfl
    case oB_Ratio => first | k_is | rfl
    case sf_Ratio => k_is
    case cg_Ratio => first | k_is | rfl
    case ct_Ratio => first | k_is | rfl
    case n_Ratio_own_top => k_is
    case n_Ratio_own_bottom => k_is
    case a_Question => k_is
    case pg_Question => k_is
    case hd_Question => k_is
    case po_Question => k_is
    case sa_Question => k_is
    case kp_Question => k_is
    case mks_Question => k_is
    case ca_Question => k_is
    case ob_Question => k_is
    case ic_Question => k_is
    case tc_Question => k_is
    case si_Question => first | k_is | rfl
    case ss_Question => first | k_is | rfl
    case st_Question => first | k_is | rfl
    case sl_Question => first | k_is | rfl
    case sd_Question => first | k_is | rfl
    case oi_Question => first | k_is | rfl
    case oB_Question => first | k_is | rfl
    case sf_Question => k_is
    case cg_Question => first | k_is | rfl
    case ct_Question => first | k_is | rfl
    case n_Question_own_weights => k_is
    case f_Ratio_init => k_is
    case i_Ratio_init => k_is
    case l_Ratio_init => k_is
    case c_Ratio_init => k_is
    case k_Ratio_init => k_is
    case d_Ratio_init => k_is
    case f_Ratio_sign => k_is
    case g_Ratio_sign => k_is
    case t_Ratio_sign => k_is
    case r_Ratio_sign => k_is
    case l_Ratio_sign => k_is
    case c_Ratio_sign => k_is
    case k_Ratio_sign => k_is
    case f_Ratio_add => k_is
    case i_Ratio_add => k_is
    case l_Ratio_add => k_is
    case c_Ratio_add => k_is
    case k_Ratio_add => k_is
    case f_Ratio_neg => k_is
    case i_Ratio_neg => k_is
    case l_Ratio_neg => k_is
    case c_Ratio_neg => k_is
    case k_Ratio_neg => k_is
    case f_Ratio_repr => k_is
    case i_Ratio_repr => k_is
    case l_Ratio_repr => k_is
    case c_Ratio_repr => k_is
    case k_Ratio_repr => k_is
    case f_Question_init => k_is
    case i_Question_init => k_is
    case l_Question_init => k_is
    case c_Question_init => k_is
    case k_Question_init => k_is
    case d_Question_init => k_is
    case e_Question_init => k_is
    case f_Question_of_key => k_is
    case r_Question_of_key => k_is
    case fi_Question_of_key => k_is
    case l_Question_of_key => k_is
    case c_Question_of_key => k_is
    case k_Question_of_key => k_is
    case rd_Question => k_is
    case ga_Question => k_is
    case f_Question_constant => k_is
    case r_Question_constant => k_is
    case fi_Question_constant => k_is
    case l_Question_constant => k_is
    case c_Question_constant => k_is
    case k_Question_constant => k_is
    case f_Question_terms => k_is
    case i_Question_terms => k_is
    case l_Question_terms => k_is
    case c_Question_terms => k_is
    case k_Question_terms => k_is
    case f_Question_add => k_is
    case i_Question_add => k_is
    case l_Question_add => k_is
    case c_Question_add => k_is
    case k_Question_add => k_is
    case f_Question_sub => k_is
    case i_Question_sub => k_is
    case l_Question_sub => k_is
    case c_Question_sub => k_is
    case k_Question_sub => k_is
    case f_Question_neg => k_is
    case i_Question_neg => k_is
    case l_Question_neg => k_is
    case c_Question_neg => k_is
    case k_Question_neg => k_is
    case f_Question_str => k_is
    case i_Question_str => k_is
    case l_Question_str => k_is
    case c_Question_str => k_is
    case k_Question_str => k_is
    case f_Question_repr => k_is
    case i_Question_repr => k_is
    case l_Question_repr => k_is
    case c_Question_repr => k_is
    case k_Question_repr => k_is
    case nr_Ratio_add => k_is
    case n1_Ratio_add => k_is
    case n2_Ratio_add => k_is
    case nr_Question_add => k_is
    case n1_Question_add => k_is
    case n2_Question_add => k_is
    case nr_Question_sub => k_is
    case n1_Question_sub => k_is
    case n2_Question_sub => k_is
    case z_abs => k_is
    case z_all => k_is
    case z_bool => k_is
    case z_dict => k_is
    case z_divmod => k_is
    case z_enumerate => k_is
    case z_int => k_is
    case z_isinstance => k_is
    case z_len => k_is
    case z_list => k_is
    case z_max => k_is
    case z_min => k_is
    case z_range => k_is
    case z_repr => k_is
    case z_sorted => k_is
    case z_str => k_is
    case z_tuple => k_is
    case a_LETTERS => k_is
    case a_KEY_SIGNS => k_is
    case a_LONGEST_KEY => k_is
#print axioms PySem.Challenge.cw_notesums_k15_texts_of_questions_holds
