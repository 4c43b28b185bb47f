import PyProof.Rows.All
import Wide.All
import OpenK.AllK
import Wide.FinOn
import HandS.ForMost
import HandS.Exc
import HandS.OwnEq
import HandS.IsInst
import HandS.Property
import HandS.FStr
import HandS.Wide
import HandS.WideBits
import HandS.Star
import HandS.ClsMeth
import HandS.Defaults
import HandS.RaiseMore
import KE.KOpsOwn
import KE.KFmtOwn
import KE.KCallOwn
import PyProof.ReprRoads
import PyProof.InstEq
import PyProof.ReprNest
import HandS.ExcInit
import HandS.ExcIs
import HandS.ExcOwn
import HandS.WordsExc
import PyProof.ReprDict
import PyProof.P3Eq
import PySem.Challenge.RW_notesums_k12_tables_by_dicts
import HandS.Walk
import HandS.Zip
import HandS.Style
import HandS.ListItems
import HandS.Finally
import HandS.MakeKwOnly
import HandS.MakeKw
set_option Elab.async false
set_option autoImplicit false
set_option linter.all false
set_option maxRecDepth 100000
set_option maxHeartbeats 4000000
/-! Rules of my own over the hand layer: callees by Runs, own operators, own comparisons, own texts. -/
namespace NS
open PySem L2

section
variable {X : Cx} {A : Around} {f C : Addr} {sp : Sp}

/-- from a state of the body X the def at f, called somewhere below (the around is A), keeps sp and lets nothing out -/
def Runs (X : Cx) (A : Around) (f : Addr) (sp : Sp) : Prop :=
  ∀ (pins : List (Addr × Obj)) (σ : L2.St) (H : Hp) (s : Shared) (vs : List V) (us : List Value) (Q : VK),
    Inv X pins σ H s → Vals vs us → sp vs H Q E0 →
    wpAny (model X.prog X.w) A (call (.ref f) us) (EP X pins σ Q) X.xe s

theorem back_ok {pins : List (Addr × Obj)} {σ : L2.St} {H : Hp} {s s' : Shared} {Q : VK} {r : Result}
    (I : Inv X pins σ H s) (h : CR CX0 X.stack X.prog X.w H s Q E0 r s') :
    wants (EP X pins σ Q) X.xe r s' := by
  match r, h with
  | .ok (.ret _), h => exact I.after h

theorem Runs.of {k : Nat} {fd : FuncData} {ps : List Str}
    (F : FnOk X.prog X.w X.K X.mg X.base CX0 k f fd ps sp) (hb : Binds X.K fd ps [])
    (hr : Room k A) (hf : A.frames = X.A.frames) : Runs X A f sp := by
  intro pins σ H s vs us Q I rv h
  have z := I.env0
  have e0 : Env0 X.prog X.w X.K X.mg X.base A X.stack s H :=
    ⟨hf.trans z.frames, z.mod, z.bs, z.bsz, z.funs, z.frf, z.hok, z.bare⟩
  have hl : (us ++ []).length = ps.length := by
    rw [List.append_nil, ← rv.length]
    exact F.len _ _ _ _ h
  have hbb := hb s us I.kIn hl
  rw [List.append_nil] at hbb
  exact wpAny_call (codeAny_mono (F.run A X.stack s H ⟨us, []⟩ us vs Q E0 hr e0 hbb rv h) fun r s' q => back_ok I q)

theorem Runs.imp {sp' : Sp} (R : Runs X A f sp) (h : ∀ vs H Q E, sp' vs H Q E → sp vs H Q E) : Runs X A f sp' :=
  fun pins σ H s vs us Q I rv q => R pins σ H s vs us Q I rv (h _ _ _ _ q)

theorem rel_cmp {Q : Value → Shared → Prop} {v : V} {u : Value} {s : Shared} (r : RelV v u) (q : Q u s) : PySem.W.CmpBack Q u s := by
  cases v with
  | non => cases r; exact q
  | bl _ => cases r; exact q
  | int _ => obtain ⟨t, rfl⟩ := r; exact q
  | str _ => obtain ⟨t, rfl⟩ := r; exact q
  | byt _ => obtain ⟨t, rfl⟩ := r; exact q
  | flt _ => obtain ⟨t, rfl⟩ := r; exact q
  | ref _ => cases r; exact q
  | ty _ => cases r; exact q

/-- an instance that is tracked, as the library sees it -/
theorem inst_at {pins : List (Addr × Obj)} {σ : L2.St} {H : Hp} {s : Shared} {a dx : Addr} {fs : List (Str × V)}
    (I : Inv X pins σ H s) (h : H a = some (.ins C dx fs)) : ∃ od, PySem.W.InstAt s.heap a (PySem.W.instObj C dx) C (some od) := by
  obtain ⟨mA, J, _⟩ := ins_get I.hok h
  obtain ⟨od, J, _⟩ := J.look
  exact ⟨od, J⟩

/-- what a class says of the operator op by its own method at f; ints stand on the right too -/
structure OwnOp (K : PySem.W.Frag) (C : Addr) (op : Operator) (f : Addr) : Prop where
  at_ : PySem.W.findIn K (.ref C) (PySem.dunder op.info.2) = some (some (.ref f))
  fn : PySem.W.isFn K (.ref f) = true
  sf : PySem.W.selfFirst K C = true
  nr : PySem.W.findIn K (.ref C) (dunderR op.info.2) = some none
  i1 : ∃ fo, PySem.W.findIn K (.type "int") (PySem.dunder op.info.2) = some fo
  i2 : ∃ ro, PySem.W.findIn K (.type "int") (dunderR op.info.2) = some ro
  is_ : PySem.W.subIn K (.type "int") (.ref C) = some false

/-- x op y by x's own method: y an int or an instance of the same class -/
def rOwn (C : Addr) (sp : Sp) : R2 := fun x y H Q => ∃ a dx fs, x = .ref a ∧ H a = some (.ins C dx fs) ∧
  ((∃ i, y = .int i) ∨ ∃ b dy gs, y = .ref b ∧ H b = some (.ins C dy gs)) ∧ sp [x, y] H Q E0
theorem op_own {op : Operator} (T : OwnOp X.K C op f) (R : Runs X X.A f sp) : OpR X (binaryOp op) (rOwn C sp) := by
  intro pins s σ H x y v u Q I rx ry h
  obtain ⟨a, dx, fs, rfl, ha, hy, hsp⟩ := h
  cases rx
  obtain ⟨od, J⟩ := inst_at I ha
  obtain ⟨m, hF⟩ := I.fr
  have run := R pins σ H s [.ref a, y] [.ref a, u] Q I (.cons rfl (.cons ry .nil)) hsp
  have run' : wpAny (model X.prog X.w) X.A (call (.ref f) [.ref a, u]) (PySem.W.CmpBack (EP X pins σ Q)) X.xe s :=
    thn run fun u' s' ⟨v', H', I', r', q'⟩ => rel_cmp r' ⟨v', H', I', r', q'⟩
  rcases hy with ⟨i, rfl⟩ | ⟨b, dy, gs, rfl, hb⟩
  · obtain ⟨t, rfl⟩ := ry
    obtain ⟨fo, i1⟩ := T.i1
    obtain ⟨ro, i2⟩ := T.i2
    exact PySem.W.ksp_binT hF I.ok.mod.kin J (T := "int") rfl T.sf T.at_ T.fn T.nr (.inl rfl) i1 i2 T.is_ run'
  · cases ry
    obtain ⟨od', J'⟩ := inst_at I hb
    exact PySem.W.binop_K hF I.ok.mod.kin J J'.type T.sf T.at_ T.fn run'

/-- -x by x's own __neg__ -/
structure OwnNeg (K : PySem.W.Frag) (C : Addr) (f : Addr) : Prop where
  at_ : PySem.W.findIn K (.ref C) "__neg__" = some (some (.ref f))
  fn : PySem.W.isFn K (.ref f) = true
def rNegO (C : Addr) (sp : Sp) : V → Hp → VK → Prop := fun x H Q => ∃ a dx fs, x = .ref a ∧ H a = some (.ins C dx fs) ∧ sp [x] H Q E0
theorem un_own (T : OwnNeg X.K C f) (R : Runs X X.A f sp) : UnR X (unaryOp .USub) (rNegO C sp) := by
  intro pins s σ H x v Q I rx h
  obtain ⟨a, dx, fs, rfl, ha, hsp⟩ := h
  cases rx
  obtain ⟨od, J⟩ := inst_at I ha
  obtain ⟨m, hF⟩ := I.fr
  exact PySem.W.ksp_neg hF I.ok.mod.kin J T.at_ T.fn (R pins σ H s [.ref a] [.ref a] Q I (.cons rfl .nil) hsp)

/-! ### own == and != -/
structure OwnEq (K : PySem.W.Frag) (C : Addr) (f : Addr) : Prop where
  eq : PySem.W.findIn K (.ref C) "__eq__" = some (some (.ref f))
  ne : PySem.W.findIn K (.ref C) "__ne__" = some (some (.builtin "object.__ne__"))
  fn : PySem.W.isFn K (.ref f) = true
  ob : PySem.W.mroIn K C (.type "object") = some true
  ni : PySem.W.subIn K (.type "int") (.ref C) = some false
  ns : PySem.W.subIn K (.type "str") (.ref C) = some false
  nt : PySem.W.subIn K (.type "tuple") (.ref C) = some false
  nl : PySem.W.subIn K (.type "list") (.ref C) = some false
  nd : PySem.W.subIn K (.type "dict") (.ref C) = some false
/-- what may stand on the right of an own == -/
inductive Rgt (K : PySem.W.Frag) (C : Addr) (H : Hp) : V → Prop where
  | int (i : Int) : Rgt K C H (.int i)
  | str (x : Str) : Rgt K C H (.str x)
  | own {b dy : Addr} {gs : List (Str × V)} (h : H b = some (.ins C dy gs)) : Rgt K C H (.ref b)
  | tup {b : Addr} {xs : List V} (h : H b = some (.tup xs)) : Rgt K C H (.ref b)
  | lst {b : Addr} {xs : List V} (h : H b = some (.lst xs)) : Rgt K C H (.ref b)
  | dK {b : Addr} {kvs : List (Key × V)} (h : H b = some (.dK kvs)) : Rgt K C H (.ref b)
theorem rgt_type {pins : List (Addr × Obj)} {σ : L2.St} {H : Hp} {s : Shared} {y : V} {u : Value} (T : OwnEq X.K C f) (I : Inv X pins σ H s) (ry : RelV y u) (h : Rgt X.K C H y) :
    ∃ tb, PySem.W.Looks (model X.prog X.w) s.heap (typeOf u) tb ∧ PySem.W.notFirst X.K C tb = true := by
  have nf : ∀ {t : String}, PySem.W.subIn X.K (.type t) (.ref C) = some false → PySem.W.notFirst X.K C (.type t) = true := fun e => by
    unfold PySem.W.notFirst
    rw [e]
    simp
  cases h with
  | int i => obtain ⟨t, rfl⟩ := ry; exact ⟨.type "int", PySem.W.Looks.of_pure rfl, nf T.ni⟩
  | str x => obtain ⟨t, rfl⟩ := ry; exact ⟨.type "str", PySem.W.Looks.of_pure rfl, nf T.ns⟩
  | own hb =>
    cases ry
    obtain ⟨od', J'⟩ := inst_at I hb
    exact ⟨_, J'.type, by simp [PySem.W.notFirst]⟩
  | tup hb =>
    cases ry
    obtain ⟨_, its, _, o, e, hc, _⟩ := I.hok _ _ hb
    exact ⟨.type "tuple", hc ▸ (PySem.W.Looks.ld e).andThen .now, nf T.nt⟩
  | lst hb =>
    cases ry
    obtain ⟨_, its, n, _, e⟩ := I.hok _ _ hb
    exact ⟨.type "list", (PySem.W.Looks.ld e).andThen .now, nf T.nl⟩
  | dK hb =>
    cases ry
    obtain ⟨_, _, vs, _, o, es, ep, e, hx, _⟩ := I.hok _ _ hb
    exact ⟨.type "dict", hx.1 ▸ (PySem.W.Looks.ld e).andThen .now, nf T.nd⟩

/-- x == y by x's own __eq__ -/
def rEqO (K : PySem.W.Frag) (C : Addr) (sp : Sp) : R2 := fun x y H Q => ∃ a dx fs, x = .ref a ∧ H a = some (.ins C dx fs) ∧ Rgt K C H y ∧ sp [x, y] H Q E0
theorem op_eqO (T : OwnEq X.K C f) (hr : X.A.units < cLine) (R : Runs X X.A f sp) : OpR X (compareOp .Eq) (rEqO X.K C sp) := by
  intro pins s σ H x y v u Q I rx ry h
  obtain ⟨a, dx, fs, rfl, ha, hy, hsp⟩ := h
  cases rx
  obtain ⟨od, J⟩ := inst_at I ha
  obtain ⟨m, hF⟩ := I.fr
  obtain ⟨tb, Lb, hn⟩ := rgt_type T I ry hy
  show wpAny (model X.prog X.w) X.A (richCompare .Eq (.ref a) u) (EP X pins σ Q) X.xe s
  exact PySem.W.cmp_K (op := .Eq) hr hF I.ok.mod.kin J Lb hn T.eq T.fn
    (thn (R pins σ H s [.ref a, y] [.ref a, u] Q I (.cons rfl (.cons ry .nil)) hsp) fun u' s' ⟨v', H', I', r', q'⟩ => rel_cmp r' ⟨v', H', I', r', q'⟩)

/-- a special method that is a builtin of the base, through the class -/
theorem ifBound_B {M : Model} {E : Value → Shared → Prop} {s : Shared} {K : PySem.W.Frag} {x : Addr} {ox : Obj} {od : Option Obj} {name : Str} {id : String} {args : List Value} {Q : Option Value → Shared → Prop}
    (KX : K.In s.heap) (I : PySem.W.InstAt s.heap x ox C od) (hs : PySem.W.findIn K (.ref C) name = some (some (.builtin id))) (hb : ∀ self, bindSpecial (.builtin id) self = pure (.builtin id, [self]))
    (h : wpAny M A (call (.builtin id) (.ref x :: args)) (fun v => Q (some v)) E s) : wpAny M A (callSpecialIfBound? (.ref x) name args) Q E s := by
  simp only [callSpecialIfBound?, bindSpecialIfBound?]
  refine wpAny_holding (wpAny_bind (wpAny_bind (wpAny_bind (I.type.here ((PySem.W.looks_findIn KX hs).here ?_)))))
  have last : wpAny M A (call (.builtin id) ([.ref x] ++ args) >>= fun v => pure (some v)) Q E s :=
    wpAny_bind (wpAny_mono h (fun v s' q => wpAny_pure q) fun _ _ q => q)
  refine wpAny_bind (wpAny_askSetting (wpAny_ite ?_))
  simp only [hb]
  split
  · exact wpAny_bind (wpAny_pure (wpAny_pure last))
  · exact wpAny_tryCatch (wpAny_bind (wpAny_pure (wpAny_pure last)))

theorem ne_K {E : Value → Shared → Prop} {s : Shared} {K : PySem.W.Frag} {x L : Addr} {ox : Obj} {od : Option Obj} {h₀ : Heap} {m : Str → Option Value} {b tb : Value} {prog : Program} {w : World} {Q : Value → Shared → Prop}
    (T : OwnEq K C f) (hu : A.units + 1 < cLine) (Z : PyProof.Rows.Fr h₀ L s.heap m) (K₀ : K.In h₀) (I : PySem.W.InstAt s.heap x ox C od) (hb : PySem.W.Looks (model prog w) s.heap (typeOf b) tb) (hn : PySem.W.notFirst K C tb = true)
    (h : wpAny (model prog w) A.in1 (call (.ref f) [.ref x, b]) (fun v s' => ∃ r, v = .bool r ∧ Q (.bool (!r)) s') E s) : wpAny (model prog w) A (richCompare .NotEq (.ref x) b) Q E s := by
  have KX := K₀.keeps Z.keep
  have one : wpAny (model prog w) A (tryCompare (.ref x) "__ne__" b) (fun r s' => ∃ v, r = some v ∧ Q v s') E s := by
    unfold tryCompare
    refine wpAny_bind (ifBound_B KX I T.ne F.cmp_object.ne.bind (wpAny_call (codeAny_call_builtin F.cmp_object.ne.plain F.cmpEntry_ne
      (PySem.W.check_slot (i := "object.__ne__") (owner := "object") (n := "__ne__") F.cmpKind_ne F.cmpSplit_ne (I.type.andThen (PySem.W.looks_mroIn KX T.ob)) (F.cmpArgs_ne _ _) ?_))))
    unfold Builtin.«object.__ne__»
    refine wpAny_bind (wpAny_pure ?_)
    refine wpAny_bind (wpAny_cRoomFor hu ?_)
    refine wpAny_bind (PySem.W.ifBound_K KX I T.eq T.fn (wpAny_mono h (fun v s' q => ?_) fun _ _ e => e))
    obtain ⟨r, rfl, q⟩ := q
    refine wpAny_bind (wpAny_truthy_bool ?_)
    exact wpAny_pure (wpAny_pure ⟨_, rfl, q⟩)
  unfold richCompare
  simp only [oneThing_ref]
  refine wpAny_holding (wpAny_bind (wpAny_cRoomFor (Nat.lt_of_succ_lt hu) ?_))
  refine wpAny_bind (I.type.here (wpAny_bind (hb.here ?_)))
  have fin : wpAny (model prog w) A (tryCompare (.ref x) (cmpInfo .NotEq).2.1 b) (fun r s' => ∃ v, r = some v ∧ Q v s') E s := one
  split
  · rename_i q
    have e : PySem.W.subIn K tb (.ref C) = some false := by
      rcases Bool.or_eq_true_iff.mp hn with e | e
      · rw [beq_iff_eq.mp e] at q
        simp at q
      · exact beq_iff_eq.mp e
    refine wpAny_bind ((PySem.W.looks_subIn KX e).here ?_)
    simp only [Bool.false_eq_true, if_false]
    refine wpAny_bind (wpAny_mono fin (fun r s' z => ?_) fun _ _ e => e)
    obtain ⟨v, rfl, hq⟩ := z
    exact wpAny_pure hq
  · refine wpAny_bind (wpAny_pure ?_)
    simp only [Bool.false_eq_true, if_false]
    refine wpAny_bind (wpAny_mono fin (fun r s' z => ?_) fun _ _ e => e)
    obtain ⟨v, rfl, hq⟩ := z
    exact wpAny_pure hq

/-- x != y where x has an own __eq__ and no own __ne__ -/
def rNeO (K : PySem.W.Frag) (C : Addr) (sp : Sp) : R2 := fun x y H Q => ∃ a dx fs, x = .ref a ∧ H a = some (.ins C dx fs) ∧ Rgt K C H y ∧ sp [x, y] H (fun v H' => ∃ r, v = .bl r ∧ Q (.bl (!r)) H') E0
theorem op_neO (T : OwnEq X.K C f) (hr : X.A.units + 1 < cLine) (R : Runs X X.A.in1 f sp) : OpR X (compareOp .NotEq) (rNeO X.K C sp) := by
  intro pins s σ H x y v u Q I rx ry h
  obtain ⟨a, dx, fs, rfl, ha, hy, hsp⟩ := h
  cases rx
  obtain ⟨od, J⟩ := inst_at I ha
  obtain ⟨m, hF⟩ := I.fr
  obtain ⟨tb, Lb, hn⟩ := rgt_type T I ry hy
  show wpAny (model X.prog X.w) X.A (richCompare .NotEq (.ref a) u) (EP X pins σ Q) X.xe s
  refine ne_K T hr hF I.ok.mod.kin J Lb hn (thn (R pins σ H s [.ref a, y] [.ref a, u] _ I (.cons rfl (.cons ry .nil)) hsp) fun u' s' ⟨v', H', I', r', b, e, q'⟩ => ?_)
  subst e
  cases r'
  exact ⟨b, rfl, .bl (!b), H', I', rfl, q'⟩

/-! ### str(x), repr(x) by own methods -/
structure OwnStr (K : PySem.W.Frag) (C : Addr) (nm : Str) (f : Addr) : Prop where
  at_ : PySem.W.findIn K (.ref C) nm = some (some (.ref f))
  fn : PySem.W.isFn K (.ref f) = true
def rStrO (C : Addr) (sp : Sp) : List V → Hp → VK → Prop := fun xs H Q => ∃ a dx fs, xs = [.ref a] ∧ H a = some (.ins C dx fs) ∧ sp [.ref a] H (fun v H' => ∃ z, v = .str z ∧ Q (.str z) H') E0
theorem call_strO (T : OwnStr X.K C "__str__" f) (hu : X.A.in1.in1.units < cLine) (R : Runs X X.A.in1.in1 f sp) : CallR X (.type "str") (rStrO C sp) := by
  intro pins s σ H xs us Q I r h
  obtain ⟨a, dx, fs, rfl, ha, hsp⟩ := h
  obtain ⟨u, rfl, ru⟩ := vals1 r
  cases ru
  obtain ⟨od, J⟩ := inst_at I ha
  refine PySem.W.kso_call hu I.kIn J T.at_ T.fn (thn (R pins σ H s [.ref a] [.ref a] _ I (.cons rfl .nil) hsp) fun u' s' ⟨v', H', I', r', z, e, q'⟩ => ?_)
  subst e
  obtain ⟨t, rfl⟩ := r'
  exact ⟨.str z, H', I', ⟨t, rfl⟩, q'⟩
theorem call_reprO (T : OwnStr X.K C "__repr__" f) (hu : X.A.in1.units < cLine) (R : Runs X X.A.in1 f sp) : CallR X (.builtin "repr") (rStrO C sp) := by
  intro pins s σ H xs us Q I r h
  obtain ⟨a, dx, fs, rfl, ha, hsp⟩ := h
  obtain ⟨u, rfl, ru⟩ := vals1 r
  cases ru
  obtain ⟨od, J⟩ := inst_at I ha
  obtain ⟨m, hF⟩ := I.fr
  refine PySem.W.repr_K hu hF I.ok.mod.kin J T.at_ T.fn (thn (R pins σ H s [.ref a] [.ref a] _ I (.cons rfl .nil) hsp) fun u' s' ⟨v', H', I', r', z, e, q'⟩ => ?_)
  subst e
  obtain ⟨t, rfl⟩ := r'
  exact ⟨.str z, H', I', ⟨t, rfl⟩, q'⟩

end
end NS

/-! repr of values over the hand layer, the guards being known. -/
namespace NS
open PySem L2

/-- somewhere below the body X, with room; g: who is under repr -/
structure Bel (X : Cx) (n : Nat) (A : Around) (g : List Code) : Prop where
  room : Room n A
  fr : A.frames = X.A.frames
  gd : A.guards = some g

/-- repr of v gives t, wherever none of the objects as is under repr; only new objects are made -/
def RepV (X : Cx) (n : Nat) (as : List Addr) (v : V) (H : Hp) (t : Str) : Prop :=
  ∀ (A : Around) (g : List Code) (base : Nat) (pins : List (Addr × Obj)) (σ : L2.St) (H1 : Hp) (s : Shared) (u : Value),
    Bel X n A g → (∀ b ∈ as, Clear g b) → base + t.length ≤ sizeLine → Ext H H1 → Inv X pins σ H1 s → RelV v u →
    wpAny (model X.prog X.w) A (pyReprUnder base u) (fun z s' => z = t ∧ ∃ H2, Inv X pins σ H2 s' ∧ Ext H1 H2) X.xe s

section
variable {X : Cx} {n : Nat} {as : List Addr} {H : Hp}

theorem RepV.of_is {v : V} {t : Str} (h : ∀ u, RelV v u → ReprIs X.prog X.w u t) : RepV X n as v H t :=
  fun A g base pins σ H1 s u _ _ hz _ I r => h u r base hz A X.xe s _ fun tk => ⟨rfl, H1, I.tok tk, Ext.rfl'⟩
theorem repV_str (x : Str) (hz : (reprText x).length ≤ sizeLine) : RepV X n as (.str x) H (reprText x) :=
  RepV.of_is fun u r => by
    obtain ⟨t, rfl⟩ := r
    exact ReprIs.str x t hz
theorem repV_int {i : Int} (hz : i.natAbs.log2 < 1920) : RepV X n as (.int i) H (toString i) :=
  RepV.of_is fun u r => by
    obtain ⟨t, rfl⟩ := r
    exact ReprIs.int t hz
theorem repV_bl (b : Bool) : RepV X n as (.bl b) H (if b then "True" else "False") :=
  RepV.of_is fun u r => by
    cases r
    exact ReprIs.bool b
theorem RepV.mono {as' : List Addr} {m : Nat} {H' : Hp} {v : V} {t : Str} (h : RepV X n as v H t) (ha : ∀ b ∈ as, b ∈ as') (hn : n ≤ m) (e : Ext H H') : RepV X m as' v H' t :=
  fun A g base pins σ H1 s u b c hz e1 I r => h A g base pins σ H1 s u ⟨b.room.mono hn, b.fr, b.gd⟩ (fun x hx => c x (ha x hx)) hz (e.trans e1) I r

theorem Bel.under {A : Around} {g : List Code} {c : Code} (b : Bel X (n + 1) A g) (hg : c.isGuard = true) (he : c.envs = []) (hw : c.weight = 1) (hu : c.cUnits = 1) : Bel X n (A.under c) (c :: g) := by
  refine ⟨⟨b.room.hd, ?_, ?_⟩, ?_, guards_under_guard hg b.gd⟩
  · have := b.room.dp
    show A.depth + c.weight + 3 * n + 5 < _
    omega
  · have := b.room.un
    show A.units + c.cUnits + 16 * n + 200 < _
    omega
  · show pushEnvs c.envs A.frames = _
    rw [he]
    exact b.fr

theorem loop_envs (args : Args) : (Code.builtin "list.__repr__.loop" args).envs = [] := by
  first | rfl | simp [Code.envs, Code.isFrame]
theorem loop_weight (args : Args) : (Code.builtin "list.__repr__.loop" args).weight = 1 := by
  have h := isGuard_list_loop args
  first | rfl | simp [Code.weight, h, Code.frames, Code.isFrame, Code.isCreation, Code.isCaller]
theorem loop_units (args : Args) : (Code.builtin "list.__repr__.loop" args).cUnits = 1 := by
  first | rfl | simp [Code.cUnits, Code.frames, Code.isFrame]

theorem unpinned {pins : List (Addr × Obj)} {σ : L2.St} {s : Shared} {p : Addr × Obj} (I : Inv X (p :: pins) σ H s) : Inv X pins σ H s :=
  I.pins_of fun r hr => I.pin r (List.mem_append_right _ (List.mem_cons_of_mem _ hr))
/-- the parts' list as it grows -/
abbrev partsO (acc : Array Value) (c : Nat) : Obj := { cls := .type "list", dict := none, data := .seq acc c, slots := #[] }

theorem loopV {A : Around} {R : Result → Shared → Prop} {a P : Addr} {xs : List V} {ts : List Str} {base : Nat} {g : List Code} {pins : List (Addr × Obj)} {σ : L2.St}
    (b : Bel X (n + 1) A g) (hcl : ∀ b ∈ as, Clear g b) (hna : a ∉ as) (ha : H a = some (.lst xs)) (hlen : ts.length = xs.length)
    (hT : ∀ (i : Nat) (x : V), xs[i]? = some x → ∃ t, ts[i]? = some t ∧ RepV X n as x H t) (hsz : base + (listText ts).length ≤ sizeLine)
    (hR : ∀ u s' H2, Inv X pins σ H2 s' → Ext H H2 → R (.ok (.ret (.str (listText ts) u))) s') (hE : ∀ e s', X.xe e s' → R (.error e) s') :
    ∀ (k i : Nat) (s : Shared) (H1 : Hp) (acc : Array Value) (c : Nat) (done : List (Str × Tok)), xs.length - i = k → i ≤ xs.length → Inv X ((P, partsO acc c) :: pins) σ H1 s → FpOk X pins H1 P → Ext H H1 →
      acc.toList = strValues done → done.map (·.1) = ts.take i →
      codeAny (model X.prog X.w) A (.builtin "list.__repr__.loop" ⟨[.ref a, rawInt i, .ref P, rawInt ((base + piled (ts.take i) : Nat) : Int)], []⟩) R s := by
  have hX : (listText ts).length = (textFrom 0 "[" ts).length + 1 := by
    show (textFrom 0 "[" ts ++ "]").length = _
    rw [strLen_append]
    rfl
  have hL := textFrom_len ts 0 "["
  have z1 : xs.length ≤ sizeLine := by
    have h1 := hL.1
    rw [if_neg (Nat.lt_irrefl 0)] at h1
    omega
  have z2 : ∀ t ∈ ts, t.length ≤ sizeLine := fun t ht => by
    have h2 := hL.2.1 t ht
    omega
  have hp3 := piled_le_listText ts
  intro k
  induction k with
  | zero =>
    intro i s H1 acc c done hk hi I fp e1 hacc hdone
    have hin : i = xs.length := by omega
    obtain ⟨_, its, na, rv, ho⟩ := I.hok a _ (e1 _ _ ha)
    have hP := (I.pin (P, partsO acc c) (List.mem_append_right _ List.mem_cons_self)).1
    have hn : its.toArray[(i : Int).toNat]? = none := by
      have := rv.length
      simp
      omega
    refine codeAny_builtin F.entry_list_repr_loop ?_
    show wpAny _ _ (Builtin.«list.__repr__.loop» ⟨[.ref a, .int i 0, .ref P, .int ((base + piled (ts.take i) : Nat) : Int) 0], []⟩) _ _ s
    rw [repr_loop_tree]
    refine wpAny_bind (wpAny_listItems ho rfl ?_)
    simp only [hn]
    unfold reprEnd
    refine wpAny_bind (wpAny_listItems hP rfl ?_)
    rw [hacc, repr_fold]
    refine wpAny_bind (wpAny_pure ?_)
    have hall : done.map (·.1) = ts := by rw [hdone, hin, ← hlen, List.take_length]
    rw [hall]
    refine wpAny_bind (wpAny_mkStr (wpAny_pure ?_) (by show (listText ts).length ≤ sizeLine; omega))
    exact hR _ _ H1 ((unpinned I).tok _) e1
  | succ k ih =>
    intro i s H1 acc c done hk hi I fp e1 hacc hdone
    have hlt : i < xs.length := by omega
    obtain ⟨_, its, na, rv, ho⟩ := I.hok a _ (e1 _ _ ha)
    obtain ⟨t, ht, hrep⟩ := hT i xs[i] (List.getElem?_eq_getElem hlt)
    obtain ⟨u, hu, ru⟩ := rv.get (List.getElem?_eq_getElem hlt)
    have hp1 := piled_take_succ ht
    have hp2 := piled_take_le ts (i + 1)
    have hsome : its.toArray[(i : Int).toNat]? = some u := by
      rw [Int.toNat_natCast]
      simpa using hu
    refine codeAny_builtin F.entry_list_repr_loop ?_
    show wpAny _ _ (Builtin.«list.__repr__.loop» ⟨[.ref a, .int i 0, .ref P, .int ((base + piled (ts.take i) : Nat) : Int) 0], []⟩) _ _ s
    rw [repr_loop_tree]
    refine wpAny_bind (wpAny_listItems ho rfl ?_)
    simp only [hsome]
    rw [Int.toNat_natCast]
    refine wpAny_bind (wpAny_holding (wpAny_mono (hrep _ _ (base + piled (ts.take i) + 1) _ σ H1 s u (b.under (isGuard_list_loop _) (loop_envs _) (loop_weight _) (loop_units _)) (fun x hx => (hcl x hx).cons (a := a) fun e => hna (e ▸ hx)) (by omega) e1 I ru) (fun z s2 q => ?_) fun e s2 q => hE e s2 q))
    obtain ⟨rfl, H2, I2, e2⟩ := q
    refine wpAny_bind (wpAny_mkStr ?_ (z2 z (List.mem_of_getElem? ht)))
    refine wpAny_bind ?_
    show wpAny _ _ (updateSeq P _) _ _ _
    have hP := (I2.pin (P, partsO acc c) (List.mem_append_right _ List.mem_cons_self))
    have hasz : acc.size ≤ sizeLine := by
      have q1 : acc.toList.length = acc.size := by simp
      have q2 : (strValues done).length = done.length := by simp [strValues]
      have q3 : done.length = (ts.take i).length := by rw [← hdone, List.length_map]
      have q4 : (ts.take i).length ≤ i := by rw [List.length_take]; omega
      rw [hacc] at q1
      omega
    have fp2 : FpOk X pins H2 P := ⟨hP.2.1, fp.2⟩
    refine wpAny_updateSeq hP.1 rfl (wpAny_pure ⟨F.quiet_list_repr_loop _, ?_⟩) hasz
    have q1 : ((i : Int) + 1) = ((i + 1 : Nat) : Int) := by omega
    have q2 : base + piled (ts.take i) + (z.length + 2) = base + piled (ts.take (i + 1)) := by omega
    rw [q1, q2]
    obtain ⟨f0, f1, f2, f3, f4, f5⟩ := fp2
    have up : (s2.heap.update P (Obj.mapSeq (·.push (.str z s2.toks)))).get? P = some (Obj.mapSeq (·.push (.str z s2.toks)) (partsO acc c)) := Heap.get?_update_self _ (show s2.heap.get? P = some (partsO acc c) from hP.1) rfl
    have I3 := (unpinned I2).turned (t' := s2.toks + 1) (h' := s2.heap.update P (Obj.mapSeq (·.push (.str z s2.toks)))) (fun x o hx e => (Heap.get?_update_other _ _ (Ne.symm hx)).trans e) f0 f1 f3 f4 f5
    refine ih (i + 1) _ H2 (acc.push (.str z s2.toks)) (if (acc.push (.str z s2.toks)).size == acc.size then c else c + 1) (done ++ [(z, s2.toks)]) (by omega) hlt (I3.pins_of fun r hr => ?_) ⟨f0, f1, f2, f3, f4, f5⟩ (e1.trans e2) (by simp [hacc, strValues]) (by simp [List.take_add_one, ht, hdone])
    rcases List.mem_cons.mp hr with rfl | hr
    · exact ⟨up, f0, f1, f2, fun v z => nomatch z⟩
    · exact I3.pin r (List.mem_append_right _ hr)

/-- items shown one by one -/
structure RepL (X : Cx) (n : Nat) (as : List Addr) (xs : List V) (H : Hp) (ts : List Str) : Prop where
  len : ts.length = xs.length
  at_ : ∀ (i : Nat) (x : V), xs[i]? = some x → ∃ t, ts[i]? = some t ∧ RepV X n as x H t
theorem RepL.nil : RepL X n as [] H [] := ⟨rfl, fun i x h => by simp at h⟩
theorem RepL.cons {x : V} {xs : List V} {t : Str} {ts : List Str} (h : RepV X n as x H t) (r : RepL X n as xs H ts) : RepL X n as (x :: xs) H (t :: ts) := by
  refine ⟨by simp [r.len], fun i y e => ?_⟩
  cases i with
  | zero =>
    simp at e
    subst e
    exact ⟨t, rfl, h⟩
  | succ i =>
    simp at e
    obtain ⟨t', q, z⟩ := r.at_ i y e
    exact ⟨t', by simpa using q, z⟩

theorem reprAtV {A : Around} {R : Result → Shared → Prop} {a : Addr} {xs : List V} {ts : List Str} {base : Nat} {g : List Code} {pins : List (Addr × Obj)} {σ : L2.St} {H1 : Hp} {s : Shared}
    (b : Bel X (n + 1) A g) (hca : Clear g a) (hcl : ∀ b ∈ as, Clear g b) (hna : a ∉ as) (ha : H a = some (.lst xs)) (hT : RepL X n as xs H ts) (hsz : base + (listText ts).length ≤ sizeLine) (e1 : Ext H H1) (I : Inv X pins σ H1 s)
    (hR : ∀ u s' H2, Inv X pins σ H2 s' → Ext H1 H2 → R (.ok (.ret (.str (listText ts) u))) s') (hE : ∀ e s', X.xe e s' → R (.error e) s') :
    wpAny (model X.prog X.w) A.in1 (Builtin.listReprAt base ⟨[.ref a], []⟩) (fun fin s' => match fin with | .done f => R (.ok f) s' | .again c' => c'.quiet = true ∧ codeAny (model X.prog X.w) A c' R s') (fun e s' => R (.error e) s') s := by
  obtain ⟨_, its, na, rv, ho⟩ := I.hok a _ (e1 _ _ ha)
  cases rv with
  | nil =>
    have e : ts = [] := List.length_eq_zero_iff.mp hT.len
    subst e
    exact wpAny_list_repr_empty ho rfl (hR _ _ H1 (I.tok _) Ext.rfl')
  | cons r0 rv =>
    rename_i x0 u0 xs0 us0
    refine wpAny_list_repr_head (A := A.in1) b.gd (fun v rest kw hm => listSameRef_of_ne (hca _ _ _ _ hm)) ho rfl ?_
    refine wpAny_bind (m := newList []) (wpAny_newObj_type ?_)
    refine wpAny_pure ⟨F.quiet_list_repr_loop _, ?_⟩
    have I2 : Inv X ((s.heap.objs.size, partsO #[] 0) :: pins) σ H1 { s with heap := s.heap.push (partsO #[] 0) } :=
      ClX.pin_new (t' := s.toks) I (fun _ _ z => Heap.get?_push_of_some _ z) (Nat.le_refl _) (Heap.get?_push_size s.heap rfl) (fun v z => nomatch z)
    exact loopV (P := s.heap.objs.size) (H := H1) b hcl hna (e1 _ _ ha) hT.len (fun i x h => let ⟨t, q, z⟩ := hT.at_ i x h; ⟨t, q, z.mono (fun _ m => m) (Nat.le_refl _) e1⟩) hsz hR hE _ 0 _ H1 #[] 0 [] rfl (Nat.zero_le _) I2
      (I.fpOk (Nat.le_refl _) (I.hok.fresh (Nat.le_refl _))) Ext.rfl' rfl (by simp)

theorem typ_list {a : Addr} {xs : List V} {pins : List (Addr × Obj)} {σ : L2.St} {s : Shared} (I : Inv X pins σ H s) (ha : H a = some (.lst xs)) : s.TypeIs (.ref a) "list" := by
  obtain ⟨_, its, na, rv, ho⟩ := I.hok a _ ha
  exact ⟨_, ho, rfl⟩

/-- a list within -/
theorem repV_lst {a : Addr} {xs : List V} {ts : List Str} (hna : a ∉ as) (ha : H a = some (.lst xs)) (hT : RepL X n as xs H ts) : RepV X (n + 1) (a :: as) (.ref a) H (listText ts) := by
  intro A g base pins σ H1 s u b c hz e1 I r
  cases r
  refine wpAny_pyReprUnder_ref (by omega) ?_
  refine wpAny_pyReprObjUnder_twin (twin := "list.__repr__.under") (typ_list I (e1 _ _ ha)) F.slot_list_repr.toG rfl b.room.units0 ?_
  refine call_twin_plain F.plain_list_repr_under F.entry_list_repr_under F.check_list_repr_under (typ_list I (e1 _ _ ha)) F.slot_list_repr.toG (F.args_list_repr_1 _)
    (reprAtV (R := callEnd _ X.xe) b (c a (.head _)) (fun x hx => c x (.tail _ hx)) hna ha hT hz e1 I (fun u' s' H2 I2 e2 => ?_) fun e s' q => q)
  exact ⟨⟨_, _, rfl⟩, _, _, rfl, rfl, H2, I2, e2⟩

/-- repr(l) -/
def rRepL (X : Cx) (n : Nat) : List V → Hp → VK → Prop := fun vs H Q => ∃ a xs ts as, vs = [.ref a] ∧ a ∉ as ∧ H a = some (.lst xs) ∧ RepL X n as xs H ts ∧ (listText ts).length ≤ sizeLine ∧ ∀ H', Ext H H' → Q (.str (listText ts)) H'
theorem call_reprL (hr : Room (n + 2) X.A) (hg : X.A.guards = some []) : CallR X (.builtin "repr") (rRepL X n) := by
  intro pins s σ H vs us Q I r h
  obtain ⟨a, xs, ts, as, rfl, hna, ha, hT, hz, q⟩ := h
  obtain ⟨u, rfl, ru⟩ := vals1 r
  cases ru
  refine call_repr_slot (by have := hr.un; omega) (typ_list I ha) F.slot_list_repr.toG ?_
  refine wpAny_call (codeAny_call_builtin F.slot_list_repr.plain F.entry_list_repr (F.slot_list_repr.check _ _ _ _ _ _ _ _ (typ_list I ha) (F.args_list_repr_1 _)
    (reprAtV (A := X.A.in1) (base := 0) (R := callEnd _ X.xe) (g := []) ⟨hr.in1, rfl, hg⟩ (Clear.nil _) (fun b _ => Clear.nil b) hna ha hT (by omega) Ext.rfl' I (fun u' s' H2 I2 e2 => ?_) fun e s' q => q)))
  exact ⟨_, _, rfl, .str _, H2, I2, ⟨_, rfl⟩, q H2 e2⟩

/-- an instance with an own __repr__ -/
theorem repV_own {C f a dx : Addr} {fs : List (Str × V)} {sp : Sp} {t : Str} (T : OwnStr X.K C "__repr__" f) (R : ∀ A, Room n A → A.frames = X.A.frames → Runs X A f sp)
    (ha : H a = some (.ins C dx fs)) (hsp : ∀ H1, Ext H H1 → ∀ Q : VK, (∀ H2, Ext H1 H2 → Q (.str t) H2) → sp [.ref a] H1 Q E0) : RepV X n as (.ref a) H t := by
  intro A g base pins σ H1 s u b c hz e1 I r
  cases r
  obtain ⟨od, J⟩ := inst_at I (e1 _ _ ha)
  refine wpAny_pyReprUnder_ref (by omega) ?_
  unfold pyReprObjUnder pyReprObjBy
  refine wpAny_bind (wpAny_cRoomFor b.room.units0 ?_)
  refine wpAny_bind (wpAny_bind (J.type.here ((PySem.W.looks_findIn I.kIn T.at_).here ?_)))
  rw [if_neg (by simp)]
  have run := R A b.room b.fr pins σ H1 s [.ref a] [.ref a] (fun v H2 => v = .str t ∧ Ext H1 H2) I (.cons rfl .nil) (hsp H1 e1 _ fun H2 e2 => ⟨rfl, e2⟩)
  have last : wpAny (model X.prog X.w) A (call (.ref f) ([.ref a] ++ []) >>= fun v => pure (some v)) (fun o s' => ∃ x k H2, o = some (Value.str x k) ∧ x = t ∧ Inv X pins σ H2 s' ∧ Ext H1 H2) X.xe s := by
    refine wpAny_bind (wpAny_mono run (fun v s' q => ?_) fun _ _ q => q)
    obtain ⟨v', H2, I2, r2, rfl, e2⟩ := q
    obtain ⟨k, rfl⟩ := r2
    exact wpAny_pure ⟨t, k, H2, rfl, rfl, I2, e2⟩
  dsimp only
  refine wpAny_bind (wpAny_mono (Q := fun o s' => ∃ x k H2, o = some (Value.str x k) ∧ x = t ∧ Inv X pins σ H2 s' ∧ Ext H1 H2) ?_ (fun o s' q => ?_) fun _ _ q => q)
  · simp only [callSpecialIfBoundBy?, bindSpecialIfBound?]
    refine wpAny_holding (wpAny_bind (wpAny_bind (wpAny_bind (J.type.here ((PySem.W.looks_findIn I.kIn T.at_).here ?_)))))
    refine wpAny_bind (wpAny_askSetting (wpAny_ite ?_))
    split
    · exact wpAny_bind ((PySem.W.bind_fn I.kIn _ (beq_iff_eq.mp T.fn)).here (wpAny_pure (by exact last)))
    · exact wpAny_tryCatch (wpAny_bind ((PySem.W.bind_fn I.kIn _ (beq_iff_eq.mp T.fn)).here (wpAny_pure (by exact last))))
  · obtain ⟨x, k, H2, rfl, rfl, I2, e2⟩ := q
    exact wpAny_bind (wpAny_isInstance (T := "str") (b := true) rfl isSubtype_str_str (wpAny_pure ⟨x, k, rfl, rfl, H2, I2, e2⟩))

end
end NS

/-! Defs whose promise holds where nothing is under repr (guards known to be none); calls by Runs; the law's end. -/
namespace NS
open PySem L2

/-- as FnOk, for calls where nothing is under repr; no exception leaves -/
structure FnG (P : Program) (w : World) (K : PySem.W.Frag) (mg : Str → Option Value) (base : Heap) (k : Nat) (f : Addr) (fd : FuncData) (ps : List Str) (sp : Sp) : Prop where
  len : ∀ vs H Q E, sp vs H Q E → vs.length = ps.length
  run : ∀ (A : Around) (outer : List Env) (s : Shared) (H : Hp) (args : Args) (us : List Value) (vs : List V) (Q : VK), A.guards = some [] → Room k A →
    Env0 P w K mg base A outer s H → BindsTo s fd args (ps.zip us) → Vals vs us → sp vs H Q E0 → codeAny (model P w) A (.call (.ref f) args) (CR CX0 outer P w H s Q E0) s

section
variable {P : Program} {w : World} {K : PySem.W.Frag} {mg : Str → Option Value} {base : Heap} {k : Nat} {f : Addr} {fd : FuncData} {ps : List Str} {sp : Sp}
theorem FnG.of (F : FnOk P w K mg base CX0 k f fd ps sp) : FnG P w K mg base k f fd ps sp :=
  ⟨F.len, fun A outer s H args us vs Q _ hr e0 hb rv h => F.run A outer s H args us vs Q E0 hr e0 hb rv h⟩
theorem FnG.mono {j : Nat} (F : FnG P w K mg base j f fd ps sp) (h : j ≤ k) : FnG P w K mg base k f fd ps sp :=
  ⟨F.len, fun A outer s H args us vs Q g hr => F.run A outer s H args us vs Q g (hr.mono h)⟩

/-- a def of the text, its body walked where nothing is under repr -/
theorem okG {x qual : Str} {st : Stmt} {N : List Str} (F : Fun K x qual st f fd) (S : FnScope N ps (defScope st)) (len : ∀ vs H Q E, sp vs H Q E → vs.length = ps.length)
    (hbody : ∀ (cdv : Value) (A : Around) (outer : List Env) (s : Shared) (H : Hp) (vs : List V) (Q : VK), A.guards = some [] → Room k (A.deeper (PyProof.Rows.envOfC qual (defScope st) s.heap.objs.size f cdv)) → sp vs H Q E0 →
      ∃ t, PSs (cxOf CX0 P w K mg base N qual (defScope st) f cdv A outer s H E0).nox (defBody st) t ∧ t { nx := fun _ H' => Q .non H', rt := Q } (start N vs) H) : FnG P w K mg base (k + 1) f fd ps sp := by
  obtain ⟨oc, od, kV, doc, pm, an, cdv, ct, osl, rfl, lk, hcd⟩ := F.ex
  refine ⟨len, fun A outer s H args us vs Q hg hr e0 hb rv hsp => ?_⟩
  have keep : ∀ b o, base.get? b = some o → s.heap.get? b = some o := fun b o e => (e0.bs b o e).1
  have KX := e0.mod.kin.keeps keep
  refine codeAny_call_function hr.depth (KX _ _ lk) rfl S.co S.gen rfl (PySem.W.codeRec_of KX hcd) (hb _ _ _ _ (wpAny_newFunctionEnv_cells S.kind (fun y hy => ?_) fun env he s1 x => ?_))
  · obtain ⟨n, v⟩ := y
    exact (S.par n (List.of_mem_zip hy).1).elim (fun q => .inl q) fun q => .inr ⟨q, PySem.W.cellsFrom_some _ _ _ (.inl q)⟩
  · subst he
    refine ⟨(e0.mod.nolimit.keeps keep).keeps x.toInCall.keep, codeAny_func ?_⟩
    obtain ⟨t, ht, hq⟩ := hbody cdv A outer s H vs Q hg (hr.deeper _) hsp
    have J := inv_start (CX := CX0) (E := E0) S hr.hd e0 (len _ _ _ _ hsp) rv x
    refine wpAny_mono (ht.nox.run [] s1 (start N vs) H _ J hq) (fun fl s' z => ?_) fun e s' z => z
    cases fl with
    | ret u =>
      obtain ⟨v, σ', H', I', r', q'⟩ := z
      exact ⟨v, H', I'.os, I'.bare, I'.base, I'.hok, r', q'⟩
    | next =>
      obtain ⟨σ', H', I', q'⟩ := z
      exact ⟨V.non, H', I'.os, I'.bare, I'.base, I'.hok, rfl, q'⟩
    | brk =>
      obtain ⟨_, _, _, q'⟩ := z
      exact q'.elim
    | cont =>
      obtain ⟨_, _, _, q'⟩ := z
      exact q'.elim
end

section
variable {X : Cx} {A : Around} {f : Addr} {sp : Sp} {k : Nat} {fd : FuncData} {ps : List Str}
theorem Runs.ofG (F : FnG X.prog X.w X.K X.mg X.base k f fd ps sp) (hb : Binds X.K fd ps []) (hg : A.guards = some []) (hr : Room k A) (hf : A.frames = X.A.frames) : Runs X A f sp := by
  intro pins σ H s vs us Q I rv h
  have z := I.env0
  have hl : (us ++ []).length = ps.length := by
    rw [List.append_nil, ← rv.length]
    exact F.len _ _ _ _ h
  have hbb := hb s us I.kIn hl
  rw [List.append_nil] at hbb
  exact wpAny_call (codeAny_mono (F.run A X.stack s H ⟨us, []⟩ us vs Q hg hr ⟨hf.trans z.frames, z.mod, z.bs, z.bsz, z.funs, z.frf, z.hok, z.bare⟩ hbb rv h) fun r s' q => back_ok I q)

/-- f(e, ..) -/
theorem pe_callR {x : Str} {e : Expr} {es : List Expr} {t : TA} {p pos : Pos} (R : Runs X X.A f sp) (hg : Gl X x) (hm : X.mg x = some (.ref f)) (hk : PySem.W.keepIn X.K (.ref f) = true) (ha : PA X (e :: es) t)
    (hdb : (x == ("__debug__" : Str)) = false := by decide) (he : starEach (e :: es) X.env = (false, eval e X.env) :: starEach es X.env := by rfl) (hpl : (backTo pos (starEach es X.env)).any (·.1) = false := by rfl) :
    PE X (.Call (.Name x p) (e :: es) [] pos) (fun σ H Q => t σ H fun vs H1 => sp vs H1 Q E0) := by
  refine ⟨fun pins s σ H Q I h => wpAny_Call_Name_kw (ld_glob I hg hm ?_ hdb)⟩
  refine PySem.W.callWith_K (h₀ := X.base) I.ok.mod.kin hk (thn (ha.run pos pins s σ H _ I h) fun us s1 z => ?_) he hpl
  obtain ⟨vs, H1, I1, rv, q⟩ := z
  exact ⟨I1.kIn, R pins σ H1 s1 vs us Q I1 rv q⟩
end

section
open PySem.W PyProof.Rows
variable {P : Program} {w : World} {K : PySem.W.Frag} {mg mb : Str → Option Value} {k : Nat} {fa a : Addr} {fd : FuncData} {x : Str} {sp : Sp} {s₁ : Shared} {vs : List Value} {ns : List Int}
/-- the law's call, from an abstract heap H that tracks the script at most -/
theorem law_from {H : Hp} (KX : K.In s₁.heap) (hns : s₁.heap.Ns mainGlobals mg) (hb : s₁.heap.Ns builtinsNs mb) (hbb : ∀ x : Str, x ≠ "__name__" → mb x = bootBuiltins x) (hlim : s₁.heap.NoLimit) (hg : s₁.gens = #[])
    (ha : s₁.heap.get? a = some { cls := .type "list", data := .seq vs.toArray }) (hr : Room k callerA)
    (F : ∀ base : Heap, K.In base → base.Ns mainGlobals mg → FnG P w K mg base k fa fd [x] sp) (hbind : ∀ (s : Shared) (u : Value), BindsTo s fd ⟨[u], []⟩ [(x, u)])
    (hsp : sp [.ref a] H (fun v _ => v = .bl true) E0) (hok : HOk P w H s₁.heap) (hA : ∀ b, H b ≠ none → b = a ∧ K.lookup a = none ∧ ∃ o xs, H b = some (.frz o (.lst xs))) :
    codeAny (model P w) callerA (.call (.ref fa) ⟨[.ref a], []⟩) (fun r s' => r = .ok (.ret (.bool true)) ∧ OldK s₁.heap s'.heap ∧ s'.os = s₁.os ∧ AllBare s'.gens) s₁ := by
  have un : ∀ {b : Addr}, b ≠ a → H b = none := fun {b} hne => by
    cases q : H b with
    | none => rfl
    | some u => exact absurd (hA b (by rw [q]; exact fun z => nomatch z)).1 hne
  have nsK : ∀ {b : Addr} {m : Str → Option Value}, s₁.heap.Ns b m → (hidT s₁.heap H).Ns b m := fun {b m} ⟨o, es, ep, e, d, r⟩ => by
    refine ⟨o, es, ep, hidT_get e (un fun z => ?_), d, r⟩
    subst z
    rw [ha] at e
    cases e
    exact nomatch (show Data.seq vs.toArray _ = Data.dict es ep from d)
  have kb : K.In (hidT s₁.heap H) := fun b o e => hidT_get (KX b o e) (by
    cases q : H b with
    | none => rfl
    | some u =>
      obtain ⟨rfl, hk, _⟩ := hA b (by rw [q]; exact fun z => nomatch z)
      rw [hk] at e
      cases e)
  obtain ⟨mc, l1, l2⟩ := hlim
  have e0 : Env0 P w K mg (hidT s₁.heap H) callerA [] s₁ H :=
    ⟨rfl, ⟨kb, nsK hns, ⟨mb, nsK hb, hbb⟩, ⟨mc, nsK l1, l2⟩⟩, fun b o e => of_hidT e, Nat.le_of_eq (hidT_size _ _), trivial, (fun b z => absurd (show b ∈ ([] : List Addr) from z) (by simp)), hok, .of_eq hg⟩
  refine codeAny_mono ((F _ kb (nsK hns)).run callerA [] s₁ H ⟨[.ref a], []⟩ [.ref a] [.ref a] _ rfl hr e0 (hbind s₁ (.ref a)) (.cons rfl .nil) hsp) fun r s' z => ?_
  match r, z with
  | .ok (.ret u), z =>
    obtain ⟨v, H', os, bare, un', hok', r', q⟩ := z
    cases q
    cases r'
    refine ⟨rfl, OldK.of_keep fun b o e => ?_, os, bare⟩
    cases q : H b with
    | none => exact un'.keep b o e q (fun z => absurd (show b ∈ ([] : List Addr) from z) (by simp)) (by simp)
    | some u =>
      obtain ⟨_, _, ob, xs, z⟩ := hA b (by rw [q]; exact fun z => nomatch z)
      have e1 := (hok b _ z).1
      rw [e] at e1
      cases e1
      exact (hok' b _ (un'.frzs b _ _ z)).1

theorem law_callG (KX : K.In s₁.heap) (hns : s₁.heap.Ns mainGlobals mg) (hb : s₁.heap.Ns builtinsNs mb) (hbb : ∀ x : Str, x ≠ "__name__" → mb x = bootBuiltins x) (hlim : s₁.heap.NoLimit) (hg : s₁.gens = #[])
    (ha : s₁.heap.get? a = some { cls := .type "list", data := .seq vs.toArray }) (hi : IntsAre vs ns) (hl : ns.length ≤ sizeLine) (hr : Room k callerA)
    (F : ∀ base : Heap, K.In base → base.Ns mainGlobals mg → FnG P w K mg base k fa fd [x] sp) (hbind : ∀ (s : Shared) (u : Value), BindsTo s fd ⟨[u], []⟩ [(x, u)])
    (hsp : ∀ H : Hp, SqL K H a (ns.map V.int) → (∀ b o, H b = some o → b = a) → sp [.ref a] H (fun v _ => v = .bl true) E0) :
    codeAny (model P w) callerA (.call (.ref fa) ⟨[.ref a], []⟩) (fun r s' => r = .ok (.ret (.bool true)) ∧ OldK s₁.heap s'.heap ∧ s'.os = s₁.os ∧ AllBare s'.gens) s₁ := by
  have rv := vals_ints hi
  cases hk : K.lookup a with
  | some o =>
    have e := KX a o hk
    rw [ha] at e
    cases e
    refine law_from (H := fun _ => none) KX hns hb hbb hlim hg ha hr F hbind (hsp _ (.inr ⟨_, vs.toArray, _, hk, rfl, rfl, rfl, ?_, by simpa using rv⟩) fun b o z => nomatch z) (fun b u z => nomatch z) fun b z => absurd rfl z
    rw [List.size_toArray, hi.length]
    exact hl
  | none =>
    have at_a : (fun b => if b = a then some (HO.frz { cls := .type "list", data := .seq vs.toArray } (.lst (ns.map V.int))) else none : Hp) a = some (HO.frz { cls := .type "list", data := .seq vs.toArray } (.lst (ns.map V.int))) := if_pos rfl
    have off : ∀ b o, (fun b => if b = a then some (HO.frz { cls := .type "list", data := .seq vs.toArray } (.lst (ns.map V.int))) else none : Hp) b = some o → b = a := fun b o z => by
      by_cases hba : b = a
      · exact hba
      · exact nomatch (if_neg hba).symm.trans z
    refine law_from (H := fun b => if b = a then some (.frz { cls := .type "list", data := .seq vs.toArray } (.lst (ns.map V.int))) else none) KX hns hb hbb hlim hg ha hr F hbind (hsp _ (.inl (.inr ⟨_, at_a⟩)) off) (fun b u z => ?_) fun b z => ?_
    · obtain rfl := off b u z
      rw [at_a] at z
      cases z
      exact ⟨ha, by rw [List.length_map]; exact hl, vs, _, rv, ha⟩
    · cases q : (fun b => if b = a then some (HO.frz { cls := .type "list", data := .seq vs.toArray } (.lst (ns.map V.int))) else none : Hp) b with
      | none => exact absurd q z
      | some u =>
        obtain rfl := off b u q
        exact ⟨rfl, hk, _, _, at_a⟩

/-- the goal that k_head leaves, from the law's promise -/
theorem walk_ofG {l : PySem.W.OpenLaw} {n : Nat} {q : Program} {loose : List Str} {XP : (Str → Option Value) → Heap → Prop} {YP : World → Heap → Prop} {d : DefRec} {KK : Params → PySem.W.Frag} {spK : PySem.W.Frag → Sp}
    (hn : l.most = some n) (hn2 : n ≤ sizeLine) (hdf : d.params.defaults = []) (hr : Room k callerA) (hY : ∀ (w : World) (h : Heap), YP w h → (KK w.params).In h)
    (F : ∀ (w : World) (mg : Str → Option Value) (fa : Addr) (h : Heap), (KK w.params).In h → h.Ns mainGlobals mg → mg d.name = some (.ref fa) →
      ∃ fd : FuncData, (∀ (s : Shared) (u : Value), BindsTo s fd ⟨[u], []⟩ [(x, u)]) ∧ ∀ base : Heap, (KK w.params).In base → base.Ns mainGlobals mg → FnG l.prog w (KK w.params) mg base k fa fd [x] (spK (KK w.params)))
    (hsp : ∀ (K : PySem.W.Frag) (H : Hp) (a : Addr) (ns : List Int), ns.length ≤ n → SqL K H a (ns.map V.int) → (∀ b o, H b = some o → b = a) → spK K [.ref a] H (fun v _ => v = .bl true) E0) :
    PySem.W.WalkO q loose XP YP l.row.toRowW d [] (fun f vs => PySem.call f vs) := by
  refine Att.attach_call hn hdf fun w s₀ s₁ mg mb fa o pm cd doc a vs ns G Y ho hd hcd hmg hobj hints hlen hgn => ?_
  obtain ⟨fd, hb, hF⟩ := F w mg fa _ (hY w _ Y) G.T.g hmg
  exact law_callG (hY w _ Y) G.T.g G.T.b G.T.builtins G.T.nolimit hgn hobj hints (Nat.le_trans hlen hn2) hr hF hb fun H hS hO => hsp _ H a ns hlen hS hO
end
end NS

/-! The mathematics of Ratio: lowest terms are Lean's Rat. -/
namespace NS

/-- the divisor that Ratio takes: the greatest common one, with the bottom's sign -/
def dv (t b : Int) : Int := if b < 0 then -(Nat.gcd t.natAbs b.natAbs : Int) else (Nat.gcd t.natAbs b.natAbs : Int)

theorem dv_ne {t b : Int} (hb : b ≠ 0) : dv t b ≠ 0 := by
  have h : 0 < Nat.gcd t.natAbs b.natAbs := Nat.gcd_pos_of_pos_right _ (by omega)
  unfold dv
  split <;> omega
theorem dv_dvd_t (t b : Int) : dv t b ∣ t := by
  have h : ((Nat.gcd t.natAbs b.natAbs : Nat) : Int) ∣ t := Int.ofNat_dvd_left.mpr (Nat.gcd_dvd_left _ _)
  unfold dv
  split
  · exact Int.neg_dvd.mpr h
  · exact h
theorem dv_dvd_b (t b : Int) : dv t b ∣ b := by
  have h : ((Nat.gcd t.natAbs b.natAbs : Nat) : Int) ∣ b := Int.ofNat_dvd_left.mpr (Nat.gcd_dvd_right _ _)
  unfold dv
  split
  · exact Int.neg_dvd.mpr h
  · exact h
theorem dv_abs (t b : Int) : (dv t b).natAbs = Nat.gcd t.natAbs b.natAbs := by
  unfold dv
  split <;> omega

theorem dv_num {t b : Int} (hb : b ≠ 0) : t.fdiv (dv t b) = (Rat.divInt t b).num := by
  rw [Rat.num_divInt]
  have hg : Int.gcd b t = Nat.gcd t.natAbs b.natAbs := by
    rw [Int.gcd_comm]
    rfl
  rw [hg]
  have hd : ((Nat.gcd t.natAbs b.natAbs : Nat) : Int) ∣ t := Int.ofNat_dvd_left.mpr (Nat.gcd_dvd_left _ _)
  have hp : 0 < Nat.gcd t.natAbs b.natAbs := Nat.gcd_pos_of_pos_right _ (by omega)
  obtain ⟨c, hc⟩ := hd
  have hz : ((Nat.gcd t.natAbs b.natAbs : Nat) : Int) ≠ 0 := by omega
  by_cases hn : b < 0
  · have e : dv t b = -((Nat.gcd t.natAbs b.natAbs : Nat) : Int) := if_pos hn
    have s : b.sign = -1 := Int.sign_eq_neg_one_of_neg hn
    rw [e, s]
    generalize hG : ((Nat.gcd t.natAbs b.natAbs : Nat) : Int) = G at *
    rw [hc]
    have q1 : G * c = -G * -c := by rw [Int.neg_mul_neg]
    rw [q1, Int.mul_fdiv_cancel_left _ (by omega : -G ≠ 0), ← q1]
    have q2 : -1 * (G * c) = G * -c := by rw [Int.neg_one_mul, Int.mul_neg]
    rw [q2, Int.mul_ediv_cancel_left _ hz]
  · have e : dv t b = ((Nat.gcd t.natAbs b.natAbs : Nat) : Int) := if_neg hn
    have s : b.sign = 1 := Int.sign_eq_one_of_pos (by omega)
    rw [e, s, Int.one_mul]
    generalize hG : ((Nat.gcd t.natAbs b.natAbs : Nat) : Int) = G at *
    rw [hc, Int.mul_fdiv_cancel_left _ hz, Int.mul_ediv_cancel_left _ hz]
theorem dv_den {t b : Int} (hb : b ≠ 0) : b.fdiv (dv t b) = ((Rat.divInt t b).den : Int) := by
  rw [Rat.den_divInt, if_neg hb]
  have hg : Int.gcd b t = Nat.gcd t.natAbs b.natAbs := by
    rw [Int.gcd_comm]
    rfl
  rw [hg]
  have hp : 0 < Nat.gcd t.natAbs b.natAbs := Nat.gcd_pos_of_pos_right _ (by omega)
  obtain ⟨c, hc⟩ := Nat.gcd_dvd_right t.natAbs b.natAbs
  generalize hG : Nat.gcd t.natAbs b.natAbs = G at *
  have e2 : b.natAbs / G = c := by rw [hc, Nat.mul_div_cancel_left _ hp]
  rw [e2]
  by_cases hn : b < 0
  · have e : dv t b = -(G : Int) := by rw [← hG]; exact if_pos hn
    have eb : b = -(G : Int) * c := by
      have : b = -((b.natAbs : Nat) : Int) := by omega
      rw [this, hc, Int.natCast_mul, Int.neg_mul]
    rw [e]
    conv => lhs; rw [eb]
    rw [Int.mul_fdiv_cancel_left _ (by omega)]
  · have e : dv t b = (G : Int) := by rw [← hG]; exact if_neg hn
    have eb : b = (G : Int) * c := by
      have : b = ((b.natAbs : Nat) : Int) := by omega
      rw [this, hc, Int.natCast_mul]
    rw [e]
    conv => lhs; rw [eb]
    rw [Int.mul_fdiv_cancel_left _ (by omega)]

/-! ### sizes -/
/-- an int of at most n bits -/
def Bt (n : Nat) (i : Int) : Prop := i.natAbs < 2 ^ n
instance (n : Nat) (i : Int) : Decidable (Bt n i) := inferInstanceAs (Decidable (i.natAbs < 2 ^ n))
theorem Bt.mono {m n : Nat} {i : Int} (h : Bt m i) (hn : m ≤ n) : Bt n i := Nat.lt_of_lt_of_le h (Nat.pow_le_pow_right (by decide) hn)
theorem Bt.neg {n : Nat} {i : Int} (h : Bt n i) : Bt n (-i) := by
  unfold Bt at *
  omega
theorem Bt.mul {m n : Nat} {i j : Int} (h : Bt m i) (k : Bt n j) : Bt (m + n) (i * j) := by
  unfold Bt at *
  rw [Int.natAbs_mul, Nat.pow_add]
  exact Nat.mul_lt_mul'' h k
theorem Bt.add {n : Nat} {i j : Int} (h : Bt n i) (k : Bt n j) : Bt (n + 1) (i + j) := by
  unfold Bt at *
  rw [Nat.pow_succ]
  omega
theorem Bt.sub {n : Nat} {i j : Int} (h : Bt n i) (k : Bt n j) : Bt (n + 1) (i - j) := by
  unfold Bt at *
  rw [Nat.pow_succ]
  omega
theorem Bt.log {n : Nat} {i : Int} (h : Bt n i) (h0 : 0 < n) : i.natAbs.log2 < n := by
  by_cases hz : i.natAbs = 0
  · rw [hz]
    exact h0
  · exact (Nat.log2_lt hz).mpr h
/-- top and bottom of at most n bits -/
structure Sz (n : Nat) (q : Rat) : Prop where
  top : Bt n q.num
  bot : Bt n (q.den : Int)
theorem Sz.mono {m n : Nat} {q : Rat} (h : Sz m q) (hn : m ≤ n) : Sz n q := ⟨h.top.mono hn, h.bot.mono hn⟩
theorem fdiv_abs {t d : Int} (hd : d ∣ t) (h0 : d ≠ 0) : (t.fdiv d).natAbs ≤ t.natAbs := by
  obtain ⟨c, rfl⟩ := hd
  rw [Int.mul_fdiv_cancel_left _ h0, Int.natAbs_mul]
  exact Nat.le_mul_of_pos_left _ (by omega)
theorem sz_divInt {n : Nat} {t b : Int} (hb : b ≠ 0) (h1 : Bt n t) (h2 : Bt n b) : Sz n (Rat.divInt t b) := by
  refine ⟨?_, ?_⟩
  · rw [← dv_num hb]
    exact Nat.lt_of_le_of_lt (fdiv_abs (dv_dvd_t t b) (dv_ne hb)) h1
  · rw [← dv_den hb]
    exact Nat.lt_of_le_of_lt (fdiv_abs (dv_dvd_b t b) (dv_ne hb)) h2
theorem sz_int {n : Nat} {i : Int} (h : Bt n i) (h0 : 0 < n) : Sz n (i : Rat) := ⟨h, by show Bt n 1; exact Nat.one_lt_two_pow (by omega)⟩
theorem sz_neg {n : Nat} {q : Rat} (h : Sz n q) : Sz n (-q) := ⟨by rw [Rat.neg_num]; exact h.top.neg, by rw [Rat.neg_den]; exact h.bot⟩

theorem den_ne (q : Rat) : ((q.den : Nat) : Int) ≠ 0 := by
  have := q.den_nz
  omega
theorem den_pos (q : Rat) : (0 : Int) < (q.den : Int) := by
  have := q.den_nz
  omega
theorem divInt_self_eq (q : Rat) : Rat.divInt q.num (q.den : Int) = q := Rat.num_divInt_den q
theorem add_eq (a b : Rat) : Rat.divInt (a.num * b.den + b.num * a.den) ((a.den : Int) * (b.den : Int)) = a + b := by
  rw [Rat.add_def', ← Int.natCast_mul, Rat.divInt_ofNat]
theorem mul_eq (a b : Rat) : Rat.divInt (a.num * b.num) ((a.den : Int) * (b.den : Int)) = a * b := by
  rw [Rat.mul_def', ← Int.natCast_mul, Rat.divInt_ofNat]
theorem neg_eq (a : Rat) : Rat.divInt (-a.num) (a.den : Int) = -a := by
  rw [← Rat.neg_divInt, Rat.num_divInt_den]
theorem div_eq (a b : Rat) : Rat.divInt (a.num * b.den) ((a.den : Int) * b.num) = a / b := by
  rw [Rat.div_def, Rat.inv_def]
  conv => rhs; rw [← Rat.num_divInt_den a]
  rw [Rat.divInt_mul_divInt]
theorem sub_eq (a b : Rat) : a + -b = a - b := (Rat.sub_eq_add_neg a b).symm
theorem dif_eq (a b : Rat) : Rat.divInt (a.num * b.den - b.num * a.den) ((a.den : Int) * (b.den : Int)) = a - b := by
  rw [Rat.sub_def', ← Int.natCast_mul, Rat.divInt_ofNat]
theorem sz_add {m n : Nat} {a b : Rat} (h : Sz m a) (k : Sz n b) : Sz (m + n + 1) (a + b) := by
  rw [← add_eq]
  refine sz_divInt (by have := den_ne a; have := den_ne b; exact Int.mul_ne_zero (den_ne a) (den_ne b)) ?_ ((h.bot.mul k.bot).mono (by omega))
  exact (h.top.mul k.bot).add ((k.top.mul h.bot).mono (by omega))
theorem sz_sub {m n : Nat} {a b : Rat} (h : Sz m a) (k : Sz n b) : Sz (m + n + 1) (a - b) := by
  rw [← sub_eq]
  exact sz_add h (sz_neg k)
theorem sz_mul {m n : Nat} {a b : Rat} (h : Sz m a) (k : Sz n b) : Sz (m + n) (a * b) := by
  rw [← mul_eq]
  exact sz_divInt (Int.mul_ne_zero (den_ne a) (den_ne b)) (h.top.mul k.top) (h.bot.mul k.bot)
theorem sz_div {m n : Nat} {a b : Rat} (hb : b ≠ 0) (h : Sz m a) (k : Sz n b) : Sz (m + n) (a / b) := by
  rw [← div_eq]
  have hz : b.num ≠ 0 := fun z => hb (Rat.num_eq_zero.mp z)
  exact sz_divInt (Int.mul_ne_zero (den_ne a) hz) (h.top.mul k.bot) (h.bot.mul k.top)
theorem rat_ext_iff {a b : Rat} : a = b ↔ a.num = b.num ∧ (a.den : Int) = b.den := by
  constructor
  · rintro rfl
    exact ⟨rfl, rfl⟩
  · rintro ⟨h1, h2⟩
    exact Rat.ext h1 (by omega)
end NS

/-! What the top has written of a def, a method, a class; small rules. -/
namespace NS
open PySem L2

structure Dfn (K : PySem.W.Frag) (mg : Str → Option Value) (x : Str) (st : Stmt) (f : Addr) (fd : FuncData) : Prop where
  F : Fun K x x st f fd
  g : mg x = some (.ref f)
structure Mth (K : PySem.W.Frag) (C : Addr) (m qual : Str) (st : Stmt) (f : Addr) (fd : FuncData) : Prop where
  F : Fun K m qual st f fd
  at_ : PySem.W.findIn K (.ref C) m = some (some (.ref f))
  fn : PySem.W.isFn K (.ref f) = true
theorem Mth.meth {K : PySem.W.Frag} {C f : Addr} {m qual : Str} {st : Stmt} {fd : FuncData} (M : Mth K C m qual st f fd) : Meth K C m f := ⟨M.at_, M.fn, M.F.kp⟩
/-- a method with defaults dvs -/
structure MthD (K : PySem.W.Frag) (C : Addr) (m qual : Str) (st : Stmt) (dvs : List V) (f : Addr) (fd : FuncData) : Prop where
  F : FunD K m qual (defArgs st) (defBody st) (defScope st) dvs [] f fd
  at_ : PySem.W.findIn K (.ref C) m = some (some (.ref f))
  fn : PySem.W.isFn K (.ref f) = true
/-- a property -/
structure Prp (K : PySem.W.Frag) (C : Addr) (m qual : Str) (st : Stmt) (p f : Addr) (fd : FuncData) : Prop where
  F : Fun K m qual st f fd
  pr : PropOf K C m p f
/-- a class of the text -/
structure Cl (K : PySem.W.Frag) (mg : Str → Option Value) (x : Str) (C : Addr) : Prop where
  cls : Cls K C
  g : mg x = some (.ref C)
  kp : PySem.W.keepIn K (.ref C) = true
  mks : PySem.W.makesIn K C = true
  ca : PySem.W.findIn K (.ref C) "__class__" = some (some (.builtin "object.__class__"))
  cg : PySem.W.specialIn K (.builtin "object.__class__") "__get__" = some (some (.builtin "getset_descriptor.__get__"))
  ct : PySem.W.takesIn K (.builtin "object.__class__") = some true
  ob : PySem.W.mroIn K C (.type "object") = some true
  k_int : PySem.W.kitOne K (.type "int") (.ref C) = some false
  k_str : PySem.W.kitOne K (.type "str") (.ref C) = some false
  k_tup : PySem.W.kitOne K (.type "tuple") (.ref C) = some false
  k_own : PySem.W.kitOne K (.ref C) (.ref C) = some true
  o_int : PySem.W.kitOne K (.ref C) (.type "int") = some false
  o_bool : PySem.W.kitOne K (.ref C) (.type "bool") = some false
theorem Cl.ty {K : PySem.W.Frag} {mg : Str → Option Value} {x : Str} {C a dx : Addr} {fs : List (Str × V)} {H : Hp} (c : Cl K mg x C) (h : H a = some (.ins C dx fs)) : TyX K H (.ref a) (.ref C) :=
  .base (.ins h c.cls c.ca c.cg c.ct c.ob)

section
variable {X : Cx}
/-- isinstance(x, T), T a built-in class: the answer is b -/
theorem isi_B {K : PySem.W.Frag} {T : String} {x : V} {t : Value} {b : Bool} {H : Hp} {Q : VK} (ty : TyX K H x t) (k : PySem.W.kitOne K t (.type T) = some b) (q : Q (.bl b) H) : rIsi K [x, .ty T] H Q :=
  ⟨x, .ty T, t, .type T, b, rfl, .ty T, ty, k, q⟩
theorem isi_C {K : PySem.W.Frag} {C : Addr} {x : V} {t : Value} {b : Bool} {H : Hp} {Q : VK} (ty : TyX K H x t) (k : PySem.W.kitOne K t (.ref C) = some b) (q : Q (.bl b) H) : rIsi K [x, .ref C] H Q :=
  ⟨x, .ref C, t, .ref C, b, rfl, .own C, ty, k, q⟩
theorem kit_int_int {K : PySem.W.Frag} : PySem.W.kitOne K (.type "int") (.type "int") = some true := kit_ty (by decide +kernel)
theorem kit_int_bool {K : PySem.W.Frag} : PySem.W.kitOne K (.type "int") (.type "bool") = some false := kit_ty (by decide +kernel)
theorem ty_int {K : PySem.W.Frag} {H : Hp} (i : Int) : TyX K H (.int i) (.type "int") := .base (.int i)
theorem ty_str {K : PySem.W.Frag} {H : Hp} (x : Str) : TyX K H (.str x) (.type "str") := .base (.str x)
theorem ty_tup {K : PySem.W.Frag} {H : Hp} {a : Addr} {xs : List V} (h : H a = some (.tup xs)) : TyX K H (.ref a) (.type "tuple") := .base (.tup h)

theorem to_heap {R : Hp → Prop} {H1 H2 : Hp} (e : H1 = H2) (h : R H2) : R H1 := by
  subst e
  exact h
theorem iteY {b : Bool} {A B : Prop} (h : b = true) (x : A) : if b = true then A else B := by
  subst h
  exact iteT x
theorem iteN {b : Bool} {A B : Prop} (h : b = false) (x : B) : if b = true then A else B := by
  subst h
  exact iteF x
theorem call_repr_bl : CallR X (.builtin "repr") (fun vs H Q => ∃ b, vs = [.bl b] ∧ Q (.str (if b then "True" else "False")) H) := by
  intro pins s σ H vs us Q I r h
  obtain ⟨b, rfl, q⟩ := h
  obtain ⟨u, rfl, ru⟩ := vals1 r
  cases ru
  exact PySem.P.repr_of_bool ⟨.str _, H, I.tok _, ⟨_, rfl⟩, q⟩
/-- a statement with a word behind it: what follows is shown once -/
def tMid (t u : TS) : TS := fun D σ H => ∃ M : L2.St → Hp → Prop, t { D with nx := M } σ H ∧ ∀ σ' H', M σ' H' → u D σ' H'
theorem pss_mid {st : Stmt} {rest : List Stmt} {t u : TS} (h1 : PS X st t) (h2 : PSs X rest u) : PSs X (st :: rest) (tMid t u) :=
  ⟨fun pins s σ H D I ⟨M, hm, hu⟩ => wpAny_execs_cons (thn (h1.run pins s σ H { D with nx := M } I hm) fun f s1 q => by
    cases f with
    | next =>
      obtain ⟨σ', H', I', q⟩ := q
      exact h2.run pins s1 σ' H' D I' (hu σ' H' q)
    | ret v => exact q
    | brk => exact q
    | cont => exact q)⟩
/-- // by a divisor of either sign, below 2 ^ 9000 -/
def CDivX (_ j : Int) : Prop := j ≠ 0 ∧ j.natAbs.log2 < 9000
theorem op_fdivX : OpR X (binaryOp .FloorDiv) (rI CDivX fun i j => .int (i.fdiv j)) := opI fun i j _ _ _ _ _ hc q =>
  PyProof.Rows.floordiv_int hc.1 q (.inl (PyProof.noPylong_of_log2 hc.2))
theorem cdivX {i j : Int} {n : Nat} (h0 : j ≠ 0) (h : Bt n j) (hn : n ≤ 9000) (hp : 0 < n) : CDivX i j := ⟨h0, Nat.lt_of_lt_of_le (h.log hp) hn⟩
theorem cmulX {i j : Int} {m n : Nat} (h : Bt m i) (k : Bt n j) (hn : m + n ≤ 134217728) : CMulX i j := mulx_ok h k hn
end
end NS

/-! Own exception classes over a built-in base whose __init__ calls that of an own class above it. -/
namespace NS
open PySem L2

/-- refs, then the base's own line -/
def refsTo (bmB : List Value) : List Value → Bool
  | .ref _ :: r => refsTo bmB r
  | l => l == bmB
theorem refsTo_has {bmB : List Value} (Y : String) : ∀ l : List Value, refsTo bmB l = true → l.contains (.type Y) = bmB.contains (.type Y)
  | [], h => by rw [← eq_of_beq (show ([] == bmB) = true from h)]
  | .ref c :: r, h => by
    rw [List.contains_cons, refsTo_has Y r h]
    rfl
  | .none :: r, h => by rw [← eq_of_beq (show (Value.none :: r == bmB) = true from h)]
  | .ellipsis :: r, h => by rw [← eq_of_beq (show (Value.ellipsis :: r == bmB) = true from h)]
  | .notImplemented :: r, h => by rw [← eq_of_beq (show (Value.notImplemented :: r == bmB) = true from h)]
  | .bool b :: r, h => by rw [← eq_of_beq (show (Value.bool b :: r == bmB) = true from h)]
  | .int i t :: r, h => by rw [← eq_of_beq (show (Value.int i t :: r == bmB) = true from h)]
  | .float x t :: r, h => by rw [← eq_of_beq (show (Value.float x t :: r == bmB) = true from h)]
  | .str x t :: r, h => by rw [← eq_of_beq (show (Value.str x t :: r == bmB) = true from h)]
  | .bytes x t :: r, h => by rw [← eq_of_beq (show (Value.bytes x t :: r == bmB) = true from h)]
  | .type n :: r, h => by rw [← eq_of_beq (show (Value.type n :: r == bmB) = true from h)]
  | .builtin n :: r, h => by rw [← eq_of_beq (show (Value.builtin n :: r == bmB) = true from h)]

/-- what the written part says of an own exception class at D over the base B -/
structure ExK (K : PySem.W.Frag) (B newId initId : String) (bmB : List Value) (D : Addr) : Prop where
  F : ExcBaseFacts B newId initId bmB
  cls : ∃ nm q N bs bm sn sub ab col dd k0 k1 k2 k3 k5, K.lookup D = some (excClassObj nm q D N bs bm true sn sub ab col dd k0 k1 k2 k3 k5 newId) ∧ refsTo bmB bm = true
  exC : PySem.W.subIn K (.ref D) (.type "BaseException") = some true
  tyC : PySem.W.typeIn K (.ref D) = some (.type "type")
  kC : PySem.W.keepIn K (.ref D) = true
/-- an own class S whose __init__ is the base's -/
structure ExS (K : PySem.W.Frag) (mg : Str → Option Value) (x : Str) (S : Addr) (initId : String) : Prop where
  g : mg x = some (.ref S)
  rd : PySem.W.readsIn K S (.type "type") = true
  ga : PySem.W.specialIn K (.ref S) "__getattribute__" = some (some (.builtin "type.__getattribute__"))
  at_ : PySem.W.findCls K (.ref S) (.type "type") "__init__" = some (.val (.builtin initId))
  hh : PySem.W.handedIn (.builtin initId) = true

section
variable {X : Cx} {B newId initId : String} {bmB : List Value} {e o : Expr} {es : List Expr} {ta : TA} {p1 p2 pos apos : Pos} {x m : Str} {S D f C : Addr}
/-- S.__init__(self, ..), self an exception that is being made -/
def tBinit (K : PySem.W.Frag) (B newId initId : String) (bmB : List Value) (ta : TA) : TE := fun σ H Q => ta σ H fun vs H1 => ∃ (a D : Addr) (ws : List V), vs = .ref a :: ws ∧ ws.length ≤ 1000 ∧ ExK K B newId initId bmB D ∧ H1 a = some (exo a D none) ∧ Q .non H1
theorem pe_binit {pl : Sem Bool} (T : ExS X.K X.mg x S initId) (ha : PA X (e :: es) ta) (hg : Gl X x)
    (hc : eval (.Call (.Attribute (.Name x p1) "__init__" p2) (e :: es) [] pos) X.env = (do
      let ov ← eval (.Name x p1) X.env
      standAt p2.atName
      let (f, first) ← holding [ov] (getMethod ov "__init__" pl)
      callWith pos f first (backTo pos (starEach (e :: es) X.env)) (backToKw pos (keywordEach [] X.env))) := by rfl)
    (hd : (x == ("__debug__" : Str)) = false := by decide) (he : starEach (e :: es) X.env = (false, eval e X.env) :: starEach es X.env := by rfl) (hpl : (backTo pos (starEach es X.env)).any (·.1) = false := by rfl) :
    PE X (.Call (.Attribute (.Name x p1) "__init__" p2) (e :: es) [] pos) (tBinit X.K B newId initId bmB ta) := by
  refine ⟨fun pins s σ H Q I h => PySem.W.methodCall_KW (ld_glob I hg T.g ?_ hd) hc⟩
  refine PySem.W.method_cls I.kIn T.ga (PySem.W.cls_value I.kIn T.rd T.at_ T.hh ?_)
  show wpAny _ _ (callWith pos (Value.builtin initId) [] (backTo pos (starEach (e :: es) X.env)) []) _ _ _
  refine PyProof.Rows.callWith_method1 (thn (ha.run pos pins _ σ H _ (I.tok _) h) fun us s1 z => ?_) he hpl
  obtain ⟨vs, H1, I1, r1, a, D, ws, rfl, hl, Z, ea, q⟩ := z
  cases r1 with
  | cons ra rw' =>
    cases ra
    rename_i ur
    have hlen : ur.length ≤ sizeLine := by
      rw [← Paired.length rw', sizeLine_eq]
      omega
    obtain ⟨nm, qq, N, bs, bm, sn, sub, ab, col, dd, k0, k1, k2, k3, k5, hC, hbm⟩ := Z.cls
    obtain ⟨t1, ho⟩ := exo_at I1.hok ea
    obtain ⟨hp, g, dr, t, os⟩ := s1
    refine wpAny_call (PySem.HandSPX.init_base Z.F (fun Y => refsTo_has Y bm hbm) (I1.kIn _ _ hC) ho hlen fun h' t2 k hx => ?_)
    have J := I1.write (t' := t) (x := a) (e := a) (o := exo a D none) (by rw [ea]; exact True.intro) (.inl rfl) k ⟨_, hx⟩ (exo_ok hx)
    have eu : upd H1 a (exo a D none) = H1 := by
      funext b
      by_cases hb : b = a
      · rw [hb, upd_same, ea]
      · rw [upd_ne hb]
    rw [eu] at J
    exact ⟨.non, H1, J, rfl, q⟩

/-- D(): an exception without attributes; its __init__ at fI keeps sp -/
def tMk0 (D : Addr) (sp : Sp) : L2.St → Hp → XK → Prop := fun _ H Q => ∀ a, H a = none → sp [.ref a] (upd H a (exo a D none)) (fun v H2 => v = .non ∧ H2 = upd H a (exo a D none) ∧ Q (.ref D) none H) E0
theorem pmk_exc0 {k : Nat} {fI : Addr} {fd : FuncData} {ps : List Str} {sp : Sp} (T : ExK X.K B newId initId bmB D) (iC : PySem.W.findIn X.K (.ref D) "__init__" = some (some (.ref fI))) (tI : PySem.W.typeIn X.K (.ref fI) = some (.type "function"))
    (F1 : FnOk X.prog X.w X.K X.mg X.base CX0 k fI fd ps sp) (hr : Room (k + 1) X.A) (hb : Binds X.K fd ps []) (hg : Gl X x) (hm : X.mg x = some (.ref D)) (hdb : (x == ("__debug__" : Str)) = false := by decide) :
    PMk X (.Call (.Name x p1) [] [] pos) (tMk0 D sp) := by
  intro pins s σ H Q I h
  obtain ⟨nm, qq, N, bs, bm, sn, sub, ab, col, dd, k0, k1, k2, k3, k5, hC, hbm⟩ := T.cls
  refine wpAny_Call_Name_kw (ld_glob I hg hm ?_ hdb)
  refine PySem.W.callWith_K0 I.kIn T.kC ?_
  show wpAny _ _ (call (.ref D) []) _ _ _
  obtain ⟨hp, g, dr, tk, os⟩ := s
  have hsz : hp.objs.size ≤ hp.objs.size + 1 := Nat.le_succ _
  have hn : H (hp.objs.size + 1) = none := I.hok.fresh hsz
  have hq := h (hp.objs.size + 1) hn
  have kk : ∀ b o, hp.get? b = some o → ((hp.push (PySem.W.kdv_tup [])).push (PySem.HandSPX.excO D hp.objs.size)).get? b = some o := fun b o e => Heap.get?_push_of_some _ (Heap.get?_push_of_some _ e)
  have hget : ((hp.push (PySem.W.kdv_tup [])).push (PySem.HandSPX.excO D hp.objs.size)).get? (hp.objs.size + 1) = some (PySem.HandSPX.excO D hp.objs.size) := by heap_get
  have I2 : Inv X pins σ (upd H (hp.objs.size + 1) (exo (hp.objs.size + 1) D none)) ⟨(hp.push (PySem.W.kdv_tup [])).push (PySem.HandSPX.excO D hp.objs.size), g, dr, tk, os⟩ :=
    I.laid (t' := tk) kk hsz (exo_ok hget)
  have hl : ([Value.ref (hp.objs.size + 1)] ++ ([] : List Value)).length = ps.length := by
    rw [← F1.len _ _ _ _ hq]
    rfl
  have hbb := hb _ [Value.ref (hp.objs.size + 1)] I2.kIn hl
  refine wpAny_call (PySem.HandSPX.call_own T.F (fun Y => refsTo_has Y bm hbm) (I.kIn _ _ hC) (PySem.W.looks_findIn I.kIn iC) (fun self => PySem.W.bind_fn I.kIn self tI) (Nat.zero_le _)
    (codeAny_mono (F1.run _ X.stack _ _ ⟨[Value.ref (hp.objs.size + 1)], []⟩ [Value.ref (hp.objs.size + 1)] [V.ref (hp.objs.size + 1)] _ E0 (hr.make D [] []) (I2.env0.make D [] []) hbb (.cons rfl .nil) hq) fun r s' z => ?_))
  match r, z with
  | .ok (.ret u), z =>
    obtain ⟨v, H2, os2, bare2, un2, hok2, rv, rfl, rfl, q2⟩ := z
    cases rv
    obtain ⟨h2, g2, d2, t2, os'⟩ := s'
    obtain ⟨t0, hoe⟩ := exo_at hok2 (upd_same (H := H) (a := hp.objs.size + 1) (o := exo (hp.objs.size + 1) D none))
    refine ⟨rfl, ?_⟩
    obtain ⟨G, g1', g2'⟩ := restrict h2 fun b => decide (b ≠ hp.objs.size + 1)
    have gk : ∀ b, b ≠ hp.objs.size + 1 → G.get? b = h2.get? b := fun b hb => g1' b (decide_eq_true hb)
    have ge : G.get? (hp.objs.size + 1) = none := g2' _ (by simp)
    have nha : ∀ {b : Addr} {o : Obj}, hp.get? b = some o → b ≠ hp.objs.size + 1 := fun {b o} z => Nat.ne_of_lt (Nat.lt_of_lt_of_le (Heap.lt_size z) hsz)
    have U : Un (frs X.stack) [] H H hp G := {
      keep := fun b o z n hf hx => by
        rw [gk b (nha z)]
        exact un2.keep b o (kk b o z) (by rw [upd_ne (nha z)]; exact n) hf hx
      slot := fun b o z n hf hx => by
        rw [gk b (nha z)]
        exact un2.slot b o (kk b o z) (by rw [upd_ne (nha z)]; exact n) hf hx
      free := fun b o z n hx => n
      there := fun b o z hx => by
        rw [gk b (nha z)]
        exact un2.there b o (kk b o z) hx
      tups := fun b xs z => z
      frzs := fun b o v z => z
      tbls := fun b ps z => ⟨#[], by rw [z]; simp⟩ }
    have hok3 : HOk X.prog X.w H G := fun b o z => by
      have hba : b ≠ hp.objs.size + 1 := ne_of_none z hn
      have z2 : upd H (hp.objs.size + 1) (exo (hp.objs.size + 1) D none) b = some o := by
        rw [upd_ne hba]
        exact z
      refine (hok2 b o z2).stay (fun c v hc y => ?_) (fun c hc => ?_) (fun c xs hc => ?_)
      · have hca : c ≠ hp.objs.size + 1 := by
          rcases hc with hc | hc
          · rw [hc]
            exact hba
          · exact at_ne (upd_same (H := H) (a := hp.objs.size + 1) (o := exo (hp.objs.size + 1) D none)) hc exo_own
        rw [gk c hca]
        exact y
      · rw [upd_ne (at_ne (upd_same (H := H) (a := hp.objs.size + 1) (o := exo (hp.objs.size + 1) D none)) hc exo_own)] at hc
        exact hc
      · rw [upd_ne (at_ne (upd_same (H := H) (a := hp.objs.size + 1) (o := exo (hp.objs.size + 1) D none)) hc exo_tup)] at hc
        exact hc
    have J : Inv X pins σ H ⟨G, g2, d2, t2, os'⟩ := I.call' (ch := []) os2 U hok3 bare2 (fun b z => absurd z (by simp))
    refine ⟨hp.objs.size + 1, _, _, ⟨G, g2, d2, t2, os'⟩, H, .ref D, none, rfl, J, fun b o z => ?_, ge, hoe, ⟨rfl, rfl⟩, rfl, rfl, hn, rfl, bare2, raises_own T.exC T.tyC, q2⟩
    by_cases hba : b = hp.objs.size + 1
    · have z' : G.get? b = some o := z
      rw [hba, ge] at z'
      cases z'
    · exact (gk b hba).symm.trans z

/-- isinstance(e, c) in an except suite, e what it holds -/
theorem pe_isE {a : Addr} {oe : Obj} {cls : Value} {d : Option Addr} {pn : List (Addr × Obj)} (Z : ExcC X.K D) (hz : Zc cls d oe) (hf : ∃ vs, oe.data = .fields vs) (hm : X.mg "isinstance" = none) (hv : bootBuiltins "isinstance" = some (.builtin "isinstance"))
    (ha : PA (X.suite a ((a, oe) :: pn)) (e :: es) ta) (hg : Gl (X.suite a ((a, oe) :: pn)) "isinstance" := by rfl)
    (he : starEach (e :: es) X.env = (false, eval e X.env) :: starEach es X.env := by rfl) (hpl : (backTo pos (starEach es X.env)).any (·.1) = false := by rfl) :
    PE (X.suite a ((a, oe) :: pn)) (.Call (.Name "isinstance" p1) (e :: es) [] pos) (fun σ H Q => cls = .ref D ∧ d = none ∧ tCB (rIsE X.K D a) ta σ H Q) :=
  ⟨fun pins s σ H Q I ⟨h1, h2, h⟩ => by
    subst h1 h2
    exact (pe_callB (call_isE Z hz hf) hg hm hv ha (by decide) (by decide) he hpl).run pins s σ H Q I h⟩
/-- o.m(e, ..) where what is raised is wished for at the caller's slots (a try's body) -/
def tMethT (C : Addr) (m : Str) (sp : Sp) (E : L2.St → XK) (to : TE) (t : TA) : TE := fun σ H Q => to σ H fun x H1 => ∃ a dx fs, x = .ref a ∧ H1 a = some (.ins C dx fs) ∧ fs.lookup m = none ∧ t σ H1 fun vs H2 => sp (x :: vs) H2 Q (E σ)
theorem pe_methT {pl : Sem Bool} {CX : CXT} {k : Nat} {fd : FuncData} {ps : List Str} {sp : Sp} {E : L2.St → XK} {to : TE} (he : PE X o to) (c : Cls X.K C) (hm : Meth X.K C m f) (F : FnOk X.prog X.w X.K X.mg X.base CX k f fd ps sp) (hr : Room k X.A) (hb : Binds X.K fd ps [])
    (hx : ∀ σ, PassesAt CX X σ (E σ)) (ha : PA X (e :: es) ta)
    (hst : starEach (e :: es) X.env = (false, eval e X.env) :: starEach es X.env := by rfl) (hpl : (backTo pos (starEach es X.env)).any (·.1) = false := by rfl)
    (ht : eval (.Call (.Attribute o m apos) (e :: es) [] pos) X.env = (do
      let ov ← eval o X.env
      standAt apos.atName
      let (f, first) ← holding [ov] (getMethod ov m pl)
      callWith pos f first (backTo pos (starEach (e :: es) X.env)) (backToKw pos (keywordEach [] X.env))) := by rfl) :
    PE X (.Call (.Attribute o m apos) (e :: es) [] pos) (tMethT C m sp E to ta) := by
  refine ⟨fun pins s σ H Q I h => PySem.W.methodCall_KW (pl := pl) (thn (he.run pins s σ H _ I h) fun u s1 z => ?_) ht⟩
  obtain ⟨x, H1, I1, rx, a, dx, fs, rfl, ea, l, q⟩ := z
  cases rx
  refine getmeth_ok I1 ea c hm l (PySem.W.callWith_K (first := [.ref a]) (h₀ := X.base) I.ok.mod.kin hm.kp (thn (ha.run pos pins s1 σ H1 _ I1 q) fun us s2 z => ?_) hst hpl)
  obtain ⟨vs, H2, I2, rv, q2⟩ := z
  exact ⟨I2.kIn, run_fnS (us := .ref a :: us) (vs := .ref a :: vs) F hr hb (hx σ) I2 (.cons rfl rv) q2⟩
end
end NS

/-! list != list where the items are equal by their own __eq__ -/
namespace NS
open PySem PySem.SeqAt L2
open AutoSeq1 (wpAny_loadPart')
open MeetsSeq MeetsSeq2 MeetsSeq3 SeqRoads2
section
variable {prog : Program} {w : World} {A : Around} {R : Result → Shared → Prop}
theorem neLoop (l b : Addr) (N : Nat) (J : Nat → Shared → Prop) (hJ : GQ.ListI prog w A (fun e t => R (.error e) t) l b N J)
    (done : ∀ t, J N t → R (.ok (.ret (.bool false))) t) : ∀ (k i : Nat), N = i + k → ∀ s, J i s →
      wpAny (model prog w) A.in1 (Builtin.«list.__eq__.loop» ⟨[.ref l, .ref b, rawInt i, rawInt 3], []⟩) (GQ.FinOf prog w A R) (fun e t => R (.error e) t) s
  | 0, i, hk, s, h => by
    obtain ⟨us, vs, n, n2, hu, hv, su, sv, _⟩ := hJ _ _ h
    obtain rfl : i = N := hk.symm
    have hR := done s h
    obtain ⟨hp, g, d, tk, os⟩ := s
    wp_walk using wpAny_loadPart' hu, wpAny_loadPart' hv
    have eu : us[((i : Nat) : Int).toNat]? = none := by simp; omega
    have ev : vs[((i : Nat) : Int).toNat]? = none := by simp; omega
    rw [eu, ev]
    wp_walk using wpAny_loadPart' hu, wpAny_loadPart' hv
    show R (.ok (.ret (.bool (us.size != vs.size)))) _
    rw [su, sv]
    simpa using hR
  | k + 1, i, hk, s, h => by
    obtain ⟨us, vs, n, n2, hu, hv, su, sv, step⟩ := hJ _ _ h
    have lu : i < us.size := by omega
    have lv : i < vs.size := by omega
    have here := step lu lv
    obtain ⟨hp, g, d, tk, os⟩ := s
    wp_walk using wpAny_loadPart' hu, wpAny_loadPart' hv
    have eu : us[((i : Nat) : Int).toNat]? = some us[i] := by simp [lu]
    have ev : vs[((i : Nat) : Int).toNat]? = some vs[i] := by simp [lv]
    have en : ((i : Int) + 1) = ((i + 1 : Nat) : Int) := by omega
    rw [eu, ev]
    refine wpAny_bind (wpAny_mono here (fun r t z => ?_) fun _ _ z => z)
    obtain ⟨rfl, z⟩ := z
    have more := neLoop l b N J hJ done k (i + 1) (by omega) t z
    obtain ⟨hp2, g2, d2, tk2, os2⟩ := t
    wp_walk
    rw [en]
    exact ⟨plainId_quiet plain_eq_loop _, codeAny_builtin entry_eq_loop (by rw [Around.under_plainId plain_eq_loop _]; exact more)⟩
theorem neList (l b : Addr) (N : Nat) (J : Nat → Shared → Prop) (hJ : GQ.ListI prog w A (fun e t => R (.error e) t) l b N J)
    (done : ∀ t, J N t → R (.ok (.ret (.bool false))) t) {s : Shared} (h : J 0 s) :
    wpAny (model prog w) A.in1 (Builtin.«list.__ne__» ⟨[.ref l, .ref b], []⟩) (GQ.FinOf prog w A R) (fun e t => R (.error e) t) s := by
  obtain ⟨us, vs, n, n2, hu, hv, su, sv, _⟩ := hJ _ _ h
  have more := neLoop (A := A) (R := R) l b N J hJ done N 0 (by omega) s h
  obtain ⟨hp, g, d, tk, os⟩ := s
  have isl := AutoSeq1.sub_list_list
  have same : ¬ (us.size != vs.size) = true := by simp [su, sv]
  wp_walk using wpAny_loadPart' hu, wpAny_loadPart' hv
  exact ⟨plainId_quiet plain_eq_loop _, codeAny_builtin entry_eq_loop (by rw [Around.under_plainId plain_eq_loop _]; exact more)⟩
theorem rcNeList {E : Value → Shared → Prop} {s : Shared} {l b : Addr} {N : Nat} {Q : Value → Shared → Prop} (hu : A.units < cLine) (J : Nat → Shared → Prop) (hJ : GQ.ListI prog w A E l b N J)
    (done : ∀ t, J N t → Q (.bool false) t) (h : J 0 s) : wpAny (model prog w) A (richCompare .NotEq (.ref l) (.ref b)) Q E s := by
  obtain ⟨us, vs, n, n2, h1, h2, _⟩ := hJ _ _ h
  refine wpAny_richCompare_same_room (op := .NotEq) ⟨_, h1, rfl⟩ ⟨_, h2, rfl⟩ F.slot_list_ne (GQ.call_here F.slot_list_ne ⟨_, h1, rfl⟩ F.entry_list_ne (F.args_list_ne_2 _ _) ?_) hu
  exact neList (R := wants (fun v t => v ≠ .notImplemented ∧ Q v t) E) l b N J hJ (fun t q => ⟨(fun z => nomatch z), done t q⟩) h
end
section
variable {X : Cx} {n : Nat} {D : Eqv}
/-- a call by Runs, under a name -/
def tCallR (sp : Sp) (t : TA) : TE := fun σ H Q => t σ H fun vs H1 => sp vs H1 Q E0
theorem pe_callD {f : Addr} {sp : Sp} {x : Str} {e : Expr} {es : List Expr} {t : TA} {p pos : Pos} (R : Runs X X.A f sp) (hg : Gl X x) (hm : X.mg x = some (.ref f)) (hk : PySem.W.keepIn X.K (.ref f) = true) (ha : PA X (e :: es) t)
    (hdb : (x == ("__debug__" : Str)) = false := by decide) (he : starEach (e :: es) X.env = (false, eval e X.env) :: starEach es X.env := by rfl) (hpl : (backTo pos (starEach es X.env)).any (·.1) = false := by rfl) :
    PE X (.Call (.Name x p) (e :: es) [] pos) (tCallR sp t) := pe_callR R hg hm hk ha hdb he hpl
/-- x != y, lists whose items are equal by D -/
def rNeL (D : Eqv) : R2 := fun x y H Q => DList D x y H ∧ ∀ H', Ext H H' → Q (.bl false) H'
theorem op_neL (hD : Mon D) (h : EqG X n D) (hr : Room (n + 1) X.A) : OpR X (compareOp .NotEq) (rNeL D) := by
  intro pins s σ H x y v u Q I rx ry hq
  obtain ⟨⟨a, b, xs, ys, rfl, rfl, ha, hb, p⟩, q⟩ := hq
  cases rx
  cases ry
  show wpAny (model X.prog X.w) X.A (richCompare .NotEq (.ref a) (.ref b)) (EP X pins σ Q) X.xe s
  refine rcNeList (N := xs.length) hr.units0 (fun _ t => LoopI X pins σ H t) (fun i t z => ?_) (fun t z => ?_) ⟨H, I, Ext.rfl'⟩
  · obtain ⟨H1, I1, e1⟩ := id z
    obtain ⟨_, us, k1, r1, g1⟩ := I1.hok a _ (e1 _ _ ha)
    obtain ⟨_, vs, k2, r2, g2⟩ := I1.hok b _ (e1 _ _ hb)
    refine ⟨us.toArray, vs.toArray, k1, k2, g1, g2, by rw [List.size_toArray, ← r1.length], by rw [List.size_toArray, ← r2.length, ← p.1], fun l1 l2 => ?_⟩
    exact turnG hD h ⟨hr, rfl⟩ p r1 r2 i l1 l2 t z
  · obtain ⟨H1, I1, e1⟩ := z
    exact ⟨.bl false, H1, I1, rfl, q H1 e1⟩
end
end NS

/-! Rows of texts and numbers, sorted and without zeros: plain. -/
namespace NS
open PySem L2 PySem.Spec PyProof.Rows
def leS (x y : Str) : Prop := ltCps y.cps.toList x.cps.toList = false
theorem leS_iff {x y : Str} : leS x y ↔ x.cps.toList ≤ y.cps.toList := by
  unfold leS
  rw [ltCps_eq, decide_eq_false_iff_not]
  exact List.not_lt
theorem leS_trans {x y z : Str} (h : leS x y) (k : leS y z) : leS x z := leS_iff.mpr (List.le_trans (leS_iff.mp h) (leS_iff.mp k))
theorem leS_anti {x y : Str} (h : leS x y) (k : leS y x) : x = y := by
  have e := List.le_antisymm (leS_iff.mp h) (leS_iff.mp k)
  cases x with
  | mk a =>
    cases y with
    | mk b => exact congrArg Str.mk (Array.toList_inj.mp e)
theorem rising_pw : ∀ (p : Str) (l : List Str), PyProof.Rows.risingS p l = true → (p :: l).Pairwise leS
  | p, [], _ => List.pairwise_singleton _ _
  | p, x :: r, h => by
    have h' : (!ltCps x.cps.toList p.cps.toList && PyProof.Rows.risingS x r) = true := h
    rw [Bool.and_eq_true_iff] at h'
    have h1 : leS p x := by simpa [leS] using h'.1
    have h2 := rising_pw x r h'.2
    refine List.pairwise_cons.mpr ⟨fun y hy => ?_, h2⟩
    rcases List.mem_cons.mp hy with rfl | hy
    · exact h1
    · exact leS_trans h1 (List.rel_of_pairwise_cons h2 hy)
theorem sorted_pw {l : List Str} (h : PyProof.Rows.sortedS l = true) : l.Pairwise leS := by
  cases l with
  | nil => exact List.Pairwise.nil
  | cons x r => exact rising_pw x r h
abbrev Row := List (Str × Int)
/-- the number at k, 0 where none stands -/
def vl (m : Row) (k : Str) : Int := ((m.find? fun p => decide (p.1 = k)).map (·.2)).getD 0
theorem vl_mem {m : Row} (hn : (m.map (·.1)).Nodup) {p : Str × Int} (hp : p ∈ m) : vl m p.1 = p.2 := by
  induction m with
  | nil => cases hp
  | cons q m ih =>
    rw [List.map_cons, List.nodup_cons] at hn
    unfold vl
    rw [List.find?_cons]
    rcases List.mem_cons.mp hp with rfl | hp
    · simp
    · have hne : ¬ q.1 = p.1 := fun e => hn.1 (List.mem_map.mpr ⟨p, hp, e.symm⟩)
      rw [decide_eq_false hne]
      exact ih hn.2 hp
theorem vl_off {m : Row} {k : Str} (h : k ∉ m.map (·.1)) : vl m k = 0 := by
  unfold vl
  rw [List.find?_eq_none.mpr fun p hp => ?_]
  · rfl
  · simp only [decide_eq_true_eq]
    exact fun e => h (List.mem_map.mpr ⟨p, hp, e⟩)
theorem vl_on {m : Row} (hn : (m.map (·.1)).Nodup) {k : Str} (h : vl m k ≠ 0) : (k, vl m k) ∈ m := by
  by_cases hk : k ∈ m.map (·.1)
  · obtain ⟨p, hp, rfl⟩ := List.mem_map.mp hk
    rw [vl_mem hn hp]
    exact hp
  · exact absurd (vl_off hk) h
/-- L: the keys in order, none with 0, the numbers f's -/
structure Canon (L : Row) (f : Str → Int) : Prop where
  so : L.Pairwise fun p q => leS p.1 q.1
  nd : (L.map (·.1)).Nodup
  on : ∀ p, p ∈ L → p.2 = f p.1 ∧ p.2 ≠ 0
  all : ∀ k, f k ≠ 0 → (k, f k) ∈ L
theorem sorted_same : ∀ {l r : Row}, (l.Pairwise fun p q => leS p.1 q.1) → (r.Pairwise fun p q => leS p.1 q.1) → (l.map (·.1)).Nodup → (r.map (·.1)).Nodup → (∀ p, p ∈ l ↔ p ∈ r) → l = r
  | [], [], _, _, _, _, _ => rfl
  | [], q :: r, _, _, _, _, h => absurd ((h q).mpr (.head _)) (by simp)
  | p :: l, [], _, _, _, _, h => absurd ((h p).mp (.head _)) (by simp)
  | p :: l, q :: r, hl, hr, nl, nr, h => by
    rw [List.map_cons, List.nodup_cons] at nl nr
    have e : p = q := by
      rcases List.mem_cons.mp ((h p).mp (.head _)) with e | hp
      · exact e
      · rcases List.mem_cons.mp ((h q).mpr (.head _)) with e | hq
        · exact e.symm
        · have e := leS_anti (List.rel_of_pairwise_cons hl hq) (List.rel_of_pairwise_cons hr hp)
          exact absurd (List.mem_map.mpr ⟨q, hq, e.symm⟩) nl.1
    subst e
    congr 1
    refine sorted_same (List.pairwise_cons.mp hl).2 (List.pairwise_cons.mp hr).2 nl.2 nr.2 fun x => ⟨fun hx => ?_, fun hx => ?_⟩
    · rcases List.mem_cons.mp ((h x).mp (.tail _ hx)) with rfl | hx'
      · exact absurd (List.mem_map.mpr ⟨x, hx, rfl⟩) nl.1
      · exact hx'
    · rcases List.mem_cons.mp ((h x).mpr (.tail _ hx)) with rfl | hx'
      · exact absurd (List.mem_map.mpr ⟨x, hx, rfl⟩) nr.1
      · exact hx'
theorem Canon.same {L R : Row} {f : Str → Int} (hl : Canon L f) (hr : Canon R f) : L = R := by
  refine sorted_same hl.so hr.so hl.nd hr.nd fun p => ⟨fun hp => ?_, fun hp => ?_⟩
  · obtain ⟨e, ne⟩ := hl.on p hp
    have := hr.all p.1 (by rw [← e]; exact ne)
    rw [← e] at this
    exact this
  · obtain ⟨e, ne⟩ := hr.on p hp
    have := hl.all p.1 (by rw [← e]; exact ne)
    rw [← e] at this
    exact this
theorem Canon.vl {L : Row} {f : Str → Int} (h : Canon L f) (k : Str) : vl L k = f k := by
  by_cases hk : f k = 0
  · by_cases hm : k ∈ L.map (·.1)
    · obtain ⟨p, hp, rfl⟩ := List.mem_map.mp hm
      rw [vl_mem h.nd hp, (h.on p hp).1]
    · rw [vl_off hm, hk]
  · exact vl_mem h.nd (h.all k hk)
/-- what is left of m in the order ys -/
def kept (m : Row) (ys : List Str) : Row := (ys.filter fun k => decide (vl m k ≠ 0)).map fun k => (k, vl m k)
theorem canon_kept {m : Row} {ys : List Str} (hn : (m.map (·.1)).Nodup) (hp : ys.Perm (m.map (·.1))) (hs : ys.Pairwise leS) : Canon (kept m ys) (vl m) := by
  have ny : ys.Nodup := hp.nodup_iff.mpr hn
  have em : (kept m ys).map (·.1) = ys.filter fun k => decide (vl m k ≠ 0) := by
    unfold kept
    rw [List.map_map]
    exact List.map_id _
  refine ⟨?_, ?_, fun p hp' => ?_, fun k hk => ?_⟩
  · unfold kept
    rw [List.pairwise_map]
    exact (hs.filter _)
  · rw [em]
    exact ny.filter _
  · obtain ⟨k, hk, rfl⟩ := List.mem_map.mp hp'
    exact ⟨rfl, of_decide_eq_true (List.mem_filter.mp hk).2⟩
  · refine List.mem_map.mpr ⟨k, List.mem_filter.mpr ⟨hp.mem_iff.mpr (List.mem_map.mpr ⟨_, vl_on hn hk, rfl⟩), decide_eq_true hk⟩, rfl⟩
end NS

/-! dicts of numbers compared, with both answers -/
namespace NS
open PySem PySem.Spec PyProof.Rows L2
theorem hits_both {A : Around} {s : Shared} {ls : List (Key × V)} {vb : List (Key × Value)} (rb : KV ls vb) (fl : ∀ k v, valV ls k = some v → flatV v = true) :
    ∀ {ks : List (Key × V)} {va : List (Key × Value)}, KV ks va → (∀ p, p ∈ ks → flatV p.2 = true) → PySem.W.KeqHits A s vb va (ks.all fun p => ((valV ls p.1).map (eqV p.2)).getD false)
  | _, _, .nil, _ => .nil
  | p :: ps, q :: qs, .cons h t, hf => by
    obtain ⟨h1, h2⟩ := h
    obtain ⟨k, v⟩ := q
    have h1' : p.1 = k := h1
    subst h1'
    have rr := rb.val p.1
    rw [List.all_cons]
    cases e : valV ls p.1 with
    | none =>
      rw [e] at rr
      cases hv : valueAt vb p.1 with
      | none => exact .miss hv
      | some y => rw [hv] at rr; cases rr
    | some x =>
      rw [e] at rr
      obtain ⟨y, hy, ry⟩ := rr.some_of
      exact .hit hy (eqAt_V h2 ry (hf p (.head _)) (fl _ _ e)) (hits_both rb fl t fun p' hp' => hf p' (.tail _ hp'))
section
variable {X : Cx}
def sameK (ks ls : List (Key × V)) : Bool := ks.length == ls.length && ks.all fun p => ((valV ls p.1).map (eqV p.2)).getD false
def rEqKK : R2 := fun x y H Q => ∃ a b ks ls, x = .ref a ∧ y = .ref b ∧ H a = some (.dK ks) ∧ H b = some (.dK ls) ∧ (∀ p, p ∈ ks → flatV p.2 = true) ∧ (∀ k v, valV ls k = some v → flatV v = true) ∧ Q (.bl (sameK ks ls)) H
theorem op_eqKK (hu : X.A.units < cLine) : OpR X (compareOp .Eq) rEqKK := by
  intro pins s σ H x y v u Q I rx ry h
  obtain ⟨a, b, ks, ls, rfl, rfl, ea, eb, fk, fl, q⟩ := h
  obtain rfl : v = Value.ref a := rx
  obtain rfl : u = Value.ref b := ry
  obtain ⟨_, ya, va, ra, da⟩ := (show ObjOk X.prog X.w H s.heap a (.dK ks) from I.hok a _ ea)
  obtain ⟨_, yb, vb, rb, db⟩ := (show ObjOk X.prog X.w H s.heap b (.dK ls) from I.hok b _ eb)
  refine PySem.W.keq_eq (knd := mixKind X.prog X.w) ya yb da db hu (fun _ => hits_both rb fl ra fk) (fin_bl I q ?_)
  unfold sameK
  rw [ra.length, rb.length]
end
end NS

/-! len(x) and y in x by own methods -/
namespace NS
open PySem L2
section
variable {X : Cx} {C f : Addr} {sp : Sp}
/-- len(x) by x's own __len__ -/
def rLenO (C : Addr) (sp : Sp) : List V → Hp → VK → Prop := fun xs H Q => ∃ a dx fs, xs = [.ref a] ∧ H a = some (.ins C dx fs) ∧ sp [.ref a] H (fun v H' => ∃ n : Nat, v = .int (n : Int) ∧ n ≤ sizeLine ∧ Q (.int (n : Int)) H') E0
theorem call_lenO (T : OwnStr X.K C "__len__" f) (R : Runs X X.A.in1 f sp) : CallR X (.builtin "len") (rLenO C sp) := by
  intro pins s σ H xs us Q I r h
  obtain ⟨a, dx, fs, rfl, ha, hsp⟩ := h
  obtain ⟨u, rfl, ru⟩ := vals1 r
  cases ru
  obtain ⟨od, J⟩ := inst_at I ha
  obtain ⟨m, hF⟩ := I.fr
  refine PySem.W.len_K hF I.ok.mod.kin J T.at_ T.fn (thn (R pins σ H s [.ref a] [.ref a] _ I (.cons rfl .nil) hsp) fun u' s' z => ?_)
  obtain ⟨v', H', I', r', n, rfl, hn, q'⟩ := z
  obtain ⟨t, rfl⟩ := r'
  have big : sizeLine < 2 ^ 63 := by decide
  exact ⟨⟨by omega, by omega⟩, .int (n : Int), H', I'.tok _, ⟨_, rfl⟩, q'⟩
/-- y in x by x's own __contains__, that answers True or False -/
def rInO (C : Addr) (sp : Sp) : R2 := fun y x H Q => ∃ a dx fs, x = .ref a ∧ H a = some (.ins C dx fs) ∧ sp [x, y] H (fun v H' => ∃ b, v = .bl b ∧ Q (.bl b) H') E0
theorem op_inO (T : OwnStr X.K C "__contains__" f) (R : Runs X X.A f sp) : OpR X (compareOp .In) (rInO C sp) := by
  intro pins s σ H y x v u Q I ry rx h
  obtain ⟨a, dx, fs, rfl, ha, hsp⟩ := h
  cases rx
  obtain ⟨od, J⟩ := inst_at I ha
  obtain ⟨m, hF⟩ := I.fr
  refine PySem.W.in_K hF I.ok.mod.kin J T.at_ T.fn (thn (R pins σ H s [.ref a, y] [.ref a, v] _ I (.cons rfl (.cons ry .nil)) hsp) fun u' s' z => ?_)
  obtain ⟨v', H', I', r', b, rfl, q'⟩ := z
  cases r'
  exact wpAny_truthy_bool ⟨.bl b, H', I', rfl, q'⟩
end
end NS

/-! repr of a dict whose keys and values are texts and ints, by repr(d) and by {d!r} -/
namespace NS
open PySem PySem.Spec PyProof.Rows L2
/-- the text of a plain value -/
inductive FlatT : V → Str → Prop where
  | int {i : Int} (h : i.natAbs.log2 < 1920) : FlatT (.int i) (toString i)
  | str {x : Str} (h : (reprText x).length ≤ sizeLine) : FlatT (.str x) (reprText x)
/-- the texts of a plain dict's entries -/
inductive FlatK : List (Key × V) → List Str → Prop where
  | nil : FlatK [] []
  | cons {k : Key} {v : V} {ks : List (Key × V)} {a b : Str} {ts : List Str} (h : FlatT (kV k) a) (g : FlatT v b) (r : FlatK ks ts) : FlatK ((k, v) :: ks) ((a ++ ": " ++ b) :: ts)
section
variable {X : Cx}
theorem FlatT.is {v : V} {t : Str} {u : Value} (h : FlatT v t) (r : RelV v u) : ReprIs X.prog X.w u t := by
  cases h with
  | int h => obtain ⟨k, rfl⟩ := r; exact ReprIs.int k h
  | str h => obtain ⟨k, rfl⟩ := r; exact ReprIs.str _ k h
theorem entries_of {as : List Addr} {h₀ : Heap} {d : Nat} : ∀ {ks : List (Key × V)} {ts : List Str} {vs : List (Key × Value)} {es : List DictEntry}, FlatK ks ts → KV ks vs → Pairs (mixKind X.prog X.w) es vs → ReprEntriesK X.prog X.w as h₀ d es ts
  | _, _, _, _, .nil, .nil, .nil => .nil
  | _, _, _, _, .cons h g r, .cons p q, .cons e1 e2 e3 => by
    obtain ⟨p1, p2⟩ := p
    refine .cons (.of_is (h.is (X := X) ?_) _ _ _) (.of_is (g.is (X := X) (by rw [e2]; exact p2)) _ _ _) (entries_of r q e3)
    have e1 : keyIs _ _ = true := e1
    rcases keyIs_shape e1 with ⟨i, t, z, e⟩ | ⟨x, t, z, e⟩
    · have p3 := p1.trans z
      dsimp only at p3
      subst p3
      rw [e]
      exact ⟨t, rfl⟩
    · have p3 := p1.trans z
      dsimp only at p3
      subst p3
      rw [e]
      exact ⟨t, rfl⟩
def rRepK : List V → Hp → VK → Prop := fun vs H Q => ∃ a ks ts, vs = [.ref a] ∧ H a = some (.dK ks) ∧ FlatK ks ts ∧ (dictText ts).length ≤ sizeLine ∧ Q (.str (dictText ts)) H
theorem typ_dict {H : Hp} {a : Addr} {ks : List (Key × V)} {pins : List (Addr × Obj)} {σ : L2.St} {s : Shared} (I : Inv X pins σ H s) (ha : H a = some (.dK ks)) : s.TypeIs (.ref a) "dict" := by
  obtain ⟨_, _, vs, _, o, es, ep, e, hx, _⟩ := I.hok _ _ ha
  exact ⟨o, e, hx.1⟩
theorem call_reprK {n : Nat} (hr : Room n X.A) (hg : X.A.guards = some []) : CallR X (.builtin "repr") rRepK := by
  intro pins s σ H vs us Q I r h
  obtain ⟨a, ks, ts, rfl, ha, hT, hz, q⟩ := h
  obtain ⟨u, rfl, ru⟩ := vals1 r
  cases ru
  obtain ⟨_, hs, vs, rv, o, es, ep, e, hx, hd, hk, hp, hn⟩ := I.hok _ _ ha
  refine call_repr_slot (by have := hr.un; omega) (typ_dict I ha) F.slot_dict_repr ?_
  refine call_dict_reprK (as := []) (d := 1) (A := X.A.in1) (g := []) e hx.1 hd hs (by simp) (entries_of hT rv hp) hg (fun b _ => Clear.nil b) (by have := hr.un; show X.A.units + 1 + (1 + 1) < cLine; omega) (fun _ _ z => z) (fun h' u tk hk' => ?_) hz
  exact ⟨_, _, rfl, .str _, H, I.kept hk', ⟨_, rfl⟩, q⟩
/-- {d!r} -/
def tFmtK (te : TE) : TE := fun σ H Q => te σ H fun x H1 => ∃ a ks ts, x = .ref a ∧ H1 a = some (.dK ks) ∧ FlatK ks ts ∧ (dictText ts).length ≤ sizeLine ∧ Q (.str (dictText ts)) H1
theorem pe_fmtK {n : Nat} {e : Expr} {te : TE} {pos : Pos} (hr : Room n X.A) (hg : X.A.guards = some []) (he : PE X e te) : PE X (.FormattedValue e 114 none pos) (tFmtK te) := by
  refine ⟨fun pins s σ H Q I h => ?_⟩
  refine wpAny_FormattedValue_repr (thn (he.run pins s σ H _ I h) fun v s1 hv => ?_)
  obtain ⟨x, H1, I1, r1, a, ks, ts, rfl, ha, hT, hz, q⟩ := hv
  cases r1
  obtain ⟨_, hs, vs, rv, o, es, ep, e, hx, hd, hk, hp, hn⟩ := I1.hok _ _ ha
  refine wpAny_pyReprObj_dictK (as := []) (d := 1) (g := []) e hx.1 hd hs (by simp) (entries_of hT rv hp) hg (fun b _ => Clear.nil b) (by have := hr.un; omega) (fun _ _ z => z) (fun h' u tk hk' => ?_) hz
  have I2 := I1.kept (t' := tk) hk'
  exact wpAny_formatField_str ⟨.str _, H1, I2, ⟨_, rfl⟩, q⟩ ⟨.str _, H1, I2.tok _, ⟨_, rfl⟩, q⟩ hz
end
end NS

/-! lists of plain data compared: they are the same -/
namespace NS
open PySem PySem.Spec PyProof.Rows L2
section
variable {K : PySem.W.Frag} {H : Hp}
theorem dpAll_map {α : Type} {f : α → V} {g : α → PyData} : ∀ {l : List α}, (∀ x, x ∈ l → Dp K H (f x) (g x)) → DpAll K H (l.map f) (l.map g)
  | [], _ => .nil
  | x :: l, h => .cons (h x (.head _)) (dpAll_map fun y hy => h y (.tail _ hy))
theorem dpAll_paired {α β : Type} {F : α → β → Prop} {f : α → V} {g : β → PyData} (h : ∀ x y, F x y → Dp K H (f x) (g y)) : ∀ {l : List α} {r : List β}, Paired F l r → DpAll K H (l.map f) (r.map g)
  | _, _, .nil => .nil
  | _, _, .cons a b => .cons (h _ _ a) (dpAll_paired h b)
theorem lay_all : ∀ {ds : List PyData}, (∀ d, d ∈ ds → d.canLay0 = true) → PyData.canLayAll0 ds = true
  | [], _ => rfl
  | d :: ds, h => by
    rw [PyData.canLayAll0, h d (.head _), lay_all fun e he => h e (.tail _ he)]
    rfl
theorem depth_all {n : Nat} : ∀ {ds : List PyData}, (∀ d, d ∈ ds → d.depth ≤ n) → PyData.depthAll ds ≤ n
  | [], _ => Nat.zero_le _
  | d :: ds, h => by
    rw [PyData.depthAll]
    exact Nat.max_le.mpr ⟨h d (.head _), depth_all fun e he => h e (.tail _ he)⟩
/-- plain data of depth at most n -/
structure Pln (n : Nat) (d : PyData) : Prop where
  lay : d.canLay0 = true
  dep : d.depth ≤ n
theorem Pln.shaped {n : Nat} {d : PyData} (h : Pln n d) (hn : n ≤ 64) : SeqAt.shaped d = true := by
  unfold SeqAt.shaped
  rw [h.lay, decide_eq_true (Nat.le_trans h.dep hn)]
  rfl
theorem pln_list {n : Nat} {ds : List PyData} (h : ∀ d, d ∈ ds → Pln n d) : Pln (n + 1) (.list ds) :=
  ⟨lay_all fun d hd => (h d hd).lay, Nat.succ_le_succ (depth_all fun d hd => (h d hd).dep)⟩
theorem pln_tuple {n : Nat} {ds : List PyData} (h : ∀ d, d ∈ ds → Pln n d) : Pln (n + 1) (.tuple ds) :=
  ⟨lay_all fun d hd => (h d hd).lay, Nat.succ_le_succ (depth_all fun d hd => (h d hd).dep)⟩
theorem pln_int {n : Nat} (i : Int) : Pln n (.int i) := ⟨rfl, Nat.zero_le _⟩
theorem pln_bool {n : Nat} (b : Bool) : Pln n (.bool b) := ⟨rfl, Nat.zero_le _⟩
theorem pln_str {n : Nat} {s : Str} (h : PyData.strOk s = true) : Pln n (.str s) := ⟨h, Nat.zero_le _⟩
theorem Pln.refl {n : Nat} {d : PyData} (h : Pln n d) : PyData.eqv d d = true := SeqAt.eqv_refl d h.lay
/-- x != y where both are the plain data d -/
theorem ne_same {x y : V} {d : PyData} {n : Nat} {Q : VK} (h : Pln n d) (hn : n ≤ 64) (hx : Dp K H x d) (hy : Dp K H y d) (q : Q (.bl false) H) : rNeD K x y H Q :=
  ⟨d, d, hx, hy, h.shaped hn, h.shaped hn, by rw [h.refl]; exact q⟩
theorem eq_same {x y : V} {d : PyData} {n : Nat} {Q : VK} (h : Pln n d) (hn : n ≤ 64) (hx : Dp K H x d) (hy : Dp K H y d) (q : Q (.bl true) H) : rEqD K x y H Q :=
  ⟨d, d, hx, hy, h.shaped hn, h.shaped hn, by rw [h.refl]; exact q⟩
end
section
variable {X : Cx}
theorem hu64 {k : Nat} {A : Around} (r : Room k A) : A.units + 64 < cLine := by have := r.un; omega
end
end NS

namespace P
open PySem L2 NS
/-! ### the text by places -/
def top (i : Nat) : Stmt := PySem.Challenge.pw_notesums_k12_tables_by_dicts.main.body.getD i (.Pass ⟨0, 0, 0, 0⟩)
abbrev s_InvalidNumber_init : Stmt := inClass (top 2) 0
theorem sc_InvalidNumber_init : FnScope ["self", "value"] ["self", "value"] (defScope s_InvalidNumber_init) := ⟨rfl, rfl, rfl, by decide +kernel, rfl, by decide +kernel, by decide +kernel⟩
abbrev s_InvalidName_init : Stmt := inClass (top 3) 0
theorem sc_InvalidName_init : FnScope ["self", "value"] ["self", "value"] (defScope s_InvalidName_init) := ⟨rfl, rfl, rfl, by decide +kernel, rfl, by decide +kernel, by decide +kernel⟩
abbrev s_InvalidTable_init : Stmt := inClass (top 4) 0
theorem sc_InvalidTable_init : FnScope ["self", "value"] ["self", "value"] (defScope s_InvalidTable_init) := ⟨rfl, rfl, rfl, by decide +kernel, rfl, by decide +kernel, by decide +kernel⟩
abbrev s_InvalidNames_init : Stmt := inClass (top 5) 0
theorem sc_InvalidNames_init : FnScope ["self", "value"] ["self", "value"] (defScope s_InvalidNames_init) := ⟨rfl, rfl, rfl, by decide +kernel, rfl, by decide +kernel, by decide +kernel⟩
abbrev s_is_integer : Stmt := top 7
theorem sc_is_integer : FnScope ["value"] ["value"] (defScope s_is_integer) := ⟨rfl, rfl, rfl, by decide +kernel, rfl, by decide +kernel, by decide +kernel⟩
abbrev s_is_key : Stmt := top 12
theorem sc_is_key : FnScope ["value", "sign"] ["value"] (defScope s_is_key) := ⟨rfl, rfl, rfl, by decide +kernel, rfl, by decide +kernel, by decide +kernel⟩
abbrev s_is_row : Stmt := top 13
theorem sc_is_row : FnScope ["value", "key", "number"] ["value"] (defScope s_is_row) := ⟨rfl, rfl, rfl, by decide +kernel, rfl, by decide +kernel, by decide +kernel⟩
abbrev s_kept_row : Stmt := top 14
theorem sc_kept_row : FnScope ["row", "key"] ["row"] (defScope s_kept_row) := ⟨rfl, rfl, rfl, by decide +kernel, rfl, by decide +kernel, by decide +kernel⟩
abbrev s_want_names : Stmt := top 15
theorem sc_want_names : FnScope ["value", "key", "name"] ["value"] (defScope s_want_names) := ⟨rfl, rfl, rfl, by decide +kernel, rfl, by decide +kernel, by decide +kernel⟩
abbrev s_renamed_row : Stmt := top 16
theorem sc_renamed_row : FnScope ["row", "names", "found", "key", "number", "name"] ["row", "names"] (defScope s_renamed_row) := ⟨rfl, rfl, rfl, by decide +kernel, rfl, by decide +kernel, by decide +kernel⟩
abbrev s_want_table : Stmt := top 17
theorem sc_want_table : FnScope ["value"] ["value"] (defScope s_want_table) := ⟨rfl, rfl, rfl, by decide +kernel, rfl, by decide +kernel, by decide +kernel⟩
abbrev s_Table_init : Stmt := inClass (top 18) 0
theorem sc_Table_init : FnScope ["self", "counts"] ["self", "counts"] (defScope s_Table_init) := ⟨rfl, rfl, rfl, by decide +kernel, rfl, by decide +kernel, by decide +kernel⟩
abbrev s_Table_is_plain : Stmt := inClass (top 18) 1
theorem sc_Table_is_plain : FnScope ["self", "number"] ["self"] (defScope s_Table_is_plain) := ⟨rfl, rfl, rfl, by decide +kernel, rfl, by decide +kernel, by decide +kernel⟩
abbrev s_Table_at : Stmt := inClass (top 18) 2
theorem sc_Table_at : FnScope ["self", "key"] ["self", "key"] (defScope s_Table_at) := ⟨rfl, rfl, rfl, by decide +kernel, rfl, by decide +kernel, by decide +kernel⟩
abbrev s_Table_used_keys : Stmt := inClass (top 18) 3
theorem sc_Table_used_keys : FnScope ["self"] ["self"] (defScope s_Table_used_keys) := ⟨rfl, rfl, rfl, by decide +kernel, rfl, by decide +kernel, by decide +kernel⟩
abbrev s_Table_counts : Stmt := inClass (top 18) 4
theorem sc_Table_counts : FnScope ["self"] ["self"] (defScope s_Table_counts) := ⟨rfl, rfl, rfl, by decide +kernel, rfl, by decide +kernel, by decide +kernel⟩
abbrev s_Table_times : Stmt := inClass (top 18) 5
theorem sc_Table_times : FnScope ["self", "many", "key", "number"] ["self", "many"] (defScope s_Table_times) := ⟨rfl, rfl, rfl, by decide +kernel, rfl, by decide +kernel, by decide +kernel⟩
abbrev s_Table_renamed : Stmt := inClass (top 18) 6
theorem sc_Table_renamed : FnScope ["self", "names"] ["self", "names"] (defScope s_Table_renamed) := ⟨rfl, rfl, rfl, by decide +kernel, rfl, by decide +kernel, by decide +kernel⟩
abbrev s_Table_add : Stmt := inClass (top 18) 7
theorem sc_Table_add : FnScope ["self", "other", "found", "key", "number"] ["self", "other"] (defScope s_Table_add) := ⟨rfl, rfl, rfl, by decide +kernel, rfl, by decide +kernel, by decide +kernel⟩
abbrev s_Table_sub : Stmt := inClass (top 18) 8
theorem sc_Table_sub : FnScope ["self", "other"] ["self", "other"] (defScope s_Table_sub) := ⟨rfl, rfl, rfl, by decide +kernel, rfl, by decide +kernel, by decide +kernel⟩
abbrev s_Table_neg : Stmt := inClass (top 18) 9
theorem sc_Table_neg : FnScope ["self", "key", "number"] ["self"] (defScope s_Table_neg) := ⟨rfl, rfl, rfl, by decide +kernel, rfl, by decide +kernel, by decide +kernel⟩
abbrev s_Table_len : Stmt := inClass (top 18) 10
theorem sc_Table_len : FnScope ["self"] ["self"] (defScope s_Table_len) := ⟨rfl, rfl, rfl, by decide +kernel, rfl, by decide +kernel, by decide +kernel⟩
abbrev s_Table_contains : Stmt := inClass (top 18) 11
theorem sc_Table_contains : FnScope ["self", "key"] ["self", "key"] (defScope s_Table_contains) := ⟨rfl, rfl, rfl, by decide +kernel, rfl, by decide +kernel, by decide +kernel⟩
abbrev s_Table_eq : Stmt := inClass (top 18) 12
theorem sc_Table_eq : FnScope ["self", "other"] ["self", "other"] (defScope s_Table_eq) := ⟨rfl, rfl, rfl, by decide +kernel, rfl, by decide +kernel, by decide +kernel⟩
abbrev s_Table_repr : Stmt := inClass (top 18) 13
theorem sc_Table_repr : FnScope ["self"] ["self"] (defScope s_Table_repr) := ⟨rfl, rfl, rfl, by decide +kernel, rfl, by decide +kernel, by decide +kernel⟩
abbrev s_law_rng : Stmt := top 20
theorem sc_law_rng : FnScope ["_law_script", "_law_k", "_law_cell"] ["_law_script", "_law_k"] (defScope s_law_rng) := ⟨rfl, rfl, rfl, by decide +kernel, rfl, by decide +kernel, by decide +kernel⟩
abbrev s_law_draw : Stmt := top 21
theorem sc_law_draw : FnScope ["_law_rng_here", "_law_many", "_law_digit"] ["_law_rng_here", "_law_many"] (defScope s_law_draw) := ⟨rfl, rfl, rfl, by decide +kernel, rfl, by decide +kernel, by decide +kernel⟩
abbrev s_law_choice : Stmt := top 22
theorem sc_law_choice : FnScope ["_law_rng_here", "_law_some"] ["_law_rng_here", "_law_some"] (defScope s_law_choice) := ⟨rfl, rfl, rfl, by decide +kernel, rfl, by decide +kernel, by decide +kernel⟩
abbrev s_law_names : Stmt := top 23
theorem sc_law_names : FnScope ["_law_rng_here", "_law_many", "_law_taken", "_law_found", "_law_k", "_law_size", "_law_name", "_law_turn", "_law_spare", "_law_one"] ["_law_rng_here", "_law_many", "_law_taken"] (defScope s_law_names) := ⟨rfl, rfl, rfl, by decide +kernel, rfl, by decide +kernel, by decide +kernel⟩
abbrev s_law_number : Stmt := top 24
theorem sc_law_number : FnScope ["_law_rng_here"] ["_law_rng_here"] (defScope s_law_number) := ⟨rfl, rfl, rfl, by decide +kernel, rfl, by decide +kernel, by decide +kernel⟩
abbrev s_law_mixed : Stmt := top 25
theorem sc_law_mixed : FnScope ["_law_rng_here", "_law_some", "_law_left", "_law_found", "_law_one"] ["_law_rng_here", "_law_some"] (defScope s_law_mixed) := ⟨rfl, rfl, rfl, by decide +kernel, rfl, by decide +kernel, by decide +kernel⟩
abbrev s_law_long : Stmt := top 26
theorem sc_law_long : FnScope ["_law_rng_here", "_law_letters", "_law_tail", "_law_turn"] ["_law_rng_here"] (defScope s_law_long) := ⟨rfl, rfl, rfl, by decide +kernel, rfl, by decide +kernel, by decide +kernel⟩
abbrev s_law_dict : Stmt := top 27
theorem sc_law_dict : FnScope ["_law_rng_here", "_law_names_here", "_law_key"] ["_law_rng_here", "_law_names_here"] (defScope s_law_dict) := ⟨rfl, rfl, rfl, by decide +kernel, rfl, by decide +kernel, by decide +kernel⟩
abbrev s_law_kept : Stmt := top 28
theorem sc_law_kept : FnScope ["_law_model", "_law_key"] ["_law_model"] (defScope s_law_kept) := ⟨rfl, rfl, rfl, by decide +kernel, rfl, by decide +kernel, by decide +kernel⟩
abbrev s_law_together : Stmt := top 29
theorem sc_law_together : FnScope ["_law_one", "_law_other", "_law_times", "_law_found", "_law_key", "_law_number_here"] ["_law_one", "_law_other", "_law_times"] (defScope s_law_together) := ⟨rfl, rfl, rfl, by decide +kernel, rfl, by decide +kernel, by decide +kernel⟩
abbrev s_law_renamed : Stmt := top 30
theorem sc_law_renamed : FnScope ["_law_model", "_law_names_here", "_law_found", "_law_key", "_law_number_here"] ["_law_model", "_law_names_here"] (defScope s_law_renamed) := ⟨rfl, rfl, rfl, by decide +kernel, rfl, by decide +kernel, by decide +kernel⟩
abbrev s_law_is : Stmt := top 31
theorem sc_law_is : FnScope ["_law_table", "_law_model", "_law_names_here", "_law_due", "_law_told", "_law_key", "_law_thing", "_law_is_above", "_law_number_here", "_law_again"] ["_law_table", "_law_model", "_law_names_here"] (defScope s_law_is) := ⟨rfl, rfl, rfl, by decide +kernel, rfl, by decide +kernel, by decide +kernel⟩
abbrev s_law_right : Stmt := top 32
theorem sc_law_right : FnScope ["_law_rng_here", "_law_names_here", "_law_first", "_law_second", "_law_handed", "_law_spoken", "_law_one", "_law_other", "_law_many", "_law_more", "_law_fresh", "_law_key", "_law_kept_here"] ["_law_rng_here"] (defScope s_law_right) := ⟨rfl, rfl, rfl, by decide +kernel, rfl, by decide +kernel, by decide +kernel⟩
abbrev s_law : Stmt := top 33
theorem sc_law : FnScope ["_law_script", "_law_k", "_law_rng_here", "_law_turn"] ["_law_script"] (defScope s_law) := ⟨rfl, rfl, rfl, by decide +kernel, rfl, by decide +kernel, by decide +kernel⟩
/-! ### addresses, and what the top has written -/
structure Ad where
  Table : Addr
  NotesumsError : Addr
  InvalidNumber : Addr
  InvalidName : Addr
  InvalidTable : Addr
  InvalidNames : Addr
  is_integer : Addr
  d_is_integer : FuncData
  is_key : Addr
  d_is_key : FuncData
  is_row : Addr
  d_is_row : FuncData
  kept_row : Addr
  d_kept_row : FuncData
  want_names : Addr
  d_want_names : FuncData
  renamed_row : Addr
  d_renamed_row : FuncData
  want_table : Addr
  d_want_table : FuncData
  law_rng : Addr
  d_law_rng : FuncData
  law_draw : Addr
  d_law_draw : FuncData
  law_choice : Addr
  d_law_choice : FuncData
  law_names : Addr
  d_law_names : FuncData
  law_number : Addr
  d_law_number : FuncData
  law_mixed : Addr
  d_law_mixed : FuncData
  law_long : Addr
  d_law_long : FuncData
  law_dict : Addr
  d_law_dict : FuncData
  law_kept : Addr
  d_law_kept : FuncData
  law_together : Addr
  d_law_together : FuncData
  law_renamed : Addr
  d_law_renamed : FuncData
  law_is : Addr
  d_law_is : FuncData
  law_right : Addr
  d_law_right : FuncData
  law : Addr
  d_law : FuncData
  Table_init : Addr
  d_Table_init : FuncData
  Table_is_plain : Addr
  d_Table_is_plain : FuncData
  Table_at : Addr
  d_Table_at : FuncData
  Table_used_keys : Addr
  d_Table_used_keys : FuncData
  Table_counts : Addr
  d_Table_counts : FuncData
  Table_times : Addr
  d_Table_times : FuncData
  Table_renamed : Addr
  d_Table_renamed : FuncData
  Table_add : Addr
  d_Table_add : FuncData
  Table_sub : Addr
  d_Table_sub : FuncData
  Table_neg : Addr
  d_Table_neg : FuncData
  Table_len : Addr
  d_Table_len : FuncData
  Table_contains : Addr
  d_Table_contains : FuncData
  Table_eq : Addr
  d_Table_eq : FuncData
  Table_repr : Addr
  d_Table_repr : FuncData
  p_Table_is_plain : Addr
  InvalidNumber_init : Addr
  d_InvalidNumber_init : FuncData
  InvalidName_init : Addr
  d_InvalidName_init : FuncData
  InvalidTable_init : Addr
  d_InvalidTable_init : FuncData
  InvalidNames_init : Addr
  d_InvalidNames_init : FuncData
structure Txt (K : PySem.W.Frag) (mg : Str → Option Value) (a : Ad) : Prop where
  is_integer : Dfn K mg "is_integer" s_is_integer a.is_integer a.d_is_integer
  is_key : Dfn K mg "is_key" s_is_key a.is_key a.d_is_key
  is_row : Dfn K mg "is_row" s_is_row a.is_row a.d_is_row
  kept_row : Dfn K mg "kept_row" s_kept_row a.kept_row a.d_kept_row
  want_names : Dfn K mg "want_names" s_want_names a.want_names a.d_want_names
  renamed_row : Dfn K mg "renamed_row" s_renamed_row a.renamed_row a.d_renamed_row
  want_table : Dfn K mg "want_table" s_want_table a.want_table a.d_want_table
  law_rng : Dfn K mg "_law_rng" s_law_rng a.law_rng a.d_law_rng
  law_draw : Dfn K mg "_law_draw" s_law_draw a.law_draw a.d_law_draw
  law_choice : Dfn K mg "_law_choice" s_law_choice a.law_choice a.d_law_choice
  law_names : Dfn K mg "_law_names" s_law_names a.law_names a.d_law_names
  law_number : Dfn K mg "_law_number" s_law_number a.law_number a.d_law_number
  law_mixed : Dfn K mg "_law_mixed" s_law_mixed a.law_mixed a.d_law_mixed
  law_long : Dfn K mg "_law_long" s_law_long a.law_long a.d_law_long
  law_dict : Dfn K mg "_law_dict" s_law_dict a.law_dict a.d_law_dict
  law_kept : Dfn K mg "_law_kept" s_law_kept a.law_kept a.d_law_kept
  law_together : Dfn K mg "_law_together" s_law_together a.law_together a.d_law_together
  law_renamed : Dfn K mg "_law_renamed" s_law_renamed a.law_renamed a.d_law_renamed
  law_is : Dfn K mg "_law_is" s_law_is a.law_is a.d_law_is
  law_right : Dfn K mg "_law_right" s_law_right a.law_right a.d_law_right
  law : Dfn K mg "law" s_law a.law a.d_law
  Table : Cl K mg "Table" a.Table
  no_Table_own_counts : NoAttr K a.Table "own_counts"
  Table_init : MthD K a.Table "__init__" "Table.__init__" s_Table_init [.non] a.Table_init a.d_Table_init
  Table_is_plain : Prp K a.Table "is_plain" "Table.is_plain" s_Table_is_plain a.p_Table_is_plain a.Table_is_plain a.d_Table_is_plain
  Table_at : Mth K a.Table "at" "Table.at" s_Table_at a.Table_at a.d_Table_at
  Table_used_keys : Mth K a.Table "used_keys" "Table.used_keys" s_Table_used_keys a.Table_used_keys a.d_Table_used_keys
  Table_counts : Mth K a.Table "counts" "Table.counts" s_Table_counts a.Table_counts a.d_Table_counts
  Table_times : Mth K a.Table "times" "Table.times" s_Table_times a.Table_times a.d_Table_times
  Table_renamed : Mth K a.Table "renamed" "Table.renamed" s_Table_renamed a.Table_renamed a.d_Table_renamed
  Table_add : Mth K a.Table "__add__" "Table.__add__" s_Table_add a.Table_add a.d_Table_add
  Table_sub : Mth K a.Table "__sub__" "Table.__sub__" s_Table_sub a.Table_sub a.d_Table_sub
  Table_neg : Mth K a.Table "__neg__" "Table.__neg__" s_Table_neg a.Table_neg a.d_Table_neg
  Table_len : Mth K a.Table "__len__" "Table.__len__" s_Table_len a.Table_len a.d_Table_len
  Table_contains : Mth K a.Table "__contains__" "Table.__contains__" s_Table_contains a.Table_contains a.d_Table_contains
  Table_eq : Mth K a.Table "__eq__" "Table.__eq__" s_Table_eq a.Table_eq a.d_Table_eq
  Table_repr : Mth K a.Table "__repr__" "Table.__repr__" s_Table_repr a.Table_repr a.d_Table_repr
  O_Table_add : OwnOp K a.Table .Add a.Table_add
  O_Table_sub : OwnOp K a.Table .Sub a.Table_sub
  O_Table_neg : OwnNeg K a.Table a.Table_neg
  O_Table_len : OwnStr K a.Table "__len__" a.Table_len
  O_Table_contains : OwnStr K a.Table "__contains__" a.Table_contains
  O_Table_eq : OwnEq K a.Table a.Table_eq
  O_Table_repr : OwnStr K a.Table "__repr__" a.Table_repr
  b_abs : mg "abs" = none
  b_all : mg "all" = none
  b_bool : mg "bool" = none
  b_dict : mg "dict" = none
  b_divmod : mg "divmod" = none
  b_int : mg "int" = none
  b_isinstance : mg "isinstance" = none
  b_len : mg "len" = none
  b_list : mg "list" = none
  b_max : mg "max" = none
  b_min : mg "min" = none
  b_range : mg "range" = none
  b_repr : mg "repr" = none
  b_sorted : mg "sorted" = none
  b_str : mg "str" = none
  c_LETTERS : ∃ t, mg "LETTERS" = some (.str "abcdefghijklmnopqrstuvwxyz" t)
  c_KEY_SIGNS : ∃ t, mg "KEY_SIGNS" = some (.str "abcdefghijklmnopqrstuvwxyz0123456789" t)
  c_LONGEST_KEY : ∃ t, mg "LONGEST_KEY" = some (.int 8 t)
  k_dict : PySem.W.kitOne K (.type "dict") (.ref a.Table) = some false
end P

namespace P
open PySem L2 NS

/-! ### keys -/
abbrev LET : Str := "abcdefghijklmnopqrstuvwxyz"
abbrev SIG : Str := "abcdefghijklmnopqrstuvwxyz0123456789"
def low (c : Nat) : Prop := 97 ≤ c ∧ c ≤ 122
def sig (c : Nat) : Prop := (97 ≤ c ∧ c ≤ 122) ∨ (48 ≤ c ∧ c ≤ 57)
theorem mem_let {c : Nat} (h : low c) : c ∈ LET.cps.toList := by
  have e : LET.cps.toList = (List.range 26).map (· + 97) := by decide +kernel
  rw [e, List.mem_map]
  exact ⟨c - 97, List.mem_range.mpr (by have := h.1; have := h.2; omega), by have := h.1; omega⟩
theorem mem_sig {c : Nat} (h : sig c) : c ∈ SIG.cps.toList := by
  have e : SIG.cps.toList = (List.range 26).map (· + 97) ++ (List.range 10).map (· + 48) := by decide +kernel
  rw [e, List.mem_append, List.mem_map, List.mem_map]
  rcases h with h | h
  · exact .inl ⟨c - 97, List.mem_range.mpr (by omega), by omega⟩
  · exact .inr ⟨c - 48, List.mem_range.mpr (by omega), by omega⟩
/-- a key: one to eight signs, the first one a letter -/
structure Nm (s : Str) : Prop where
  one : 1 ≤ s.length
  most : s.length ≤ 8
  first : ∀ c, s.cps.toList[0]? = some c → low c
  all : ∀ c, c ∈ s.cps.toList → sig c
theorem yes_of {σ : L2.St} {H : Hp} {p q : Hp → Prop} (h : p H) : tYes σ H fun b H' => if b = true then p H' else q H' := by
  show (if true = true then p H else q H)
  rw [if_pos rfl]
  exact h
theorem ext_put {D : Addr} {H H' : Hp} {o : HO} (h : Ext H H') (hD : H D = none) : Ext H (upd H' D o) := fun b u e => by
  rw [upd_ne (ne_of_none e hD)]
  exact h b u e
def spInt : Sp := fun vs H Q _ => ∃ i : Int, vs = [.int i] ∧ Q (.bl true) H
def spKey : Sp := fun vs H Q _ => ∃ s : Str, vs = [.str s] ∧ Nm s ∧ ∀ H', Ext H H' → Q (.bl true) H'
section
variable {P : Program} {w : World} {K : PySem.W.Frag} {mg : Str → Option Value} {base : Heap} {a : Ad}
theorem B_is_integer (T : Txt K mg a) : Binds K a.d_is_integer ["value"] [] := T.is_integer.F.binds fun _ _ _ _ _ _ us hl => match us, hl with | [_], _ => rfl
theorem ok_is_integer (T : Txt K mg a) : FnOk P w K mg base CX0 1 a.is_integer a.d_is_integer ["value"] spInt := by
  refine T.is_integer.F.ok sc_is_integer (fun vs H Q E h => ?_) (fun cdv A outer s H vs Q E hr h => ?_)
  · obtain ⟨i, rfl, _⟩ := h
    rfl
  · obtain ⟨i, rfl, h⟩ := h
    refine ⟨_, (pss_one (ps_ret (pe_and (pe_callB call_isi (by rfl) T.b_isinstance (by decide +kernel) (pa_cons (pv 0) (pa_cons (pe_bltn (v := .ty "int") (by rfl) T.b_int (by decide +kernel) rfl) pa_nil))) (pe_one (pe_not (pe_callB call_isi (by rfl) T.b_isinstance (by decide +kernel) (pa_cons (pv 0) (pa_cons (pe_bltn (v := .ty "bool") (by rfl) T.b_bool (by decide +kernel) rfl) pa_nil)))))))), ?_⟩
    exact ⟨_, rfl, _, _, _, _, _, rfl, .ty _, ty_int i, kit_int_int, _, rfl, iteT ⟨_, rfl, _, _, _, _, _, rfl, .ty _, ty_int i, kit_int_bool, _, rfl, h⟩⟩
theorem B_is_key (T : Txt K mg a) : Binds K a.d_is_key ["value"] [] := T.is_key.F.binds fun _ _ _ _ _ _ us hl => match us, hl with | [_], _ => rfl
theorem ok_is_key (T : Txt K mg a) : FnOk P w K mg base CX0 1 a.is_key a.d_is_key ["value"] spKey := by
  obtain ⟨_, c_LETTERS⟩ := T.c_LETTERS
  obtain ⟨_, c_KEY_SIGNS⟩ := T.c_KEY_SIGNS
  obtain ⟨_, c_LONGEST_KEY⟩ := T.c_LONGEST_KEY
  refine T.is_key.F.ok sc_is_key (fun vs H Q E h => ?_) (fun cdv A outer s H vs Q E hr h => ?_)
  · obtain ⟨i, rfl, _⟩ := h
    rfl
  · obtain ⟨z, rfl, hz, h⟩ := h
    refine ⟨_, (pss_cons (ps_if (PW.pt (pw_or (pt_not (pt_val (pe_callB call_isi (by rfl) T.b_isinstance (by decide +kernel) (pa_cons (pv 0) (pa_cons (pe_bltn (v := .ty "str") (by rfl) T.b_str (by decide +kernel) rfl) pa_nil))))) (pw_or (pt_not (pt_chain op_le op_le pe_int (pe_callB call_len (by rfl) T.b_len (by decide +kernel) (pa_cons (pv 0) pa_nil)) (pe_glob (v := .int 8) (by rfl) c_LONGEST_KEY ⟨_, rfl⟩))) (pw_or1 (pt_cmpR op_notIn_sign (pe_ix ix_str (pv 0) pe_int (fun _ _ => rfl)) (pe_glob (v := .str LET) (by rfl) c_LETTERS ⟨_, rfl⟩) (by rfl)))))) (pss_one (ps_ret pe_bl)) pss_nil)
      (pss_one (ps_ret (pe_callB (cr_all rfl) (by rfl) T.b_all (by decide +kernel) (pa_cons (pe_lc (own := [("sign", 1)]) (g := gName 1) (by rfl) sc_is_key.nd (pi_str (pv 0)) (blkOk_by (N := ["value", "sign"]) (sc := defScope s_is_key) (by decide +kernel)) (fun _ _ _ _ _ => (pg_name (i := 1) sc_is_key.nd rfl (.inl rfl) (.inr rfl))) (fun _ _ _ _ _ => pts_nil) (fun _ _ _ _ _ => (pe_cmpR op_in_sign (pv 1) (pe_glob (v := .str SIG) (by rfl) c_KEY_SIGNS ⟨_, rfl⟩) (by rfl)))) pa_nil))))), ?_⟩
    have z8 := hz.most
    have hl : z.length ≤ sizeLine := Nat.le_trans z8 (by decide)
    refine ⟨_, rfl, _, _, _, _, _, rfl, .ty _, ty_str z, kit_ty (r := true) (by decide +kernel), _, rfl, iteF ?_⟩
    have z1 := hz.one
    have len : z.cps.toList.length = z.length := Array.length_toList
    obtain ⟨c, hc⟩ : ∃ c, z.cps.toList[0]? = some c := ⟨_, List.getElem?_eq_getElem (by omega)⟩
    refine ⟨_, rfl, _, _, rfl, ⟨hl, rfl⟩, _, _, rfl, rfl, _, rfl, iteY (decide_eq_true (by omega)) ⟨_, _, rfl, rfl, true, congrArg V.bl (decide_eq_true (by omega)), iteF ?_⟩⟩
    refine ⟨_, rfl, z, 0, c, rfl, rfl, hl, atI_nat hc, c, LET, rfl, rfl, false, congrArg V.bl (by simp [mem_let (hz.first c hc)]), iteF ?_⟩
    refine ⟨_, rfl, z, rfl, fun D hD => ?_⟩
    refine lc_it walk_str (fun i H' => Ext H H' ∧ H' D = some (.lst ((List.replicate i true).map V.bl))) ⟨ext_put Ext.rfl' hD, upd_same⟩ (fun _ _ _ _ => trivial) ?_ ?_
    · rintro i x H' H'' hi ⟨e, h3⟩ ⟨rfl, c, hc, rfl⟩
      refine ⟨rfl, yes_of ?_⟩
      have mc : c ∈ SIG.cps.toList := mem_sig (hz.all c (Array.mem_toList_iff.mpr (Array.mem_of_getElem? hc)))
      refine ⟨_, rfl, c, SIG, rfl, rfl, _, h3, Nat.lt_of_lt_of_le (by rw [List.length_map, List.length_replicate]; exact hi) hl, ext_put e hD, ?_⟩
      rw [upd_same, List.replicate_succ', show decide (c ∈ SIG.cps.toList) = true from decide_eq_true mc]
      simp
    · rintro H' ⟨e, h3⟩
      refine ⟨D, List.replicate z.cps.size true, rfl, SqL.of h3, ?_⟩
      rw [show (List.replicate z.cps.size true).all id = true by simp]
      exact h H' e
end
end P

namespace P
open PySem L2 NS

/-! ### rows -/
def dkv (m : Row) : List (Key × V) := m.map fun p => (.inr p.1, .int p.2)
/-- the heap with d locked and set free again -/
theorem ext_unlock {H H' : Hp} {d : Addr} {o : Obj} {u : HO} (hd : H d = some u) (e : Ext (upd H d (.frz o u)) H') : Ext H (upd H' d u) := fun b x hb => by
  by_cases h : b = d
  · subst h
    rw [upd_same, ← hb, hd]
  · rw [upd_ne h]
    refine e _ _ ?_
    rw [upd_ne h]
    exact hb
/-- at most n keys, numbers of b bits -/
structure RowOk (n b : Nat) (m : Row) : Prop where
  nm : ∀ p, p ∈ m → Nm p.1
  bt : ∀ p, p ∈ m → Bt b p.2
  nd : (m.map (·.1)).Nodup
  few : m.length ≤ n
def spIsRow : Sp := fun vs H Q _ => ∃ (d : Addr) (m : Row) (n b : Nat), vs = [.ref d] ∧ H d = some (.dK (dkv m)) ∧ RowOk n b m ∧ n < 60 ∧ ∀ H', Ext H H' → Q (.bl true) H'
theorem valV_dkv {m : Row} {k : Str} : ∀ {m : Row}, k ∈ m.map (·.1) → valV (dkv m) (.inr k) = some (.int (vl m k))
  | [], h => by simp at h
  | p :: m, h => by
    by_cases e : p.1 = k
    · rw [dkv, List.map_cons, valV_pos (by rw [e])]
      unfold vl
      rw [List.find?_cons, decide_eq_true e]
      rfl
    · rw [dkv, List.map_cons, valV_neg (by intro z; injection z with z; exact e z)]
      have : k ∈ m.map (·.1) := by
        rcases List.mem_cons.mp h with z | z
        · exact absurd z.symm e
        · exact z
      have ih := valV_dkv (m := m) (k := k) this
      unfold dkv at ih
      rw [ih]
      unfold vl
      rw [List.find?_cons, decide_eq_false e]
theorem merge_dkv : ∀ (L M : Row), ((M ++ L).map (·.1)).Nodup → mergeK (dkv M) (dkv L) = dkv (M ++ L)
  | [], M, _ => by rw [List.append_nil]; rfl
  | p :: L, M, h => by
    have hp : p.1 ∉ M.map (·.1) := by
      rw [List.map_append, List.map_cons, List.nodup_append] at h
      exact fun z => h.2.2 _ z _ (.head _) rfl
    have hv : valV (dkv M) (.inr p.1) = none := by
      unfold valV dkv
      rw [List.find?_eq_none.mpr fun q hq => ?_]
      · rfl
      · obtain ⟨r, hr, rfl⟩ := List.mem_map.mp hq
        simp only [decide_eq_true_eq]
        intro z
        injection z with z
        exact hp (List.mem_map.mpr ⟨r, hr, z⟩)
    show mergeK (putK (dkv M) (.inr p.1) (.int p.2)) (dkv L) = _
    rw [putK_new _ hv]
    have e : dkv M ++ [(Sum.inr p.1, V.int p.2)] = dkv (M ++ [p]) := by unfold dkv; rw [List.map_append]; rfl
    rw [e, merge_dkv L (M ++ [p]) (by rw [List.append_assoc]; exact h), List.append_assoc]
    rfl
theorem kept_zero {m : Row} {ys : List Str} {k : Str} (h : vl m k = 0) : kept m (ys ++ [k]) = kept m ys := by
  unfold kept
  rw [List.filter_append]
  simp [h]
theorem kept_snoc {m : Row} {ys : List Str} {k : Str} (h : ¬ vl m k = 0) : kept m (ys ++ [k]) = kept m ys ++ [(k, vl m k)] := by
  unfold kept
  rw [List.filter_append, List.map_append]
  simp [h]
theorem paired_imp {α β : Type} {F G : α → β → Prop} (h : ∀ x y, F x y → G x y) : ∀ {xs : List α} {ys : List β}, Paired F xs ys → Paired G xs ys
  | _, _, .nil => .nil
  | _, _, .cons a b => .cons (h _ _ a) (paired_imp h b)
theorem paired_snoc {α β : Type} {F : α → β → Prop} {x : α} {y : β} : ∀ {xs : List α} {ys : List β}, Paired F xs ys → F x y → Paired F (xs ++ [x]) (ys ++ [y])
  | _, _, .nil, k => .cons k .nil
  | _, _, .cons a b, k => .cons a (paired_snoc b k)
def spKept : Sp := fun vs H Q _ => ∃ (d : Addr) (m : Row) (n b : Nat), vs = [.ref d] ∧ H d = some (.dK (dkv m)) ∧ RowOk n b m ∧ n < 60 ∧ ∀ p L H', Ext H H' → H p = none → H' p = some (.dK (dkv L)) → Canon L (vl m) → RowOk n b L → Q (.ref p) H'
theorem rowOk_kept {n b : Nat} {m : Row} {ys : List Str} (h : RowOk n b m) (hp : ys.Perm (m.map (·.1))) (c : Canon (kept m ys) (vl m)) : RowOk n b (kept m ys) := by
  have on : ∀ p, p ∈ kept m ys → p ∈ m := fun p hp' => by
    obtain ⟨e, ne⟩ := c.on p hp'
    have := vl_on h.nd (k := p.1) (by rw [← e]; exact ne)
    rw [← e] at this
    exact this
  refine ⟨fun p hp' => h.nm p (on p hp'), fun p hp' => h.bt p (on p hp'), c.nd, ?_⟩
  unfold kept
  rw [List.length_map]
  refine Nat.le_trans (List.length_filter_le _ _) ?_
  rw [hp.length_eq, List.length_map]
  exact h.few
section
variable {P : Program} {w : World} {K : PySem.W.Frag} {mg : Str → Option Value} {base : Heap} {a : Ad}
theorem B_is_row (T : Txt K mg a) : Binds K a.d_is_row ["value"] [] := T.is_row.F.binds fun _ _ _ _ _ _ us hl => match us, hl with | [_], _ => rfl
theorem ok_is_row (T : Txt K mg a) : FnOk P w K mg base CX0 2 a.is_row a.d_is_row ["value"] spIsRow := by
  have G_is_key := ok_is_key (P := P) (w := w) (base := base) T
  have b_is_key := B_is_key T
  have G_is_integer := ok_is_integer (P := P) (w := w) (base := base) T
  have b_is_integer := B_is_integer T
  refine T.is_row.F.ok sc_is_row (fun vs H Q E h => ?_) (fun cdv A outer s H vs Q E hr h => ?_)
  · obtain ⟨i, m, n, b, rfl, _⟩ := h
    rfl
  · obtain ⟨d, m, n, b, rfl, hd, hm, n60, h⟩ := h
    have few : m.length < 60 := Nat.lt_of_le_of_lt hm.few n60
    refine ⟨_, (pss_cons (ps_if (pt_not (pt_val (pe_callB call_isi (by rfl) T.b_isinstance (by decide +kernel) (pa_cons (pv 0) (pa_cons (pe_bltn (v := .ty "dict") (by rfl) T.b_dict (by decide +kernel) rfl) pa_nil))))) (pss_one (ps_ret pe_bl)) pss_nil)
      (pss_one (ps_ret (pe_callB (cr_all rfl) (by rfl) T.b_all (by decide +kernel) (pa_cons (pe_lock (pe_lc (own := [("key", 1), ("number", 2)]) (g := gTup K 2 (gCons (gName 1) (gCons (gName 2) gNil))) (by rfl) sc_is_row.nd (pi_items (pv 0)) (blkOk_by (N := ["value", "key", "number"]) (sc := defScope s_is_row) (by decide +kernel)) (fun _ _ _ _ _ => (pg_tup rfl (pgs_cons (pg_name (i := 1) sc_is_row.nd rfl (.inl rfl) (.inr rfl)) (pgs_cons (pg_name (i := 2) sc_is_row.nd rfl (.inl rfl) (.inr rfl)) pgs_nil)))) (fun _ _ _ _ _ => pts_nil) (fun _ _ _ _ _ => (pe_and (pe_call G_is_key (hr.mono (by decide)) (by rfl) T.is_key.g T.is_key.F.kp b_is_key .nil pass0 (pa_cons (pv 1) pa_nil)) (pe_one (pe_call G_is_integer (hr.mono (by decide)) (by rfl) T.is_integer.g T.is_integer.F.kp b_is_integer .nil pass0 (pa_cons (pv 2) pa_nil))))))) pa_nil))))), ?_⟩
    refine ⟨_, rfl, _, _, _, _, _, rfl, .ty _, .base (.dK hd), kit_ty (r := true) (by decide +kernel), _, rfl, iteF ?_⟩
    refine ⟨d, _, hd, trivial, fun od => ?_⟩
    have hf : upd H d (.frz od (.dK (dkv m))) d = some (.frz od (.dK (dkv m))) := upd_same
    refine ⟨_, rfl, d, od, dkv m, rfl, hf, fun D hD => ?_⟩
    generalize hH0 : upd H d (.frz od (.dK (dkv m))) = H0 at *
    refine lc_it walk_items (fun i H' => Ext H0 H' ∧ H' D = some (.lst ((List.replicate i true).map V.bl))) ⟨ext_put Ext.rfl' hD, upd_same⟩ (fun i H' _ z => z.1 _ _ hf) ?_ ?_
    · rintro i x0 H' H'' hi ⟨e, h3⟩ ⟨T0, x, y, rfl, hT, rfl, hx, hy⟩
      have hi' : i < m.length := by rw [dkv, List.length_map] at hi; exact hi
      have hm0 : m[i]? = some m[i] := List.getElem?_eq_getElem hi'
      have hk : (dkv m)[i]? = some (.inr m[i].1, .int m[i].2) := by rw [dkv, List.getElem?_map, hm0]; rfl
      dsimp only at hx hy
      rw [hk] at hx hy
      cases hx
      cases hy
      have eT := Ext.upd (o := .tup [.str m[i].1, .int m[i].2]) hT
      refine ⟨T0, _, rfl, SqT.of upd_same, rfl, _, _, rfl, _, _, rfl, rfl, rfl, yes_of ?_⟩
      refine ⟨_, rfl, _, rfl, hm.nm _ (List.getElem_mem hi'), fun H7 e7 => ⟨_, rfl, iteT ⟨_, rfl, _, rfl, ?_⟩⟩⟩
      have h7 := e7 _ _ (eT _ _ h3)
      refine ⟨_, h7, Nat.lt_of_lt_of_le (by rw [List.length_map, List.length_replicate]; exact hi') (Nat.le_trans (Nat.le_of_lt few) (by decide)), ext_put ((e.trans eT).trans e7) hD, ?_⟩
      rw [upd_same, List.replicate_succ']
      simp
    · rintro H' ⟨e, h3⟩
      refine ⟨e _ _ hf, ?_⟩
      have hne : D ≠ d := fun z => by rw [← z] at hf; rw [hD] at hf; cases hf
      refine ⟨D, List.replicate (dkv m).length true, rfl, SqL.of (by rw [upd_ne hne]; exact h3), ?_⟩
      rw [show (List.replicate (dkv m).length true).all id = true by simp]
      subst hH0
      exact h _ (ext_unlock hd e)
theorem B_kept_row (T : Txt K mg a) : Binds K a.d_kept_row ["row"] [] := T.kept_row.F.binds fun _ _ _ _ _ _ us hl => match us, hl with | [_], _ => rfl
theorem ok_kept_row (T : Txt K mg a) : FnOk P w K mg base CX0 1 a.kept_row a.d_kept_row ["row"] spKept := by
  refine T.kept_row.F.ok sc_kept_row (fun vs H Q E h => ?_) (fun cdv A outer s H vs Q E hr h => ?_)
  · obtain ⟨i, m, n, b, rfl, _⟩ := h
    rfl
  · obtain ⟨d, m, n, b, rfl, hd, hm, n60, h⟩ := h
    have few : m.length < 60 := Nat.lt_of_le_of_lt hm.few n60
    refine ⟨_, (pss_one (ps_ret (pe_callTy (call_dictP rfl) (by rfl) T.b_dict (by decide +kernel) (pa_cons (pe_lc (own := [("key", 1)]) (g := gName 1) (by rfl) sc_kept_row.nd (pi_list (pe_callB (call_sortedD rfl) (by rfl) T.b_sorted (by decide +kernel) (pa_cons (pv 0) pa_nil))) (blkOk_by (N := ["row", "key"]) (sc := defScope s_kept_row) (by decide +kernel)) (fun _ _ _ _ _ => (pg_name (i := 1) sc_kept_row.nd rfl (.inl rfl) (.inr rfl))) (fun _ _ _ _ _ => pts_one (pt_cmpR op_ne (pe_dget (hu_of hr) (pv 0) (pv 1) (fun _ _ => rfl)) pe_int (nomark _))) (fun _ _ _ _ _ => (pe_tup (pa_cons (pv 1) (pa_cons (pe_dget (hu_of hr) (pv 0) (pv 1) (fun _ _ => rfl)) pa_nil))))) pa_nil)))), ?_⟩
    refine ⟨_, rfl, d, dkv m, m.map (·.1), rfl, .inl hd, (by rw [dkv, List.map_map, List.map_map]; rfl), (by rw [List.length_map]; exact Nat.lt_trans few (by decide)), fun ys p perm srt hp => ?_⟩
    refine ⟨p, rfl, ⟨_, SqL.of upd_same⟩, fun D hD => ?_⟩
    have e1 := Ext.upd (o := .lst (ys.map V.str)) hp
    have hp1 : upd H p (.lst (ys.map V.str)) p = some (.lst (ys.map V.str)) := upd_same
    have hd1 := e1 _ _ hd
    generalize upd H p (.lst (ys.map V.str)) = H1 at *
    refine lc_list (xs := ys.map V.str) (fun i H' => Ext H1 H' ∧ ∃ ts : List Addr, H' D = some (.lst (ts.map V.ref)) ∧ ts.length ≤ i ∧ Paired (fun t kv => H' t = some (.tup [kV kv.1, kv.2])) ts (dkv (kept m (ys.take i)))) ⟨ext_put Ext.rfl' hD, [], upd_same, Nat.le_refl _, .nil⟩ (fun i H' _ z => SqL.of (z.1 _ _ hp1)) ?_ ?_
    · rintro i x H' hx ⟨e, ts, hts, hl, hpr⟩
      rw [List.getElem?_map] at hx
      obtain ⟨k, hk, rfl⟩ := Option.map_eq_some_iff.mp hx
      have km : k ∈ m.map (·.1) := perm.mem_iff.mp (List.mem_of_getElem? hk)
      have hi : i < 60 := by
        have := (List.getElem?_eq_some_iff.mp hk).1
        rw [perm.length_eq, List.length_map] at this
        exact Nat.lt_trans this few
      have dg : ∀ H2, Ext H1 H2 → DGet H2 d (.str k) (some (.int (vl m k))) := fun H2 e2 => .inl ⟨dkv m, .inr k, .inl (e2 _ _ hd1), rfl, (valV_dkv (m := m) km).symm⟩
      refine ⟨rfl, _, rfl, _, rfl, d, _, rfl, dg H' e, rfl, ?_⟩
      have et : ys.take (i + 1) = ys.take i ++ [k] := by rw [List.take_add_one, hk]; rfl
      by_cases hv : vl m k = 0
      · refine ⟨false, congrArg V.bl (by rw [hv]; rfl), iteF ⟨e, ts, hts, by omega, ?_⟩⟩
        rw [et, kept_zero hv]
        exact hpr
      · refine ⟨true, congrArg V.bl (by simp [hv]), iteT ?_⟩
        refine ⟨_, rfl, _, rfl, _, rfl, d, _, rfl, dg H' e, (by show 2 ≤ sizeLine; decide), fun t ht => ?_⟩
        have eT := Ext.upd (o := .tup [.str k, .int (vl m k)]) ht
        have hts' := eT _ _ hts
        refine ⟨_, hts', Nat.lt_of_lt_of_le (m := 60) (by rw [List.length_map]; omega) (by decide), ext_put (e.trans eT) hD, ts ++ [t], ?_, by rw [List.length_append]; show ts.length + 1 ≤ _; omega, ?_⟩
        · rw [upd_same, List.map_append]
          rfl
        · rw [et, kept_snoc hv]
          unfold dkv
          rw [List.map_append]
          refine paired_snoc (paired_imp (fun t' kv ht' => ?_) hpr) ?_
          · rw [upd_ne (ne_of (eT _ _ ht') hts' (fun z => nomatch z))]
            exact eT _ _ ht'
          · rw [upd_ne (ne_of (upd_same (H := H')) hts' (fun z => nomatch z))]
            exact upd_same
    · rintro H' ⟨e, ts, hts, hl, hpr⟩
      rw [List.length_map, List.take_length] at hpr
      have c := canon_kept hm.nd perm (sorted_pw srt)
      refine ⟨D, ts, dkv (kept m ys), rfl, SqL.of hts, paired_imp (fun t kv ht => SqT.of ht) hpr, fun q hq => ?_⟩
      have em := merge_dkv (kept m ys) [] (by rw [List.nil_append]; exact c.nd)
      rw [List.nil_append] at em
      have em' : mergeK [] (dkv (kept m ys)) = dkv (kept m ys) := em
      rw [em']
      refine h q _ _ ((e1.trans e).trans (Ext.upd hq)) ?_ upd_same c (rowOk_kept hm perm c)
      cases hz : H q with
      | none => rfl
      | some o =>
        rw [(e1.trans e) _ _ hz] at hq
        cases hq
end
end P

namespace P
open PySem L2 NS

/-! ### tables -/
/-- the dict at d holds the row of f, in order and without zeros -/
def IsC (n b : Nat) (H : Hp) (d : Addr) (f : Str → Int) : Prop := ∃ L, H d = some (.dK (dkv L)) ∧ Canon L f ∧ RowOk n b L
def IsTab (n b : Nat) (C : Addr) (H : Hp) (v : V) (f : Str → Int) : Prop := ∃ p dx d, v = .ref p ∧ H p = some (.ins C dx [("own_counts", .ref d)]) ∧ IsC n b H d f
theorem IsC.ext {n b : Nat} {H H' : Hp} {d : Addr} {f : Str → Int} (h : IsC n b H d f) (e : Ext H H') : IsC n b H' d f := by
  obtain ⟨L, hd, c⟩ := h
  exact ⟨L, e _ _ hd, c⟩
theorem IsTab.ext {n b : Nat} {C : Addr} {H H' : Hp} {v : V} {f : Str → Int} (h : IsTab n b C H v f) (e : Ext H H') : IsTab n b C H' v f := by
  obtain ⟨p, dx, d, rfl, hp, hd⟩ := h
  exact ⟨p, dx, d, rfl, e _ _ hp, hd.ext e⟩
theorem vl_nil (k : Str) : vl [] k = 0 := rfl
theorem rowOk_nil {n b : Nat} : RowOk n b [] := ⟨fun p h => (by cases h), fun p h => (by cases h), List.nodup_nil, Nat.zero_le _⟩
/-- what Table(c) is made of -/
def Made (n b : Nat) (H : Hp) (c : V) (f : Str → Int) : Prop := (c = .non ∧ f = fun _ => 0) ∨ ∃ d m, c = .ref d ∧ H d = some (.dK (dkv m)) ∧ RowOk n b m ∧ f = vl m
def spInitT (C : Addr) : Sp := fun vs H Q _ => ∃ p dx c f n b, vs = [.ref p, c] ∧ H p = some (.ins C dx []) ∧ Made n b H c f ∧ n < 60 ∧ ∀ H' d, H d = none → (∀ b o, H b = some o → b ≠ p → H' b = some o) → H' p = some (.ins C dx [("own_counts", .ref d)]) → IsC n b H' d f → Q .non H'
theorem made_tab {n b : Nat} {C x dx d : Addr} {H H' : Hp} {f : Str → Int} (hx : H x = none) (hd : H dx = none) (keep : ∀ c o, upd (upd H dx (.own x)) x (.ins C dx []) c = some o → c ≠ x → H' c = some o)
    (hp : H' x = some (.ins C dx [("own_counts", .ref d)])) (c : IsC n b H' d f) : Ext H H' ∧ IsTab n b C H' (.ref x) f := by
  refine ⟨fun c o e => keep c o ?_ (ne_of_none e hx), x, dx, d, rfl, hp, c⟩
  rw [upd_ne (ne_of_none e hx), upd_ne (ne_of_none e hd)]
  exact e
theorem Made.ext {n b : Nat} {H H' : Hp} {c : V} {f : Str → Int} (h : Made n b H c f) (e : Ext H H') : Made n b H' c f := by
  rcases h with h | ⟨d, m, hc, hd, z⟩
  · exact .inl h
  · exact .inr ⟨d, m, hc, e _ _ hd, z⟩
/-- the dict of the Table at v was not there in H -/
def New (C : Addr) (H H' : Hp) (v : V) : Prop := ∀ p dx d, v = .ref p → H' p = some (.ins C dx [("own_counts", .ref d)]) → H d = none
/-- a new Table: what is asked of C(c) -/
theorem rd_TableN {n b : Nat} {C : Addr} {H : Hp} {c : V} {f : Str → Int} {Q : VK} (hm : Made n b H c f) (n60 : n < 60) (k : ∀ v H', Ext H H' → IsTab n b C H' v f → New C H H' v → Q v H') :
    ∀ x dx, H x = none → H dx = none → dx ≠ x → spInitT C [.ref x, c] (upd (upd H dx (.own x)) x (.ins C dx [])) (fun v H2 => v = .non ∧ Q (.ref x) H2) E0 := by
  intro x dx hx hd ne
  have e1 : Ext H (upd (upd H dx (.own x)) x (.ins C dx [])) := fun b o hb => by
    rw [upd_ne (ne_of_none hb hx), upd_ne (ne_of_none hb hd)]
    exact hb
  refine ⟨x, dx, c, f, n, b, rfl, upd_same, hm.ext e1, n60, fun H' d nd keep hp hc => ⟨rfl, ?_⟩⟩
  obtain ⟨e, t⟩ := made_tab hx hd keep hp hc
  refine k _ _ e t fun p dx' d' hv hp' => ?_
  cases hv
  rw [hp] at hp'
  cases hp'
  cases z : H d with
  | none => rfl
  | some o =>
    rw [e1 _ _ z] at nd
    cases nd
theorem rd_Table {n b : Nat} {C : Addr} {H : Hp} {c : V} {f : Str → Int} {Q : VK} (hm : Made n b H c f) (n60 : n < 60) (k : ∀ v H', Ext H H' → IsTab n b C H' v f → Q v H') :
    ∀ x dx, H x = none → H dx = none → dx ≠ x → spInitT C [.ref x, c] (upd (upd H dx (.own x)) x (.ins C dx [])) (fun v H2 => v = .non ∧ Q (.ref x) H2) E0 :=
  rd_TableN hm n60 fun v H' e t _ => k v H' e t
section
variable {P : Program} {w : World} {K : PySem.W.Frag} {mg : Str → Option Value} {base : Heap} {a : Ad}
theorem B_Table1 (T : Txt K mg a) : Binds K a.d_Table_init ["self", "counts"] [] := by
  obtain ⟨ds, v, b⟩ := T.Table_init.F.binds1 (ps := ["self", "counts"]) 2 1 (by decide) rfl fun T kV doc pm an cdv ct us its h1 h2 => match us, its, h1, h2 with
    | [_, _], [_], _, _ => ⟨_, rfl, rfl⟩
  cases v
  exact b
theorem B_Table0 (T : Txt K mg a) : ∃ ds, Vals [.non] ds ∧ Binds K a.d_Table_init ["self", "counts"] ds :=
  T.Table_init.F.binds1 (ps := ["self", "counts"]) 1 0 (by decide) rfl fun T kV doc pm an cdv ct us its h1 h2 => match us, its, h1, h2 with
    | [_], [_], _, _ => ⟨_, rfl, rfl⟩
theorem Mk_Table (T : Txt K mg a) : Mk K a.Table a.Table_init := ⟨T.Table.mks, T.Table_init.at_, T.Table_init.fn, T.Table.kp⟩
theorem ok_Table_init (T : Txt K mg a) : FnOk P w K mg base CX0 3 a.Table_init a.d_Table_init ["self", "counts"] (spInitT a.Table) := by
  have G_is_row := ok_is_row (P := P) (w := w) (base := base) T
  have b_is_row := B_is_row T
  have G_kept_row := ok_kept_row (P := P) (w := w) (base := base) T
  have b_kept_row := B_kept_row T
  refine T.Table_init.F.ok sc_Table_init (fun vs H Q E h => ?_) (fun cdv A outer s H vs Q E hr h => ?_)
  · obtain ⟨p, dx, c, f, n, b, rfl, _⟩ := h
    rfl
  · obtain ⟨p, dx, c, f, n, b, rfl, hp, hm, n60, h⟩ := h
    refine ⟨_, PSs.nox (pss_cons (ps_if (PW.pt (pw_and (pt_cmpR op_notN (pv 1) pe_non (nomark _)) (pw_and1 (pt_not (pt_val (pe_call G_is_row (hr.mono (by decide)) (by rfl) T.is_row.g T.is_row.F.kp b_is_row .nil pass0 (pa_cons (pv 1) pa_nil))))))) (pss_one ps_never) pss_nil)
      (pss_one (ps_fld (pv 0) (pe_call G_kept_row (hr.mono (by decide)) (by rfl) T.kept_row.g T.kept_row.F.kp b_kept_row .nil pass0 (pa_cons (pe_ifExp (pt_cmpR op_isN (pv 1) pe_non (nomark _)) pe_dnewK (pv 1)) pa_nil)) rfl))), ?_⟩
    -- the store, from the kept row on
    have fin : ∀ (d : Addr) (m : Row) (H1 : Hp), (∀ b o, H b = some o → H1 b = some o) → H1 d = some (.dK (dkv m)) → RowOk n b m → f = vl m →
        spKept [.ref d] H1 (fun y H2 => tVar 0 [some (.ref p), some c] H2 fun x H3 => ∃ a' C dx fs, x = .ref a' ∧ H3 a' = some (.ins C dx fs) ∧ Cls K C ∧ NoAttr K C "own_counts" ∧ fs.length < 1000 ∧ Q .non (upd H3 a' (.ins C dx (putF "own_counts" y fs)))) E0 := by
      intro d m H1 e1 hd ok ef
      refine ⟨d, m, n, b, rfl, hd, ok, n60, fun q L H2 e2 hq0 hq c ok' => ⟨_, rfl, p, _, dx, _, rfl, e2 _ _ (e1 _ _ hp), T.Table.cls, T.no_Table_own_counts, (by show 0 < 1000; decide), ?_⟩⟩
      have hpq : q ≠ p := fun z => by
        rw [z, e1 _ _ hp] at hq0
        cases hq0
      refine h _ q ?_ (fun b o hb hne => ?_) ?_ ⟨L, ?_, ?_, ok'⟩
      · cases z : H q with
        | none => rfl
        | some o =>
          rw [e1 _ _ z] at hq0
          cases hq0
      · rw [upd_ne hne]
        exact e2 _ _ (e1 _ _ hb)
      · rw [upd_same]
        rfl
      · rw [upd_ne hpq]
        exact hq
      · rw [ef]
        exact c
    rcases hm with ⟨rfl, rfl⟩ | ⟨d, m, rfl, hd, ok, rfl⟩
    · refine ⟨_, rfl, rfl, _, rfl, iteF (iteF ?_)⟩
      refine ⟨_, rfl, rfl, _, rfl, iteT fun q hq => ?_⟩
      exact fin q [] _ (Ext.upd hq) upd_same rowOk_nil rfl
    · refine ⟨_, rfl, rfl, _, rfl, iteT ?_⟩
      refine ⟨_, rfl, d, m, n, b, rfl, hd, ok, n60, fun H1 e1 => ⟨_, rfl, iteF ?_⟩⟩
      refine ⟨_, rfl, rfl, _, rfl, iteF ⟨_, rfl, ?_⟩⟩
      exact fin d m H1 e1 (e1 _ _ hd) ok rfl
end
end P

namespace P
open PySem L2 NS

/-! ### what a table tells -/
theorem valV_none {L : Row} {k : Str} (h : k ∉ L.map (·.1)) : valV (dkv L) (.inr k) = none := by
  unfold valV dkv
  rw [List.find?_eq_none.mpr fun q hq => ?_]
  · rfl
  · obtain ⟨r, hr, rfl⟩ := List.mem_map.mp hq
    simp only [decide_eq_true_eq]
    intro z
    injection z with z
    exact h (List.mem_map.mpr ⟨r, hr, z⟩)
theorem get_dkv (L : Row) (k : Str) : (valV (dkv L) (.inr k)).getD (.int 0) = .int (vl L k) := by
  by_cases h : k ∈ L.map (·.1)
  · rw [valV_dkv (m := L) h]
    rfl
  · rw [valV_none h, vl_off h]
    rfl
def spWantT (C : Addr) : Sp := fun vs H Q _ => ∃ v f n b, vs = [v] ∧ IsTab n b C H v f ∧ Q .non H
def spAt (C : Addr) : Sp := fun vs H Q _ => ∃ v k f n b, vs = [v, .str k] ∧ IsTab n b C H v f ∧ Nm k ∧ ∀ H', Ext H H' → Q (.int (f k)) H'
def spUsed (C : Addr) : Sp := fun vs H Q _ => ∃ v f n b, vs = [v] ∧ IsTab n b C H v f ∧ ∀ p L H', Ext H H' → H p = none → H' p = some (.lst (L.map fun q => .str q.1)) → Canon L f → RowOk n b L → Q (.ref p) H'
def spCounts (C : Addr) : Sp := fun vs H Q _ => ∃ v f n b, vs = [v] ∧ IsTab n b C H v f ∧ ∀ p L H', Ext H H' → H p = none → H' p = some (.dK (dkv L)) → Canon L f → RowOk n b L → Q (.ref p) H'
def spLen (C : Addr) : Sp := fun vs H Q _ => ∃ v f n b, vs = [v] ∧ IsTab n b C H v f ∧ ∀ L, Canon L f → Q (.int (L.length : Nat)) H
def spPlain (C : Addr) : Sp := fun vs H Q _ => ∃ v f n b, vs = [v] ∧ IsTab n b C H v f ∧ n < 60 ∧ ∀ L H', Ext H H' → Canon L f → Q (.bl (L.all fun q => decide (0 < q.2))) H'
section
variable {P : Program} {w : World} {K : PySem.W.Frag} {mg : Str → Option Value} {base : Heap} {a : Ad}
theorem B_want_table (T : Txt K mg a) : Binds K a.d_want_table ["value"] [] := T.want_table.F.binds fun _ _ _ _ _ _ us hl => match us, hl with | [_], _ => rfl
theorem ok_want_table (T : Txt K mg a) : FnOk P w K mg base CX0 1 a.want_table a.d_want_table ["value"] (spWantT a.Table) := by
  refine T.want_table.F.ok sc_want_table (fun vs H Q E h => ?_) (fun cdv A outer s H vs Q E hr h => ?_)
  · obtain ⟨v, f, n, b, rfl, _⟩ := h
    rfl
  · obtain ⟨v, f, n, b, rfl, ⟨p, dx, d, rfl, hp, _⟩, h⟩ := h
    refine ⟨_, PSs.nox (pss_one (ps_if (pt_not (pt_val (pe_callB call_isi (by rfl) T.b_isinstance (by decide +kernel) (pa_cons (pv 0) (pa_cons (pe_glob (v := .ref a.Table) (by rfl) T.Table.g rfl) pa_nil))))) (pss_one ps_never) pss_nil)), ?_⟩
    exact ⟨_, rfl, _, _, _, _, _, rfl, .own _, T.Table.ty hp, T.Table.k_own, _, rfl, iteF h⟩
theorem B_Table_at (T : Txt K mg a) : Binds K a.d_Table_at ["self", "key"] [] := T.Table_at.F.binds fun _ _ _ _ _ _ us hl => match us, hl with | [_, _], _ => rfl
theorem ok_Table_at (T : Txt K mg a) : FnOk P w K mg base CX0 2 a.Table_at a.d_Table_at ["self", "key"] (spAt a.Table) := by
  have G_is_key := ok_is_key (P := P) (w := w) (base := base) T
  have b_is_key := B_is_key T
  refine T.Table_at.F.ok sc_Table_at (fun vs H Q E h => ?_) (fun cdv A outer s H vs Q E hr h => ?_)
  · obtain ⟨v, k, f, n, b, rfl, _⟩ := h
    rfl
  · obtain ⟨v, k, f, n, b, rfl, ⟨p, dx, d, rfl, hp, L, hd, c, ok⟩, hk, h⟩ := h
    refine ⟨_, PSs.nox (pss_cons (ps_if (pt_not (pt_val (pe_call G_is_key (hr.mono (by decide)) (by rfl) T.is_key.g T.is_key.F.kp b_is_key .nil pass0 (pa_cons (pv 1) pa_nil)))) (pss_one ps_never) pss_nil)
      (pss_one (ps_ret (pe_dget2 (hu_of hr) (pe_fld (pv 0) rfl) (pv 1) pe_int ⟨rfl, rfl, rfl, rfl⟩)))), ?_⟩
    refine ⟨_, rfl, k, rfl, hk, fun H1 e1 => ⟨_, rfl, iteF ?_⟩⟩
    refine ⟨_, rfl, p, _, dx, _, _, rfl, e1 _ _ hp, T.Table.cls, T.no_Table_own_counts, rfl, d, rfl, .inl ⟨_, .inl (e1 _ _ hd)⟩, _, rfl, _, .inl ⟨dkv L, .inr k, .inl (e1 _ _ hd), rfl, rfl⟩, ?_⟩
    rw [get_dkv, c.vl]
    exact h H1 e1
theorem B_Table_used_keys (T : Txt K mg a) : Binds K a.d_Table_used_keys ["self"] [] := T.Table_used_keys.F.binds fun _ _ _ _ _ _ us hl => match us, hl with | [_], _ => rfl
theorem ok_Table_used_keys (T : Txt K mg a) : FnOk P w K mg base CX0 1 a.Table_used_keys a.d_Table_used_keys ["self"] (spUsed a.Table) := by
  refine T.Table_used_keys.F.ok sc_Table_used_keys (fun vs H Q E h => ?_) (fun cdv A outer s H vs Q E hr h => ?_)
  · obtain ⟨v, f, n, b, rfl, _⟩ := h
    rfl
  · obtain ⟨v, f, n, b, rfl, ⟨p, dx, d, rfl, hp, L, hd, c, ok⟩, h⟩ := h
    refine ⟨_, (pss_one (ps_ret (pe_callTy (call_listD rfl) (by rfl) T.b_list (by decide +kernel) (pa_cons (pe_fld (pv 0) rfl) pa_nil)))), ?_⟩
    refine ⟨_, rfl, p, _, dx, _, _, rfl, hp, T.Table.cls, T.no_Table_own_counts, rfl, d, dkv L, rfl, .inl hd, fun q hq => ?_⟩
    refine h q L _ (Ext.upd hq) hq ?_ c ok
    rw [upd_same]
    unfold dkv
    rw [List.map_map]
    rfl
theorem B_Table_counts (T : Txt K mg a) : Binds K a.d_Table_counts ["self"] [] := T.Table_counts.F.binds fun _ _ _ _ _ _ us hl => match us, hl with | [_], _ => rfl
theorem ok_Table_counts (T : Txt K mg a) : FnOk P w K mg base CX0 1 a.Table_counts a.d_Table_counts ["self"] (spCounts a.Table) := by
  refine T.Table_counts.F.ok sc_Table_counts (fun vs H Q E h => ?_) (fun cdv A outer s H vs Q E hr h => ?_)
  · obtain ⟨v, f, n, b, rfl, _⟩ := h
    rfl
  · obtain ⟨v, f, n, b, rfl, ⟨p, dx, d, rfl, hp, L, hd, c, ok⟩, h⟩ := h
    refine ⟨_, (pss_one (ps_ret (pe_callTy call_dictD (by rfl) T.b_dict (by decide +kernel) (pa_cons (pe_fld (pv 0) rfl) pa_nil)))), ?_⟩
    exact ⟨_, rfl, p, _, dx, _, _, rfl, hp, T.Table.cls, T.no_Table_own_counts, rfl, d, dkv L, rfl, .inl hd, fun q hq => h q L _ (Ext.upd hq) hq upd_same c ok⟩
theorem B_Table_len (T : Txt K mg a) : Binds K a.d_Table_len ["self"] [] := T.Table_len.F.binds fun _ _ _ _ _ _ us hl => match us, hl with | [_], _ => rfl
theorem ok_Table_len (T : Txt K mg a) : FnOk P w K mg base CX0 1 a.Table_len a.d_Table_len ["self"] (spLen a.Table) := by
  refine T.Table_len.F.ok sc_Table_len (fun vs H Q E h => ?_) (fun cdv A outer s H vs Q E hr h => ?_)
  · obtain ⟨v, f, n, b, rfl, _⟩ := h
    rfl
  · obtain ⟨v, f, n, b, rfl, ⟨p, dx, d, rfl, hp, L, hd, c, ok⟩, h⟩ := h
    refine ⟨_, (pss_one (ps_ret (pe_callB call_lenD (by rfl) T.b_len (by decide +kernel) (pa_cons (pe_fld (pv 0) rfl) pa_nil)))), ?_⟩
    refine ⟨_, rfl, p, _, dx, _, _, rfl, hp, T.Table.cls, T.no_Table_own_counts, rfl, d, dkv L, rfl, hd, ?_⟩
    have := h L c
    rw [show (dkv L).length = L.length from List.length_map ..]
    exact this
end
end P

namespace P
open PySem L2 NS

/-! ### in, ==, is_plain -/
theorem sub_back {α : Type} [DecidableEq α] : ∀ {l r : List α}, l.Nodup → (∀ x, x ∈ l → x ∈ r) → r.length ≤ l.length → ∀ x, x ∈ r → x ∈ l
  | [], r, _, _, hl, x, hx => by
    have e : r = [] := List.length_eq_zero_iff.mp (Nat.le_zero.mp hl)
    rw [e] at hx
    exact hx
  | y :: l, r, nd, hs, hl, x, hx => by
    rw [List.nodup_cons] at nd
    by_cases e : x = y
    · rw [e]
      exact .head _
    · refine .tail _ (sub_back (r := r.erase y) nd.2 (fun z hz => ?_) ?_ x ?_)
      · have hzy : z ≠ y := fun z' => nd.1 (by rw [← z']; exact hz)
        exact (List.mem_erase_of_ne hzy).mpr (hs z (.tail _ hz))
      · rw [List.length_erase_of_mem (hs y (.head _))]
        rw [List.length_cons] at hl
        omega
      · exact (List.mem_erase_of_ne e).mpr hx
theorem same_iff {L R : Row} {f g : Str → Int} (hl : Canon L f) (hr : Canon R g) : sameK (dkv L) (dkv R) = true ↔ f = g := by
  have hit : ∀ p : Str × Int, ((valV (dkv R) (.inr p.1)).map (eqV (.int p.2))).getD false = true ↔ p ∈ R := by
    intro p
    by_cases hk : p.1 ∈ R.map (·.1)
    · rw [valV_dkv (m := R) hk]
      show (p.2 == vl R p.1) = true ↔ _
      rw [beq_iff_eq]
      constructor
      · intro e
        obtain ⟨q, hq, e1⟩ := List.mem_map.mp hk
        have := vl_mem hr.nd hq
        rw [e1, ← e] at this
        have e2 : p = q := Prod.ext e1.symm this
        rw [e2]
        exact hq
      · intro hp
        exact (vl_mem hr.nd hp).symm
    · rw [valV_none hk]
      constructor
      · intro z
        exact absurd z (by simp)
      · intro hp
        exact absurd (List.mem_map.mpr ⟨p, hp, rfl⟩) hk
  constructor
  · intro h
    unfold sameK at h
    rw [Bool.and_eq_true_iff, beq_iff_eq, List.all_eq_true] at h
    obtain ⟨h1, h2⟩ := h
    have hsub : ∀ p, p ∈ L → p ∈ R := fun p hp => (hit p).mp (h2 (.inr p.1, .int p.2) (List.mem_map.mpr ⟨p, hp, rfl⟩))
    have hlen : R.length ≤ L.length := by
      unfold dkv at h1
      rw [List.length_map, List.length_map] at h1
      omega
    have nl : L.Nodup := (List.pairwise_map.mp hl.nd).imp fun h z => h (by rw [z])
    have hback := sub_back nl hsub hlen
    have e : L = R := sorted_same hl.so hr.so hl.nd hr.nd fun p => ⟨hsub p, hback p⟩
    funext k
    rw [← hl.vl k, ← hr.vl k, e]
  · intro e
    subst e
    have e := hl.same hr
    subst e
    unfold sameK
    rw [Bool.and_eq_true_iff, beq_iff_eq, List.all_eq_true]
    refine ⟨rfl, fun q hq => ?_⟩
    obtain ⟨p, hp, rfl⟩ := List.mem_map.mp hq
    exact (hit p).mpr hp
theorem flat_dkv {L : Row} : ∀ p, p ∈ dkv L → flatV p.2 = true := fun p hp => by
  obtain ⟨q, _, rfl⟩ := List.mem_map.mp hp
  rfl
theorem flat_val {L : Row} : ∀ k v, valV (dkv L) k = some v → flatV v = true := fun k v h => by
  unfold valV at h
  obtain ⟨p, hp, rfl⟩ := Option.map_eq_some_iff.mp h
  exact flat_dkv p (List.mem_of_find?_eq_some hp)
/-- what is no text -/
def NoStr (K : PySem.W.Frag) (H : Hp) (x : V) : Prop := ∃ t, TyX K H x t ∧ PySem.W.kitOne K t (.type "str") = some false
def spHas (K : PySem.W.Frag) (C : Addr) : Sp := fun vs H Q _ => ∃ v x f n b, vs = [v, x] ∧ IsTab n b C H v f ∧ ((∃ k, x = .str k ∧ Q (.bl (decide (f k ≠ 0))) H) ∨ (NoStr K H x ∧ Q (.bl false) H))
def spEqT (C : Addr) : Sp := fun vs H Q _ => ∃ v x f n b, vs = [v, x] ∧ IsTab n b C H v f ∧ ((∃ g n' b', IsTab n' b' C H x g ∧ ∀ r : Bool, (r = true ↔ f = g) → Q (.bl r) H) ∨
  (((∃ s, x = .str s) ∨ ∃ d kvs, x = .ref d ∧ H d = some (.dK kvs)) ∧ Q (.bl false) H))
section
variable {P : Program} {w : World} {K : PySem.W.Frag} {mg : Str → Option Value} {base : Heap} {a : Ad}
theorem B_Table_contains (T : Txt K mg a) : Binds K a.d_Table_contains ["self", "key"] [] := T.Table_contains.F.binds fun _ _ _ _ _ _ us hl => match us, hl with | [_, _], _ => rfl
theorem ok_Table_contains (T : Txt K mg a) : FnOk P w K mg base CX0 1 a.Table_contains a.d_Table_contains ["self", "key"] (spHas K a.Table) := by
  refine T.Table_contains.F.ok sc_Table_contains (fun vs H Q E h => ?_) (fun cdv A outer s H vs Q E hr h => ?_)
  · obtain ⟨v, x, f, n, b, rfl, _⟩ := h
    rfl
  · obtain ⟨v, x, f, n, b, rfl, ⟨p, dx, d, rfl, hp, L, hd, c, ok⟩, h⟩ := h
    refine ⟨_, (pss_one (ps_ret (pe_and (pe_callB call_isi (by rfl) T.b_isinstance (by decide +kernel) (pa_cons (pv 1) (pa_cons (pe_bltn (v := .ty "str") (by rfl) T.b_str (by decide +kernel) rfl) pa_nil))) (pe_one (pe_cmp (pc_din (hu_of hr) (pv 1) (pe_fld (pv 0) rfl))))))), ?_⟩
    rcases h with ⟨k, rfl, h⟩ | ⟨⟨t, ht, hk⟩, h⟩
    · refine ⟨_, rfl, _, _, _, _, _, rfl, .ty _, ty_str k, kit_ty (r := true) (by decide +kernel), _, rfl, iteT ?_⟩
      refine ⟨_, rfl, _, rfl, p, _, dx, _, _, rfl, hp, T.Table.cls, T.no_Table_own_counts, rfl, d, _, rfl, .inl ⟨dkv L, .inr k, .inl hd, rfl, rfl⟩, ?_⟩
      have e : (valV (dkv L) (.inr k)).isSome = decide (f k ≠ 0) := by
        by_cases hk : k ∈ L.map (·.1)
        · rw [valV_dkv (m := L) hk]
          obtain ⟨q, hq, rfl⟩ := List.mem_map.mp hk
          obtain ⟨e1, e2⟩ := c.on q hq
          rw [← e1]
          simp [e2]
        · rw [valV_none hk, ← c.vl, vl_off hk]
          rfl
      rw [e]
      exact h
    · exact ⟨_, rfl, _, _, _, _, _, rfl, .ty _, ht, hk, _, rfl, iteF h⟩
theorem B_Table_eq (T : Txt K mg a) : Binds K a.d_Table_eq ["self", "other"] [] := T.Table_eq.F.binds fun _ _ _ _ _ _ us hl => match us, hl with | [_, _], _ => rfl
theorem ok_Table_eq (T : Txt K mg a) : FnOk P w K mg base CX0 1 a.Table_eq a.d_Table_eq ["self", "other"] (spEqT a.Table) := by
  refine T.Table_eq.F.ok sc_Table_eq (fun vs H Q E h => ?_) (fun cdv A outer s H vs Q E hr h => ?_)
  · obtain ⟨v, x, f, n, b, rfl, _⟩ := h
    rfl
  · obtain ⟨v, x, f, n, b, rfl, ⟨p, dx, d, rfl, hp, L, hd, c, ok⟩, h⟩ := h
    refine ⟨_, (pss_one (ps_ret (pe_and (pe_callB call_isi (by rfl) T.b_isinstance (by decide +kernel) (pa_cons (pv 1) (pa_cons (pe_glob (v := .ref a.Table) (by rfl) T.Table.g rfl) pa_nil))) (pe_one (pe_cmpR (op_eqKK hr.units0) (pe_fld (pv 0) rfl) (pe_fld (pv 1) rfl) (nomark _)))))), ?_⟩
    rcases h with ⟨g, n', b', ⟨p', dx', d', rfl, hp', L', hd', c', ok'⟩, h⟩ | ⟨h2, h⟩
    · refine ⟨_, rfl, _, _, _, _, _, rfl, .own _, T.Table.ty hp', T.Table.k_own, _, rfl, iteT ?_⟩
      refine ⟨_, rfl, p, _, dx, _, _, rfl, hp, T.Table.cls, T.no_Table_own_counts, rfl, _, rfl, p', _, dx', _, _, rfl, hp', T.Table.cls, T.no_Table_own_counts, rfl, d, d', dkv L, dkv L', rfl, rfl, hd, hd', flat_dkv, flat_val, ?_⟩
      exact h _ (same_iff c c')
    · rcases h2 with ⟨x, rfl⟩ | ⟨b, xs, rfl, hb⟩
      · exact ⟨_, rfl, _, _, _, _, _, rfl, .own _, ty_str x, T.Table.k_str, _, rfl, iteF h⟩
      · exact ⟨_, rfl, _, _, _, _, _, rfl, .own _, .base (.dK hb), T.k_dict, _, rfl, iteF h⟩
end
end P

namespace P
open PySem L2 NS

/-! ### times, the negative -/
theorem vl_map {L : Row} {k : Str} {g : Int → Int} (h0 : g 0 = 0) : vl (L.map fun q => (q.1, g q.2)) k = g (vl L k) := by
  unfold vl
  rw [List.find?_map]
  show ((Option.map _ (L.find? fun q => decide (q.1 = k))).map _).getD 0 = _
  cases L.find? fun q => decide (q.1 = k) with
  | none => exact h0.symm
  | some q => rfl
def spTimes (C : Addr) : Sp := fun vs H Q _ => ∃ v i f n b c, vs = [v, .int i] ∧ IsTab n b C H v f ∧ n < 60 ∧ Bt c i ∧ b + c ≤ 1000 ∧ ∀ v' H', Ext H H' → IsTab n (b + c) C H' v' (fun k => f k * i) → Q v' H'
def spNegT (C : Addr) : Sp := fun vs H Q _ => ∃ v f n b, vs = [v] ∧ IsTab n b C H v f ∧ n < 60 ∧ ∀ v' H', Ext H H' → IsTab n b C H' v' (fun k => -f k) → Q v' H'
section
variable {P : Program} {w : World} {K : PySem.W.Frag} {mg : Str → Option Value} {base : Heap} {a : Ad}
theorem B_Table_times (T : Txt K mg a) : Binds K a.d_Table_times ["self", "many"] [] := T.Table_times.F.binds fun _ _ _ _ _ _ us hl => match us, hl with | [_, _], _ => rfl
theorem ok_Table_times (T : Txt K mg a) : FnOk P w K mg base CX0 5 a.Table_times a.d_Table_times ["self", "many"] (spTimes a.Table) := by
  have G_is_integer := ok_is_integer (P := P) (w := w) (base := base) T
  have b_is_integer := B_is_integer T
  have G_Table_init := ok_Table_init (P := P) (w := w) (base := base) T
  have M_Table := Mk_Table T
  have b_Table1 := B_Table1 T
  refine T.Table_times.F.ok sc_Table_times (fun vs H Q E h => ?_) (fun cdv A outer s H vs Q E hr h => ?_)
  · obtain ⟨v, i, f, n, b, c, rfl, _⟩ := h
    rfl
  · obtain ⟨v, z0, f, n, b, c0, rfl, ⟨p, dx, d, rfl, hp, L, hd, c, ok⟩, n60, zi, hbc, h⟩ := h
    refine ⟨_, PSs.nox (pss_cons (ps_if (pt_not (pt_val (pe_call G_is_integer (hr.mono (by decide)) (by rfl) T.is_integer.g T.is_integer.F.kp b_is_integer .nil pass0 (pa_cons (pv 1) pa_nil)))) (pss_one ps_never) pss_nil)
      (pss_one (ps_ret (pe_make M_Table G_Table_init (hr.mono (by decide)) (by rfl) T.Table.g b_Table1 .nil pass0 (pa_cons (pe_callTy (call_dictP rfl) (by rfl) T.b_dict (by decide +kernel) (pa_cons (pe_lock (pe_lc (own := [("key", 2), ("number", 3)]) (g := gTup K 2 (gCons (gName 2) (gCons (gName 3) gNil))) (by rfl) sc_Table_times.nd (pi_items (pe_fld (pv 0) rfl)) (blkOk_by (N := ["self", "many", "key", "number"]) (sc := defScope s_Table_times) (by decide +kernel)) (fun _ _ _ _ _ => (pg_tup rfl (pgs_cons (pg_name (i := 2) sc_Table_times.nd rfl (.inl rfl) (.inr rfl)) (pgs_cons (pg_name (i := 3) sc_Table_times.nd rfl (.inl rfl) (.inr rfl)) pgs_nil)))) (fun _ _ _ _ _ => pts_nil) (fun _ _ _ _ _ => (pe_tup (pa_cons (pv 2) (pa_cons (pe_op op_mulX (pv 3) (pv 1)) pa_nil)))))) pa_nil)) pa_nil))))), ?_⟩
    refine ⟨_, rfl, z0, rfl, _, rfl, iteF ?_⟩
    refine ⟨d, _, hd, trivial, fun od => ?_⟩
    have hf : upd H d (.frz od (.dK (dkv L))) d = some (.frz od (.dK (dkv L))) := upd_same
    have hpd : p ≠ d := ne_of hp hd (fun z => nomatch z)
    have hp0 : upd H d (.frz od (.dK (dkv L))) p = some (.ins a.Table dx [("own_counts", .ref d)]) := by rw [upd_ne hpd]; exact hp
    refine ⟨_, rfl, p, _, dx, _, _, rfl, hp0, T.Table.cls, T.no_Table_own_counts, rfl, d, od, dkv L, rfl, hf, fun D hD => ?_⟩
    generalize hH0 : upd H d (.frz od (.dK (dkv L))) = H0 at *
    refine lc_it walk_items (fun i H' => Ext H0 H' ∧ ∃ ts : List Addr, H' D = some (.lst (ts.map V.ref)) ∧ ts.length = i ∧ Paired (fun t kv => H' t = some (.tup [kV kv.1, kv.2])) ts (dkv ((L.take i).map fun q => (q.1, (q.2 * z0))))) ⟨ext_put Ext.rfl' hD, [], upd_same, rfl, .nil⟩ (fun i H' _ z => z.1 _ _ hf) ?_ ?_
    · rintro i x0 H' H'' hi ⟨e, ts, hts, hl, hpr⟩ ⟨T0, x, y, rfl, hT, rfl, hx, hy⟩
      have hi' : i < L.length := by rw [dkv, List.length_map] at hi; exact hi
      have hm0 : L[i]? = some L[i] := List.getElem?_eq_getElem hi'
      have hk : (dkv L)[i]? = some (.inr L[i].1, .int L[i].2) := by rw [dkv, List.getElem?_map, hm0]; rfl
      dsimp only at hx hy
      rw [hk] at hx hy
      cases hx
      cases hy
      have eT := Ext.upd (o := .tup [.str L[i].1, .int L[i].2]) hT
      refine ⟨T0, _, rfl, SqT.of upd_same, rfl, _, _, rfl, _, _, rfl, rfl, rfl, yes_of ?_⟩
      refine ⟨_, rfl, _, rfl, _, rfl, _, _, rfl, rfl, cmulX (ok.bt _ (List.getElem_mem hi')) zi (by omega), (by show 2 ≤ sizeLine; decide), fun t ht => ?_⟩
      have eT2 := Ext.upd (o := .tup [.str L[i].1, .int ((L[i].2 * z0))]) ht
      have hts' := eT2 _ _ (eT _ _ hts)
      have et : (L.take (i + 1)).map (fun q => (q.1, (q.2 * z0))) = (L.take i).map (fun q => (q.1, (q.2 * z0))) ++ [(L[i].1, (L[i].2 * z0))] := by rw [List.take_add_one, hm0, List.map_append]; rfl
      refine ⟨_, hts', Nat.lt_of_lt_of_le (m := 60) (by rw [List.length_map]; have := ok.few; omega) (by decide), ext_put ((e.trans eT).trans eT2) hD, ts ++ [t], ?_, by rw [List.length_append]; show ts.length + 1 = _; omega, ?_⟩
      · rw [upd_same, List.map_append]
        rfl
      · rw [et]
        unfold dkv
        rw [List.map_append]
        refine paired_snoc (paired_imp (fun t' kv ht' => ?_) hpr) ?_
        · rw [upd_ne (ne_of (eT2 _ _ (eT _ _ ht')) hts' (fun z => nomatch z))]
          exact eT2 _ _ (eT _ _ ht')
        · rw [upd_ne (ne_of (upd_same (H := upd H' T0 (.tup [.str L[i].1, .int L[i].2]))) hts' (fun z => nomatch z))]
          exact upd_same
    · rintro H' ⟨e, ts, hts, hl, hpr⟩
      refine ⟨e _ _ hf, ?_⟩
      rw [show (dkv L).length = L.length from List.length_map .., List.take_length] at hpr
      have hne : D ≠ d := fun z => by rw [← z] at hf; rw [hD] at hf; cases hf
      subst hH0
      have e2 := ext_unlock hd e
      refine ⟨D, ts, dkv (L.map fun q => (q.1, (q.2 * z0))), rfl, SqL.of (by rw [upd_ne hne]; exact hts), paired_imp (fun t kv ht => SqT.of ?_) hpr, fun q hq => ?_⟩
      · rw [upd_ne (ne_of ht (e _ _ hf) (fun z => nomatch z))]
        exact ht
      have em := merge_dkv (L.map fun q => (q.1, (q.2 * z0))) [] (by rw [List.nil_append, List.map_map]; exact ok.nd)
      rw [List.nil_append] at em
      have em' : mergeK [] (dkv (L.map fun q => (q.1, (q.2 * z0)))) = dkv (L.map fun q => (q.1, (q.2 * z0))) := em
      rw [em']
      refine rd_Table (n := n) (b := b + c0) (.inr ⟨q, _, rfl, upd_same, ⟨fun r hr' => ?_, fun r hr' => ?_, (by rw [List.map_map]; exact ok.nd), (by rw [List.length_map]; exact ok.few)⟩, rfl⟩) n60 fun v' H3 e3 t3 => h v' H3 ((e2.trans (Ext.upd hq)).trans e3) ?_
      · obtain ⟨r0, hr0, rfl⟩ := List.mem_map.mp hr'
        exact ok.nm r0 hr0
      · obtain ⟨r0, hr0, rfl⟩ := List.mem_map.mp hr'
        exact (ok.bt r0 hr0).mul zi
      · have ef : vl (L.map fun q => (q.1, (q.2 * z0))) = fun k => f k * z0 := by
          funext k
          rw [vl_map (g := fun z => (z * z0)) (Int.zero_mul z0), c.vl]
        rw [ef] at t3
        exact t3
theorem B_Table_neg (T : Txt K mg a) : Binds K a.d_Table_neg ["self"] [] := T.Table_neg.F.binds fun _ _ _ _ _ _ us hl => match us, hl with | [_], _ => rfl
theorem ok_Table_neg (T : Txt K mg a) : FnOk P w K mg base CX0 5 a.Table_neg a.d_Table_neg ["self"] (spNegT a.Table) := by
  have G_Table_init := ok_Table_init (P := P) (w := w) (base := base) T
  have M_Table := Mk_Table T
  have b_Table1 := B_Table1 T
  refine T.Table_neg.F.ok sc_Table_neg (fun vs H Q E h => ?_) (fun cdv A outer s H vs Q E hr h => ?_)
  · obtain ⟨v, f, n, b, rfl, _⟩ := h
    rfl
  · obtain ⟨v, f, n, b, rfl, ⟨p, dx, d, rfl, hp, L, hd, c, ok⟩, n60, h⟩ := h
    refine ⟨_, (pss_one (ps_ret (pe_make M_Table G_Table_init (hr.mono (by decide)) (by rfl) T.Table.g b_Table1 .nil pass0 (pa_cons (pe_callTy (call_dictP rfl) (by rfl) T.b_dict (by decide +kernel) (pa_cons (pe_lock (pe_lc (own := [("key", 1), ("number", 2)]) (g := gTup K 2 (gCons (gName 1) (gCons (gName 2) gNil))) (by rfl) sc_Table_neg.nd (pi_items (pe_fld (pv 0) rfl)) (blkOk_by (N := ["self", "key", "number"]) (sc := defScope s_Table_neg) (by decide +kernel)) (fun _ _ _ _ _ => (pg_tup rfl (pgs_cons (pg_name (i := 1) sc_Table_neg.nd rfl (.inl rfl) (.inr rfl)) (pgs_cons (pg_name (i := 2) sc_Table_neg.nd rfl (.inl rfl) (.inr rfl)) pgs_nil)))) (fun _ _ _ _ _ => pts_nil) (fun _ _ _ _ _ => (pe_tup (pa_cons (pv 1) (pa_cons (pe_un un_neg (pv 2)) pa_nil)))))) pa_nil)) pa_nil)))), ?_⟩
    refine ⟨d, _, hd, trivial, fun od => ?_⟩
    have hf : upd H d (.frz od (.dK (dkv L))) d = some (.frz od (.dK (dkv L))) := upd_same
    have hpd : p ≠ d := ne_of hp hd (fun z => nomatch z)
    have hp0 : upd H d (.frz od (.dK (dkv L))) p = some (.ins a.Table dx [("own_counts", .ref d)]) := by rw [upd_ne hpd]; exact hp
    refine ⟨_, rfl, p, _, dx, _, _, rfl, hp0, T.Table.cls, T.no_Table_own_counts, rfl, d, od, dkv L, rfl, hf, fun D hD => ?_⟩
    generalize hH0 : upd H d (.frz od (.dK (dkv L))) = H0 at *
    refine lc_it walk_items (fun i H' => Ext H0 H' ∧ ∃ ts : List Addr, H' D = some (.lst (ts.map V.ref)) ∧ ts.length = i ∧ Paired (fun t kv => H' t = some (.tup [kV kv.1, kv.2])) ts (dkv ((L.take i).map fun q => (q.1, (-q.2))))) ⟨ext_put Ext.rfl' hD, [], upd_same, rfl, .nil⟩ (fun i H' _ z => z.1 _ _ hf) ?_ ?_
    · rintro i x0 H' H'' hi ⟨e, ts, hts, hl, hpr⟩ ⟨T0, x, y, rfl, hT, rfl, hx, hy⟩
      have hi' : i < L.length := by rw [dkv, List.length_map] at hi; exact hi
      have hm0 : L[i]? = some L[i] := List.getElem?_eq_getElem hi'
      have hk : (dkv L)[i]? = some (.inr L[i].1, .int L[i].2) := by rw [dkv, List.getElem?_map, hm0]; rfl
      dsimp only at hx hy
      rw [hk] at hx hy
      cases hx
      cases hy
      have eT := Ext.upd (o := .tup [.str L[i].1, .int L[i].2]) hT
      refine ⟨T0, _, rfl, SqT.of upd_same, rfl, _, _, rfl, _, _, rfl, rfl, rfl, yes_of ?_⟩
      refine ⟨_, rfl, _, rfl, _, rfl, (by show 2 ≤ sizeLine; decide), fun t ht => ?_⟩
      have eT2 := Ext.upd (o := .tup [.str L[i].1, .int ((-L[i].2))]) ht
      have hts' := eT2 _ _ (eT _ _ hts)
      have et : (L.take (i + 1)).map (fun q => (q.1, (-q.2))) = (L.take i).map (fun q => (q.1, (-q.2))) ++ [(L[i].1, (-L[i].2))] := by rw [List.take_add_one, hm0, List.map_append]; rfl
      refine ⟨_, hts', Nat.lt_of_lt_of_le (m := 60) (by rw [List.length_map]; have := ok.few; omega) (by decide), ext_put ((e.trans eT).trans eT2) hD, ts ++ [t], ?_, by rw [List.length_append]; show ts.length + 1 = _; omega, ?_⟩
      · rw [upd_same, List.map_append]
        rfl
      · rw [et]
        unfold dkv
        rw [List.map_append]
        refine paired_snoc (paired_imp (fun t' kv ht' => ?_) hpr) ?_
        · rw [upd_ne (ne_of (eT2 _ _ (eT _ _ ht')) hts' (fun z => nomatch z))]
          exact eT2 _ _ (eT _ _ ht')
        · rw [upd_ne (ne_of (upd_same (H := upd H' T0 (.tup [.str L[i].1, .int L[i].2]))) hts' (fun z => nomatch z))]
          exact upd_same
    · rintro H' ⟨e, ts, hts, hl, hpr⟩
      refine ⟨e _ _ hf, ?_⟩
      rw [show (dkv L).length = L.length from List.length_map .., List.take_length] at hpr
      have hne : D ≠ d := fun z => by rw [← z] at hf; rw [hD] at hf; cases hf
      subst hH0
      have e2 := ext_unlock hd e
      refine ⟨D, ts, dkv (L.map fun q => (q.1, (-q.2))), rfl, SqL.of (by rw [upd_ne hne]; exact hts), paired_imp (fun t kv ht => SqT.of ?_) hpr, fun q hq => ?_⟩
      · rw [upd_ne (ne_of ht (e _ _ hf) (fun z => nomatch z))]
        exact ht
      have em := merge_dkv (L.map fun q => (q.1, (-q.2))) [] (by rw [List.nil_append, List.map_map]; exact ok.nd)
      rw [List.nil_append] at em
      have em' : mergeK [] (dkv (L.map fun q => (q.1, (-q.2)))) = dkv (L.map fun q => (q.1, (-q.2))) := em
      rw [em']
      refine rd_Table (n := n) (b := b) (.inr ⟨q, _, rfl, upd_same, ⟨fun r hr' => ?_, fun r hr' => ?_, (by rw [List.map_map]; exact ok.nd), (by rw [List.length_map]; exact ok.few)⟩, rfl⟩) n60 fun v' H3 e3 t3 => h v' H3 ((e2.trans (Ext.upd hq)).trans e3) ?_
      · obtain ⟨r0, hr0, rfl⟩ := List.mem_map.mp hr'
        exact ok.nm r0 hr0
      · obtain ⟨r0, hr0, rfl⟩ := List.mem_map.mp hr'
        exact (ok.bt r0 hr0).neg
      · have ef : vl (L.map fun q => (q.1, (-q.2))) = fun k => -f k := by
          funext k
          rw [vl_map (g := fun z => (-z)) rfl, c.vl]
        rw [ef] at t3
        exact t3
end
end P

namespace P
open PySem L2 NS

/-! ### rows that grow -/
def putR (M : Row) (k : Str) (x : Int) : Row := if k ∈ M.map (·.1) then M.map (fun p => if p.1 = k then (p.1, x) else p) else M ++ [(k, x)]
theorem any_dkv (M : Row) (k : Str) : ((dkv M).any fun kv => decide (kv.1 = .inr k)) = decide (k ∈ M.map (·.1)) := by
  rw [Bool.eq_iff_iff, decide_eq_true_iff, List.any_eq_true]
  constructor
  · rintro ⟨q, hq, e⟩
    obtain ⟨p, hp, rfl⟩ := List.mem_map.mp hq
    have e := of_decide_eq_true e
    injection e with e
    exact List.mem_map.mpr ⟨p, hp, e⟩
  · intro h
    obtain ⟨p, hp, e⟩ := List.mem_map.mp h
    exact ⟨_, List.mem_map.mpr ⟨p, hp, rfl⟩, decide_eq_true (by rw [← e])⟩
theorem put_dkv (M : Row) (k : Str) (x : Int) : putK (dkv M) (.inr k) (.int x) = dkv (putR M k x) := by
  unfold putK putR
  rw [any_dkv]
  by_cases h : k ∈ M.map (·.1)
  · rw [if_pos (decide_eq_true h), if_pos h]
    unfold dkv
    rw [List.map_map, List.map_map]
    refine List.map_congr_left fun p _ => ?_
    show (if (Sum.inr p.1 : Key) = Sum.inr k then _ else _) = _
    by_cases e : p.1 = k
    · rw [if_pos (by rw [e])]
      show _ = (fun p : Str × Int => ((Sum.inr p.1 : Key), V.int p.2)) (if p.1 = k then (p.1, x) else p)
      rw [if_pos e]
    · rw [if_neg (fun z => e (by injection z))]
      show _ = (fun p : Str × Int => ((Sum.inr p.1 : Key), V.int p.2)) (if p.1 = k then (p.1, x) else p)
      rw [if_neg e]
  · rw [if_neg (by rw [decide_eq_false h]; exact Bool.false_ne_true), if_neg h]
    unfold dkv
    rw [List.map_append]
    rfl
theorem keys_put {M : Row} {k : Str} {x : Int} : (putR M k x).map (·.1) = if k ∈ M.map (·.1) then M.map (·.1) else M.map (·.1) ++ [k] := by
  unfold putR
  by_cases h : k ∈ M.map (·.1)
  · rw [if_pos h, if_pos h, List.map_map]
    refine List.map_congr_left fun p _ => ?_
    show (if p.1 = k then (p.1, x) else p).1 = p.1
    split <;> rfl
  · rw [if_neg h, if_neg h, List.map_append]
    rfl
/-- a row whose numbers are f's -/
structure Acc (n : Nat) (M : Row) (f : Str → Int) : Prop where
  nm : ∀ p, p ∈ M → Nm p.1
  nd : (M.map (·.1)).Nodup
  few : M.length ≤ n
  val : ∀ k, vl M k = f k
theorem Acc.row {n b : Nat} {M : Row} {f : Str → Int} (h : Acc n M f) (hb : ∀ k, Bt b (f k)) : RowOk n b M :=
  ⟨h.nm, fun p hp => by rw [← vl_mem h.nd hp, h.val]; exact hb _, h.nd, h.few⟩
theorem Acc.nil {n : Nat} : Acc n [] (fun _ => 0) := ⟨fun p h => (by cases h), List.nodup_nil, Nat.zero_le _, fun _ => rfl⟩
theorem RowOk.acc {n b : Nat} {M : Row} (h : RowOk n b M) : Acc n M (vl M) := ⟨h.nm, h.nd, h.few, fun _ => rfl⟩
theorem Acc.put {n : Nat} {M : Row} {f : Str → Int} (h : Acc n M f) {k : Str} (hk : Nm k) (x : Int) : Acc (n + 1) (putR M k (vl M k + x)) (fun j => f j + if k = j then x else 0) := by
  have kp := keys_put (M := M) (k := k) (x := vl M k + x)
  have nd : ((putR M k (vl M k + x)).map (·.1)).Nodup := by
    rw [kp]
    by_cases hm : k ∈ M.map (·.1)
    · rw [if_pos hm]
      exact h.nd
    · rw [if_neg hm, List.nodup_append]
      refine ⟨h.nd, List.pairwise_singleton _ _, fun y hy z hz e => ?_⟩
      rw [List.mem_singleton] at hz
      rw [e, hz] at hy
      exact hm hy
  refine ⟨fun p hp => ?_, nd, ?_, fun j => ?_⟩
  · have hp' : p.1 ∈ (putR M k (vl M k + x)).map (·.1) := List.mem_map.mpr ⟨p, hp, rfl⟩
    rw [kp] at hp'
    have on : p.1 ∈ M.map (·.1) → Nm p.1 := fun z => by
      obtain ⟨q, hq, e⟩ := List.mem_map.mp z
      rw [← e]
      exact h.nm q hq
    split at hp'
    · exact on hp'
    · rcases List.mem_append.mp hp' with z | z
      · exact on z
      · rw [List.mem_singleton.mp z]
        exact hk
  · have hl := congrArg List.length kp
    rw [List.length_map] at hl
    rw [hl]
    have := h.few
    split
    · rw [List.length_map]
      omega
    · rw [List.length_append, List.length_map]
      show M.length + 1 ≤ n + 1
      omega
  · rw [← h.val j]
    by_cases e : k = j
    · subst e
      rw [if_pos rfl]
      by_cases hm : k ∈ M.map (·.1)
      · have : (k, vl M k + x) ∈ putR M k (vl M k + x) := by
          obtain ⟨q, hq, e⟩ := List.mem_map.mp hm
          unfold putR
          rw [if_pos hm]
          refine List.mem_map.mpr ⟨q, hq, ?_⟩
          rw [if_pos e, e]
        exact vl_mem nd this
      · have : (k, vl M k + x) ∈ putR M k (vl M k + x) := by
          unfold putR
          rw [if_neg hm]
          exact List.mem_append_right _ (.head _)
        exact vl_mem nd this
    · rw [if_neg e, Int.add_zero]
      by_cases hm : j ∈ M.map (·.1)
      · obtain ⟨q, hq, rfl⟩ := List.mem_map.mp hm
        have : q ∈ putR M k (vl M k + x) := by
          unfold putR
          split
          · exact List.mem_map.mpr ⟨q, hq, if_neg fun z => e z.symm⟩
          · exact List.mem_append_left _ hq
        rw [vl_mem nd this, vl_mem h.nd hq]
      · rw [vl_off hm, vl_off]
        rw [kp]
        split
        · exact hm
        · intro z
          rcases List.mem_append.mp z with z | z
          · exact hm z
          · exact e (List.mem_singleton.mp z).symm
/-- the sum of what goes to k -/
def Sm (ren : Str → Str) (L : Row) (k : Str) : Int := (L.map fun p => if ren p.1 = k then p.2 else 0).sum
theorem sm_snoc {ren : Str → Str} {L : Row} {p : Str × Int} {k : Str} : Sm ren (L ++ [p]) k = Sm ren L k + if ren p.1 = k then p.2 else 0 := by
  unfold Sm
  rw [List.map_append, List.sum_append]
  simp
theorem sm_id : ∀ {L : Row} {k : Str}, (L.map (·.1)).Nodup → Sm id L k = vl L k
  | [], k, _ => rfl
  | p :: L, k, h => by
    rw [List.map_cons, List.nodup_cons] at h
    have ih := sm_id (L := L) (k := k) h.2
    show (if p.1 = k then p.2 else 0) + Sm id L k = _
    rw [ih]
    unfold vl
    rw [List.find?_cons]
    by_cases e : p.1 = k
    · rw [if_pos e, decide_eq_true e]
      have := vl_off (m := L) (k := k) (by rw [← e]; exact h.1)
      unfold vl at this
      rw [this]
      exact Int.add_zero _
    · rw [if_neg e, decide_eq_false e]
      exact Int.zero_add _
end P

namespace P
open PySem L2 NS

/-! ### sums, differences -/
def spAddT (C : Addr) : Sp := fun vs H Q _ => ∃ v v' f g n n' b, vs = [v, v'] ∧ IsTab n b C H v f ∧ IsTab n' b C H v' g ∧ n + n' < 60 ∧ ∀ u H', Ext H H' → IsTab (n + n') (b + 1) C H' u (fun k => f k + g k) → Q u H'
def spSubT (C : Addr) : Sp := fun vs H Q _ => ∃ v v' f g n n' b, vs = [v, v'] ∧ IsTab n b C H v f ∧ IsTab n' b C H v' g ∧ n + n' < 60 ∧ ∀ u H', Ext H H' → IsTab (n + n') (b + 1) C H' u (fun k => f k + -g k) → Q u H'
theorem bt_zero {b : Nat} : Bt b 0 := by unfold Bt; exact Nat.two_pow_pos _
theorem canon_bt {n b : Nat} {L : Row} {f : Str → Int} (c : Canon L f) (ok : RowOk n b L) (k : Str) : Bt b (f k) := by
  by_cases h : f k = 0
  · rw [h]
    exact bt_zero
  · exact ok.bt _ (c.all k h)
section
variable {P : Program} {w : World} {K : PySem.W.Frag} {mg : Str → Option Value} {base : Heap} {a : Ad}
theorem B_Table_add (T : Txt K mg a) : Binds K a.d_Table_add ["self", "other"] [] := T.Table_add.F.binds fun _ _ _ _ _ _ us hl => match us, hl with | [_, _], _ => rfl
theorem ok_Table_add (T : Txt K mg a) : FnOk P w K mg base CX0 5 a.Table_add a.d_Table_add ["self", "other"] (spAddT a.Table) := by
  have G_want_table := ok_want_table (P := P) (w := w) (base := base) T
  have b_want_table := B_want_table T
  have G_Table_init := ok_Table_init (P := P) (w := w) (base := base) T
  have M_Table := Mk_Table T
  have b_Table1 := B_Table1 T
  refine T.Table_add.F.ok sc_Table_add (fun vs H Q E h => ?_) (fun cdv A outer s H vs Q E hr h => ?_)
  · obtain ⟨v, v', f, g, n, n', b, rfl, _⟩ := h
    rfl
  · obtain ⟨v, v', f, g, n, n', b, rfl, ⟨p, dx, d, rfl, hp, L, hd, c, ok⟩, t', n60, h⟩ := h
    refine ⟨_, (pss_cons (ps_expr (pe_call G_want_table (hr.mono (by decide)) (by rfl) T.want_table.g T.want_table.F.kp b_want_table .nil pass0 (pa_cons (pv 1) pa_nil)))
      (pss_cons (ps_set (i := 2) sc_Table_add.nd rfl (.inl rfl) (pe_callTy call_dictD (by rfl) T.b_dict (by decide +kernel) (pa_cons (pe_fld (pv 0) rfl) pa_nil)))
      (pss_cons (ps_lock (ps_for PassesOwn.never rfl (pi_items (pe_fld (pv 1) rfl)) (pg_tup rfl (pgs_cons (pg_name (i := 3) sc_Table_add.nd rfl (.inl rfl)) (pgs_cons (pg_name (i := 4) sc_Table_add.nd rfl (.inl rfl)) pgs_nil))) (pss_one (ps_dput (hu_of hr) (pv 2) (pv 3) (pe_op op_add (pe_dget2 (hu_of hr) (pv 2) (pv 3) pe_int ⟨rfl, rfl, rfl, rfl⟩) (pv 4)) rfl))))
      (pss_one (ps_ret (pe_make M_Table G_Table_init (hr.mono (by decide)) (by rfl) T.Table.g b_Table1 .nil pass0 (pa_cons (pv 2) pa_nil))))))), ?_⟩
    refine ⟨_, rfl, _, g, n', b, rfl, t', ?_⟩
    obtain ⟨p', dx', d', rfl, hp', L', hd', c', ok'⟩ := t'
    refine ⟨_, rfl, p, _, dx, _, _, rfl, hp, T.Table.cls, T.no_Table_own_counts, rfl, d, dkv L, rfl, .inl hd, fun q hq => ?_⟩
    have e1 := Ext.upd (o := .dK (dkv L)) hq
    have hd1 := e1 _ _ hd'
    have hp1 := e1 _ _ hp'
    have hq1 : upd H q (.dK (dkv L)) q = some (.dK (dkv L)) := upd_same
    have hqd : q ≠ d' := fun z => by
      rw [z, hd'] at hq
      cases hq
    have hpd : p' ≠ d' := ne_of hp' hd' (fun z => nomatch z)
    have qn : ∀ b o, H b = some o → b ≠ q := fun b o hb z => by
      rw [z, hq] at hb
      cases hb
    generalize upd H q (.dK (dkv L)) = H1 at *
    refine ⟨d', _, hd1, trivial, fun od => ?_⟩
    have hf : upd H1 d' (.frz od (.dK (dkv L'))) d' = some (.frz od (.dK (dkv L'))) := upd_same
    have hp0 : upd H1 d' (.frz od (.dK (dkv L'))) p' = some (.ins a.Table dx' [("own_counts", .ref d')]) := by rw [upd_ne hpd]; exact hp1
    refine ⟨_, rfl, p', _, dx', _, _, rfl, hp0, T.Table.cls, T.no_Table_own_counts, rfl, d', od, dkv L', rfl, hf, ?_⟩
    have hq0 : upd H1 d' (.frz od (.dK (dkv L'))) q = some (.dK (dkv L)) := by rw [upd_ne hqd]; exact hq1
    generalize hH0 : upd H1 d' (.frz od (.dK (dkv L'))) = H0 at *
    refine for_it walk_items (fun i σ H' => (∀ b o, H0 b = some o → b ≠ q → H' b = some o) ∧ ∃ M o3 o4, H' q = some (.dK (dkv M)) ∧ Acc (n + i) M (fun k => f k + Sm id (L'.take i) k) ∧ σ = [some (.ref p), some (.ref p'), some (.ref q), o3, o4]) ⟨fun b o hb _ => hb, L, _, _, hq0, ⟨ok.nm, ok.nd, ok.few, fun k => by rw [c.vl]; exact (Int.add_zero _).symm⟩, rfl⟩ (fun i σ H' _ z => z.1 _ _ hf fun z => hqd z.symm) ?_ ?_
    · rintro i x0 σ H' H'' hi ⟨e, M, o3, o4, hM, acc, rfl⟩ ⟨T0, x, y, rfl, hT, rfl, hx, hy⟩
      have hi' : i < L'.length := by rw [dkv, List.length_map] at hi; exact hi
      have hm0 : L'[i]? = some L'[i] := List.getElem?_eq_getElem hi'
      have hk : (dkv L')[i]? = some (.inr L'[i].1, .int L'[i].2) := by rw [dkv, List.getElem?_map, hm0]; rfl
      dsimp only at hx hy
      rw [hk] at hx hy
      cases hx
      cases hy
      have eT := Ext.upd (o := .tup [.str L'[i].1, .int L'[i].2]) hT
      have hM' := eT _ _ hM
      refine ⟨T0, _, rfl, SqT.of upd_same, rfl, _, _, rfl, _, _, rfl, rfl, ?_⟩
      refine ⟨_, rfl, q, rfl, .inl ⟨_, .inl hM'⟩, _, rfl, _, .inl ⟨dkv M, .inr L'[i].1, .inl hM', rfl, rfl⟩, _, rfl, ?_⟩
      rw [get_dkv]
      refine ⟨_, _, rfl, rfl, _, rfl, _, rfl, q, _, rfl, DPut.k (k := .inr L'[i].1) hM' (Nat.lt_of_le_of_lt (by rw [dkv, List.length_map]; exact acc.few) (Nat.lt_of_lt_of_le (m := 60) (by have := ok'.few; omega) (by decide))), ?_⟩
      refine ⟨fun b o hb hne => ?_, putR M L'[i].1 (vl M L'[i].1 + L'[i].2), _, _, ?_, ?_, rfl⟩
      · rw [upd_ne hne]
        exact eT _ _ (e b o hb hne)
      · rw [upd_same, put_dkv]
      · have a2 := acc.put (ok'.nm _ (List.getElem_mem hi')) L'[i].2
        refine ⟨a2.nm, a2.nd, a2.few, fun k => ?_⟩
        rw [a2.val, List.take_add_one, hm0]
        show _ = f k + Sm id (L'.take i ++ [L'[i]]) k
        rw [sm_snoc, Int.add_assoc]
        rfl
    · rintro σ H' ⟨e, M, o3, o4, hM, acc, rfl⟩
      rw [show (dkv L').length = L'.length from List.length_map .., List.take_length] at acc
      refine ⟨e _ _ hf fun z => hqd z.symm, _, rfl, ?_⟩
      have hM' : upd H' d' (.dK (dkv L')) q = some (.dK (dkv M)) := by rw [upd_ne hqd]; exact hM
      have e2 : Ext H (upd H' d' (.dK (dkv L'))) := fun b o hb => by
        by_cases z : b = d'
        · subst z
          rw [upd_same, ← hb, hd']
        · rw [upd_ne z]
          refine e b o ?_ (qn b o hb)
          rw [← hH0, upd_ne z]
          exact e1 _ _ hb
      have few' : M.length ≤ n + n' := Nat.le_trans acc.few (Nat.add_le_add_left ok'.few n)
      have ef : vl M = fun k => f k + g k := by
        funext k
        rw [acc.val, sm_id c'.nd, c'.vl]
      have bt : ∀ k, Bt (b + 1) (f k + g k) := fun k => (canon_bt c ok k).add (canon_bt c' ok' k)
      refine rd_Table (n := n + n') (b := b + 1) (.inr ⟨q, M, rfl, hM', ⟨acc.nm, fun r hr' => ?_, acc.nd, few'⟩, rfl⟩) n60 fun u H3 e3 t3 => h u H3 (e2.trans e3) ?_
      · rw [← vl_mem acc.nd hr', ef]
        exact bt r.1
      · rw [ef] at t3
        exact t3
theorem B_Table_sub (T : Txt K mg a) : Binds K a.d_Table_sub ["self", "other"] [] := T.Table_sub.F.binds fun _ _ _ _ _ _ us hl => match us, hl with | [_, _], _ => rfl
theorem ok_Table_sub (T : Txt K mg a) : FnOk P w K mg base CX0 6 a.Table_sub a.d_Table_sub ["self", "other"] (spSubT a.Table) := by
  have G_want_table := ok_want_table (P := P) (w := w) (base := base) T
  have b_want_table := B_want_table T
  have G_Table_add := ok_Table_add (P := P) (w := w) (base := base) T
  have b_Table_add := B_Table_add T
  have G_Table_neg := ok_Table_neg (P := P) (w := w) (base := base) T
  have b_Table_neg := B_Table_neg T
  refine T.Table_sub.F.ok sc_Table_sub (fun vs H Q E h => ?_) (fun cdv A outer s H vs Q E hr h => ?_)
  · obtain ⟨v, v', f, g, n, n', b, rfl, _⟩ := h
    rfl
  · obtain ⟨v, v', f, g, n, n', b, rfl, t, t', n60, h⟩ := h
    refine ⟨_, (pss_cons (ps_expr (pe_call G_want_table (hr.mono (by decide)) (by rfl) T.want_table.g T.want_table.F.kp b_want_table .nil pass0 (pa_cons (pv 1) pa_nil)))
      (pss_one (ps_ret (pe_op (op_own T.O_Table_add (Runs.of G_Table_add b_Table_add (hr.mono (by decide)) rfl)) (pv 0) (pe_un (un_own T.O_Table_neg (Runs.of G_Table_neg b_Table_neg (hr.mono (by decide)) rfl)) (pv 1)))))), ?_⟩
    refine ⟨_, rfl, _, g, n', b, rfl, t', ?_⟩
    obtain ⟨p', dx', d', rfl, hp', c'⟩ := id t'
    refine ⟨_, rfl, _, rfl, p', dx', _, rfl, hp', _, g, n', b, rfl, t', by omega, fun u H1 e1 t1 => ?_⟩
    obtain ⟨p, dx, d, rfl, hp, c⟩ := id t
    obtain ⟨p1, dx1, d1, rfl, hp1, c1⟩ := id t1
    exact ⟨p, dx, _, rfl, e1 _ _ hp, .inr ⟨p1, dx1, _, rfl, hp1⟩, _, _, f, _, n, n', b, rfl, t.ext e1, t1, n60, fun u H' e' t2 => h u H' (e1.trans e') t2⟩
end
end P

namespace P
open PySem L2 NS

/-! ### new names -/
abbrev Names := List (Str × Str)
def dks (R : Names) : List (Key × V) := R.map fun p => (.inr p.1, .str p.2)
structure NamesOk (R : Names) : Prop where
  nm : ∀ p, p ∈ R → Nm p.1 ∧ Nm p.2
  few : R.length < 60
def ren (R : Names) (k : Str) : Str := ((R.find? fun p => decide (p.1 = k)).map (·.2)).getD k
theorem get_dks (R : Names) (k : Str) : (valV (dks R) (.inr k)).getD (.str k) = .str (ren R k) := by
  induction R with
  | nil => rfl
  | cons p R ih =>
    unfold ren
    rw [List.find?_cons]
    by_cases e : p.1 = k
    · rw [dks, List.map_cons, valV_pos (by rw [e]), decide_eq_true e]
      rfl
    · rw [dks, List.map_cons, valV_neg (by intro z; injection z with z; exact e z), decide_eq_false e]
      exact ih
theorem nm_ren {R : Names} (h : NamesOk R) {k : Str} (hk : Nm k) : Nm (ren R k) := by
  unfold ren
  cases e : R.find? fun p => decide (p.1 = k) with
  | none => exact hk
  | some p => exact (h.nm p (List.mem_of_find?_eq_some e)).2
def spWantN : Sp := fun vs H Q _ => ∃ d R, vs = [.ref d] ∧ H d = some (.dK (dks R)) ∧ NamesOk R ∧ ∀ H', Ext H H' → Q .non H'
def spRen : Sp := fun vs H Q _ => ∃ d e m R n b, vs = [.ref d, .ref e] ∧ H d = some (.dK (dkv m)) ∧ RowOk n b m ∧ n < 60 ∧ H e = some (.dK (dks R)) ∧ NamesOk R ∧ d ≠ e ∧
  ∀ q M H', Ext H H' → H q = none → H' q = some (.dK (dkv M)) → Acc n M (Sm (ren R) m) → Q (.ref q) H'
theorem sm_abs {ren : Str → Str} {b : Nat} {k : Str} : ∀ {L : Row}, (∀ p, p ∈ L → Bt b p.2) → (Sm ren L k).natAbs ≤ L.length * 2 ^ b
  | [], _ => Nat.zero_le _
  | p :: L, h => by
    have ih := sm_abs (ren := ren) (k := k) (L := L) fun q hq => h q (.tail _ hq)
    have hp : p.2.natAbs < 2 ^ b := h p (.head _)
    show ((if ren p.1 = k then p.2 else 0) + Sm ren L k).natAbs ≤ (L.length + 1) * 2 ^ b
    rw [Nat.add_mul, Nat.one_mul]
    split <;> omega
theorem sm_bt {ren : Str → Str} {n b : Nat} {k : Str} {L : Row} (n60 : n < 60) (ok : RowOk n b L) : Bt (b + 6) (Sm ren L k) := by
  unfold Bt
  refine Nat.lt_of_le_of_lt (sm_abs ok.bt) ?_
  rw [Nat.pow_add, Nat.mul_comm (2 ^ b)]
  exact Nat.mul_lt_mul_of_pos_right (Nat.lt_of_le_of_lt ok.few (Nat.lt_trans n60 (by decide))) (Nat.two_pow_pos b)
def spRenamed (C : Addr) : Sp := fun vs H Q _ => ∃ v e R f n b, vs = [v, .ref e] ∧ IsTab n b C H v f ∧ n < 60 ∧ H e = some (.dK (dks R)) ∧ NamesOk R ∧ (∀ p dx d, v = .ref p → H p = some (.ins C dx [("own_counts", .ref d)]) → d ≠ e) ∧
  ∀ L, Canon L f → ∀ u H', Ext H H' → IsTab n (b + 6) C H' u (Sm (ren R) L) → Q u H'
section
variable {P : Program} {w : World} {K : PySem.W.Frag} {mg : Str → Option Value} {base : Heap} {a : Ad}
theorem B_want_names (T : Txt K mg a) : Binds K a.d_want_names ["value"] [] := T.want_names.F.binds fun _ _ _ _ _ _ us hl => match us, hl with | [_], _ => rfl
theorem ok_want_names (T : Txt K mg a) : FnOk P w K mg base CX0 2 a.want_names a.d_want_names ["value"] spWantN := by
  have G_is_key := ok_is_key (P := P) (w := w) (base := base) T
  have b_is_key := B_is_key T
  refine T.want_names.F.ok sc_want_names (fun vs H Q E h => ?_) (fun cdv A outer s H vs Q E hr h => ?_)
  · obtain ⟨d, R, rfl, _⟩ := h
    rfl
  · obtain ⟨d, R, rfl, hd, hR, h⟩ := h
    refine ⟨_, PSs.nox (pss_cons (ps_if (pt_not (pt_val (pe_callB call_isi (by rfl) T.b_isinstance (by decide +kernel) (pa_cons (pv 0) (pa_cons (pe_bltn (v := .ty "dict") (by rfl) T.b_dict (by decide +kernel) rfl) pa_nil))))) (pss_one ps_never) pss_nil)
      (pss_one (ps_if (pt_not (pt_val (pe_callB (cr_all rfl) (by rfl) T.b_all (by decide +kernel) (pa_cons (pe_lock (pe_lc (own := [("key", 1), ("name", 2)]) (g := gTup K 2 (gCons (gName 1) (gCons (gName 2) gNil))) (by rfl) sc_want_names.nd (pi_items (pv 0)) (blkOk_by (N := ["value", "key", "name"]) (sc := defScope s_want_names) (by decide +kernel)) (fun _ _ _ _ _ => (pg_tup rfl (pgs_cons (pg_name (i := 1) sc_want_names.nd rfl (.inl rfl) (.inr rfl)) (pgs_cons (pg_name (i := 2) sc_want_names.nd rfl (.inl rfl) (.inr rfl)) pgs_nil)))) (fun _ _ _ _ _ => pts_nil) (fun _ _ _ _ _ => (pe_and (pe_call G_is_key (hr.mono (by decide)) (by rfl) T.is_key.g T.is_key.F.kp b_is_key .nil pass0 (pa_cons (pv 1) pa_nil)) (pe_one (pe_call G_is_key (hr.mono (by decide)) (by rfl) T.is_key.g T.is_key.F.kp b_is_key .nil pass0 (pa_cons (pv 2) pa_nil))))))) pa_nil)))) (pss_one ps_never) pss_nil))), ?_⟩
    refine ⟨_, rfl, _, _, _, _, _, rfl, .ty _, .base (.dK hd), kit_ty (r := true) (by decide +kernel), _, rfl, iteF ?_⟩
    refine ⟨d, _, hd, trivial, fun od => ?_⟩
    have hf : upd H d (.frz od (.dK (dks R))) d = some (.frz od (.dK (dks R))) := upd_same
    refine ⟨_, rfl, d, od, dks R, rfl, hf, fun D hD => ?_⟩
    generalize hH0 : upd H d (.frz od (.dK (dks R))) = H0 at *
    refine lc_it walk_items (fun i H' => Ext H0 H' ∧ H' D = some (.lst ((List.replicate i true).map V.bl))) ⟨ext_put Ext.rfl' hD, upd_same⟩ (fun i H' _ z => z.1 _ _ hf) ?_ ?_
    · rintro i x0 H' H'' hi ⟨e, h3⟩ ⟨T0, x, y, rfl, hT, rfl, hx, hy⟩
      have hi' : i < R.length := by rw [dks, List.length_map] at hi; exact hi
      have hm0 : R[i]? = some R[i] := List.getElem?_eq_getElem hi'
      have hk : (dks R)[i]? = some (.inr R[i].1, .str R[i].2) := by rw [dks, List.getElem?_map, hm0]; rfl
      dsimp only at hx hy
      rw [hk] at hx hy
      cases hx
      cases hy
      have nm := hR.nm _ (List.getElem_mem hi')
      have eT := Ext.upd (o := .tup [.str R[i].1, .str R[i].2]) hT
      refine ⟨T0, _, rfl, SqT.of upd_same, rfl, _, _, rfl, _, _, rfl, rfl, rfl, yes_of ?_⟩
      refine ⟨_, rfl, _, rfl, nm.1, fun H7 e7 => ⟨_, rfl, iteT ⟨_, rfl, _, rfl, nm.2, fun H8 e8 => ?_⟩⟩⟩
      have h7 := e8 _ _ (e7 _ _ (eT _ _ h3))
      refine ⟨_, h7, Nat.lt_of_lt_of_le (by rw [List.length_map, List.length_replicate]; exact hi') (Nat.le_trans (Nat.le_of_lt hR.few) (by decide)), ext_put (((e.trans eT).trans e7).trans e8) hD, ?_⟩
      rw [upd_same, List.replicate_succ']
      simp
    · rintro H' ⟨e, h3⟩
      refine ⟨e _ _ hf, ?_⟩
      have hne : D ≠ d := fun z => by rw [← z] at hf; rw [hD] at hf; cases hf
      refine ⟨D, List.replicate (dks R).length true, rfl, SqL.of (by rw [upd_ne hne]; exact h3), true, (by simp), iteF ?_⟩
      subst hH0
      exact h _ (ext_unlock hd e)
theorem B_renamed_row (T : Txt K mg a) : Binds K a.d_renamed_row ["row", "names"] [] := T.renamed_row.F.binds fun _ _ _ _ _ _ us hl => match us, hl with | [_, _], _ => rfl
theorem ok_renamed_row (T : Txt K mg a) : FnOk P w K mg base CX0 1 a.renamed_row a.d_renamed_row ["row", "names"] spRen := by
  refine T.renamed_row.F.ok sc_renamed_row (fun vs H Q E h => ?_) (fun cdv A outer s H vs Q E hr h => ?_)
  · obtain ⟨d, e, m, R, n, b, rfl, _⟩ := h
    rfl
  · obtain ⟨d', r0, L', R, n, b, rfl, hd', ok', n60, hr0, hR, hne0, h⟩ := h
    refine ⟨_, (pss_cons (ps_set (i := 2) sc_renamed_row.nd rfl (.inl rfl) pe_dnewK)
      (pss_cons (ps_lock (ps_for PassesOwn.never rfl (pi_items (pv 0)) (pg_tup rfl (pgs_cons (pg_name (i := 3) sc_renamed_row.nd rfl (.inl rfl)) (pgs_cons (pg_name (i := 4) sc_renamed_row.nd rfl (.inl rfl)) pgs_nil))) (pss_mid (ps_set (i := 5) sc_renamed_row.nd rfl (.inl rfl) (pe_dget2 (hu_of hr) (pv 1) (pv 3) (pv 3) ⟨rfl, rfl, rfl, rfl⟩))
      (pss_one (ps_dput (hu_of hr) (pv 2) (pv 5) (pe_op op_add (pe_dget2 (hu_of hr) (pv 2) (pv 5) pe_int ⟨rfl, rfl, rfl, rfl⟩) (pv 4)) rfl)))))
      (pss_one (ps_ret (pv 2))))), ?_⟩
    refine fun q hq => ?_
    have e1 := Ext.upd (o := .dK []) hq
    have hd1 := e1 _ _ hd'
    have hr1 := e1 _ _ hr0
    have hq1 : upd H q (.dK []) q = some (.dK []) := upd_same
    have hqd : q ≠ d' := fun z => by
      rw [z, hd'] at hq
      cases hq
    have qn : ∀ b o, H b = some o → b ≠ q := fun b o hb z => by
      rw [z, hq] at hb
      cases hb
    generalize upd H q (.dK []) = H1 at *
    refine ⟨d', _, hd1, trivial, fun od => ?_⟩
    have hf : upd H1 d' (.frz od (.dK (dkv L'))) d' = some (.frz od (.dK (dkv L'))) := upd_same
    refine ⟨_, rfl, d', od, dkv L', rfl, hf, ?_⟩
    have hq0 : upd H1 d' (.frz od (.dK (dkv L'))) q = some (.dK (dkv [])) := by rw [upd_ne hqd]; exact hq1
    have hr2 : upd H1 d' (.frz od (.dK (dkv L'))) r0 = some (.dK (dks R)) := by rw [upd_ne fun z => hne0 z.symm]; exact hr1
    generalize hH0 : upd H1 d' (.frz od (.dK (dkv L'))) = H0 at *
    refine for_it walk_items (fun i σ H' => (∀ b o, H0 b = some o → b ≠ q → H' b = some o) ∧ ∃ M o3 o4 o5, H' q = some (.dK (dkv M)) ∧ Acc i M (fun k => Sm (ren R) (L'.take i) k) ∧ σ = [some (.ref d'), some (.ref r0), some (.ref q), o3, o4, o5]) ⟨fun b o hb _ => hb, [], _, _, _, hq0, Acc.nil, rfl⟩ (fun i σ H' _ z => z.1 _ _ hf fun z => hqd z.symm) ?_ ?_
    · rintro i x0 σ H' H'' hi ⟨e, M, o3, o4, o5, hM, acc, rfl⟩ ⟨T0, x, y, rfl, hT, rfl, hx, hy⟩
      have hi' : i < L'.length := by rw [dkv, List.length_map] at hi; exact hi
      have hm0 : L'[i]? = some L'[i] := List.getElem?_eq_getElem hi'
      have hk : (dkv L')[i]? = some (.inr L'[i].1, .int L'[i].2) := by rw [dkv, List.getElem?_map, hm0]; rfl
      dsimp only at hx hy
      rw [hk] at hx hy
      cases hx
      cases hy
      have eT := Ext.upd (o := .tup [.str L'[i].1, .int L'[i].2]) hT
      have hM' := eT _ _ hM
      have hR' := eT _ _ (e _ _ hr2 (qn _ _ hr0))
      refine ⟨T0, _, rfl, SqT.of upd_same, rfl, _, _, rfl, _, _, rfl, rfl, ?_⟩
      refine ⟨fun σ H2 => H2 = upd H' T0 (.tup [.str L'[i].1, .int L'[i].2]) ∧ σ = [some (.ref d'), some (.ref r0), some (.ref q), some (.str L'[i].1), some (.int L'[i].2), some (.str (ren R L'[i].1))], ?_, ?_⟩
      · exact ⟨_, rfl, r0, rfl, .inl ⟨_, .inl hR'⟩, _, rfl, _, rfl, _, .inl ⟨dks R, .inr L'[i].1, .inl hR', rfl, rfl⟩, rfl, by rw [← get_dks R L'[i].1]; rfl⟩
      rintro σ H2 ⟨rfl, rfl⟩
      refine ⟨_, rfl, q, rfl, .inl ⟨_, .inl hM'⟩, _, rfl, _, .inl ⟨dkv M, .inr (ren R L'[i].1), .inl hM', rfl, rfl⟩, _, rfl, ?_⟩
      rw [get_dkv]
      refine ⟨_, _, rfl, rfl, _, rfl, _, rfl, q, _, rfl, DPut.k (k := .inr (ren R L'[i].1)) hM' (Nat.lt_of_le_of_lt (by rw [dkv, List.length_map]; exact acc.few) (Nat.lt_of_lt_of_le (m := 60) (by have := ok'.few; omega) (by decide))), ?_⟩
      refine ⟨fun b o hb hne => ?_, putR M (ren R L'[i].1) (vl M (ren R L'[i].1) + L'[i].2), _, _, _, ?_, ?_, rfl⟩
      · rw [upd_ne hne]
        exact eT _ _ (e b o hb hne)
      · rw [upd_same, put_dkv]
      · have a2 := acc.put (nm_ren hR (ok'.nm _ (List.getElem_mem hi'))) L'[i].2
        refine ⟨a2.nm, a2.nd, a2.few, fun k => ?_⟩
        rw [a2.val, List.take_add_one, hm0]
        show _ = Sm (ren R) (L'.take i ++ [L'[i]]) k
        rw [sm_snoc]
    · rintro σ H' ⟨e, M, o3, o4, o5, hM, acc, rfl⟩
      rw [show (dkv L').length = L'.length from List.length_map .., List.take_length] at acc
      refine ⟨e _ _ hf fun z => hqd z.symm, _, rfl, ?_⟩
      refine h q M _ (fun b o hb => ?_) hq (by rw [upd_ne hqd]; exact hM) ⟨acc.nm, acc.nd, Nat.le_trans acc.few ok'.few, acc.val⟩
      by_cases z : b = d'
      · subst z
        rw [upd_same, ← hb, hd']
      · rw [upd_ne z]
        refine e b o ?_ (qn b o hb)
        rw [← hH0, upd_ne z]
        exact e1 _ _ hb
theorem B_Table_renamed (T : Txt K mg a) : Binds K a.d_Table_renamed ["self", "names"] [] := T.Table_renamed.F.binds fun _ _ _ _ _ _ us hl => match us, hl with | [_, _], _ => rfl
theorem ok_Table_renamed (T : Txt K mg a) : FnOk P w K mg base CX0 5 a.Table_renamed a.d_Table_renamed ["self", "names"] (spRenamed a.Table) := by
  have G_want_names := ok_want_names (P := P) (w := w) (base := base) T
  have b_want_names := B_want_names T
  have G_renamed_row := ok_renamed_row (P := P) (w := w) (base := base) T
  have b_renamed_row := B_renamed_row T
  have G_Table_init := ok_Table_init (P := P) (w := w) (base := base) T
  have M_Table := Mk_Table T
  have b_Table1 := B_Table1 T
  refine T.Table_renamed.F.ok sc_Table_renamed (fun vs H Q E h => ?_) (fun cdv A outer s H vs Q E hr h => ?_)
  · obtain ⟨v, e, R, f, n, b, rfl, _⟩ := h
    rfl
  · obtain ⟨v, e, R, f, n, b, rfl, ⟨p, dx, d, rfl, hp, L, hd, c, ok⟩, n60, he, hR, hne, h⟩ := h
    refine ⟨_, (pss_cons (ps_expr (pe_call G_want_names (hr.mono (by decide)) (by rfl) T.want_names.g T.want_names.F.kp b_want_names .nil pass0 (pa_cons (pv 1) pa_nil)))
      (pss_one (ps_ret (pe_make M_Table G_Table_init (hr.mono (by decide)) (by rfl) T.Table.g b_Table1 .nil pass0 (pa_cons (pe_call G_renamed_row (hr.mono (by decide)) (by rfl) T.renamed_row.g T.renamed_row.F.kp b_renamed_row .nil pass0 (pa_cons (pe_fld (pv 0) rfl) (pa_cons (pv 1) pa_nil))) pa_nil))))), ?_⟩
    refine ⟨_, rfl, e, R, rfl, he, hR, fun H1 e1 => ?_⟩
    refine ⟨_, rfl, p, _, dx, _, _, rfl, e1 _ _ hp, T.Table.cls, T.no_Table_own_counts, rfl, _, rfl, d, e, L, R, n, b, rfl, e1 _ _ hd, ok, n60, e1 _ _ he, hR, hne p dx d rfl hp, fun q M H2 e2 hq hM acc => ?_⟩
    have ef : vl M = Sm (ren R) L := funext acc.val
    refine rd_Table (n := n) (b := b + 6) (.inr ⟨q, M, rfl, hM, acc.row fun k => sm_bt n60 ok, ef.symm⟩) n60 fun u H3 e3 t3 => h L c u H3 ((e1.trans e2).trans e3) t3
end
end P

namespace P
open PySem L2 NS

/-! ### the drawing -/
/-- all but the object at r is as it was -/
def But (r : Addr) (H H' : Hp) : Prop := ∀ b o, H b = some o → b ≠ r → H' b = some o
theorem But.rfl' {r : Addr} {H : Hp} : But r H H := fun _ _ h _ => h
theorem But.trans {r : Addr} {H H1 H2 : Hp} (x : But r H H1) (y : But r H1 H2) : But r H H2 := fun b o h n => y b o (x b o h n) n
theorem But.ext {r : Addr} {H H1 H2 : Hp} (x : But r H H1) (y : Ext H1 H2) : But r H H2 := fun b o h n => y b o (x b o h n)
theorem but_of {r : Addr} {H H1 : Hp} (y : Ext H H1) : But r H H1 := fun b o h _ => y b o h
theorem But.upd {r : Addr} {H H1 : Hp} {o : HO} (x : But r H H1) : But r H (upd H1 r o) := fun b u h n => by
  rw [upd_ne n]
  exact x b u h n
/-- the drawer at r -/
def Rng (H : Hp) (r : Addr) : Prop := ∃ x y : Int, H r = some (.lst [.int x, .int y]) ∧ 0 ≤ x ∧ 0 ≤ y ∧ y < 2147483648
theorem Rng.ext {H H' : Hp} {r : Addr} (h : Rng H r) (e : Ext H H') : Rng H' r := by
  obtain ⟨x, y, hr, z⟩ := h
  exact ⟨x, y, e _ _ hr, z⟩
theorem Rng.ne_tup {H : Hp} {r b : Addr} {xs : List V} (h : Rng H r) (hb : H b = some (.tup xs)) : b ≠ r := by
  obtain ⟨x, y, hr, _⟩ := h
  exact ne_of hb hr (fun z => nomatch z)
theorem Rng.ne_ins {H : Hp} {r b C dx : Addr} {fs : List (Str × V)} (h : Rng H r) (hb : H b = some (.ins C dx fs)) : b ≠ r := by
  obtain ⟨x, y, hr, _⟩ := h
  exact ne_of hb hr (fun z => nomatch z)
def spRng (K : PySem.W.Frag) : Sp := fun vs H Q _ => ∃ (s : Addr) (ns : List Int) (k : Nat), vs = [.ref s, .int k] ∧ SqL K H s (ns.map V.int) ∧ k ≤ 1000 ∧ ∀ r H', H r = none → Ext H H' → Rng H' r → Q (.ref r) H'
def spDraw : Sp := fun vs H Q _ => ∃ (r : Addr) (n : Int), vs = [.ref r, .int n] ∧ Rng H r ∧ 0 < n ∧ n < 1073741824 ∧ ∀ d H', 0 ≤ d → d < n → But r H H' → Rng H' r → Q (.int d) H'
def spChoice : Sp := fun vs H Q _ => ∃ r : Addr, Rng H r ∧ ((∃ (l : Addr) (xs : List V), vs = [.ref r, .ref l] ∧ H l = some (.lst xs) ∧ l ≠ r ∧ 0 < xs.length ∧ xs.length ≤ 1000 ∧ ∀ v H', v ∈ xs → But r H H' → Rng H' r → Q v H') ∨
  ∃ z : Str, vs = [.ref r, .str z] ∧ 0 < z.length ∧ z.length ≤ 1000 ∧ ∀ c H', c ∈ z.cps.toList → But r H H' → Rng H' r → Q (.str ⟨#[c]⟩) H')
theorem abs_nat (i : Int) : (if i < 0 then -i else i) = ((i.natAbs : Nat) : Int) := by
  split <;> omega
theorem fmod_pos {i j : Int} (h : 0 < j) : i.fmod j = i % j := Int.fmod_eq_emod_of_nonneg _ (by omega)
theorem fdiv_pos {i j : Int} (h : 0 < j) : i.fdiv j = i / j := Int.fdiv_eq_ediv_of_nonneg _ (by omega)
theorem bt_of {i : Int} {n : Nat} (h0 : 0 ≤ i) (h : i < 2 ^ n) : Bt n i := by
  unfold Bt
  have e : ((2 ^ n : Nat) : Int) = (2 : Int) ^ n := Int.natCast_pow 2 n
  omega
section
variable {P : Program} {w : World} {K : PySem.W.Frag} {mg : Str → Option Value} {base : Heap} {a : Ad}
theorem B_law_draw (T : Txt K mg a) : Binds K a.d_law_draw ["_law_rng_here", "_law_many"] [] := T.law_draw.F.binds fun _ _ _ _ _ _ us hl => match us, hl with | [_, _], _ => rfl
theorem ok_law_draw (T : Txt K mg a) : FnOk P w K mg base CX0 1 a.law_draw a.d_law_draw ["_law_rng_here", "_law_many"] spDraw := by
  refine T.law_draw.F.ok sc_law_draw (fun vs H Q E h => ?_) (fun cdv A outer s H vs Q E hr h => ?_)
  · obtain ⟨r, n, rfl, _⟩ := h
    rfl
  · obtain ⟨r, n, rfl, ⟨x, y, hx, x0, y0, y1⟩, n0, n1, h⟩ := h
    refine ⟨_, (pss_cons (ps_if (pt_cmpR op_gt (pe_ix ix_list (pv 0) pe_int (fun _ _ => rfl)) pe_int (nomark _)) (pss_cons (ps_asg (pe_callB call_divmod (by rfl) T.b_divmod (by decide +kernel) (pa_cons (pe_ix ix_list (pv 0) pe_int (fun _ _ => rfl)) (pa_cons (pv 1) pa_nil))) (pg_tup rfl (pgs_cons (pg_sub (pv 0) pe_int set_list) (pgs_cons (pg_name (i := 2) sc_law_draw.nd rfl (.inl rfl)) pgs_nil))))
      (pss_one (ps_ret (pv 2)))) pss_nil)
      (pss_cons (ps_asg (pe_op op_modN (pe_callTy call_int1 (by rfl) T.b_int (by decide +kernel) (pa_cons (pe_op op_add (pe_op op_mulX (pe_ix ix_list (pv 0) pe_int (fun _ _ => rfl)) pe_int) pe_int) pa_nil)) pe_int) (pg_sub (pv 0) pe_int set_list))
      (pss_one (ps_ret (pe_op op_modN (pe_op op_fdivX (pe_op op_modN (pe_callTy call_int1 (by rfl) T.b_int (by decide +kernel) (pa_cons (pe_op op_mulX (pe_ix ix_list (pv 0) pe_int (fun _ _ => rfl)) (pe_ix ix_list (pv 0) pe_int (fun _ _ => rfl))) pa_nil)) pe_int) pe_int) (pv 1)))))), ?_⟩
    refine ⟨_, rfl, r, _, _, _, rfl, rfl, SqL.of hx, rfl, _, _, rfl, rfl, _, rfl, ?_⟩
    by_cases hp : 0 < x
    · refine iteY (decide_eq_true hp) ?_
      refine ⟨_, rfl, r, _, _, _, rfl, rfl, SqL.of hx, rfl, _, rfl, _, _, rfl, ⟨n0, n1⟩, fun p hn => ?_⟩
      have hr' : upd H p (.tup [.int (x / n), .int (x % n)]) r = some (.lst [.int x, .int y]) := by
        rw [upd_ne (ne_of_none hx hn)]
        exact hx
      refine ⟨p, _, rfl, SqT.of upd_same, rfl, _, _, rfl, _, rfl, r, _, _, 0, rfl, rfl, hr', rfl, _, _, rfl, rfl, ?_⟩
      refine ⟨_, rfl, h _ _ (Int.emod_nonneg _ (by omega)) (Int.emod_lt_of_pos _ n0) (But.upd (but_of (Ext.upd hn))) ⟨x / n, y, upd_same, Int.ediv_nonneg x0 (by omega), y0, y1⟩⟩
    · refine iteN (decide_eq_false hp) ?_
      have b31 : Bt 31 y := bt_of y0 (by omega)
      refine ⟨_, rfl, r, _, _, _, rfl, rfl, SqL.of hx, rfl, _, _, rfl, rfl, cmulX b31 (n := 16) (by decide) (by decide), _, _, rfl, rfl, .inl ⟨_, rfl, _, _, rfl, rfl, (show (2147483563 : Int) ≠ 0 by decide), _, rfl, r, _, _, 1, rfl, rfl, hx, rfl, ?_⟩⟩
      refine to_heap (H2 := upd H r (.lst [.int x, .int ((y * 40693 + 27017) % 2147483563)])) (by rw [← fmod_pos (by decide)]; rfl) ?_
      generalize hz : (y * 40693 + 27017) % 2147483563 = z
      have z0 : 0 ≤ z := by rw [← hz]; exact Int.emod_nonneg _ (by decide)
      have z1 : z < 2147483563 := by rw [← hz]; exact Int.emod_lt_of_pos _ (by decide)
      have bz : Bt 31 z := bt_of z0 (by omega)
      have hr2 : upd H r (.lst [.int x, .int z]) r = some (.lst [.int x, .int z]) := upd_same
      refine ⟨_, rfl, r, _, _, _, rfl, rfl, SqL.of hr2, rfl, _, rfl, r, _, _, _, rfl, rfl, SqL.of hr2, rfl, _, _, rfl, rfl, cmulX bz bz (by decide), .inl ⟨_, rfl, _, _, rfl, rfl, (show (2147483477 : Int) ≠ 0 by decide), _, _, rfl, rfl, ⟨show (17 : Int) ≠ 0 by decide, show Nat.log2 17 < 9000 by decide⟩, _, rfl, _, _, rfl, rfl, (show n ≠ 0 by omega), ?_⟩⟩
      show Q (.int (Int.fmod _ n)) _
      rw [fmod_pos n0]
      exact h _ _ (Int.emod_nonneg _ (by omega)) (Int.emod_lt_of_pos _ n0) (But.upd But.rfl') ⟨x, z, upd_same, x0, z0, by omega⟩
theorem B_law_choice (T : Txt K mg a) : Binds K a.d_law_choice ["_law_rng_here", "_law_some"] [] := T.law_choice.F.binds fun _ _ _ _ _ _ us hl => match us, hl with | [_, _], _ => rfl
theorem ok_law_choice (T : Txt K mg a) : FnOk P w K mg base CX0 2 a.law_choice a.d_law_choice ["_law_rng_here", "_law_some"] spChoice := by
  have G_law_draw := ok_law_draw (P := P) (w := w) (base := base) T
  have b_law_draw := B_law_draw T
  refine T.law_choice.F.ok sc_law_choice (fun vs H Q E h => ?_) (fun cdv A outer s H vs Q E hr h => ?_)
  · rcases h with ⟨r, _, ⟨l, xs, rfl, _⟩ | ⟨z, rfl, _⟩⟩ <;> rfl
  · obtain ⟨r, hx, h⟩ := h
    have main : ∃ t, PSs (cxOf CX0 P w K mg base ["_law_rng_here", "_law_some"] "_law_choice" (defScope s_law_choice) a.law_choice cdv A outer s H E).nox (defBody s_law_choice) t ∧ t { nx := fun _ H' => Q .non H', rt := Q } (start ["_law_rng_here", "_law_some"] vs) H := by
      refine ⟨_, (pss_one (ps_ret (pe_ix ix_seq (pv 1) (pe_call G_law_draw (hr.mono (by decide)) (by rfl) T.law_draw.g T.law_draw.F.kp b_law_draw .nil pass0 (pa_cons (pv 0) (pa_cons (pe_callB call_len (by rfl) T.b_len (by decide +kernel) (pa_cons (pv 1) pa_nil)) pa_nil))) (fun _ _ => rfl)))), ?_⟩
      rcases h with ⟨l, xs, rfl, hl, ne, x0, x1, h⟩ | ⟨z, rfl, x0, x1, h⟩
      · refine ⟨_, rfl, _, rfl, _, rfl, _, _, rfl, .inl ⟨xs, SqL.of hl, rfl⟩, r, _, rfl, hx, by omega, by omega, fun d H' d0 d1 e hr' => ?_⟩
        obtain ⟨j, rfl⟩ : ∃ j : Nat, d = (j : Int) := ⟨d.toNat, by omega⟩
        have hj : j < xs.length := by omega
        exact .inl ⟨l, xs, _, xs[j], rfl, rfl, SqL.of (e _ _ hl ne), atI_nat (List.getElem?_eq_getElem hj), h _ _ (List.getElem_mem hj) e hr'⟩
      · have zl : z.length ≤ sizeLine := Nat.le_trans x1 (by decide)
        have len : z.cps.toList.length = z.length := Array.length_toList
        refine ⟨_, rfl, _, rfl, _, rfl, _, _, rfl, ⟨zl, rfl⟩, r, _, rfl, hx, by omega, by omega, fun d H' d0 d1 e hr' => ?_⟩
        obtain ⟨j, rfl⟩ : ∃ j : Nat, d = (j : Int) := ⟨d.toNat, by omega⟩
        have hj : j < z.cps.toList.length := by omega
        exact .inr (.inr ⟨z, _, z.cps.toList[j], rfl, rfl, zl, atI_nat (List.getElem?_eq_getElem hj), h _ _ (List.getElem_mem hj) e hr'⟩)
    obtain ⟨t, p, q⟩ := main
    exact ⟨t, p, q⟩
theorem B_law_rng (T : Txt K mg a) : Binds K a.d_law_rng ["_law_script", "_law_k"] [] := T.law_rng.F.binds fun _ _ _ _ _ _ us hl => match us, hl with | [_, _], _ => rfl
theorem ok_law_rng (T : Txt K mg a) : FnOk P w K mg base CX0 1 a.law_rng a.d_law_rng ["_law_script", "_law_k"] (spRng K) := by
  refine T.law_rng.F.ok sc_law_rng (fun vs H Q E h => ?_) (fun cdv A outer s H vs Q E hr h => ?_)
  · obtain ⟨r, ns, k, rfl, _⟩ := h
    rfl
  · obtain ⟨r, ns, k, rfl, hs, hk, h⟩ := h
    refine ⟨_, (pss_cons (ps_set (i := 2) sc_law_rng.nd rfl (.inl rfl) (pe_op op_add (pe_op op_mulX pe_int (pv 1)) pe_int))
      (pss_mid (ps_if (pt_cmpR op_lt (pv 1) (pe_callB call_len (by rfl) T.b_len (by decide +kernel) (pa_cons (pv 0) pa_nil)) (nomark _)) (pss_one (ps_set (i := 2) sc_law_rng.nd rfl (.inl rfl) (pe_ix ix_list (pv 0) (pv 1) (fun _ _ => rfl)))) pss_nil)
      (pss_one (ps_ret (pe_lst (pa_cons (pe_callB (call_max2 rfl) (by rfl) T.b_max (by decide +kernel) (pa_cons pe_int (pa_cons (pe_op op_sub (pe_callB call_abs (by rfl) T.b_abs (by decide +kernel) (pa_cons (pv 2) pa_nil)) (pe_op op_pow pe_int pe_int)) pa_nil))) (pa_cons (pe_op op_add (pe_op op_modN (pe_op op_mulX (pe_callTy call_int1 (by rfl) T.b_int (by decide +kernel) (pa_cons (pe_op op_add (pe_op op_modN (pe_callTy call_int1 (by rfl) T.b_int (by decide +kernel) (pa_cons (pe_callB call_abs (by rfl) T.b_abs (by decide +kernel) (pa_cons (pv 2) pa_nil)) pa_nil)) pe_int) pe_int) pa_nil)) (pe_op op_pow (pe_op op_add (pe_op op_mulX pe_int (pv 1)) pe_int) pe_int)) pe_int) pe_int) pa_nil))))))), ?_⟩
    have bk : Bt 10 (k : Int) := bt_of (by omega) (by omega)
    refine ⟨_, rfl, _, _, rfl, rfl, cmulX (m := 5) (by decide) bk (by decide), _, _, rfl, rfl, ?_⟩
    refine ⟨fun σ H1 => H1 = H ∧ ∃ c : Int, σ = [some (.ref r), some (.int (k : Int)), some (.int c)], ?_, ?_⟩
    · refine ⟨_, rfl, _, rfl, _, _, rfl, .inl ⟨_, hs, rfl⟩, _, _, rfl, rfl, _, rfl, ?_⟩
      rw [List.length_map]
      by_cases hl : (k : Int) < (ns.length : Int)
      · refine iteY (decide_eq_true hl) ?_
        have hk' : k < ns.length := by omega
        refine ⟨_, rfl, _, rfl, r, _, _, _, rfl, rfl, hs, atI_nat (show (ns.map V.int)[k]? = some (V.int ns[k]) by rw [List.getElem?_map, List.getElem?_eq_getElem hk']; rfl), rfl, _, rfl⟩
      · exact iteN (decide_eq_false hl) ⟨rfl, _, rfl⟩
    · rintro σ H1 ⟨rfl, c, rfl⟩
      refine ⟨_, rfl, _, rfl, _, _, rfl, rfl, ⟨by decide, by decide, by decide⟩, _, _, rfl, rfl, _, _, rfl, ?_⟩
      refine ⟨_, rfl, _, rfl, .inl ⟨_, rfl, _, _, rfl, rfl, (show (2147483549 : Int) ≠ 0 by decide), _, _, rfl, rfl, .inl ⟨_, rfl, ?_⟩⟩⟩
      rw [fmod_pos (by decide), abs_nat]
      generalize hu : ((c.natAbs : Nat) : Int) % 2147483549 = u
      have u0 : 0 ≤ u := by rw [← hu]; exact Int.emod_nonneg _ (by decide)
      have u1 : u < 2147483549 := by rw [← hu]; exact Int.emod_lt_of_pos _ (by decide)
      have bu : Bt 31 (u + 1) := bt_of (by omega) (by omega)
      have b7 : Bt 12 (2 * (k : Int) + 7) := bt_of (by omega) (by omega)
      refine ⟨_, rfl, _, _, rfl, rfl, cmulX (m := 2) (by decide) bk (by decide), _, _, rfl, rfl, _, _, rfl, rfl, ⟨show (0 : Int) ≤ 3 by decide, show (3 : Int) ≤ 1000000 by decide, Nat.lt_of_lt_of_le b7 (by decide)⟩, _, _, rfl, rfl, ?_, _, _, rfl, rfl, (show (2147483489 : Int) ≠ 0 by decide), _, _, rfl, rfl, (by show 2 ≤ sizeLine; decide), fun p hp => ?_⟩
      · refine cmulX (n := 36) bu ?_ (by decide)
        show Bt 36 ((2 * (k : Int) + 7) ^ 3)
        have e3 : (2 * (k : Int) + 7) ^ 3 = (2 * (k : Int) + 7) * (2 * (k : Int) + 7) * (2 * (k : Int) + 7) := by
          rw [Int.pow_succ, Int.pow_succ, Int.pow_succ, Int.pow_zero, Int.one_mul]
        rw [e3]
        exact (b7.mul b7).mul b7
      · refine h p _ hp (Ext.upd hp) ⟨_, _, upd_same, ?_, ?_, ?_⟩
        · split <;> omega
        · rw [fmod_pos (by decide)]
          have := Int.emod_nonneg ((u + 1) * (2 * (k : Int) + 7) ^ (3 : Int).toNat) (show (2147483489 : Int) ≠ 0 by decide)
          omega
        · rw [fmod_pos (by decide)]
          have := Int.emod_lt_of_pos ((u + 1) * (2 * (k : Int) + 7) ^ (3 : Int).toNat) (show (0 : Int) < 2147483489 by decide)
          omega
end
end P

namespace P
open PySem L2 NS

/-! ### the law's own rows -/
def spNum : Sp := fun vs H Q _ => ∃ r : Addr, vs = [.ref r] ∧ Rng H r ∧ ∀ (i : Int) H', Bt 100 i → But r H H' → Rng H' r → Q (.int i) H'
theorem nums_ok : ∀ v ∈ ([.int 0, .int 0, .int 1, .int 1, .int 2, .int 3, .int (-1), .int (-2), .int 7, .int (10 ^ 27), .int (-(10 ^ 27) + 1)] : List V), ∃ t, v = .int t ∧ Bt 100 t := by
  intro v hv
  simp only [List.mem_cons, List.not_mem_nil, or_false] at hv
  rcases hv with rfl | rfl | rfl | rfl | rfl | rfl | rfl | rfl | rfl | rfl | rfl <;> exact ⟨_, rfl, by unfold Bt; decide⟩
def spTog : Sp := fun vs H Q _ => ∃ d e m m' n n' b b' t c, vs = [.ref d, .ref e, .int t] ∧ H d = some (.dK (dkv m)) ∧ RowOk n b m ∧ H e = some (.dK (dkv m')) ∧ RowOk n' b' m' ∧ n + n' < 60 ∧ Bt c t ∧ b' + c ≤ 1000 ∧
  ∀ q M H', Ext H H' → H q = none → H' q = some (.dK (dkv M)) → Acc (n + n') M (fun k => vl m k + t * vl m' k) → Q (.ref q) H'
section
variable {P : Program} {w : World} {K : PySem.W.Frag} {mg : Str → Option Value} {base : Heap} {a : Ad}
theorem B_law_kept (T : Txt K mg a) : Binds K a.d_law_kept ["_law_model"] [] := T.law_kept.F.binds fun _ _ _ _ _ _ us hl => match us, hl with | [_], _ => rfl
theorem ok_law_kept (T : Txt K mg a) : FnOk P w K mg base CX0 1 a.law_kept a.d_law_kept ["_law_model"] spKept := by
  refine T.law_kept.F.ok sc_law_kept (fun vs H Q E h => ?_) (fun cdv A outer s H vs Q E hr h => ?_)
  · obtain ⟨i, m, n, b, rfl, _⟩ := h
    rfl
  · obtain ⟨d, m, n, b, rfl, hd, hm, n60, h⟩ := h
    have few : m.length < 60 := Nat.lt_of_le_of_lt hm.few n60
    refine ⟨_, (pss_one (ps_ret (pe_callTy (call_dictP rfl) (by rfl) T.b_dict (by decide +kernel) (pa_cons (pe_lc (own := [("_law_key", 1)]) (g := gName 1) (by rfl) sc_law_kept.nd (pi_list (pe_callB (call_sortedD rfl) (by rfl) T.b_sorted (by decide +kernel) (pa_cons (pv 0) pa_nil))) (blkOk_by (N := ["_law_model", "_law_key"]) (sc := defScope s_law_kept) (by decide +kernel)) (fun _ _ _ _ _ => (pg_name (i := 1) sc_law_kept.nd rfl (.inl rfl) (.inr rfl))) (fun _ _ _ _ _ => pts_one (pt_cmpR op_ne (pe_dget (hu_of hr) (pv 0) (pv 1) (fun _ _ => rfl)) pe_int (nomark _))) (fun _ _ _ _ _ => (pe_tup (pa_cons (pv 1) (pa_cons (pe_dget (hu_of hr) (pv 0) (pv 1) (fun _ _ => rfl)) pa_nil))))) pa_nil)))), ?_⟩
    refine ⟨_, rfl, d, dkv m, m.map (·.1), rfl, .inl hd, (by rw [dkv, List.map_map, List.map_map]; rfl), (by rw [List.length_map]; exact Nat.lt_trans few (by decide)), fun ys p perm srt hp => ?_⟩
    refine ⟨p, rfl, ⟨_, SqL.of upd_same⟩, fun D hD => ?_⟩
    have e1 := Ext.upd (o := .lst (ys.map V.str)) hp
    have hp1 : upd H p (.lst (ys.map V.str)) p = some (.lst (ys.map V.str)) := upd_same
    have hd1 := e1 _ _ hd
    generalize upd H p (.lst (ys.map V.str)) = H1 at *
    refine lc_list (xs := ys.map V.str) (fun i H' => Ext H1 H' ∧ ∃ ts : List Addr, H' D = some (.lst (ts.map V.ref)) ∧ ts.length ≤ i ∧ Paired (fun t kv => H' t = some (.tup [kV kv.1, kv.2])) ts (dkv (kept m (ys.take i)))) ⟨ext_put Ext.rfl' hD, [], upd_same, Nat.le_refl _, .nil⟩ (fun i H' _ z => SqL.of (z.1 _ _ hp1)) ?_ ?_
    · rintro i x H' hx ⟨e, ts, hts, hl, hpr⟩
      rw [List.getElem?_map] at hx
      obtain ⟨k, hk, rfl⟩ := Option.map_eq_some_iff.mp hx
      have km : k ∈ m.map (·.1) := perm.mem_iff.mp (List.mem_of_getElem? hk)
      have hi : i < 60 := by
        have := (List.getElem?_eq_some_iff.mp hk).1
        rw [perm.length_eq, List.length_map] at this
        exact Nat.lt_trans this few
      have dg : ∀ H2, Ext H1 H2 → DGet H2 d (.str k) (some (.int (vl m k))) := fun H2 e2 => .inl ⟨dkv m, .inr k, .inl (e2 _ _ hd1), rfl, (valV_dkv (m := m) km).symm⟩
      refine ⟨rfl, _, rfl, _, rfl, d, _, rfl, dg H' e, rfl, ?_⟩
      have et : ys.take (i + 1) = ys.take i ++ [k] := by rw [List.take_add_one, hk]; rfl
      by_cases hv : vl m k = 0
      · refine ⟨false, congrArg V.bl (by rw [hv]; rfl), iteF ⟨e, ts, hts, by omega, ?_⟩⟩
        rw [et, kept_zero hv]
        exact hpr
      · refine ⟨true, congrArg V.bl (by simp [hv]), iteT ?_⟩
        refine ⟨_, rfl, _, rfl, _, rfl, d, _, rfl, dg H' e, (by show 2 ≤ sizeLine; decide), fun t ht => ?_⟩
        have eT := Ext.upd (o := .tup [.str k, .int (vl m k)]) ht
        have hts' := eT _ _ hts
        refine ⟨_, hts', Nat.lt_of_lt_of_le (m := 60) (by rw [List.length_map]; omega) (by decide), ext_put (e.trans eT) hD, ts ++ [t], ?_, by rw [List.length_append]; show ts.length + 1 ≤ _; omega, ?_⟩
        · rw [upd_same, List.map_append]
          rfl
        · rw [et, kept_snoc hv]
          unfold dkv
          rw [List.map_append]
          refine paired_snoc (paired_imp (fun t' kv ht' => ?_) hpr) ?_
          · rw [upd_ne (ne_of (eT _ _ ht') hts' (fun z => nomatch z))]
            exact eT _ _ ht'
          · rw [upd_ne (ne_of (upd_same (H := H')) hts' (fun z => nomatch z))]
            exact upd_same
    · rintro H' ⟨e, ts, hts, hl, hpr⟩
      rw [List.length_map, List.take_length] at hpr
      have c := canon_kept hm.nd perm (sorted_pw srt)
      refine ⟨D, ts, dkv (kept m ys), rfl, SqL.of hts, paired_imp (fun t kv ht => SqT.of ht) hpr, fun q hq => ?_⟩
      have em := merge_dkv (kept m ys) [] (by rw [List.nil_append]; exact c.nd)
      rw [List.nil_append] at em
      have em' : mergeK [] (dkv (kept m ys)) = dkv (kept m ys) := em
      rw [em']
      refine h q _ _ ((e1.trans e).trans (Ext.upd hq)) ?_ upd_same c (rowOk_kept hm perm c)
      cases hz : H q with
      | none => rfl
      | some o =>
        rw [(e1.trans e) _ _ hz] at hq
        cases hq
theorem B_law_number (T : Txt K mg a) : Binds K a.d_law_number ["_law_rng_here"] [] := T.law_number.F.binds fun _ _ _ _ _ _ us hl => match us, hl with | [_], _ => rfl
theorem ok_law_number (T : Txt K mg a) : FnOk P w K mg base CX0 3 a.law_number a.d_law_number ["_law_rng_here"] spNum := by
  have G_law_choice := ok_law_choice (P := P) (w := w) (base := base) T
  have b_law_choice := B_law_choice T
  have pw : ∀ i j : Int, (0 ≤ j ∧ j ≤ 1000000 ∧ i.natAbs < 2 ^ 64) → CPow i j := fun _ _ h => h
  refine T.law_number.F.ok sc_law_number (fun vs H Q E h => ?_) (fun cdv A outer s H vs Q E hr h => ?_)
  · obtain ⟨r, rfl, _⟩ := h
    rfl
  · obtain ⟨r, rfl, g, h⟩ := h
    refine ⟨_, (pss_one (ps_ret (pe_call G_law_choice (hr.mono (by decide)) (by rfl) T.law_choice.g T.law_choice.F.kp b_law_choice .nil pass0 (pa_cons (pv 0) (pa_cons (pe_lst (pa_cons pe_int (pa_cons pe_int (pa_cons pe_int (pa_cons pe_int (pa_cons pe_int (pa_cons pe_int (pa_cons (pe_un un_neg pe_int) (pa_cons (pe_un un_neg pe_int) (pa_cons pe_int (pa_cons (pe_op op_pow pe_int pe_int) (pa_cons (pe_op op_add (pe_un un_neg (pe_op op_pow pe_int pe_int)) pe_int) pa_nil)))))))))))) pa_nil))))), ?_⟩
    refine ⟨_, rfl, _, rfl, _, rfl, _, _, rfl, rfl, pw 10 27 (by decide), _, _, rfl, rfl, pw 10 27 (by decide), _, rfl, _, _, rfl, rfl, (by show 11 ≤ sizeLine; decide), fun l hl => ?_⟩
    refine ⟨r, g.ext (Ext.upd hl), .inl ⟨l, _, rfl, upd_same, fun z => ?_, (by show 0 < 11; decide), (by show 11 ≤ 1000; decide), fun v H' hv b g' => ?_⟩⟩
    · obtain ⟨x, y, hr', _⟩ := g
      rw [← z, hl] at hr'
      cases hr'
    · obtain ⟨i, rfl, zi⟩ := nums_ok v hv
      exact h i H' zi ((but_of (Ext.upd hl)).trans b) g'
theorem B_law_together (T : Txt K mg a) : Binds K a.d_law_together ["_law_one", "_law_other", "_law_times"] [] := T.law_together.F.binds fun _ _ _ _ _ _ us hl => match us, hl with | [_, _, _], _ => rfl
theorem ok_law_together (T : Txt K mg a) : FnOk P w K mg base CX0 1 a.law_together a.d_law_together ["_law_one", "_law_other", "_law_times"] spTog := by
  refine T.law_together.F.ok sc_law_together (fun vs H Q E h => ?_) (fun cdv A outer s H vs Q E hr h => ?_)
  · obtain ⟨d, e, m, m', n, n', b, b', t, c, rfl, _⟩ := h
    rfl
  · obtain ⟨d, d', L, L', n, n', b, b', t, c, rfl, hd, ok, hd', ok', n60, zt, hbc, h⟩ := h
    refine ⟨_, (pss_cons (ps_set (i := 3) sc_law_together.nd rfl (.inl rfl) (pe_callTy call_dictD (by rfl) T.b_dict (by decide +kernel) (pa_cons (pv 0) pa_nil)))
      (pss_cons (ps_lock (ps_for PassesOwn.never rfl (pi_items (pv 1)) (pg_tup rfl (pgs_cons (pg_name (i := 4) sc_law_together.nd rfl (.inl rfl)) (pgs_cons (pg_name (i := 5) sc_law_together.nd rfl (.inl rfl)) pgs_nil))) (pss_one (ps_dput (hu_of hr) (pv 3) (pv 4) (pe_op op_add (pe_dget2 (hu_of hr) (pv 3) (pv 4) pe_int ⟨rfl, rfl, rfl, rfl⟩) (pe_op op_mulX (pv 2) (pv 5))) rfl))))
      (pss_one (ps_ret (pv 3))))), ?_⟩
    refine ⟨_, rfl, d, dkv L, rfl, .inl hd, fun q hq => ?_⟩
    have e1 := Ext.upd (o := .dK (dkv L)) hq
    have hd1 := e1 _ _ hd'
    have hq1 : upd H q (.dK (dkv L)) q = some (.dK (dkv L)) := upd_same
    have hqd : q ≠ d' := fun z => by
      rw [z, hd'] at hq
      cases hq
    have qn : ∀ b o, H b = some o → b ≠ q := fun b o hb z => by
      rw [z, hq] at hb
      cases hb
    generalize upd H q (.dK (dkv L)) = H1 at *
    refine ⟨d', _, hd1, trivial, fun od => ?_⟩
    have hf : upd H1 d' (.frz od (.dK (dkv L'))) d' = some (.frz od (.dK (dkv L'))) := upd_same
    refine ⟨_, rfl, d', od, dkv L', rfl, hf, ?_⟩
    have hq0 : upd H1 d' (.frz od (.dK (dkv L'))) q = some (.dK (dkv L)) := by rw [upd_ne hqd]; exact hq1
    generalize hH0 : upd H1 d' (.frz od (.dK (dkv L'))) = H0 at *
    refine for_it walk_items (fun i σ H' => (∀ b o, H0 b = some o → b ≠ q → H' b = some o) ∧ ∃ M o3 o4, H' q = some (.dK (dkv M)) ∧ Acc (n + i) M (fun k => vl L k + Sm id ((L'.take i).map fun p => (p.1, t * p.2)) k) ∧ σ = [some (.ref d), some (.ref d'), some (.int t), some (.ref q), o3, o4]) ⟨fun b o hb _ => hb, L, _, _, hq0, ⟨ok.nm, ok.nd, ok.few, fun k => (Int.add_zero _).symm⟩, rfl⟩ (fun i σ H' _ z => z.1 _ _ hf fun z => hqd z.symm) ?_ ?_
    · rintro i x0 σ H' H'' hi ⟨e, M, o3, o4, hM, acc, rfl⟩ ⟨T0, x, y, rfl, hT, rfl, hx, hy⟩
      have hi' : i < L'.length := by rw [dkv, List.length_map] at hi; exact hi
      have hm0 : L'[i]? = some L'[i] := List.getElem?_eq_getElem hi'
      have hk : (dkv L')[i]? = some (.inr L'[i].1, .int L'[i].2) := by rw [dkv, List.getElem?_map, hm0]; rfl
      dsimp only at hx hy
      rw [hk] at hx hy
      cases hx
      cases hy
      have eT := Ext.upd (o := .tup [.str L'[i].1, .int L'[i].2]) hT
      have hM' := eT _ _ hM
      refine ⟨T0, _, rfl, SqT.of upd_same, rfl, _, _, rfl, _, _, rfl, rfl, ?_⟩
      refine ⟨_, rfl, q, rfl, .inl ⟨_, .inl hM'⟩, _, rfl, _, .inl ⟨dkv M, .inr L'[i].1, .inl hM', rfl, rfl⟩, _, rfl, _, rfl, _, _, rfl, rfl, cmulX zt (ok'.bt _ (List.getElem_mem hi')) (by omega), ?_⟩
      rw [get_dkv]
      refine ⟨_, _, rfl, rfl, _, rfl, _, rfl, q, _, rfl, DPut.k (k := .inr L'[i].1) hM' (Nat.lt_of_le_of_lt (by rw [dkv, List.length_map]; exact acc.few) (Nat.lt_of_lt_of_le (m := 60) (by have := ok'.few; omega) (by decide))), ?_⟩
      refine ⟨fun b o hb hne => ?_, putR M L'[i].1 (vl M L'[i].1 + t * L'[i].2), _, _, ?_, ?_, rfl⟩
      · rw [upd_ne hne]
        exact eT _ _ (e b o hb hne)
      · rw [upd_same, put_dkv]
      · have a2 := acc.put (ok'.nm _ (List.getElem_mem hi')) (t * L'[i].2)
        refine ⟨a2.nm, a2.nd, a2.few, fun k => ?_⟩
        rw [a2.val, List.take_add_one, hm0, List.map_append]
        show _ = vl L k + Sm id ((L'.take i).map (fun p => (p.1, t * p.2)) ++ [(L'[i].1, t * L'[i].2)]) k
        rw [sm_snoc, Int.add_assoc]
        rfl
    · rintro σ H' ⟨e, M, o3, o4, hM, acc, rfl⟩
      rw [show (dkv L').length = L'.length from List.length_map .., List.take_length] at acc
      refine ⟨e _ _ hf fun z => hqd z.symm, _, rfl, ?_⟩
      refine h q M _ (fun b o hb => ?_) hq (by rw [upd_ne hqd]; exact hM) ⟨acc.nm, acc.nd, Nat.le_trans acc.few (Nat.add_le_add_left ok'.few n), fun k => ?_⟩
      · by_cases z : b = d'
        · subst z
          rw [upd_same, ← hb, hd']
        · rw [upd_ne z]
          refine e b o ?_ (qn b o hb)
          rw [← hH0, upd_ne z]
          exact e1 _ _ hb
      · rw [acc.val, sm_id (by rw [List.map_map]; exact ok'.nd), vl_map (g := fun z => t * z) (Int.mul_zero t)]
end
end P

namespace P
open PySem L2 NS

/-! ### the law's renaming; is_plain -/
section
variable {P : Program} {w : World} {K : PySem.W.Frag} {mg : Str → Option Value} {base : Heap} {a : Ad}
theorem B_law_renamed (T : Txt K mg a) : Binds K a.d_law_renamed ["_law_model", "_law_names_here"] [] := T.law_renamed.F.binds fun _ _ _ _ _ _ us hl => match us, hl with | [_, _], _ => rfl
theorem ok_law_renamed (T : Txt K mg a) : FnOk P w K mg base CX0 1 a.law_renamed a.d_law_renamed ["_law_model", "_law_names_here"] spRen := by
  refine T.law_renamed.F.ok sc_law_renamed (fun vs H Q E h => ?_) (fun cdv A outer s H vs Q E hr h => ?_)
  · obtain ⟨d, e, m, R, n, b, rfl, _⟩ := h
    rfl
  · obtain ⟨d', r0, L', R, n, b, rfl, hd', ok', n60, hr0, hR, hne0, h⟩ := h
    refine ⟨_, (pss_cons (ps_set (i := 2) sc_law_renamed.nd rfl (.inl rfl) pe_dnewK)
      (pss_cons (ps_lock (ps_for PassesOwn.never rfl (pi_items (pv 0)) (pg_tup rfl (pgs_cons (pg_name (i := 3) sc_law_renamed.nd rfl (.inl rfl)) (pgs_cons (pg_name (i := 4) sc_law_renamed.nd rfl (.inl rfl)) pgs_nil))) (pss_one (ps_dput (hu_of hr) (pv 2) (pe_dget2 (hu_of hr) (pv 1) (pv 3) (pv 3) ⟨rfl, rfl, rfl, rfl⟩) (pe_op op_add (pe_dget2 (hu_of hr) (pv 2) (pe_dget2 (hu_of hr) (pv 1) (pv 3) (pv 3) ⟨rfl, rfl, rfl, rfl⟩) pe_int ⟨rfl, rfl, rfl, rfl⟩) (pv 4)) rfl))))
      (pss_one (ps_ret (pv 2))))), ?_⟩
    refine fun q hq => ?_
    have e1 := Ext.upd (o := .dK []) hq
    have hd1 := e1 _ _ hd'
    have hr1 := e1 _ _ hr0
    have hq1 : upd H q (.dK []) q = some (.dK []) := upd_same
    have hqd : q ≠ d' := fun z => by
      rw [z, hd'] at hq
      cases hq
    have qn : ∀ b o, H b = some o → b ≠ q := fun b o hb z => by
      rw [z, hq] at hb
      cases hb
    generalize upd H q (.dK []) = H1 at *
    refine ⟨d', _, hd1, trivial, fun od => ?_⟩
    have hf : upd H1 d' (.frz od (.dK (dkv L'))) d' = some (.frz od (.dK (dkv L'))) := upd_same
    refine ⟨_, rfl, d', od, dkv L', rfl, hf, ?_⟩
    have hq0 : upd H1 d' (.frz od (.dK (dkv L'))) q = some (.dK (dkv [])) := by rw [upd_ne hqd]; exact hq1
    have hr2 : upd H1 d' (.frz od (.dK (dkv L'))) r0 = some (.dK (dks R)) := by rw [upd_ne fun z => hne0 z.symm]; exact hr1
    generalize hH0 : upd H1 d' (.frz od (.dK (dkv L'))) = H0 at *
    refine for_it walk_items (fun i σ H' => (∀ b o, H0 b = some o → b ≠ q → H' b = some o) ∧ ∃ M o3 o4, H' q = some (.dK (dkv M)) ∧ Acc i M (fun k => Sm (ren R) (L'.take i) k) ∧ σ = [some (.ref d'), some (.ref r0), some (.ref q), o3, o4]) ⟨fun b o hb _ => hb, [], _, _, hq0, Acc.nil, rfl⟩ (fun i σ H' _ z => z.1 _ _ hf fun z => hqd z.symm) ?_ ?_
    · rintro i x0 σ H' H'' hi ⟨e, M, o3, o4, hM, acc, rfl⟩ ⟨T0, x, y, rfl, hT, rfl, hx, hy⟩
      have hi' : i < L'.length := by rw [dkv, List.length_map] at hi; exact hi
      have hm0 : L'[i]? = some L'[i] := List.getElem?_eq_getElem hi'
      have hk : (dkv L')[i]? = some (.inr L'[i].1, .int L'[i].2) := by rw [dkv, List.getElem?_map, hm0]; rfl
      dsimp only at hx hy
      rw [hk] at hx hy
      cases hx
      cases hy
      have eT := Ext.upd (o := .tup [.str L'[i].1, .int L'[i].2]) hT
      have hM' := eT _ _ hM
      have hR' := eT _ _ (e _ _ hr2 (qn _ _ hr0))
      refine ⟨T0, _, rfl, SqT.of upd_same, rfl, _, _, rfl, _, _, rfl, rfl, ?_⟩
      refine ⟨_, rfl, q, rfl, .inl ⟨_, .inl hM'⟩, _, rfl, r0, rfl, .inl ⟨_, .inl hR'⟩, _, rfl, _, rfl, _, .inl ⟨dks R, .inr L'[i].1, .inl hR', rfl, rfl⟩, _, .inl ⟨dkv M, .inr (ren R L'[i].1), .inl hM', get_dks R L'[i].1, rfl⟩, _, rfl, ?_⟩
      rw [get_dkv]
      refine ⟨_, _, rfl, rfl, _, rfl, _, rfl, r0, rfl, .inl ⟨_, .inl hR'⟩, _, rfl, _, rfl, _, .inl ⟨dks R, .inr L'[i].1, .inl hR', rfl, rfl⟩, q, _, rfl, .inl ⟨dkv M, .inr (ren R L'[i].1), hM', get_dks R L'[i].1, Nat.lt_of_le_of_lt (by rw [dkv, List.length_map]; exact acc.few) (Nat.lt_of_lt_of_le (m := 60) (by have := ok'.few; omega) (by decide)), rfl⟩, ?_⟩
      refine ⟨fun b o hb hne => ?_, putR M (ren R L'[i].1) (vl M (ren R L'[i].1) + L'[i].2), _, _, ?_, ?_, rfl⟩
      · rw [upd_ne hne]
        exact eT _ _ (e b o hb hne)
      · rw [upd_same, put_dkv]
      · have a2 := acc.put (nm_ren hR (ok'.nm _ (List.getElem_mem hi'))) L'[i].2
        refine ⟨a2.nm, a2.nd, a2.few, fun k => ?_⟩
        rw [a2.val, List.take_add_one, hm0]
        show _ = Sm (ren R) (L'.take i ++ [L'[i]]) k
        rw [sm_snoc]
    · rintro σ H' ⟨e, M, o3, o4, hM, acc, rfl⟩
      rw [show (dkv L').length = L'.length from List.length_map .., List.take_length] at acc
      refine ⟨e _ _ hf fun z => hqd z.symm, _, rfl, ?_⟩
      refine h q M _ (fun b o hb => ?_) hq (by rw [upd_ne hqd]; exact hM) ⟨acc.nm, acc.nd, Nat.le_trans acc.few ok'.few, acc.val⟩
      by_cases z : b = d'
      · subst z
        rw [upd_same, ← hb, hd']
      · rw [upd_ne z]
        refine e b o ?_ (qn b o hb)
        rw [← hH0, upd_ne z]
        exact e1 _ _ hb
theorem B_Table_is_plain (T : Txt K mg a) : Binds K a.d_Table_is_plain ["self"] [] := T.Table_is_plain.F.binds fun _ _ _ _ _ _ us hl => match us, hl with | [_], _ => rfl
theorem ok_Table_is_plain (T : Txt K mg a) : FnOk P w K mg base CX0 1 a.Table_is_plain a.d_Table_is_plain ["self"] (spPlain a.Table) := by
  refine T.Table_is_plain.F.ok sc_Table_is_plain (fun vs H Q E h => ?_) (fun cdv A outer s H vs Q E hr h => ?_)
  · obtain ⟨v, f, n, b, rfl, _⟩ := h
    rfl
  · obtain ⟨v, f, n, b, rfl, ⟨p, dx, d, rfl, hp, L, hd, c, ok⟩, n60, h⟩ := h
    refine ⟨_, (pss_one (ps_ret (pe_callB (cr_all rfl) (by rfl) T.b_all (by decide +kernel) (pa_cons (pe_lock (pe_lc (own := [("number", 1)]) (g := gName 1) (by rfl) sc_Table_is_plain.nd (pi_values (pe_fld (pv 0) rfl)) (blkOk_by (N := ["self", "number"]) (sc := defScope s_Table_is_plain) (by decide +kernel)) (fun _ _ _ _ _ => (pg_name (i := 1) sc_Table_is_plain.nd rfl (.inl rfl) (.inr rfl))) (fun _ _ _ _ _ => pts_nil) (fun _ _ _ _ _ => (pe_cmpR op_gt (pv 1) pe_int (nomark _))))) pa_nil)))), ?_⟩
    refine ⟨d, _, hd, trivial, fun od => ?_⟩
    have hf : upd H d (.frz od (.dK (dkv L))) d = some (.frz od (.dK (dkv L))) := upd_same
    have hpd : p ≠ d := ne_of hp hd (fun z => nomatch z)
    have hp0 : upd H d (.frz od (.dK (dkv L))) p = some (.ins a.Table dx [("own_counts", .ref d)]) := by rw [upd_ne hpd]; exact hp
    refine ⟨_, rfl, p, _, dx, _, _, rfl, hp0, T.Table.cls, T.no_Table_own_counts, rfl, d, od, dkv L, rfl, hf, fun D hD => ?_⟩
    generalize hH0 : upd H d (.frz od (.dK (dkv L))) = H0 at *
    refine lc_it walk_values (fun i H' => Ext H0 H' ∧ H' D = some (.lst (((L.take i).map fun q => decide (0 < q.2)).map V.bl))) ⟨ext_put Ext.rfl' hD, upd_same⟩ (fun i H' _ z => z.1 _ _ hf) ?_ ?_
    · rintro i x H' H'' hi ⟨e, h3⟩ ⟨rfl, k, hx⟩
      have hi' : i < L.length := by rw [dkv, List.length_map] at hi; exact hi
      have hm0 : L[i]? = some L[i] := List.getElem?_eq_getElem hi'
      have hk : (dkv L)[i]? = some (.inr L[i].1, .int L[i].2) := by rw [dkv, List.getElem?_map, hm0]; rfl
      rw [hk] at hx
      cases hx
      refine ⟨rfl, yes_of ?_⟩
      refine ⟨_, rfl, _, _, rfl, rfl, _, h3, Nat.lt_of_lt_of_le (m := 60) (by rw [List.length_map, List.length_map, List.length_take]; have := ok.few; omega) (by decide), ext_put e hD, ?_⟩
      rw [upd_same, List.take_add_one, hm0, List.map_append, List.map_append]
      rfl
    · rintro H' ⟨e, h3⟩
      refine ⟨e _ _ hf, ?_⟩
      rw [show (dkv L).length = L.length from List.length_map .., List.take_length] at h3
      have hne : D ≠ d := fun z => by rw [← z] at hf; rw [hD] at hf; cases hf
      refine ⟨D, L.map fun q => decide (0 < q.2), rfl, SqL.of (by rw [upd_ne hne]; exact h3), ?_⟩
      subst hH0
      have k := h L _ (ext_unlock hd e) c
      rw [List.all_map]
      exact k
end
end P

namespace P
open PySem L2 NS

/-! ### mixed names -/
theorem but_put {r D : Addr} {H H' : Hp} {o : HO} (h : But r H H') (hD : H D = none) : But r H (upd H' D o) := fun b u e n => by
  rw [upd_ne (ne_of_none e hD)]
  exact h b u e n
theorem Rng.put {r D : Addr} {H : Hp} {o : HO} (h : Rng H r) (hD : D ≠ r) : Rng (upd H D o) r := by
  obtain ⟨x, y, hr, z⟩ := h
  exact ⟨x, y, by rw [upd_ne (fun e => hD e.symm)]; exact hr, z⟩
theorem Rng.fresh {r D : Addr} {H : Hp} (h : Rng H r) (hD : H D = none) : D ≠ r := fun e => by
  obtain ⟨x, y, hr, _⟩ := h
  rw [← e, hD] at hr
  cases hr
def spMix : Sp := fun vs H Q _ => ∃ (r l : Addr) (ss : List Str), vs = [.ref r, .ref l] ∧ Rng H r ∧ H l = some (.lst (ss.map V.str)) ∧ l ≠ r ∧ ss.length ≤ 1000 ∧
  ∀ p (ys : List Str) H', But r H H' → Rng H' r → H p = none → H' p = some (.lst (ys.map V.str)) → ys.Perm ss → Q (.ref p) H'
theorem seqIx {j n : Nat} (h : j < n) : seqIndex? (j : Int) n = some j := by
  have h1 : ¬ ((j : Int) < 0) := by omega
  have h2 : (decide (0 ≤ (j : Int)) && decide ((j : Int) < (n : Int))) = true := by
    rw [Bool.and_eq_true_iff]
    exact ⟨decide_eq_true (by omega), decide_eq_true (by omega)⟩
  unfold seqIndex?
  dsimp only
  rw [if_neg h1, if_pos h2]
  rfl
theorem erase_map {α β : Type} {f : α → β} : ∀ {l : List α} {k : Nat}, (l.map f).eraseIdx k = (l.eraseIdx k).map f
  | [], k => by simp
  | x :: l, 0 => rfl
  | x :: l, k + 1 => congrArg (f x :: ·) (erase_map (l := l) (k := k))
theorem erase_perm {α : Type} : ∀ {l : List α} {k : Nat} {y : α}, l[k]? = some y → (y :: l.eraseIdx k).Perm l
  | x :: l, 0, y, h => by
    cases h
    exact .refl _
  | x :: l, k + 1, y, h => by
    show (y :: x :: l.eraseIdx k).Perm (x :: l)
    exact (List.Perm.swap x y _).trans ((erase_perm (l := l) (k := k) h).cons x)
section
variable {P : Program} {w : World} {K : PySem.W.Frag} {mg : Str → Option Value} {base : Heap} {a : Ad}
theorem B_law_mixed (T : Txt K mg a) : Binds K a.d_law_mixed ["_law_rng_here", "_law_some"] [] := T.law_mixed.F.binds fun _ _ _ _ _ _ us hl => match us, hl with | [_, _], _ => rfl
theorem ok_law_mixed (T : Txt K mg a) : FnOk P w K mg base CX0 2 a.law_mixed a.d_law_mixed ["_law_rng_here", "_law_some"] spMix := by
  have G_law_draw := ok_law_draw (P := P) (w := w) (base := base) T
  have b_law_draw := B_law_draw T
  refine T.law_mixed.F.ok sc_law_mixed (fun vs H Q E h => ?_) (fun cdv A outer s H vs Q E hr h => ?_)
  · obtain ⟨r, l, ss, rfl, _⟩ := h
    rfl
  · obtain ⟨r, l, ss, rfl, g, hl, nlr, hs, h⟩ := h
    refine ⟨_, (pss_cons (ps_par (i := 2) (j := 3) (by rfl) sc_law_mixed.nd rfl rfl (by decide) rfl rfl (pa_cons (pe_callTy call_list_of (by rfl) T.b_list (by decide +kernel) (pa_cons (pv 1) pa_nil)) (pa_cons (pe_lst pa_nil) pa_nil)) (by rfl))
      (pss_cons (ps_for PassesOwn.never rfl (pi_list (pv 1)) (pg_name (i := 4) sc_law_mixed.nd rfl (.inl rfl)) (pss_one (ps_expr (pe_bm PySem.F.plainAttrs_list PySem.F.slot_list_append PySem.F.type_list_append mt_append (pv 3) (pa_cons (pe_bm PySem.F.plainAttrs_list PySem.F.slot_list_pop PySem.F.type_list_pop mt_popAt (pv 2) (pa_cons (pe_call G_law_draw (hr.mono (by decide)) (by rfl) T.law_draw.g T.law_draw.F.kp b_law_draw .nil pass0 (pa_cons (pv 0) (pa_cons (pe_callB call_len (by rfl) T.b_len (by decide +kernel) (pa_cons (pv 2) pa_nil)) pa_nil))) pa_nil)) pa_nil)))))
      (pss_one (ps_ret (pv 3))))), ?_⟩
    refine ⟨_, rfl, l, _, rfl, .inl (SqL.of hl), fun lf hlf => ⟨(by show 0 ≤ sizeLine; decide), fun fd hfd => ⟨_, _, rfl, ?_⟩⟩⟩
    have e1 := Ext.upd (o := .lst (ss.map V.str)) hlf
    have nlf := g.fresh hlf
    have nff : fd ≠ lf := fun z => by rw [z, upd_same] at hfd; cases hfd
    have hfd0 : H fd = none := by rw [upd_ne nff] at hfd; exact hfd
    have nfd := g.fresh hfd0
    have nl1 : l ≠ lf := ne_of_none hl hlf
    have nl2 : l ≠ fd := ne_of_none hl hfd0
    refine ⟨_, rfl, l, rfl, ⟨_, SqL.of (by rw [upd_ne nl2, upd_ne nl1]; exact hl)⟩, ?_⟩
    refine for_list (xs := ss.map V.str) (fun i σ H' => But r H H' ∧ Rng H' r ∧ ∃ (L F : List Str) (o4 : Option V), H' lf = some (.lst (L.map V.str)) ∧ H' fd = some (.lst (F.map V.str)) ∧ (F ++ L).Perm ss ∧ F.length = i ∧ σ = [some (.ref r), some (.ref l), some (.ref lf), some (.ref fd), o4]) ⟨but_put (but_put But.rfl' hlf) hfd0, (g.put nlf).put nfd, ss, [], _, (by rw [upd_ne fun z => nff z.symm, upd_same]), upd_same, .refl _, rfl, rfl⟩ ?_ ?_ ?_
    · rintro i σ H' _ ⟨b, _⟩
      exact SqL.of (b _ _ hl nlr)
    · rintro i x σ H' hx ⟨b, g', L, F, o4, hL, hF, perm, hn, rfl⟩
      have hi : i < ss.length := by rw [← List.length_map (f := V.str)]; exact (List.getElem?_eq_some_iff.mp hx).1
      have hlen := perm.length_eq
      rw [List.length_append] at hlen
      have lens : (L.map V.str).length = L.length := List.length_map ..
      refine ⟨_, rfl, .inl ⟨rfl, _, SqL.of hF⟩, _, rfl, .inl ⟨rfl, _, SqL.of hL⟩, _, rfl, _, rfl, _, _, rfl, .inl ⟨_, SqL.of hL, rfl⟩, r, _, rfl, g', by omega, by omega, fun d H2 d0 d1 b2 g2 => ?_⟩
      obtain ⟨j, rfl⟩ : ∃ j : Nat, d = (j : Int) := ⟨d.toNat, by omega⟩
      have hj : j < L.length := by omega
      have hL2 := b2 _ _ hL nlf
      have hF2 := b2 _ _ hF nfd
      have hyj : L[j]? = some L[j] := List.getElem?_eq_getElem hj
      refine ⟨lf, _, j, j, .str L[j], rfl, rfl, hL2, by omega, by omega, ?_, by rw [List.getElem?_map, hyj]; rfl, ?_⟩
      · exact seqIx (by rw [lens]; exact hj)
      refine ⟨fd, _, _, rfl, rfl, (by rw [upd_ne nff]; exact hF2), Nat.lt_of_lt_of_le (m := 2000) (by rw [List.length_map]; omega) (by decide), ?_⟩
      refine ⟨but_put (but_put (b.trans b2) hlf) hfd0, (g2.put nlf).put nfd, L.eraseIdx j, F ++ [L[j]], _, ?_, ?_, ?_, by rw [List.length_append]; show F.length + 1 = _; omega, rfl⟩
      · rw [upd_ne fun z => nff z.symm, upd_same, erase_map]
      · rw [upd_same, List.map_append]
        rfl
      · rw [List.append_assoc]
        exact ((erase_perm hyj).append_left F).trans perm
    · rintro σ H' ⟨b, g', L, F, o4, hL, hF, perm, hn, rfl⟩
      have hlen := perm.length_eq
      rw [List.length_append, hn, List.length_map] at hlen
      have e : L = [] := List.length_eq_zero_iff.mp (by omega)
      subst e
      rw [List.append_nil] at perm
      exact ⟨_, rfl, h fd F H' b g' hfd0 hF perm⟩
end
end P

namespace P
open PySem L2 NS

/-! ### drawn rows -/
def spDict : Sp := fun vs H Q _ => ∃ (r l : Addr) (ss : List Str), vs = [.ref r, .ref l] ∧ Rng H r ∧ H l = some (.lst (ss.map V.str)) ∧ l ≠ r ∧ ss.length < 60 ∧ ss.Nodup ∧ (∀ s, s ∈ ss → Nm s) ∧
  ∀ p (m : Row) H', But r H H' → Rng H' r → H p = none → H' p = some (.dK (dkv m)) → RowOk ss.length 100 m → (∀ q, q ∈ m → q.1 ∈ ss) → Q (.ref p) H'
section
variable {P : Program} {w : World} {K : PySem.W.Frag} {mg : Str → Option Value} {base : Heap} {a : Ad}
theorem B_law_dict (T : Txt K mg a) : Binds K a.d_law_dict ["_law_rng_here", "_law_names_here"] [] := T.law_dict.F.binds fun _ _ _ _ _ _ us hl => match us, hl with | [_, _], _ => rfl
theorem ok_law_dict (T : Txt K mg a) : FnOk P w K mg base CX0 4 a.law_dict a.d_law_dict ["_law_rng_here", "_law_names_here"] spDict := by
  have G_law_draw := ok_law_draw (P := P) (w := w) (base := base) T
  have b_law_draw := B_law_draw T
  have G_law_number := ok_law_number (P := P) (w := w) (base := base) T
  have b_law_number := B_law_number T
  have G_law_mixed := ok_law_mixed (P := P) (w := w) (base := base) T
  have b_law_mixed := B_law_mixed T
  refine T.law_dict.F.ok sc_law_dict (fun vs H Q E h => ?_) (fun cdv A outer s H vs Q E hr h => ?_)
  · obtain ⟨r, l, ss, rfl, _⟩ := h
    rfl
  · obtain ⟨r, l, ss, rfl, g, hl, nlr, hs, hnd, hnm, h⟩ := h
    refine ⟨_, (pss_one (ps_ret (pe_callTy (call_dictP rfl) (by rfl) T.b_dict (by decide +kernel) (pa_cons (pe_lc (own := [("_law_key", 2)]) (g := gName 2) (by rfl) sc_law_dict.nd (pi_list (pe_call G_law_mixed (hr.mono (by decide)) (by rfl) T.law_mixed.g T.law_mixed.F.kp b_law_mixed .nil pass0 (pa_cons (pv 0) (pa_cons (pv 1) pa_nil)))) (blkOk_by (N := ["_law_rng_here", "_law_names_here", "_law_key"]) (sc := defScope s_law_dict) (by decide +kernel)) (fun _ _ _ _ _ => (pg_name (i := 2) sc_law_dict.nd rfl (.inl rfl) (.inr rfl))) (fun _ _ _ _ _ => pts_one (pt_cmpR op_gt (pe_call G_law_draw (hr.mono (by decide)) (by rfl) T.law_draw.g T.law_draw.F.kp b_law_draw .nil pass0 (pa_cons (pv 0) (pa_cons pe_int pa_nil))) pe_int (nomark _))) (fun _ _ _ _ _ => (pe_tup (pa_cons (pv 2) (pa_cons (pe_call G_law_number (hr.mono (by decide)) (by rfl) T.law_number.g T.law_number.F.kp b_law_number .nil pass0 (pa_cons (pv 0) pa_nil)) pa_nil))))) pa_nil)))), ?_⟩
    refine ⟨_, rfl, _, rfl, r, l, ss, rfl, g, hl, nlr, by omega, fun p ys H1 b1 g1 hp0 hp perm => ?_⟩
    refine ⟨p, rfl, ⟨_, SqL.of hp⟩, fun D hD => ?_⟩
    have npr := g.fresh hp0
    have nDr := g1.fresh hD
    have hD0 : H D = none := by
      cases z : H D with
      | none => rfl
      | some o =>
        by_cases e : D = r
        · exact absurd e nDr
        · rw [b1 _ _ z e] at hD
          cases hD
    refine lc_list (xs := ys.map V.str) (fun i H' => But r H1 H' ∧ Rng H' r ∧ ∃ (ts : List Addr) (m : Row), H' D = some (.lst (ts.map V.ref)) ∧ ts.length ≤ i ∧ Paired (fun t kv => H' t = some (.tup [kV kv.1, kv.2])) ts (dkv m) ∧ (m.map (·.1)).Sublist (ys.take i) ∧ ∀ q, q ∈ m → Bt 100 q.2) ⟨but_put But.rfl' hD, g1.put nDr, [], [], upd_same, Nat.le_refl _, .nil, List.nil_sublist _, fun q hq => (by cases hq)⟩ (fun i H' _ z => SqL.of (z.1 _ _ hp npr)) ?_ ?_
    · rintro i x H' hx ⟨b2, g2, ts, m, hts, htl, hpr, hsub, hbt⟩
      rw [List.getElem?_map] at hx
      obtain ⟨k, hk, rfl⟩ := Option.map_eq_some_iff.mp hx
      have hi : i < ss.length := by
        rw [← perm.length_eq]
        exact (List.getElem?_eq_some_iff.mp hk).1
      have et : ys.take (i + 1) = ys.take i ++ [k] := by rw [List.take_add_one, hk]; rfl
      refine ⟨rfl, _, rfl, r, 4, rfl, g2, by decide, by decide, fun d H3 d0 d1 b3 g3 => ?_⟩
      have hpr3 : Paired (fun t kv => H3 t = some (.tup [kV kv.1, kv.2])) ts (dkv m) := paired_imp (fun t kv ht => b3 _ _ ht (g2.ne_tup ht)) hpr
      have hts3 := b3 _ _ hts nDr
      refine ⟨_, _, rfl, rfl, _, rfl, ?_⟩
      by_cases hd : 0 < d
      · refine iteY (decide_eq_true hd) ?_
        refine ⟨_, rfl, _, rfl, r, rfl, g3, fun n H4 zn b4 g4 => ⟨(by show 2 ≤ sizeLine; decide), fun t ht => ?_⟩⟩
        have hts4 := b4 _ _ hts3 nDr
        have eT := Ext.upd (o := .tup [.str k, .int n]) ht
        have hts5 := eT _ _ hts4
        refine ⟨_, hts5, Nat.lt_of_lt_of_le (m := 60) (by rw [List.length_map]; omega) (by decide), but_put (((b2.trans b3).trans b4).ext eT) hD, (g4.ext eT).put nDr, ts ++ [t], m ++ [(k, n)], ?_, by rw [List.length_append]; show ts.length + 1 ≤ _; omega, ?_, ?_, ?_⟩
        · rw [upd_same, List.map_append]
          rfl
        · unfold dkv
          rw [List.map_append]
          refine paired_snoc (paired_imp (fun t' kv ht' => ?_) hpr3) ?_
          · have h4 := eT _ _ (b4 _ _ ht' (g3.ne_tup ht'))
            rw [upd_ne (ne_of h4 hts5 (fun z => nomatch z))]
            exact h4
          · rw [upd_ne (ne_of (upd_same (H := H4)) hts5 (fun z => nomatch z))]
            exact upd_same
        · rw [et, List.map_append]
          exact hsub.append (List.Sublist.refl _)
        · intro q hq
          rcases List.mem_append.mp hq with hq | hq
          · exact hbt q hq
          · rw [List.mem_singleton.mp hq]
            exact zn
      · refine iteN (decide_eq_false hd) ⟨b2.trans b3, g3, ts, m, hts3, by omega, hpr3, ?_, hbt⟩
        rw [et]
        exact hsub.trans (List.sublist_append_left _ _)
    · rintro H' ⟨b2, g2, ts, m, hts, htl, hpr, hsub, hbt⟩
      rw [List.length_map, List.take_length] at hsub
      have nd : (m.map (·.1)).Nodup := hsub.nodup (perm.nodup_iff.mpr hnd)
      have on : ∀ q, q ∈ m → q.1 ∈ ss := fun q hq => perm.mem_iff.mp (hsub.subset (List.mem_map.mpr ⟨q, hq, rfl⟩))
      refine ⟨D, ts, dkv m, rfl, SqL.of hts, paired_imp (fun t kv ht => SqT.of ht) hpr, fun q hq => ?_⟩
      have em := merge_dkv m [] (by rw [List.nil_append]; exact nd)
      rw [List.nil_append] at em
      have em' : mergeK [] (dkv m) = dkv m := em
      rw [em']
      have few : m.length ≤ ss.length := by
        have := hsub.length_le
        rw [List.length_map, perm.length_eq] at this
        exact this
      refine h q m _ ((b1.trans b2).ext (Ext.upd hq)) (g2.ext (Ext.upd hq)) ?_ upd_same ⟨fun p hp => hnm _ (on p hp), hbt, nd, few⟩ on
      cases z : H q with
      | none => rfl
      | some o =>
        by_cases e : q = r
        · exact absurd e (g2.fresh hq)
        · rw [(b1.trans b2) _ _ z e] at hq
          cases hq
end
end P

namespace P
open PySem L2 NS

/-! ### a long name -/
def one (c : Nat) : Str := ⟨#[c]⟩
theorem joinL_ones : ∀ cs : List Nat, TL.joinL [] (cs.map fun c => [c]) = cs
  | [] => rfl
  | [_] => rfl
  | c :: d :: r => by
    show [c] ++ ([] ++ TL.joinL [] ((d :: r).map fun c => [c])) = _
    rw [joinL_ones (d :: r)]
    rfl
theorem join_ones (cs : List Nat) : (Txt.join "" (cs.map one)).cps.toList = cs := by
  rw [TL.join_eq]
  have h := TL.tl_join "" (cs.map one)
  rw [List.map_map] at h
  exact h.trans (joinL_ones cs)
def spLong : Sp := fun vs H Q _ => ∃ r : Addr, vs = [.ref r] ∧ Rng H r ∧ ∀ (s : Str) H', Nm s → s.length = 8 → But r H H' → Rng H' r → Q (.str s) H'
theorem let_low {c : Nat} (h : c ∈ LET.cps.toList) : low c := by
  have e : LET.cps.toList = (List.range 26).map (· + 97) := by decide +kernel
  rw [e] at h
  obtain ⟨i, hi, rfl⟩ := List.mem_map.mp h
  have := List.mem_range.mp hi
  exact ⟨by omega, by omega⟩
theorem both_sig {c : Nat} (h : c ∈ (LET ++ ("0123456789" : Str)).cps.toList) : sig c := by
  have e : (LET ++ ("0123456789" : Str)).cps.toList = (List.range 26).map (· + 97) ++ (List.range 10).map (· + 48) := by decide +kernel
  rw [e] at h
  rcases List.mem_append.mp h with h | h
  · obtain ⟨i, hi, rfl⟩ := List.mem_map.mp h
    have := List.mem_range.mp hi
    exact .inl ⟨by omega, by omega⟩
  · obtain ⟨i, hi, rfl⟩ := List.mem_map.mp h
    have := List.mem_range.mp hi
    exact .inr ⟨by omega, by omega⟩
section
variable {P : Program} {w : World} {K : PySem.W.Frag} {mg : Str → Option Value} {base : Heap} {a : Ad}
theorem B_law_long (T : Txt K mg a) : Binds K a.d_law_long ["_law_rng_here"] [] := T.law_long.F.binds fun _ _ _ _ _ _ us hl => match us, hl with | [_], _ => rfl
theorem ok_law_long (T : Txt K mg a) : FnOk P w K mg base CX0 3 a.law_long a.d_law_long ["_law_rng_here"] spLong := by
  have G_law_choice := ok_law_choice (P := P) (w := w) (base := base) T
  have b_law_choice := B_law_choice T
  refine T.law_long.F.ok sc_law_long (fun vs H Q E h => ?_) (fun cdv A outer s H vs Q E hr h => ?_)
  · obtain ⟨r, rfl, _⟩ := h
    rfl
  · obtain ⟨r, rfl, g, h⟩ := h
    refine ⟨_, (pss_cons (ps_set (i := 1) sc_law_long.nd rfl (.inr rfl) pe_str)
      (pss_cons (ps_setLc (i := 2) (own := [("_law_turn", 3)]) (g := gName 3) (by rfl) sc_law_long.nd rfl rfl (sw_true rfl rfl rfl (by decide +kernel)) (pi_range1 (by rfl) T.b_range (pa_cons pe_int pa_nil)) (blkOk_by (N := ["_law_rng_here", "_law_letters", "_law_tail", "_law_turn"]) (sc := defScope s_law_long) (by decide +kernel)) (fun _ _ _ _ _ => (pg_name (i := 3) sc_law_long.nd rfl (.inl rfl) (.inr rfl))) (fun _ _ _ _ _ => pts_nil) (fun _ _ _ _ _ => (pe_call G_law_choice (hr.mono (by decide)) (by rfl) T.law_choice.g T.law_choice.F.kp b_law_choice .nil pass0 (pa_cons (pv 0) (pa_cons (pe_op op_add_str (pv 1) pe_str) pa_nil)))))
      (pss_one (ps_ret (pe_op op_add_str (pe_call G_law_choice (hr.mono (by decide)) (by rfl) T.law_choice.g T.law_choice.F.kp b_law_choice .nil pass0 (pa_cons (pv 0) (pa_cons (pv 1) pa_nil))) (pe_join pe_str (pv 2))))))), ?_⟩
    refine ⟨7, rfl, by decide, by decide, fun D hD => ?_⟩
    have nDr := g.fresh hD
    refine lc_range (n := 7) (fun i H' => But r H H' ∧ Rng H' r ∧ ∃ cs : List Nat, H' D = some (.lst ((cs.map one).map V.str)) ∧ cs.length = i ∧ ∀ c, c ∈ cs → sig c) ⟨but_put But.rfl' hD, g.put nDr, [], upd_same, rfl, fun c hc => (by cases hc)⟩ ?_ ?_
    · rintro i H' hi ⟨b1, g1, cs, hcs, hl, hsg⟩
      refine ⟨rfl, yes_of ?_⟩
      refine ⟨_, rfl, _, rfl, _, _, rfl, rfl, (by decide), r, g1, .inr ⟨_, rfl, (by decide), (by decide), fun c H2 hc b2 g2 => ?_⟩⟩
      have hcs2 := b2 _ _ hcs nDr
      refine ⟨_, hcs2, Nat.lt_of_lt_of_le (m := 60) (by rw [List.length_map, List.length_map]; omega) (by decide), but_put (b1.trans b2) hD, g2.put nDr, cs ++ [c], ?_, by rw [List.length_append, hl]; rfl, ?_⟩
      · rw [upd_same, List.map_append, List.map_append]
        rfl
      · intro c' hc'
        rcases List.mem_append.mp hc' with z | z
        · exact hsg c' z
        · rw [List.mem_singleton.mp z]
          exact both_sig hc
    · rintro H1 ⟨b1, g1, cs, hcs, hl, hsg⟩
      refine ⟨_, rfl, _, rfl, r, g1, .inr ⟨LET, rfl, (by decide), (by decide), fun c H2 hc b2 g2 => ?_⟩⟩
      have jo := join_ones cs
      have jl : (Txt.join "" (cs.map one)).length = 7 := by
        have z := congrArg List.length jo
        rw [Array.length_toList] at z
        exact z.trans hl
      refine ⟨⟨_, rfl⟩, _, rfl, "", D, cs.map one, rfl, rfl, .inl (SqL.of (b2 _ _ hcs nDr)), ?_, _, _, rfl, rfl, ?_, ?_⟩
      · have e : ((cs.map one).map (·.length)).sum = cs.length := by
          rw [List.map_map]
          clear jo jl hcs hsg hl
          induction cs with
          | nil => rfl
          | cons x xs ih =>
            rw [List.map_cons, List.sum_cons, ih, List.length_cons, Nat.add_comm]
            rfl
        rw [e, hl]
        show 7 + _ * 0 ≤ _
        omega
      · rw [jl]
        show 1 + 7 ≤ sizeLine
        decide
      · have tl : ((⟨#[c]⟩ : Str) ++ Txt.join "" (cs.map one)).cps.toList = c :: cs := by
          rw [Str.cps_append, Array.toList_append, jo]
          rfl
        have len : ((⟨#[c]⟩ : Str) ++ Txt.join "" (cs.map one)).length = 8 := by
          rw [strLen_append, jl]
          rfl
        refine h _ H2 ⟨by omega, by omega, fun c' h' => ?_, fun c' h' => ?_⟩ len (b1.trans b2) g2
        · rw [tl] at h'
          cases h'
          exact let_low hc
        · rw [tl] at h'
          rcases List.mem_cons.mp h' with rfl | h'
          · exact .inl (let_low hc)
          · exact hsg c' h'
end
end P

namespace P
open PySem L2 NS

/-! ### spare names: plain -/
theorem nodup_le {α : Type} [DecidableEq α] : ∀ {l r : List α}, l.Nodup → (∀ x, x ∈ l → x ∈ r) → l.length ≤ r.length
  | [], r, _, _ => Nat.zero_le _
  | y :: l, r, nd, hs => by
    rw [List.nodup_cons] at nd
    have h := nodup_le (r := r.erase y) nd.2 fun z hz => by
      have hzy : z ≠ y := fun z' => nd.1 (by rw [← z']; exact hz)
      exact (List.mem_erase_of_ne hzy).mpr (hs z (.tail _ hz))
    have hy := hs y (.head _)
    rw [List.length_erase_of_mem hy] at h
    have : 0 < r.length := List.length_pos_of_mem hy
    rw [List.length_cons]
    omega
def tens : List Str := (List.range 90).map fun (i : Nat) => (toString ((10 : Int) + (i : Int)) : Str)
theorem tens_ok : tens.all (fun s => decide (s.length = 2) && s.cps.toList.all fun c => decide (48 ≤ c) && decide (c ≤ 57)) = true := by decide +kernel
theorem tens_nodup : tens.Nodup := by decide +kernel
def spare (s : Str) : List Str := s :: tens.map fun t => s ++ t
theorem app_inj {s t u : Str} (h : s ++ t = s ++ u) : t = u := by
  have e := congrArg (fun z : Str => z.cps.toList) h
  simp only [Str.cps_append, Array.toList_append] at e
  have e := List.append_cancel_left e
  cases t
  cases u
  exact congrArg Str.mk (Array.toList_inj.mp e)
theorem spare_nodup (s : Str) : (spare s).Nodup := by
  unfold spare
  rw [List.nodup_cons]
  constructor
  · intro h
    obtain ⟨t, ht, e⟩ := List.mem_map.mp h
    have h2 := List.all_eq_true.mp tens_ok t ht
    rw [Bool.and_eq_true_iff] at h2
    have h3 := of_decide_eq_true h2.1
    have e2 := congrArg (fun z : Str => z.length) e
    simp only [strLen_append] at e2
    omega
  · rw [List.Nodup, List.pairwise_map]
    exact tens_nodup.imp fun hne e => hne (app_inj e)
/-- one of them is free -/
theorem spare_free {s : Str} {ts : List Str} (h : ts.length < 91) : ∃ x, x ∈ spare s ∧ x ∉ ts := by
  by_cases hx : ∃ x, x ∈ spare s ∧ x ∉ ts
  · exact hx
  · have := nodup_le (spare_nodup s) fun x hs => by
      by_cases hm : x ∈ ts
      · exact hm
      · exact absurd ⟨x, hs, hm⟩ hx
    have e : (spare s).length = 91 := by
      unfold spare tens
      rw [List.length_cons, List.length_map, List.length_map, List.length_range]
    omega
end P

namespace P
open PySem L2 NS

/-! ### drawn names -/
abbrev AL2 : Str := "abcdefghijkmnopq0123456789"
theorem al2_len : AL2.cps.toList.length = 26 := by decide +kernel
theorem al2_sig {c : Nat} (h : c ∈ AL2.cps.toList) : sig c := by
  have e : AL2.cps.toList.all (fun c => (decide (97 ≤ c) && decide (c ≤ 122)) || (decide (48 ≤ c) && decide (c ≤ 57))) = true := by decide +kernel
  have := List.all_eq_true.mp e c h
  simp only [Bool.or_eq_true, Bool.and_eq_true, decide_eq_true_eq] at this
  exact this
theorem ones_sum : ∀ cs : List Nat, ((cs.map one).map (·.length)).sum = cs.length
  | [] => rfl
  | c :: cs => by
    rw [List.map_cons, List.map_cons, List.sum_cons, ones_sum cs, List.length_cons, Nat.add_comm]
    rfl
theorem inV_str (x : Str) (ss : List Str) : inV (.str x) (ss.map V.str) = decide (x ∈ ss) := by
  unfold inV
  rw [List.any_map, Bool.eq_iff_iff, List.any_eq_true, decide_eq_true_iff]
  constructor
  · rintro ⟨y, hy, e⟩
    have e : y = x := eq_of_beq e
    rw [← e]
    exact hy
  · intro h
    exact ⟨x, h, beq_self_eq_true x⟩
theorem flat_strs (ss : List Str) : (ss.map V.str).all flatV = true := List.all_eq_true.mpr fun v hv => by
  obtain ⟨s, _, rfl⟩ := List.mem_map.mp hv
  rfl
theorem spare_nm {z y : Str} (hz : Nm z) (h3 : z.length ≤ 3) (hy : y ∈ spare z) : Nm y ∧ y.length ≤ 5 := by
  rcases List.mem_cons.mp hy with rfl | hy
  · exact ⟨hz, by omega⟩
  · obtain ⟨t, ht, rfl⟩ := List.mem_map.mp hy
    have t2 := List.all_eq_true.mp tens_ok t ht
    rw [Bool.and_eq_true_iff] at t2
    have t3 := of_decide_eq_true t2.1
    have len : (z ++ t).length = z.length + 2 := by rw [strLen_append, t3]
    have tl : (z ++ t).cps.toList = z.cps.toList ++ t.cps.toList := by rw [Str.cps_append, Array.toList_append]
    have z1 := hz.one
    have zl : z.cps.toList.length = z.length := Array.length_toList
    refine ⟨⟨by omega, by omega, fun c hc => ?_, fun c hc => ?_⟩, by omega⟩
    · rw [tl, List.getElem?_append_left (by omega)] at hc
      exact hz.first c hc
    · rw [tl] at hc
      rcases List.mem_append.mp hc with hc | hc
      · exact hz.all c hc
      · have q := List.all_eq_true.mp t2.2 c hc
        rw [Bool.and_eq_true_iff] at q
        exact .inr ⟨of_decide_eq_true q.1, of_decide_eq_true q.2⟩
def spNames (K : PySem.W.Frag) : Sp := fun vs H Q _ => ∃ (r tk : Addr) (n : Nat) (ts : List Str), vs = [.ref r, .int (n : Int), .ref tk] ∧ Rng H r ∧ H tk = some (.lst (ts.map V.str)) ∧ tk ≠ r ∧ n ≤ 20 ∧ ts.length ≤ 40 ∧
  ∀ p (ss : List Str) H', But r H H' → Rng H' r → H p = none → H' p = some (.lst (ss.map V.str)) → ss.length = n → ss.Nodup → (∀ s, s ∈ ss → Nm s ∧ s.length ≤ 5 ∧ s ∉ ts) → Q (.ref p) H'
section
variable {P : Program} {w : World} {K : PySem.W.Frag} {mg : Str → Option Value} {base : Heap} {a : Ad}
theorem B_law_names (T : Txt K mg a) : Binds K a.d_law_names ["_law_rng_here", "_law_many", "_law_taken"] [] := T.law_names.F.binds fun _ _ _ _ _ _ us hl => match us, hl with | [_, _, _], _ => rfl
theorem ok_law_names (T : Txt K mg a) : FnOk P w K mg base CX0 2 a.law_names a.d_law_names ["_law_rng_here", "_law_many", "_law_taken"] (spNames K) := by
  have G_law_draw := ok_law_draw (P := P) (w := w) (base := base) T
  have b_law_draw := B_law_draw T
  refine T.law_names.F.ok sc_law_names (fun vs H Q E h => ?_) (fun cdv A outer s H vs Q E hr h => ?_)
  · obtain ⟨r, tk, n, ts, rfl, _⟩ := h
    rfl
  · obtain ⟨r, tk, n, ts, rfl, g, htk, ntk, hn, hts, h⟩ := h
    refine ⟨_, (pss_cons (ps_set (i := 3) sc_law_names.nd rfl (.inr rfl) (pe_lst pa_nil))
      (pss_cons (ps_for PassesOwn.never rfl (pi_range1 (by rfl) T.b_range (pa_cons (pv 1) pa_nil)) (pg_name (i := 4) sc_law_names.nd rfl (.inl rfl)) (pss_cons (ps_set (i := 5) sc_law_names.nd rfl (.inl rfl) (pe_call G_law_draw (hr.mono (by decide)) (by rfl) T.law_draw.g T.law_draw.F.kp b_law_draw .nil pass0 (pa_cons (pv 0) (pa_cons pe_int pa_nil))))
      (pss_cons (ps_set (i := 6) sc_law_names.nd rfl (.inr rfl) (pe_ix ix_str pe_str (pe_call G_law_draw (hr.mono (by decide)) (by rfl) T.law_draw.g T.law_draw.F.kp b_law_draw .nil pass0 (pa_cons (pv 0) (pa_cons pe_int pa_nil))) (fun _ _ => rfl)))
      (pss_mid (ps_set (i := 6) sc_law_names.nd rfl (.inr rfl) (pe_op op_add_str (pv 6) (pe_join pe_str (pe_lc (own := [("_law_turn", 7)]) (g := gName 7) (by rfl) sc_law_names.nd (pi_range1 (by rfl) T.b_range (pa_cons (pv 5) pa_nil)) (blkOk_by (N := ["_law_rng_here", "_law_many", "_law_taken", "_law_found", "_law_k", "_law_size", "_law_name", "_law_turn", "_law_spare", "_law_one"]) (sc := defScope s_law_names) (by decide +kernel)) (fun _ _ _ _ _ => (pg_name (i := 7) sc_law_names.nd rfl (.inl rfl) (.inr rfl))) (fun _ _ _ _ _ => pts_nil) (fun _ _ _ _ _ => (pe_ix ix_str pe_str (pe_call G_law_draw (hr.mono (by decide)) (by rfl) T.law_draw.g T.law_draw.F.kp b_law_draw .nil pass0 (pa_cons (pv 0) (pa_cons pe_int pa_nil))) (fun _ _ => rfl)))))))
      (pss_cons (ps_set (i := 8) sc_law_names.nd rfl (.inl rfl) (pe_op op_cat (pe_lst (pa_cons (pv 6) pa_nil)) (pe_lc (own := [("_law_turn", 7)]) (g := gName 7) (by rfl) sc_law_names.nd (pi_range2 (by rfl) T.b_range (pa_cons pe_int (pa_cons pe_int pa_nil))) (blkOk_by (N := ["_law_rng_here", "_law_many", "_law_taken", "_law_found", "_law_k", "_law_size", "_law_name", "_law_turn", "_law_spare", "_law_one"]) (sc := defScope s_law_names) (by decide +kernel)) (fun _ _ _ _ _ => (pg_name (i := 7) sc_law_names.nd rfl (.inl rfl) (.inr rfl))) (fun _ _ _ _ _ => pts_nil) (fun _ _ _ _ _ => (pe_op op_add_str (pv 6) (pe_callTy call_str_int (by rfl) T.b_str (by decide +kernel) (pa_cons (pv 7) pa_nil)))))))
      (pss_one (ps_expr (pe_bm PySem.F.plainAttrs_list PySem.F.slot_list_append PySem.F.type_list_append mt_append (pv 3) (pa_cons (pe_ix ix_list (pe_lc (own := [("_law_one", 9)]) (g := gName 9) (by rfl) sc_law_names.nd (pi_list (pv 8)) (blkOk_by (N := ["_law_rng_here", "_law_many", "_law_taken", "_law_found", "_law_k", "_law_size", "_law_name", "_law_turn", "_law_spare", "_law_one"]) (sc := defScope s_law_names) (by decide +kernel)) (fun _ _ _ _ _ => (pg_name (i := 9) sc_law_names.nd rfl (.inl rfl) (.inr rfl))) (fun _ _ _ _ _ => pts_one (PW.pt (pw_and (pt_cmpR (r := rIn K true) op_notIn_seq (pv 9) (pv 3) (by rfl)) (pw_and1 (pt_cmpR (r := rIn K true) op_notIn_seq (pv 9) (pv 2) (by rfl)))))) (fun _ _ _ _ _ => (pv 9))) pe_int (fun _ _ => rfl)) pa_nil)))))))))
      (pss_one (ps_ret (pv 3))))), ?_⟩
    refine ⟨(by show 0 ≤ sizeLine; decide), fun fd hfd => ?_⟩
    have nfr := g.fresh hfd
    have ntf : tk ≠ fd := ne_of_none htk hfd
    refine ⟨_, rfl, (n : Int), rfl, by omega, by omega, ?_⟩
    rw [Int.toNat_natCast]
    refine for_range (n := n) (fun i σ H' => But r H H' ∧ Rng H' r ∧ ∃ (ss : List Str) (o4 o5 o6 o7 o8 o9 : Option V), H' fd = some (.lst (ss.map V.str)) ∧ ss.length = i ∧ ss.Nodup ∧ (∀ s, s ∈ ss → Nm s ∧ s.length ≤ 5 ∧ s ∉ ts) ∧ σ = [some (.ref r), some (.int (n : Int)), some (.ref tk), some (.ref fd), o4, o5, o6, o7, o8, o9]) ⟨but_put But.rfl' hfd, g.put nfr, [], _, _, _, _, _, _, upd_same, rfl, List.nodup_nil, fun s hs => (by cases hs), rfl⟩ ?_ ?_
    · rintro i σ H' hi ⟨b0, g0, ss, o4, o5, o6, o7, o8, o9, hss, hl, hnd, hok, rfl⟩
      refine ⟨_, rfl, r, 3, rfl, g0, by decide, by decide, fun d1 H1 d10 d11 b1 g1 => ?_⟩
      refine ⟨_, rfl, r, 26, rfl, g1, by decide, by decide, fun d2 H2 d20 d21 b2 g2 => ?_⟩
      obtain ⟨j, rfl⟩ : ∃ j : Nat, d2 = (j : Int) := ⟨d2.toNat, by omega⟩
      have ll : LET.cps.toList.length = 26 := by decide +kernel
      have hj : j < LET.cps.toList.length := by omega
      have hc := List.getElem?_eq_getElem hj
      have lc := let_low (List.getElem_mem hj)
      generalize LET.cps.toList[j] = c at hc lc
      refine ⟨LET, _, c, rfl, rfl, (by decide), atI_nat hc, ?_⟩
      have b02 := (b0.trans b1).trans b2
      refine ⟨fun σ H3 => But r H2 H3 ∧ Rng H3 r ∧ ∃ (z : Str) (o7 : Option V), Nm z ∧ z.length ≤ 3 ∧ σ = [some (.ref r), some (.int (n : Int)), some (.ref tk), some (.ref fd), some (.int (0 + (i : Int))), some (.int d1), some (.str z), o7, o8, o9], ?_, ?_⟩
      · refine ⟨_, rfl, ⟨_, rfl⟩, _, rfl, d1, rfl, by omega, by omega, fun D hD => ?_⟩
        have nDr := g2.fresh hD
        refine lc_range (n := d1.toNat) (fun i H' => But r H2 H' ∧ Rng H' r ∧ ∃ cs : List Nat, H' D = some (.lst ((cs.map one).map V.str)) ∧ cs.length = i ∧ ∀ c, c ∈ cs → sig c) ⟨but_put But.rfl' hD, g2.put nDr, [], upd_same, rfl, fun c hc => (by cases hc)⟩ ?_ ?_
        · rintro i' H3 hi' ⟨b3, g3, cs, hcs, hcl, hsg⟩
          refine ⟨rfl, yes_of ?_⟩
          refine ⟨_, rfl, r, 26, rfl, g3, by decide, by decide, fun d4 H4 d40 d41 b4 g4 => ?_⟩
          obtain ⟨j4, rfl⟩ : ∃ j : Nat, d4 = (j : Int) := ⟨d4.toNat, by omega⟩
          have hj4 : j4 < AL2.cps.toList.length := by rw [al2_len]; omega
          have hcs4 := b4 _ _ hcs nDr
          refine ⟨AL2, _, _, rfl, rfl, (by decide), atI_nat (List.getElem?_eq_getElem hj4), _, hcs4, Nat.lt_of_lt_of_le (m := 60) (by rw [List.length_map, List.length_map]; omega) (by decide), but_put (b3.trans b4) hD, g4.put nDr, cs ++ [AL2.cps.toList[j4]], ?_, by rw [List.length_append, hcl]; rfl, ?_⟩
          · rw [upd_same, List.map_append, List.map_append]
            rfl
          · intro c' hc'
            rcases List.mem_append.mp hc' with z | z
            · exact hsg c' z
            · rw [List.mem_singleton.mp z]
              exact al2_sig (List.getElem_mem hj4)
        · rintro H3 ⟨b3, g3, cs, hcs, hcl, hsg⟩
          have jo := join_ones cs
          have jl : (Txt.join "" (cs.map one)).length = cs.length := by
            have z := congrArg List.length jo
            rw [Array.length_toList] at z
            exact z
          have c3 : cs.length ≤ 2 := by omega
          have tl : ((⟨#[c]⟩ : Str) ++ Txt.join "" (cs.map one)).cps.toList = c :: cs := by
            rw [Str.cps_append, Array.toList_append, jo]
            rfl
          have len : ((⟨#[c]⟩ : Str) ++ Txt.join "" (cs.map one)).length = 1 + cs.length := by
            rw [strLen_append, jl]
            rfl
          refine ⟨"", D, cs.map one, rfl, rfl, .inl (SqL.of hcs), ?_, _, _, rfl, rfl, ?_, b3, g3, _, _, ⟨by omega, by omega, fun c' h' => ?_, fun c' h' => ?_⟩, by omega, rfl⟩
          · rw [ones_sum]
            show cs.length + _ * 0 ≤ _
            omega
          · rw [jl]
            show 1 + cs.length ≤ sizeLine
            exact Nat.le_trans (m := 3) (by omega) (by decide)
          · rw [tl] at h'
            cases h'
            exact lc
          · rw [tl] at h'
            rcases List.mem_cons.mp h' with rfl | h'
            · exact .inl lc
            · exact hsg c' h'
      rintro σ H3 ⟨b3, g3, z, o7', hz, hz3, rfl⟩
      refine ⟨_, rfl, (by show 1 ≤ sizeLine; decide), fun l1 h1 => ?_⟩
      have e1 := Ext.upd (o := .lst [.str z]) h1
      have hl1 : upd H3 l1 (.lst [.str z]) l1 = some (.lst [.str z]) := upd_same
      have g4 := g3.ext e1
      generalize upd H3 l1 (.lst [.str z]) = H4 at *
      refine ⟨10, 100, rfl, ⟨by decide, by decide, by decide, by decide⟩, fun D hD => ?_⟩
      have nDr := g4.fresh hD
      refine lc_range (lo := 10) (n := 90) (fun i H' => Ext H4 H' ∧ H' D = some (.lst (((tens.take i).map (z ++ ·)).map V.str))) ⟨ext_put Ext.rfl' hD, upd_same⟩ ?_ ?_
      · rintro i' H5 hi' ⟨e5, h5⟩
        refine ⟨rfl, yes_of ?_⟩
        have ht : tens[i']? = some (toString ((10 : Int) + (i' : Int)) : Str) := by
          unfold tens
          rw [List.getElem?_map, List.getElem?_range hi']
          rfl
        have t2 := List.all_eq_true.mp tens_ok _ (List.mem_of_getElem? ht)
        rw [Bool.and_eq_true_iff] at t2
        have t3 := of_decide_eq_true t2.1
        refine ⟨_, rfl, _, rfl, _, rfl, ?_, _, _, rfl, rfl, ?_, _, h5, Nat.lt_of_lt_of_le (m := 100) (by rw [List.length_map, List.length_map, List.length_take]; omega) (by decide), ext_put e5 hD, ?_⟩
        · refine Nat.lt_of_le_of_lt (Nat.log2_le_self _) ?_
          omega
        · rw [t3]
          exact Nat.le_trans (m := 5) (by omega) (by decide)
        · rw [upd_same, List.take_add_one, ht, List.map_append, List.map_append]
          rfl
      · rintro H5 ⟨e5, h5⟩
        have tl90 : tens.take 90 = tens := List.take_of_length_le (by unfold tens; rw [List.length_map, List.length_range]; decide)
        rw [tl90] at h5
        refine ⟨l1, D, _, _, rfl, rfl, e5 _ _ hl1, h5, ?_, fun sp hsp => ?_⟩
        · rw [List.length_map, List.length_map]
          unfold tens
          rw [List.length_map, List.length_range]
          show 1 + 90 ≤ sizeLine
          decide
        have e6 := Ext.upd (o := .lst ([.str z] ++ ((tens.map (z ++ ·)).map V.str))) hsp
        have hsp6 : upd H5 sp (.lst ([.str z] ++ ((tens.map (z ++ ·)).map V.str))) sp = some (.lst ((spare z).map V.str)) := upd_same
        generalize upd H5 sp (.lst ([.str z] ++ ((tens.map (z ++ ·)).map V.str))) = H6 at *
        have b26 : But r H H6 := ((b02.trans b3).ext e1).ext (e5.trans e6)
        have g6 := g4.ext (e5.trans e6)
        have hss6 : H6 fd = some (.lst (ss.map V.str)) := e6 _ _ (e5 _ _ (e1 _ _ (b3 _ _ (b2 _ _ (b1 _ _ hss nfr) nfr) nfr)))
        have htk6 : H6 tk = some (.lst (ts.map V.str)) := b26 _ _ htk ntk
        refine ⟨_, rfl, .inl ⟨rfl, _, SqL.of hss6⟩, _, rfl, sp, rfl, ⟨_, SqL.of hsp6⟩, fun D2 hD2 => ?_⟩
        refine lc_list (xs := (spare z).map V.str) (fun i H' => Ext H6 H' ∧ H' D2 = some (.lst ((((spare z).take i).filter fun y => decide (y ∉ ss) && decide (y ∉ ts)).map V.str))) ⟨ext_put Ext.rfl' hD2, upd_same⟩ (fun i H' _ q => SqL.of (q.1 _ _ hsp6)) ?_ ?_
        · rintro i' x H7 hx ⟨e7, h7⟩
          rw [List.getElem?_map] at hx
          obtain ⟨y, hy, rfl⟩ := Option.map_eq_some_iff.mp hx
          have et : (spare z).take (i' + 1) = (spare z).take i' ++ [y] := by rw [List.take_add_one, hy]; rfl
          have i91 : i' < 91 := by
            have := (List.getElem?_eq_some_iff.mp hy).1
            unfold spare tens at this
            rw [List.length_cons, List.length_map, List.length_map, List.length_range] at this
            exact this
          have lw : ((((spare z).take i').filter fun y => decide (y ∉ ss) && decide (y ∉ ts)).map V.str).length < sizeLine := by
            rw [List.length_map]
            refine Nat.lt_of_le_of_lt (Nat.le_trans (List.length_filter_le _ _) (List.length_take_le _ _)) (Nat.lt_of_lt_of_le i91 (by decide))
          refine ⟨rfl, _, rfl, _, rfl, fd, _, rfl, .inl (SqL.of (e7 _ _ hss6)), rfl, flat_strs ss, _, rfl, ?_⟩
          by_cases hy1 : y ∈ ss
          · refine iteN (by simp [inV_str, hy1]) (iteF ⟨e7, ?_⟩)
            rw [et, List.filter_append, h7]
            simp [hy1]
          · refine iteY (by simp [inV_str, hy1]) ?_
            refine ⟨_, rfl, _, rfl, tk, _, rfl, .inl (SqL.of (e7 _ _ htk6)), rfl, flat_strs ts, _, rfl, ?_⟩
            by_cases hy2 : y ∈ ts
            · refine iteN (by simp [inV_str, hy2]) ⟨e7, ?_⟩
              rw [et, List.filter_append, h7]
              simp [hy2]
            · refine iteY (by simp [inV_str, hy2]) ⟨_, rfl, _, h7, lw, ext_put e7 hD2, ?_⟩
              rw [upd_same, et, List.filter_append]
              simp [hy1, hy2]
        · rintro H7 ⟨e7, h7⟩
          rw [List.length_map, List.take_length] at h7
          obtain ⟨y0, hy0, hn0⟩ := spare_free (s := z) (ts := ss ++ ts) (by rw [List.length_append]; omega)
          have hy1 : y0 ∈ (spare z).filter fun y => decide (y ∉ ss) && decide (y ∉ ts) := by
            refine List.mem_filter.mpr ⟨hy0, ?_⟩
            rw [Bool.and_eq_true_iff]
            exact ⟨decide_eq_true fun q => hn0 (List.mem_append_left _ q), decide_eq_true fun q => hn0 (List.mem_append_right _ q)⟩
          generalize hW : ((spare z).filter fun y => decide (y ∉ ss) && decide (y ∉ ts)) = W at h7 hy1
          cases W with
          | nil => cases hy1
          | cons y W =>
            have hyW : y ∈ (spare z).filter fun y => decide (y ∉ ss) && decide (y ∉ ts) := by rw [hW]; exact .head _
            obtain ⟨m1, m2⟩ := List.mem_filter.mp hyW
            rw [Bool.and_eq_true_iff] at m2
            have n1 := of_decide_eq_true m2.1
            have n2 := of_decide_eq_true m2.2
            have hss7 := e7 _ _ hss6
            refine ⟨D2, _, 0, .str y, rfl, rfl, SqL.of h7, atI_nat (j := 0) rfl, fd, _, _, rfl, rfl, hss7, Nat.lt_of_lt_of_le (m := 60) (by rw [List.length_map]; omega) (by decide), ?_⟩
            refine ⟨but_put (b26.ext e7) hfd, (g6.ext e7).put nfr, ss ++ [y], _, _, _, _, _, _, ?_, by rw [List.length_append, hl]; rfl, ?_, fun q hq => ?_, rfl⟩
            · rw [upd_same, List.map_append]
              rfl
            · rw [List.nodup_append]
              refine ⟨hnd, List.pairwise_singleton _ _, fun p hp q hq e => ?_⟩
              rw [List.mem_singleton] at hq
              rw [e, hq] at hp
              exact n1 hp
            · rcases List.mem_append.mp hq with hq | hq
              · exact hok q hq
              · rw [List.mem_singleton.mp hq]
                obtain ⟨k1, k2⟩ := spare_nm hz hz3 m1
                exact ⟨k1, k2, n2⟩
    · rintro σ H' ⟨b0, g0, ss, o4, o5, o6, o7, o8, o9, hss, hl, hnd, hok, rfl⟩
      exact ⟨_, rfl, h fd ss H' b0 g0 hfd hss hl hnd hok⟩
end
end P

namespace P
open PySem L2 NS
/-! ### sums do not mind the order, nor zeros -/
theorem sm_perm {ren : Str → Str} {k : Str} {L M : Row} (h : L.Perm M) : Sm ren L k = Sm ren M k := by
  unfold Sm
  induction h with
  | nil => rfl
  | cons x _ ih => rw [List.map_cons, List.map_cons, List.sum_cons, List.sum_cons, ih]
  | swap x y l =>
    simp only [List.map_cons, List.sum_cons]
    omega
  | trans _ _ ih1 ih2 => exact ih1.trans ih2
theorem sm_filter {ren : Str → Str} {k : Str} : ∀ m : Row, Sm ren (m.filter fun p => decide (p.2 ≠ 0)) k = Sm ren m k
  | [] => rfl
  | p :: m => by
    have ih := sm_filter (ren := ren) (k := k) m
    by_cases h : p.2 = 0
    · rw [List.filter_cons, if_neg (by simp [h]), ih]
      show _ = (if ren p.1 = k then p.2 else 0) + Sm ren m k
      rw [h]
      split <;> omega
    · rw [List.filter_cons, if_pos (by simp [h])]
      show (if ren p.1 = k then p.2 else 0) + Sm ren (m.filter fun p => decide (p.2 ≠ 0)) k = (if ren p.1 = k then p.2 else 0) + Sm ren m k
      rw [ih]
theorem nodup_of_keys {L : Row} (h : (L.map (·.1)).Nodup) : L.Nodup := (List.pairwise_map.mp h).imp fun h z => h (by rw [z])
theorem perm_of {α : Type} [DecidableEq α] : ∀ {l r : List α}, l.Nodup → r.Nodup → (∀ x, x ∈ l ↔ x ∈ r) → l.Perm r
  | [], r, _, _, h => by
    have e : r = [] := List.eq_nil_iff_forall_not_mem.mpr fun x hx => by cases (h x).mpr hx
    rw [e]
  | y :: l, r, nl, nr, h => by
    rw [List.nodup_cons] at nl
    have hy : y ∈ r := (h y).mp (.head _)
    refine .trans (.cons y (perm_of (r := r.erase y) nl.2 (nr.erase y) fun x => ?_)) (List.perm_cons_erase hy).symm
    rw [nr.mem_erase_iff]
    constructor
    · intro hx
      exact ⟨fun e => nl.1 (by rw [← e]; exact hx), (h x).mp (.tail _ hx)⟩
    · rintro ⟨hne, hx⟩
      rcases List.mem_cons.mp ((h x).mpr hx) with e | e
      · exact absurd e hne
      · exact e
theorem sm_canon {ren : Str → Str} {k : Str} {L m : Row} (hm : (m.map (·.1)).Nodup) (c : Canon L (vl m)) : Sm ren L k = Sm ren m k := by
  rw [← sm_filter m]
  refine sm_perm (perm_of (nodup_of_keys c.nd) ((nodup_of_keys hm).filter _) fun p => ?_)
  rw [List.mem_filter]
  constructor
  · intro hp
    obtain ⟨e, ne⟩ := c.on p hp
    have := vl_on hm (k := p.1) (by rw [← e]; exact ne)
    rw [← e] at this
    exact ⟨this, decide_eq_true ne⟩
  · rintro ⟨hp, ne⟩
    have e := vl_mem hm hp
    have := c.all p.1 (by rw [e]; exact of_decide_eq_true ne)
    rw [e] at this
    exact this
end P

namespace P
open PySem L2 NS

/-! ### repr of a table -/
def tx (i : Int) : Str := Str.ofString (toString i)
theorem tx_len {i : Int} (h : i.natAbs.log2 < 1920) : (tx i).length ≤ 1921 := PyProof.Rows.int_text_len_1921 h
def rowT (L : Row) : List Str := L.map fun p => reprText p.1 ++ ": " ++ tx p.2
def reprT (L : Row) : Str := "Table(" ++ dictText (rowT L) ++ ")"
theorem nm_repr {s : Str} (h : Nm s) : (reprText s).length ≤ 82 := by
  have := StrLaws.reprText_len s fun c hc => by
    have := h.all c hc
    have : c ≤ 122 := by
      rcases this with z | z <;> omega
    exact Nat.lt_of_le_of_lt this (by decide)
  have := h.most
  omega
theorem line_big : 1000000 ≤ sizeLine := by decide
theorem flat_row {n b : Nat} (hb : b ≤ 1900) : ∀ {L : Row}, RowOk n b L → FlatK (dkv L) (rowT L)
  | [], _ => .nil
  | p :: L, ok => by
    have ll := line_big
    have := nm_repr (ok.nm p (.head _))
    refine .cons (.str (by omega)) (.int (Bt.log ((ok.bt p (.head _)).mono (n := 1920) (by omega)) (by decide))) (flat_row (n := n) hb ⟨fun q hq => ok.nm q (.tail _ hq), fun q hq => ok.bt q (.tail _ hq), ?_, Nat.le_trans (Nat.le_succ _) ok.few⟩)
    have := ok.nd
    rw [List.map_cons, List.nodup_cons] at this
    exact this.2
theorem sum_rowT {b : Nat} (hb : b ≤ 1900) : ∀ {L : Row}, (∀ p, p ∈ L → Nm p.1) → (∀ p, p ∈ L → Bt b p.2) → ((rowT L).map (·.length)).sum ≤ 2100 * L.length
  | [], _, _ => Nat.le_refl _
  | p :: L, h, g => by
    have ih := sum_rowT hb (L := L) (fun q hq => h q (.tail _ hq)) fun q hq => g q (.tail _ hq)
    have l1 := nm_repr (h p (.head _))
    have l2 := tx_len (Bt.log ((g p (.head _)).mono (n := 1920) (by omega)) (by decide))
    show (reprText p.1 ++ ": " ++ tx p.2).length + ((rowT L).map (·.length)).sum ≤ 2100 * (L.length + 1)
    rw [strLen_append, strLen_append]
    show (reprText p.1).length + 2 + (tx p.2).length + _ ≤ _
    omega
theorem rowT_len {n b : Nat} {L : Row} (ok : RowOk n b L) (n60 : n < 60) (hb : b ≤ 1900) : (dictText (rowT L)).length + 100 ≤ sizeLine := by
  have ll := line_big
  have l1 := dictText_len_le (rowT L)
  have l2 := sum_rowT hb ok.nm ok.bt
  have l3 : (rowT L).length = L.length := List.length_map ..
  have l4 := ok.few
  omega
def spReprT (C : Addr) : Sp := fun vs H Q _ => ∃ v f n b, vs = [v] ∧ IsTab n b C H v f ∧ n < 60 ∧ b ≤ 1900 ∧ ∀ L, Canon L f → RowOk n b L → Q (.str (reprT L)) H
section
variable {P : Program} {w : World} {K : PySem.W.Frag} {mg : Str → Option Value} {base : Heap} {a : Ad}
theorem B_Table_repr (T : Txt K mg a) : Binds K a.d_Table_repr ["self"] [] := T.Table_repr.F.binds fun _ _ _ _ _ _ us hl => match us, hl with | [_], _ => rfl
theorem ok_Table_repr (T : Txt K mg a) : FnG P w K mg base 2 a.Table_repr a.d_Table_repr ["self"] (spReprT a.Table) := by
  refine okG T.Table_repr.F sc_Table_repr (fun vs H Q E h => ?_) (fun cdv A outer s H vs Q hg hr h => ?_)
  · obtain ⟨v, f, n, b, rfl, _⟩ := h
    rfl
  · obtain ⟨v, f, n, b, rfl, ⟨p, dx, d, rfl, hp, L, hd, c, ok⟩, n60, hb, h⟩ := h
    have hgd : (A.deeper (PyProof.Rows.envOfC "Table.__repr__" (defScope s_Table_repr) s.heap.objs.size a.Table_repr cdv)).guards = some [] := hg
    have ll := line_big
    have lz := rowT_len ok n60 hb
    refine ⟨_, (pss_one (ps_ret (pe_joined (.cons pe_str (.cons (pe_fmtK hr hgd (pe_fld (pv 0) rfl)) (.cons pe_str PJ.nil)))))), ?_⟩
    refine ⟨_, rfl, ?_, _, rfl, p, _, dx, _, _, rfl, hp, T.Table.cls, T.no_Table_own_counts, rfl, d, dkv L, rowT L, rfl, hd, flat_row hb ok, by omega, _, rfl, ?_, _, rfl, ?_, ?_⟩
    · rw [Str.empty_append]
      decide
    · rw [Str.empty_append, strLen_append]
      show 6 + _ ≤ _
      omega
    · rw [Str.empty_append, strLen_append, strLen_append]
      show 6 + _ + 1 ≤ _
      omega
    · rw [Str.empty_append]
      exact h L c ok
end
end P

namespace P
open PySem L2 NS

/-! ### _law_is -/
theorem nm_str {s : Str} (h : Nm s) : PyData.strOk s = true := by
  unfold PyData.strOk
  rw [Array.all_eq_true']
  intro c hc
  have := h.all c (Array.mem_toList_iff.mpr hc)
  rw [decide_eq_true_iff]
  rcases this with z | z <;> omega
theorem nm_zz : Nm "zz" := ⟨by decide, by decide, fun c h => by
  have e : ("zz" : Str).cps.toList = [122, 122] := by decide +kernel
  rw [e] at h
  cases h
  exact ⟨by decide, by decide⟩, fun c h => by
  have e : ("zz" : Str).cps.toList = [122, 122] := by decide +kernel
  rw [e] at h
  simp only [List.mem_cons, List.not_mem_nil, or_false, or_self] at h
  subst h
  exact .inl ⟨by decide, by decide⟩⟩
/-- the items of a row as data -/
def itD (L : Row) : PyData := .list (L.map fun q => .tuple [.str q.1, .int q.2])
theorem pln_it {n b : Nat} {L : Row} (ok : RowOk n b L) : Pln 2 (itD L) := pln_list fun d hd => by
  obtain ⟨q, hq, rfl⟩ := List.mem_map.mp hd
  refine pln_tuple fun e he => ?_
  simp only [List.mem_cons, List.not_mem_nil, or_false] at he
  rcases he with rfl | rfl
  · exact pln_str (nm_str (ok.nm q hq))
  · exact pln_int _
def keyD (L : Row) : PyData := .list (L.map fun q => .str q.1)
theorem pln_key {n b : Nat} {L : Row} (ok : RowOk n b L) : Pln 1 (keyD L) := pln_list fun d hd => by
  obtain ⟨q, hq, rfl⟩ := List.mem_map.mp hd
  exact pln_str (nm_str (ok.nm q hq))
theorem dp_it {K : PySem.W.Frag} {H : Hp} {p : Addr} {ts : List Addr} {L : Row} (hp : H p = some (.lst (ts.map V.ref))) (h : Paired (fun (t : Addr) (q : Key × V) => H t = some (.tup [kV q.1, q.2])) ts (dkv L)) : Dp K H (.ref p) (itD L) := by
  refine .lst (SqL.of hp) ?_
  have e : (L.map fun q => PyData.tuple [.str q.1, .int q.2]) = L.map fun q => PyData.tuple [.str q.1, .int q.2] := rfl
  clear hp e
  unfold dkv at h
  generalize hks : L.map (fun p => ((.inr p.1, .int p.2) : Key × V)) = ks at h
  induction h generalizing L with
  | nil =>
    cases L with
    | nil => exact .nil
    | cons q L => cases hks
  | cons x y ih =>
    cases L with
    | nil => cases hks
    | cons q L =>
      cases hks
      exact .cons (.tup (SqT.of x) (.cons (.str _) (.cons (.int _) .nil))) (ih rfl)
theorem has_dkv {L : Row} {f : Str → Int} (c : Canon L f) (k : Str) : (valV (dkv L) (.inr k)).isSome = decide (f k ≠ 0) := by
  by_cases hk : k ∈ L.map (·.1)
  · rw [valV_dkv (m := L) hk]
    obtain ⟨q, hq, rfl⟩ := List.mem_map.mp hk
    obtain ⟨e1, e2⟩ := c.on q hq
    rw [← e1]
    simp [e2]
  · rw [valV_none hk, ← c.vl, vl_off hk]
    rfl
theorem take_map {α β : Type} {l : List α} {i : Nat} {x : α} (f : α → β) (h : l[i]? = some x) : (l.take (i + 1)).map f = (l.take i).map f ++ [f x] := by
  rw [List.take_add_one, h, List.map_append]
  rfl
theorem line60 {n : Nat} (h : n < 60) : n < sizeLine := Nat.lt_of_lt_of_le h (by decide)
theorem vl_perm {L M : Row} (h : L.Perm M) (nd : (L.map (·.1)).Nodup) (k : Str) : vl L k = vl M k := by
  have nm : (M.map (·.1)).Nodup := (h.map _).nodup_iff.mp nd
  by_cases hk : k ∈ L.map (·.1)
  · obtain ⟨q, hq, rfl⟩ := List.mem_map.mp hk
    rw [vl_mem nd hq, vl_mem nm (h.mem_iff.mp hq)]
  · rw [vl_off hk, vl_off fun z => hk ((h.map _).mem_iff.mpr z)]
theorem paired_app {α β : Type} {F : α → β → Prop} : ∀ {xs : List α} {ys : List β} {us : List α} {vs : List β}, Paired F xs ys → Paired F us vs → Paired F (xs ++ us) (ys ++ vs)
  | _, _, _, _, .nil, k => k
  | _, _, _, _, .cons a b, k => .cons a (paired_app b k)
theorem paired_rev {α β : Type} {F : α → β → Prop} : ∀ {xs : List α} {ys : List β}, Paired F xs ys → Paired F xs.reverse ys.reverse
  | _, _, .nil => .nil
  | _, _, .cons a b => by
    rw [List.reverse_cons, List.reverse_cons]
    exact paired_snoc (paired_rev b) a
theorem rowOk_perm {n b : Nat} {L M : Row} (ok : RowOk n b L) (h : L.Perm M) : RowOk n b M :=
  ⟨fun p hp => ok.nm p (h.mem_iff.mpr hp), fun p hp => ok.bt p (h.mem_iff.mpr hp), (h.map _).nodup_iff.mp ok.nd, by rw [← h.length_eq]; exact ok.few⟩
def spIs (C : Addr) : Sp := fun vs H Q _ => ∃ (v : V) (m l : Addr) (mm : Row) (f : Str → Int) (ss : List Str) (n b n' b' : Nat), vs = [v, .ref m, .ref l] ∧ IsTab n b C H v f ∧ n < 60 ∧ b ≤ 1900 ∧ H m = some (.dK (dkv mm)) ∧ RowOk n' b' mm ∧ n' < 60 ∧ vl mm = f ∧ H l = some (.lst (ss.map V.str)) ∧ ss.length ≤ 40 ∧ (∀ s, s ∈ ss → Nm s) ∧
  ∀ H', Ext H H' → Q (.bl true) H'
section
variable {P : Program} {w : World} {K : PySem.W.Frag} {mg : Str → Option Value} {base : Heap} {a : Ad}
theorem B_law_is (T : Txt K mg a) : Binds K a.d_law_is ["_law_table", "_law_model", "_law_names_here"] [] := T.law_is.F.binds fun _ _ _ _ _ _ us hl => match us, hl with | [_, _, _], _ => rfl
theorem ok_law_is (T : Txt K mg a) : FnG P w K mg base 6 a.law_is a.d_law_is ["_law_table", "_law_model", "_law_names_here"] (spIs a.Table) := by
  have G_law_kept := ok_law_kept (P := P) (w := w) (base := base) T
  have b_law_kept := B_law_kept T
  have G_Table_counts := ok_Table_counts (P := P) (w := w) (base := base) T
  have b_Table_counts := B_Table_counts T
  have G_Table_used_keys := ok_Table_used_keys (P := P) (w := w) (base := base) T
  have b_Table_used_keys := B_Table_used_keys T
  have G_Table_len := ok_Table_len (P := P) (w := w) (base := base) T
  have b_Table_len := B_Table_len T
  have G_Table_at := ok_Table_at (P := P) (w := w) (base := base) T
  have b_Table_at := B_Table_at T
  have G_Table_contains := ok_Table_contains (P := P) (w := w) (base := base) T
  have b_Table_contains := B_Table_contains T
  have G_Table_repr := ok_Table_repr (P := P) (w := w) (base := base) T
  have b_Table_repr := B_Table_repr T
  have G_Table_is_plain := ok_Table_is_plain (P := P) (w := w) (base := base) T
  have b_Table_is_plain := B_Table_is_plain T
  have G_Table_eq := ok_Table_eq (P := P) (w := w) (base := base) T
  have b_Table_eq := B_Table_eq T
  have G_Table_init := ok_Table_init (P := P) (w := w) (base := base) T
  have M_Table := Mk_Table T
  have b_Table1 := B_Table1 T
  refine okG T.law_is.F sc_law_is (fun vs H Q E h => ?_) (fun cdv A outer s H vs Q hg hr h => ?_)
  · obtain ⟨v, m, l, mm, f, ss, n, b, n', b', rfl, _⟩ := h
    rfl
  · obtain ⟨v, m, l, mm, f, ss, n, b, n', b', rfl, t, n60, hb, hm, okm, n60', ef, hl, hss, hnm, h⟩ := h
    have hgd : (A.deeper (PyProof.Rows.envOfC "_law_is" (defScope s_law_is) s.heap.objs.size a.law_is cdv)).guards = some [] := hg
    refine ⟨_, (pss_cons (ps_set (i := 3) sc_law_is.nd rfl (.inr rfl) (pe_call G_law_kept (hr.mono (by decide)) (by rfl) T.law_kept.g T.law_kept.F.kp b_law_kept .nil pass0 (pa_cons (pv 1) pa_nil)))
      (pss_mid (ps_set (i := 4) sc_law_is.nd rfl (.inl rfl) (pe_meth0 (pv 0) T.Table.cls T.Table_counts.meth G_Table_counts (hr.mono (by decide)) b_Table_counts .nil pass0))
      (pss_mid (ps_if (PW.pt (pw_or (pt_cmpR (op_neD (hu64 hr)) (LiI.pe_listItems rfl (pv 4) (by rfl) T.b_list (by decide +kernel)) (LiI.pe_listItems rfl (pv 3) (by rfl) T.b_list (by decide +kernel)) (nomark _)) (pw_or (pt_cmpR (op_neD (hu64 hr)) (pe_meth0 (pv 0) T.Table.cls T.Table_used_keys.meth G_Table_used_keys (hr.mono (by decide)) b_Table_used_keys .nil pass0) (pe_callTy (call_listD rfl) (by rfl) T.b_list (by decide +kernel) (pa_cons (pv 3) pa_nil)) (nomark _)) (pw_or1 (pt_cmpR op_ne (pe_callB (call_lenO T.O_Table_len (Runs.of G_Table_len b_Table_len (hr.in1.mono (by decide)) rfl)) (by rfl) T.b_len (by decide +kernel) (pa_cons (pv 0) pa_nil)) (pe_callB call_lenD (by rfl) T.b_len (by decide +kernel) (pa_cons (pv 3) pa_nil)) (nomark _)))))) (pss_one (ps_ret pe_bl)) pss_nil)
      (pss_cons (ps_dput (hu_of hr) (pv 4) pe_str pe_int rfl)
      (pss_mid (ps_expr (pe_bm PySem.F.plainAttrs_list PySem.F.slot_list_append PySem.F.type_list_append mt_append (pe_meth0 (pv 0) T.Table.cls T.Table_used_keys.meth G_Table_used_keys (hr.mono (by decide)) b_Table_used_keys .nil pass0) (pa_cons pe_str pa_nil)))
      (pss_mid (ps_if (pt_cmpR (op_neD (hu64 hr)) (pe_lc (own := [("_law_key", 5)]) (g := gName 5) (by rfl) sc_law_is.nd (pi_list (pe_op op_cat (pv 2) (pe_lst (pa_cons pe_str pa_nil)))) (blkOk_by (N := ["_law_table", "_law_model", "_law_names_here", "_law_due", "_law_told", "_law_key", "_law_thing", "_law_is_above", "_law_number_here", "_law_again"]) (sc := defScope s_law_is) (by decide +kernel)) (fun _ _ _ _ _ => (pg_name (i := 5) sc_law_is.nd rfl (.inl rfl) (.inr rfl))) (fun _ _ _ _ _ => pts_nil) (fun _ _ _ _ _ => (pe_meth (pv 0) T.Table.cls T.Table_at.meth G_Table_at (hr.mono (by decide)) b_Table_at .nil pass0 (pa_cons (pv 5) pa_nil)))) (pe_lc (own := [("_law_key", 5)]) (g := gName 5) (by rfl) sc_law_is.nd (pi_list (pe_op op_cat (pv 2) (pe_lst (pa_cons pe_str pa_nil)))) (blkOk_by (N := ["_law_table", "_law_model", "_law_names_here", "_law_due", "_law_told", "_law_key", "_law_thing", "_law_is_above", "_law_number_here", "_law_again"]) (sc := defScope s_law_is) (by decide +kernel)) (fun _ _ _ _ _ => (pg_name (i := 5) sc_law_is.nd rfl (.inl rfl) (.inr rfl))) (fun _ _ _ _ _ => pts_nil) (fun _ _ _ _ _ => (pe_dget2 (hu_of hr) (pv 3) (pv 5) pe_int ⟨rfl, rfl, rfl, rfl⟩))) (nomark _)) (pss_one (ps_ret pe_bl)) pss_nil)
      (pss_mid (ps_if (pt_cmpR (op_neD (hu64 hr)) (pe_lc (own := [("_law_key", 5)]) (g := gName 5) (by rfl) sc_law_is.nd (pi_list (pe_op op_cat (pv 2) (pe_lst (pa_cons pe_str pa_nil)))) (blkOk_by (N := ["_law_table", "_law_model", "_law_names_here", "_law_due", "_law_told", "_law_key", "_law_thing", "_law_is_above", "_law_number_here", "_law_again"]) (sc := defScope s_law_is) (by decide +kernel)) (fun _ _ _ _ _ => (pg_name (i := 5) sc_law_is.nd rfl (.inl rfl) (.inr rfl))) (fun _ _ _ _ _ => pts_nil) (fun _ _ _ _ _ => (pe_cmpR (op_inO T.O_Table_contains (Runs.of G_Table_contains b_Table_contains (hr.mono (by decide)) rfl)) (pv 5) (pv 0) (by rfl)))) (pe_lc (own := [("_law_key", 5)]) (g := gName 5) (by rfl) sc_law_is.nd (pi_list (pe_op op_cat (pv 2) (pe_lst (pa_cons pe_str pa_nil)))) (blkOk_by (N := ["_law_table", "_law_model", "_law_names_here", "_law_due", "_law_told", "_law_key", "_law_thing", "_law_is_above", "_law_number_here", "_law_again"]) (sc := defScope s_law_is) (by decide +kernel)) (fun _ _ _ _ _ => (pg_name (i := 5) sc_law_is.nd rfl (.inl rfl) (.inr rfl))) (fun _ _ _ _ _ => pts_nil) (fun _ _ _ _ _ => (pe_cmp (pc_din (hu_of hr) (pv 5) (pv 3))))) (nomark _)) (pss_one (ps_ret pe_bl)) pss_nil)
      (pss_mid (ps_if (pt_cmpR (r := rIn K false) op_in_seq pe_bl (pe_lc (own := [("_law_thing", 6)]) (g := gName 6) (by rfl) sc_law_is.nd (pi_list (pe_lst (pa_cons pe_non (pa_cons pe_int (pa_cons pe_bl (pa_cons pe_str (pa_cons (pe_tup pa_nil) (pa_cons (pe_lst pa_nil) (pa_cons pe_dnewK pa_nil))))))))) (blkOk_by (N := ["_law_table", "_law_model", "_law_names_here", "_law_due", "_law_told", "_law_key", "_law_thing", "_law_is_above", "_law_number_here", "_law_again"]) (sc := defScope s_law_is) (by decide +kernel)) (fun _ _ _ _ _ => (pg_name (i := 6) sc_law_is.nd rfl (.inl rfl) (.inr rfl))) (fun _ _ _ _ _ => pts_nil) (fun _ _ _ _ _ => (pe_cmpR (op_inO T.O_Table_contains (Runs.of G_Table_contains b_Table_contains (hr.mono (by decide)) rfl)) (pv 6) (pv 0) (by rfl)))) (by rfl)) (pss_one (ps_ret pe_bl)) pss_nil)
      (pss_mid (ps_set (i := 7) sc_law_is.nd rfl (.inl rfl) (pe_callB (cr_all rfl) (by rfl) T.b_all (by decide +kernel) (pa_cons (pe_lock (pe_lc (own := [("_law_number_here", 8)]) (g := gName 8) (by rfl) sc_law_is.nd (pi_values (pv 3)) (blkOk_by (N := ["_law_table", "_law_model", "_law_names_here", "_law_due", "_law_told", "_law_key", "_law_thing", "_law_is_above", "_law_number_here", "_law_again"]) (sc := defScope s_law_is) (by decide +kernel)) (fun _ _ _ _ _ => (pg_name (i := 8) sc_law_is.nd rfl (.inl rfl) (.inr rfl))) (fun _ _ _ _ _ => pts_nil) (fun _ _ _ _ _ => (pe_cmpR op_gt (pv 8) pe_int (nomark _))))) pa_nil)))
      (pss_mid (ps_if (PW.pt (pw_or (pt_cmpR op_ne (pe_callB (call_reprO T.O_Table_repr hr.in1.units0 (Runs.ofG G_Table_repr b_Table_repr hgd (hr.in1.mono (by decide)) rfl)) (by rfl) T.b_repr (by decide +kernel) (pa_cons (pv 0) pa_nil)) (pe_op op_add_str (pe_op op_add_str pe_str (pe_callB (call_reprK hr hgd) (by rfl) T.b_repr (by decide +kernel) (pa_cons (pv 3) pa_nil))) pe_str) (nomark _)) (pw_or1 (pt_cmpR op_ne (pe_callB call_repr_bl (by rfl) T.b_repr (by decide +kernel) (pa_cons (pe_prop (pv 0) T.Table.cls T.Table_is_plain.pr G_Table_is_plain (hr.mono (by decide)) b_Table_is_plain .nil pass0 rfl) pa_nil)) (pe_callB call_repr_bl (by rfl) T.b_repr (by decide +kernel) (pa_cons (pv 7) pa_nil)) (nomark _))))) (pss_one (ps_ret pe_bl)) pss_nil)
      (pss_mid (ps_set (i := 9) sc_law_is.nd rfl (.inl rfl) (pe_make M_Table G_Table_init (hr.mono (by decide)) (by rfl) T.Table.g b_Table1 .nil pass0 (pa_cons (pe_callTy (call_dictP rfl) (by rfl) T.b_dict (by decide +kernel) (pa_cons (pe_revL (LiI.pe_listItems rfl (pv 3) (by rfl) T.b_list (by decide +kernel))) pa_nil)) pa_nil)))
      (pss_one (ps_ret (pe_and (pe_cmpR (op_eqO T.O_Table_eq hr.units0 (Runs.of G_Table_eq b_Table_eq (hr.mono (by decide)) rfl)) (pv 0) (pv 9) (nomark _)) (pe_and (pe_cmpR (op_neO T.O_Table_eq (hu_of hr) (Runs.of (A := _) G_Table_eq b_Table_eq (Room.in1 (hr.mono (by decide))) rfl)) (pv 0) (pv 3) (nomark _)) (pe_one (pe_cmpR (op_neO T.O_Table_eq (hu_of hr) (Runs.of (A := _) G_Table_eq b_Table_eq (Room.in1 (hr.mono (by decide))) rfl)) (pv 0) (pe_callB (call_reprO T.O_Table_repr hr.in1.units0 (Runs.ofG G_Table_repr b_Table_repr hgd (hr.in1.mono (by decide)) rfl)) (by rfl) T.b_repr (by decide +kernel) (pa_cons (pv 0) pa_nil)) (nomark _)))))))))))))))))), ?_⟩
    obtain ⟨p, dx, d, rfl, hp, L, hd, c, ok⟩ := id t
    refine ⟨_, rfl, m, mm, n', b', rfl, hm, okm, n60', fun q0 L1 H1 e1 hq0 hq1 c1 ok1 => ?_⟩
    rw [ef] at c1
    obtain rfl := c1.same c
    have en1 : ∀ {x : Addr} {H' : Hp}, Ext H H' → H' x = none → H x = none := fun {x H'} e z => by
      cases y : H x with
      | none => rfl
      | some o =>
        rw [e _ _ y] at z
        cases z
    refine ⟨fun σ H' => Ext H H' ∧ ∃ t0, H t0 = none ∧ t0 ≠ q0 ∧ H' q0 = some (.dK (dkv L1)) ∧ H' t0 = some (.dK (dkv L1)) ∧ σ = [some (.ref p), some (.ref m), some (.ref l), some (.ref q0), some (.ref t0), none, none, none, none, none], ?_, ?_⟩
    · refine ⟨_, rfl, _, _, _, rfl, e1 _ _ hp, rfl, _, f, n, b, rfl, t.ext e1, fun t0 L2 H2 e2 ht0 ht1 c2 _ => ?_⟩
      obtain rfl := c1.same c2
      refine ⟨e1.trans e2, t0, en1 e1 ht0, fun z => ?_, e2 _ _ hq1, ht1, rfl⟩
      rw [z, hq1] at ht0
      cases ht0
    rintro σ H2 ⟨e2, t0, ht0, ntq, hq2, ht2, rfl⟩
    refine ⟨fun σ H' => Ext H H' ∧ H' q0 = some (.dK (dkv L1)) ∧ H' t0 = some (.dK (dkv L1)) ∧ σ = [some (.ref p), some (.ref m), some (.ref l), some (.ref q0), some (.ref t0), none, none, none, none, none], ?_, ?_⟩
    · refine ⟨_, rfl, t0, dkv L1, rfl, ht2, fun H3 p3 ts3 k3 n3 nt3 _ h3 pr3 => ?_⟩
      refine ⟨_, rfl, q0, dkv L1, rfl, k3 _ _ hq2, fun H4 p4 ts4 k4 n4 nt4 _ h4 pr4 => ?_⟩
      refine ne_same (pln_it ok) (by decide) (dp_it (k4 _ _ h3) (paired_imp (fun t q z => k4 _ _ z) pr3)) (dp_it h4 pr4) ⟨false, rfl, iteF ?_⟩
      have e24 : Ext H2 H4 := fun b o z => k4 _ _ (k3 _ _ z)
      have e4 := e2.trans e24
      refine ⟨_, rfl, _, _, _, rfl, e4 _ _ hp, rfl, _, f, n, b, rfl, t.ext e4, fun p5 L5 H5 e5 _ h5 c5 _ => ?_⟩
      obtain rfl := c1.same c5
      refine ⟨_, rfl, q0, dkv L1, rfl, .inl (e5 _ _ (e24 _ _ hq2)), fun p6 n6 => ?_⟩
      have e6 := Ext.upd (o := .lst ((dkv L1).map fun kv => kV kv.1)) n6
      have e26 : Ext H2 (upd H5 p6 (.lst ((dkv L1).map fun kv => kV kv.1))) := (e24.trans e5).trans e6
      have eh := e2.trans e26
      have ek : ((dkv L1).map fun kv => kV kv.1) = L1.map fun q => V.str q.1 := by
        unfold dkv
        rw [List.map_map]
        rfl
      refine ne_same (pln_key ok) (by decide) (.lst (SqL.of (e6 _ _ h5)) (dpAll_map fun q _ => .str _)) (.lst (SqL.of (by rw [upd_same, ek])) (dpAll_map fun q _ => .str _)) ⟨false, rfl, iteF ?_⟩
      refine ⟨_, rfl, p, dx, _, rfl, eh _ _ hp, _, f, n, b, rfl, t.ext eh, fun L7 c7 => ⟨L7.length, rfl, ?_, ?_⟩⟩
      · obtain rfl := c1.same c7
        exact Nat.le_trans ok.few (Nat.le_trans (Nat.le_of_lt n60) (by decide))
      obtain rfl := c1.same c7
      refine ⟨_, rfl, q0, dkv L1, rfl, e26 _ _ hq2, rfl, false, congrArg V.bl ?_, iteF ⟨eh, e26 _ _ hq2, e26 _ _ ht2, rfl⟩⟩
      rw [show (dkv L1).length = L1.length from List.length_map ..]
      simp
    rintro σ H3 ⟨e3, hq3, ht3, rfl⟩
    clear hq2 ht2 hq1
    have q0n : H q0 = none := hq0
    -- told and used are changed
    refine ⟨_, rfl, t0, _, rfl, DPut.k (k := .inr "zz") ht3 (line60 (by rw [dkv, List.length_map]; have := ok.few; omega)), ?_⟩
    have e4 := ext_put (o := .dK (putK (dkv L1) (.inr "zz") (.int 5))) e3 ht0
    have hq4 : upd H3 t0 (.dK (putK (dkv L1) (.inr "zz") (.int 5))) q0 = some (.dK (dkv L1)) := by rw [upd_ne fun z => ntq z.symm]; exact hq3
    generalize upd H3 t0 (.dK (putK (dkv L1) (.inr "zz") (.int 5))) = H4 at *
    refine ⟨fun σ H' => Ext H H' ∧ H' q0 = some (.dK (dkv L1)) ∧ σ = [some (.ref p), some (.ref m), some (.ref l), some (.ref q0), some (.ref t0), none, none, none, none, none], ?_, ?_⟩
    · refine ⟨_, rfl, _, _, _, rfl, e4 _ _ hp, rfl, _, f, n, b, rfl, t.ext e4, fun p5 L5 H5 e5 n5 h5 c5 ok5 => ⟨.inl ⟨rfl, _, SqL.of h5⟩, p5, _, _, rfl, rfl, h5, line60 ?_, ?_⟩⟩
      · rw [List.length_map]
        have := ok5.few
        omega
      refine ⟨ext_put (e4.trans e5) (en1 e4 n5), ?_, rfl⟩
      rw [upd_ne (ne_of_none hq4 n5)]
      exact e5 _ _ hq4
    rintro σ H5 ⟨e5, hq5, rfl⟩
    clear hq3 ht3 hq4 e4
    generalize hNS : ss ++ [("zz" : Str)] = ns
    have nns : ∀ k, k ∈ ns → Nm k := fun k hk => by
      rw [← hNS] at hk
      rcases List.mem_append.mp hk with z | z
      · exact hnm k z
      · rw [List.mem_singleton.mp z]
        exact nm_zz
    have nl : ns.length ≤ 41 := by rw [← hNS, List.length_append]; show ss.length + 1 ≤ 41; omega
    have exs : ss.map V.str ++ [V.str "zz"] = ns.map V.str := by rw [← hNS, List.map_append]; rfl
    have l41 : (ss.map V.str).length + [V.str "zz"].length ≤ sizeLine := by
      rw [List.length_map]
      show ss.length + 1 ≤ _
      exact Nat.le_trans (m := 60) (by omega) (by decide)
    -- at
    refine ⟨fun σ H' => Ext H5 H' ∧ σ = [some (.ref p), some (.ref m), some (.ref l), some (.ref q0), some (.ref t0), none, none, none, none, none], ?_, ?_⟩
    · refine ⟨_, rfl, (by decide), fun z0a hz0a => ⟨l, z0a, _, _, rfl, rfl, Ext.upd hz0a _ _ (e5 _ _ hl), upd_same, l41, fun z1a hz1a => ⟨z1a, rfl, ⟨_, SqL.of upd_same⟩, fun Da hDa => ?_⟩⟩⟩
      have ez : Ext H5 (upd (upd H5 z0a (.lst [V.str "zz"])) z1a (.lst (ss.map V.str ++ [V.str "zz"]))) := (Ext.upd hz0a).trans (Ext.upd hz1a)
      have hz : upd (upd H5 z0a (.lst [V.str "zz"])) z1a (.lst (ss.map V.str ++ [V.str "zz"])) z1a = some (.lst (ns.map V.str)) := by rw [upd_same, exs]
      generalize upd (upd H5 z0a (.lst [V.str "zz"])) z1a (.lst (ss.map V.str ++ [V.str "zz"])) = Hz at *
      refine lc_list (xs := ns.map V.str) (fun i H' => Ext Hz H' ∧ H' Da = some (.lst ((ns.take i).map fun k => V.int (f k)))) ⟨ext_put Ext.rfl' hDa, upd_same⟩ (fun i H' _ z => SqL.of (z.1 _ _ hz)) ?_ ?_
      · rintro i x H' hx ⟨e, h3⟩
        rw [List.getElem?_map] at hx
        obtain ⟨k, hk, rfl⟩ := Option.map_eq_some_iff.mp hx
        have hi : i < 60 := Nat.lt_of_lt_of_le (List.getElem?_eq_some_iff.mp hk).1 (by omega)
        have nk := nns k (List.mem_of_getElem? hk)
        have hlt : ((ns.take i).map fun k => V.int (f k)).length < sizeLine := line60 (by rw [List.length_map, List.length_take]; omega)
        have e6 := (e5.trans ez).trans e
        have hq6 := e _ _ (ez _ _ hq5)
        refine ⟨rfl, yes_of ?_⟩
        refine ⟨_, rfl, _, _, _, rfl, e6 _ _ hp, rfl, _, rfl, _, k, f, n, b, rfl, t.ext e6, nk, fun H7 e7 => ⟨_, e7 _ _ h3, hlt, ext_put (e.trans e7) hDa, ?_⟩⟩
        rw [upd_same, take_map _ hk]
      rintro Haa ⟨e, h3⟩
      rw [List.length_map, List.take_length] at h3
      have eaa : Ext H5 Haa := ez.trans e
      have haa := h3
      clear ez hz e h3
      have eb := e5.trans eaa
      have hqb := eaa _ _ hq5
      refine ⟨_, rfl, (by decide), fun z0b hz0b => ⟨l, z0b, _, _, rfl, rfl, Ext.upd hz0b _ _ (eb _ _ hl), upd_same, l41, fun z1b hz1b => ⟨z1b, rfl, ⟨_, SqL.of upd_same⟩, fun Db hDb => ?_⟩⟩⟩
      have ez : Ext Haa (upd (upd Haa z0b (.lst [V.str "zz"])) z1b (.lst (ss.map V.str ++ [V.str "zz"]))) := (Ext.upd hz0b).trans (Ext.upd hz1b)
      have hz : upd (upd Haa z0b (.lst [V.str "zz"])) z1b (.lst (ss.map V.str ++ [V.str "zz"])) z1b = some (.lst (ns.map V.str)) := by rw [upd_same, exs]
      generalize upd (upd Haa z0b (.lst [V.str "zz"])) z1b (.lst (ss.map V.str ++ [V.str "zz"])) = Hz at *
      refine lc_list (xs := ns.map V.str) (fun i H' => Ext Hz H' ∧ H' Db = some (.lst ((ns.take i).map fun k => V.int (f k)))) ⟨ext_put Ext.rfl' hDb, upd_same⟩ (fun i H' _ z => SqL.of (z.1 _ _ hz)) ?_ ?_
      · rintro i x H' hx ⟨e, h3⟩
        rw [List.getElem?_map] at hx
        obtain ⟨k, hk, rfl⟩ := Option.map_eq_some_iff.mp hx
        have hi : i < 60 := Nat.lt_of_lt_of_le (List.getElem?_eq_some_iff.mp hk).1 (by omega)
        have nk := nns k (List.mem_of_getElem? hk)
        have hlt : ((ns.take i).map fun k => V.int (f k)).length < sizeLine := line60 (by rw [List.length_map, List.length_take]; omega)
        have e6 := (eb.trans ez).trans e
        have hq6 := e _ _ (ez _ _ hqb)
        refine ⟨rfl, yes_of ?_⟩
        refine ⟨_, rfl, q0, rfl, .inl ⟨_, .inl hq6⟩, _, rfl, _, .inl ⟨dkv L1, .inr k, .inl hq6, rfl, rfl⟩, _, h3, hlt, ext_put e hDb, ?_⟩
        rw [upd_same, take_map _ hk, get_dkv, c1.vl]
      rintro Hab ⟨e, h3⟩
      rw [List.length_map, List.take_length] at h3
      have eab : Ext Haa Hab := ez.trans e
      have hab := h3
      clear ez hz e h3
      refine ne_same (pln_list (n := 0) (ds := ns.map fun k => .int (f k)) fun d hd => ?_) (by decide) (.lst (SqL.of (eab _ _ haa)) (dpAll_map fun k _ => .int _)) (.lst (SqL.of hab) (dpAll_map fun k _ => .int _)) ⟨false, rfl, iteF ⟨eaa.trans eab, rfl⟩⟩
      obtain ⟨k, hk, rfl⟩ := List.mem_map.mp hd
      exact pln_int _
    rintro σ H6 ⟨e56, rfl⟩
    have e6 := e5.trans e56
    have hq6 := e56 _ _ hq5
    clear e56 e5 hq5
    -- in
    refine ⟨fun σ H' => Ext H6 H' ∧ σ = [some (.ref p), some (.ref m), some (.ref l), some (.ref q0), some (.ref t0), none, none, none, none, none], ?_, ?_⟩
    · refine ⟨_, rfl, (by decide), fun z0a hz0a => ⟨l, z0a, _, _, rfl, rfl, Ext.upd hz0a _ _ (e6 _ _ hl), upd_same, l41, fun z1a hz1a => ⟨z1a, rfl, ⟨_, SqL.of upd_same⟩, fun Da hDa => ?_⟩⟩⟩
      have ez : Ext H6 (upd (upd H6 z0a (.lst [V.str "zz"])) z1a (.lst (ss.map V.str ++ [V.str "zz"]))) := (Ext.upd hz0a).trans (Ext.upd hz1a)
      have hz : upd (upd H6 z0a (.lst [V.str "zz"])) z1a (.lst (ss.map V.str ++ [V.str "zz"])) z1a = some (.lst (ns.map V.str)) := by rw [upd_same, exs]
      generalize upd (upd H6 z0a (.lst [V.str "zz"])) z1a (.lst (ss.map V.str ++ [V.str "zz"])) = Hz at *
      refine lc_list (xs := ns.map V.str) (fun i H' => Ext Hz H' ∧ H' Da = some (.lst ((ns.take i).map fun k => V.bl (decide (f k ≠ 0))))) ⟨ext_put Ext.rfl' hDa, upd_same⟩ (fun i H' _ z => SqL.of (z.1 _ _ hz)) ?_ ?_
      · rintro i x H' hx ⟨e, h3⟩
        rw [List.getElem?_map] at hx
        obtain ⟨k, hk, rfl⟩ := Option.map_eq_some_iff.mp hx
        have hi : i < 60 := Nat.lt_of_lt_of_le (List.getElem?_eq_some_iff.mp hk).1 (by omega)
        have nk := nns k (List.mem_of_getElem? hk)
        have hlt : ((ns.take i).map fun k => V.bl (decide (f k ≠ 0))).length < sizeLine := line60 (by rw [List.length_map, List.length_take]; omega)
        have e6 := (e6.trans ez).trans e
        have hq6 := e _ _ (ez _ _ hq6)
        refine ⟨rfl, yes_of ?_⟩
        refine ⟨_, rfl, _, rfl, p, dx, _, rfl, e6 _ _ hp, _, _, f, n, b, rfl, t.ext e6, .inl ⟨k, rfl, _, rfl, _, h3, hlt, ext_put e hDa, ?_⟩⟩
        rw [upd_same, take_map _ hk]
      rintro Haa ⟨e, h3⟩
      rw [List.length_map, List.take_length] at h3
      have eaa : Ext H6 Haa := ez.trans e
      have haa := h3
      clear ez hz e h3
      have eb := e6.trans eaa
      have hqb := eaa _ _ hq6
      refine ⟨_, rfl, (by decide), fun z0b hz0b => ⟨l, z0b, _, _, rfl, rfl, Ext.upd hz0b _ _ (eb _ _ hl), upd_same, l41, fun z1b hz1b => ⟨z1b, rfl, ⟨_, SqL.of upd_same⟩, fun Db hDb => ?_⟩⟩⟩
      have ez : Ext Haa (upd (upd Haa z0b (.lst [V.str "zz"])) z1b (.lst (ss.map V.str ++ [V.str "zz"]))) := (Ext.upd hz0b).trans (Ext.upd hz1b)
      have hz : upd (upd Haa z0b (.lst [V.str "zz"])) z1b (.lst (ss.map V.str ++ [V.str "zz"])) z1b = some (.lst (ns.map V.str)) := by rw [upd_same, exs]
      generalize upd (upd Haa z0b (.lst [V.str "zz"])) z1b (.lst (ss.map V.str ++ [V.str "zz"])) = Hz at *
      refine lc_list (xs := ns.map V.str) (fun i H' => Ext Hz H' ∧ H' Db = some (.lst ((ns.take i).map fun k => V.bl (decide (f k ≠ 0))))) ⟨ext_put Ext.rfl' hDb, upd_same⟩ (fun i H' _ z => SqL.of (z.1 _ _ hz)) ?_ ?_
      · rintro i x H' hx ⟨e, h3⟩
        rw [List.getElem?_map] at hx
        obtain ⟨k, hk, rfl⟩ := Option.map_eq_some_iff.mp hx
        have hi : i < 60 := Nat.lt_of_lt_of_le (List.getElem?_eq_some_iff.mp hk).1 (by omega)
        have nk := nns k (List.mem_of_getElem? hk)
        have hlt : ((ns.take i).map fun k => V.bl (decide (f k ≠ 0))).length < sizeLine := line60 (by rw [List.length_map, List.length_take]; omega)
        have e6 := (eb.trans ez).trans e
        have hq6 := e _ _ (ez _ _ hqb)
        refine ⟨rfl, yes_of ?_⟩
        refine ⟨_, rfl, _, rfl, q0, _, rfl, .inl ⟨dkv L1, .inr k, .inl hq6, rfl, rfl⟩, _, h3, hlt, ext_put e hDb, ?_⟩
        rw [upd_same, take_map _ hk, has_dkv c1]
      rintro Hab ⟨e, h3⟩
      rw [List.length_map, List.take_length] at h3
      have eab : Ext Haa Hab := ez.trans e
      have hab := h3
      clear ez hz e h3
      refine ne_same (pln_list (n := 0) (ds := ns.map fun k => .bool (decide (f k ≠ 0))) fun d hd => ?_) (by decide) (.lst (SqL.of (eab _ _ haa)) (dpAll_map fun k _ => .bl _)) (.lst (SqL.of hab) (dpAll_map fun k _ => .bl _)) ⟨false, rfl, iteF ⟨eaa.trans eab, rfl⟩⟩
      obtain ⟨k, hk, rfl⟩ := List.mem_map.mp hd
      exact pln_bool _
    rintro σ H7 ⟨e67, rfl⟩
    have e7 := e6.trans e67
    have hq7 := e67 _ _ hq6
    clear e67 e6 hq6
    -- strange things
    have f0 : f "" = 0 := by
      by_cases z : f "" = 0
      · exact z
      · have := (ok.nm _ (c1.all "" z)).one
        exact absurd (show 1 ≤ ("" : Str).length from this) (by decide)
    refine ⟨fun σ H' => Ext H7 H' ∧ σ = [some (.ref p), some (.ref m), some (.ref l), some (.ref q0), some (.ref t0), none, none, none, none, none], ?_, ?_⟩
    · refine ⟨(by decide), fun tp htp => ⟨(by decide), fun ls hls dc hdc => ⟨(by show 7 ≤ sizeLine; decide), fun xl hxl => ⟨xl, rfl, ⟨_, SqL.of upd_same⟩, fun D hD => ?_⟩⟩⟩⟩
      have e1' := Ext.upd (o := .tup []) htp
      have e2' := Ext.upd (o := .lst []) hls
      have e3' := Ext.upd (o := .dK []) hdc
      have e4' := Ext.upd (o := .lst [.non, .int 0, .bl true, .str "", .ref tp, .ref ls, .ref dc]) hxl
      have ez := ((e1'.trans e2').trans e3').trans e4'
      have htp' := e4' _ _ (e3' _ _ (e2' _ _ (upd_same (H := H7) (a := tp) (o := .tup []))))
      have hls' := e4' _ _ (e3' _ _ (upd_same (H := upd H7 tp (.tup [])) (a := ls) (o := .lst [])))
      have hdc' := e4' _ _ (upd_same (H := upd (upd H7 tp (.tup [])) ls (.lst [])) (a := dc) (o := .dK []))
      have hz : upd (upd (upd (upd H7 tp (.tup [])) ls (.lst [])) dc (.dK [])) xl (.lst [.non, .int 0, .bl true, .str "", .ref tp, .ref ls, .ref dc]) xl = some (.lst [.non, .int 0, .bl true, .str "", .ref tp, .ref ls, .ref dc]) := upd_same
      clear e1' e2' e3' e4'
      generalize upd (upd (upd (upd H7 tp (.tup [])) ls (.lst [])) dc (.dK [])) xl (.lst [.non, .int 0, .bl true, .str "", .ref tp, .ref ls, .ref dc]) = Hz at *
      refine lc_list (xs := [.non, .int 0, .bl true, .str "", .ref tp, .ref ls, .ref dc]) (fun i H' => Ext Hz H' ∧ H' D = some (.lst ((List.replicate i false).map V.bl))) ⟨ext_put Ext.rfl' hD, upd_same⟩ (fun i H' _ z => SqL.of (z.1 _ _ hz)) ?_ ?_
      · rintro i x H' hx ⟨e, h3⟩
        have hi : i < 7 := (List.getElem?_eq_some_iff.mp hx).1
        have hlt : ((List.replicate i false).map V.bl).length < sizeLine := line60 (by rw [List.length_map, List.length_replicate]; omega)
        have e8 := (e7.trans ez).trans e
        have hap : (∃ k, x = .str k ∧ f k = 0) ∨ NoStr K H' x := by
          have hm := List.mem_of_getElem? hx
          simp only [List.mem_cons, List.not_mem_nil, or_false] at hm
          rcases hm with rfl | rfl | rfl | rfl | rfl | rfl | rfl
          · exact .inr ⟨_, .base .non, kit_ty (r := false) (by decide +kernel)⟩
          · exact .inr ⟨_, .base (.int _), kit_ty (r := false) (by decide +kernel)⟩
          · exact .inr ⟨_, .base (.bl _), kit_ty (r := false) (by decide +kernel)⟩
          · exact .inl ⟨_, rfl, f0⟩
          · exact .inr ⟨_, .base (.tup (e _ _ htp')), kit_ty (r := false) (by decide +kernel)⟩
          · exact .inr ⟨_, .base (.lst (e _ _ hls')), kit_ty (r := false) (by decide +kernel)⟩
          · exact .inr ⟨_, .base (.dK (e _ _ hdc')), kit_ty (r := false) (by decide +kernel)⟩
        have fin : ∃ b : Bool, V.bl false = V.bl b ∧ ∃ acc, H' D = some (.lst acc) ∧ acc.length < sizeLine ∧ Ext Hz (upd H' D (.lst (acc ++ [V.bl b]))) ∧ upd H' D (.lst (acc ++ [V.bl b])) D = some (.lst ((List.replicate (i + 1) false).map V.bl)) := by
          refine ⟨false, rfl, _, h3, hlt, ext_put e hD, ?_⟩
          rw [upd_same, List.replicate_succ', List.map_append]
          rfl
        refine ⟨rfl, yes_of ?_⟩
        refine ⟨_, rfl, _, rfl, p, dx, _, rfl, e8 _ _ hp, _, _, f, n, b, rfl, t.ext e8, ?_⟩
        rcases hap with ⟨k, rfl, hk⟩ | hn
        · refine .inl ⟨k, rfl, ?_⟩
          rw [show decide (f k ≠ 0) = false from decide_eq_false (fun z => z hk)]
          exact fin
        · exact .inr ⟨hn, fin⟩
      · rintro H' ⟨e, h3⟩
        refine ⟨D, _, rfl, .inl (SqL.of h3), rfl, rfl, false, rfl, iteF ⟨ez.trans e, rfl⟩⟩
    rintro σ H8 ⟨e78, rfl⟩
    have e8 := e7.trans e78
    have hq8 := e78 _ _ hq7
    clear e78 e7 hq7
    -- above
    refine ⟨fun σ H' => Ext H8 H' ∧ σ = [some (.ref p), some (.ref m), some (.ref l), some (.ref q0), some (.ref t0), none, none, some (.bl (L1.all fun q => decide (0 < q.2))), none, none], ?_, ?_⟩
    · refine ⟨q0, _, hq8, trivial, fun od => ?_⟩
      have hf : upd H8 q0 (.frz od (.dK (dkv L1))) q0 = some (.frz od (.dK (dkv L1))) := upd_same
      refine ⟨_, rfl, q0, od, dkv L1, rfl, hf, fun D hD => ?_⟩
      generalize hH0 : upd H8 q0 (.frz od (.dK (dkv L1))) = H0 at *
      refine lc_it walk_values (fun i H' => Ext H0 H' ∧ H' D = some (.lst (((L1.take i).map fun q => decide (0 < q.2)).map V.bl))) ⟨ext_put Ext.rfl' hD, upd_same⟩ (fun i H' _ z => z.1 _ _ hf) ?_ ?_
      · rintro i x H' H'' hi ⟨e, h3⟩ ⟨rfl, k, hx⟩
        have hi' : i < L1.length := by rw [dkv, List.length_map] at hi; exact hi
        have hm0 : L1[i]? = some L1[i] := List.getElem?_eq_getElem hi'
        have hk : (dkv L1)[i]? = some (.inr L1[i].1, .int L1[i].2) := by rw [dkv, List.getElem?_map, hm0]; rfl
        rw [hk] at hx
        cases hx
        refine ⟨rfl, yes_of ?_⟩
        refine ⟨_, rfl, _, _, rfl, rfl, _, h3, line60 (by rw [List.length_map, List.length_map, List.length_take]; have := ok.few; omega), ext_put e hD, ?_⟩
        rw [upd_same, List.take_add_one, hm0, List.map_append, List.map_append]
        rfl
      · rintro H' ⟨e, h3⟩
        refine ⟨e _ _ hf, ?_⟩
        rw [show (dkv L1).length = L1.length from List.length_map .., List.take_length] at h3
        have hne : D ≠ q0 := fun z => by rw [← z] at hf; rw [hD] at hf; cases hf
        refine ⟨D, L1.map fun q => decide (0 < q.2), rfl, SqL.of (by rw [upd_ne hne]; exact h3), ?_⟩
        subst hH0
        refine ⟨ext_unlock hq8 e, ?_⟩
        rw [List.all_map]
        rfl
    rintro σ H9 ⟨e89, rfl⟩
    have e9 := e8.trans e89
    have hq9 := e89 _ _ hq8
    clear e89 e8 hq8
    -- repr
    have ll := line_big
    have lz := rowT_len ok n60 hb
    refine ⟨fun σ H' => Ext H9 H' ∧ σ = [some (.ref p), some (.ref m), some (.ref l), some (.ref q0), some (.ref t0), none, none, some (.bl (L1.all fun q => decide (0 < q.2))), none, none], ?_, ?_⟩
    · refine ⟨_, rfl, p, dx, _, rfl, e9 _ _ hp, _, f, n, b, rfl, t.ext e9, n60, hb, fun L5 c5 ok5 => ⟨_, rfl, ?_⟩⟩
      obtain rfl := c1.same c5
      refine ⟨_, rfl, q0, dkv L1, rowT L1, rfl, hq9, flat_row hb ok, by omega, _, _, rfl, rfl, ?_, _, _, rfl, rfl, ?_, rfl, false, congrArg V.bl ?_, iteF ?_⟩
      · show 6 + _ ≤ sizeLine
        omega
      · rw [strLen_append]
        show 6 + _ + 1 ≤ sizeLine
        omega
      · simp [reprT]
      refine ⟨_, rfl, p, dx, _, rfl, e9 _ _ hp, _, f, n, b, rfl, t.ext e9, n60, fun L6 H10 e10 c6 => ?_⟩
      obtain rfl := c1.same c6
      exact ⟨_, rfl, _, rfl, _, rfl, rfl, false, congrArg V.bl (by simp), iteF ⟨e10, rfl⟩⟩
    rintro σ H10 ⟨e90, rfl⟩
    have e10 := e9.trans e90
    have hq10 := e90 _ _ hq9
    clear e90 e9 hq9
    -- again
    refine ⟨fun σ H' => Ext H10 H' ∧ ∃ v', IsTab n b a.Table H' v' f ∧ σ = [some (.ref p), some (.ref m), some (.ref l), some (.ref q0), some (.ref t0), none, none, some (.bl (L1.all fun q => decide (0 < q.2))), none, some v'], ?_, ?_⟩
    · refine ⟨_, rfl, q0, dkv L1, rfl, hq10, fun H3 p3 ts3 k3 n3 nt3 _ h3 pr3 => ⟨p3, _, rfl, SqL.of h3, fun p4 n4 => ⟨p4, ts3.reverse, dkv L1.reverse, rfl, SqL.of (by rw [upd_same, List.map_reverse]), ?_, fun p5 n5 => ?_⟩⟩⟩
      · have e : dkv L1.reverse = (dkv L1).reverse := by unfold dkv; rw [List.map_reverse]
        rw [e]
        exact paired_imp (fun t q z => SqT.of (Ext.upd n4 _ _ z)) (paired_rev pr3)
      have pm : L1.Perm L1.reverse := (List.reverse_perm L1).symm
      have okr := rowOk_perm ok pm
      have em := merge_dkv L1.reverse [] (by rw [List.nil_append]; exact okr.nd)
      rw [List.nil_append] at em
      have em' : mergeK [] (dkv L1.reverse) = dkv L1.reverse := em
      rw [em']
      have e05 : Ext H10 (upd (upd H3 p4 (.lst (ts3.map V.ref).reverse)) p5 (.dK (dkv L1.reverse))) := (Ext.trans k3 (Ext.upd n4)).trans (Ext.upd n5)
      have ef' : vl L1.reverse = f := by
        funext k
        rw [← vl_perm pm ok.nd, c1.vl]
      exact rd_Table (n := n) (b := b) (C := a.Table) (Q := fun v' H6 => Ext H10 H6 ∧ ∃ v'', IsTab n b a.Table H6 v'' f ∧ [some (V.ref p), some (.ref m), some (.ref l), some (.ref q0), some (.ref t0), none, none, some (.bl (L1.all fun q => decide (0 < q.2))), none, some v'] = [some (V.ref p), some (.ref m), some (.ref l), some (.ref q0), some (.ref t0), none, none, some (.bl (L1.all fun q => decide (0 < q.2))), none, some v''])
        (.inr ⟨p5, L1.reverse, rfl, upd_same, okr, rfl⟩) n60 fun v' H6 e6 t6 => ⟨e05.trans e6, v', by rw [ef'] at t6; exact t6, rfl⟩
    rintro σ H11 ⟨e01, v', t', rfl⟩
    have e11 := e10.trans e01
    have hq11 := e01 _ _ hq10
    clear e01 e10 hq10
    obtain ⟨p', dx', d', rfl, hp', cc'⟩ := id t'
    have hp11 := e11 _ _ hp
    have t11 := t.ext e11
    refine ⟨_, rfl, _, rfl, p, dx, _, rfl, hp11, .own hp', _, _, f, n, b, rfl, t11, .inl ⟨f, n, b, t', fun r hr0 => ?_⟩⟩
    obtain rfl := hr0.mpr rfl
    refine ⟨_, rfl, iteT ?_⟩
    refine ⟨_, rfl, _, rfl, p, dx, _, rfl, hp11, .dK hq11, _, _, f, n, b, rfl, t11, .inr ⟨.inr ⟨q0, _, rfl, hq11⟩, false, rfl, _, rfl, iteT ?_⟩⟩
    refine ⟨_, rfl, _, rfl, p, dx, _, rfl, hp11, _, f, n, b, rfl, t11, n60, hb, fun L5 c5 ok5 => ⟨_, rfl, ?_⟩⟩
    exact ⟨p, dx, _, rfl, hp11, .str _, _, _, f, n, b, rfl, t11, .inr ⟨.inl ⟨_, rfl⟩, false, rfl, h _ e11⟩⟩
end
end P

namespace P
open PySem L2 NS

/-! ### _law_right -/
/-- what stands while the law goes on -/
structure Held (C r l d1 d2 sp p1 dx1 c1 p2 dx2 c2 : Addr) (ss : List Str) (m1 m2 L1 L2 : Row) (ts : List Addr) (H : Hp) : Prop where
  g : Rng H r
  hl : H l = some (.lst (ss.map V.str))
  h1 : H d1 = some (.dK (dkv m1))
  h2 : H d2 = some (.dK (dkv m2))
  hs : H sp = some (.lst (ts.map V.ref))
  hts : Paired (fun (t : Addr) (q : Key × V) => H t = some (.tup [kV q.1, q.2])) ts (dkv m2)
  hp1 : H p1 = some (.ins C dx1 [("own_counts", .ref c1)])
  hc1 : H c1 = some (.dK (dkv L1))
  hp2 : H p2 = some (.ins C dx2 [("own_counts", .ref c2)])
  hc2 : H c2 = some (.dK (dkv L2))
/-- what is said of the rows -/
structure Said (r l sp : Addr) (ss : List Str) (m1 m2 L1 L2 : Row) : Prop where
  nlr : l ≠ r
  nsr : sp ≠ r
  few : ss.length ≤ 5
  pos : 0 < ss.length
  nd : ss.Nodup
  nm : ∀ s, s ∈ ss → Nm s
  ok1 : RowOk 5 100 m1
  ok2 : RowOk 5 100 m2
  cn1 : Canon L1 (vl m1)
  cn2 : Canon L2 (vl m2)
  okL1 : RowOk 5 100 L1
  okL2 : RowOk 5 100 L2
theorem Rng.ne_dict {H : Hp} {r b : Addr} {xs : List (Key × V)} (h : Rng H r) (hb : H b = some (.dK xs)) : b ≠ r := by
  obtain ⟨x, y, hr, _⟩ := h
  exact ne_of hb hr (fun z => nomatch z)
section
variable {C r l d1 d2 sp p1 dx1 c1 p2 dx2 c2 : Addr} {ss : List Str} {m1 m2 L1 L2 : Row} {ts : List Addr} {H H' : Hp}
theorem Held.ext (h : Held C r l d1 d2 sp p1 dx1 c1 p2 dx2 c2 ss m1 m2 L1 L2 ts H) (e : Ext H H') : Held C r l d1 d2 sp p1 dx1 c1 p2 dx2 c2 ss m1 m2 L1 L2 ts H' :=
  ⟨h.g.ext e, e _ _ h.hl, e _ _ h.h1, e _ _ h.h2, e _ _ h.hs, paired_imp (fun _ _ z => e _ _ z) h.hts, e _ _ h.hp1, e _ _ h.hc1, e _ _ h.hp2, e _ _ h.hc2⟩
theorem Held.but (s : Said r l sp ss m1 m2 L1 L2) (h : Held C r l d1 d2 sp p1 dx1 c1 p2 dx2 c2 ss m1 m2 L1 L2 ts H) (b : But r H H') (g : Rng H' r) : Held C r l d1 d2 sp p1 dx1 c1 p2 dx2 c2 ss m1 m2 L1 L2 ts H' :=
  ⟨g, b _ _ h.hl s.nlr, b _ _ h.h1 (h.g.ne_dict h.h1), b _ _ h.h2 (h.g.ne_dict h.h2), b _ _ h.hs s.nsr, paired_imp (fun _ _ z => b _ _ z (h.g.ne_tup z)) h.hts, b _ _ h.hp1 (h.g.ne_ins h.hp1), b _ _ h.hc1 (h.g.ne_dict h.hc1), b _ _ h.hp2 (h.g.ne_ins h.hp2), b _ _ h.hc2 (h.g.ne_dict h.hc2)⟩
theorem Held.t1 (s : Said r l sp ss m1 m2 L1 L2) (h : Held C r l d1 d2 sp p1 dx1 c1 p2 dx2 c2 ss m1 m2 L1 L2 ts H) : IsTab 5 100 C H (.ref p1) (vl m1) := ⟨p1, dx1, c1, rfl, h.hp1, L1, h.hc1, s.cn1, s.okL1⟩
theorem Held.t2 (s : Said r l sp ss m1 m2 L1 L2) (h : Held C r l d1 d2 sp p1 dx1 c1 p2 dx2 c2 ss m1 m2 L1 L2 ts H) : IsTab 5 100 C H (.ref p2) (vl m2) := ⟨p2, dx2, c2, rfl, h.hp2, L2, h.hc2, s.cn2, s.okL2⟩
end
theorem RowOk.mono {n n' b : Nat} {m : Row} (h : RowOk n b m) (hn : n ≤ n') : RowOk n' b m := ⟨h.nm, h.bt, h.nd, Nat.le_trans h.few hn⟩
theorem none_of {H H' : Hp} {x : Addr} (e : Ext H H') (z : H' x = none) : H x = none := by
  cases y : H x with
  | none => rfl
  | some o =>
    rw [e _ _ y] at z
    cases z
theorem but_none {r x : Addr} {H H' : Hp} (b : But r H H') (z : H' x = none) (n : x ≠ r) : H x = none := by
  cases y : H x with
  | none => rfl
  | some o =>
    rw [b _ _ y n] at z
    cases z
theorem ext_made {C x dx : Addr} {H : Hp} (hx : H x = none) (hd : H dx = none) : Ext H (upd (upd H dx (.own x)) x (.ins C dx [])) := fun b o hb => by
  rw [upd_ne (ne_of_none hb hx), upd_ne (ne_of_none hb hd)]
  exact hb
theorem set0_nodup {s : Str} {ss : List Str} (hn : ss.Nodup) (hs : ∀ x, x ∈ ss → x.length ≤ 5) (h8 : s.length = 8) : (ss.set 0 s).Nodup := by
  cases ss with
  | nil => exact hn
  | cons x ss =>
    rw [List.nodup_cons] at hn
    show (s :: ss).Nodup
    refine List.nodup_cons.mpr ⟨fun z => ?_, hn.2⟩
    have := hs s (.tail _ z)
    omega
theorem set0_mem {s : Str} {ss : List Str} {x : Str} (h : x ∈ ss.set 0 s) : x = s ∨ x ∈ ss := by
  rcases List.mem_or_eq_of_mem_set h with z | z
  · exact .inr z
  · exact .inl z
theorem set_map {α β : Type} {f : α → β} : ∀ {l : List α} {i : Nat} {x : α}, (l.map f).set i (f x) = (l.set i x).map f
  | [], _, _ => rfl
  | y :: l, 0, x => rfl
  | y :: l, i + 1, x => congrArg (f y :: ·) (set_map (l := l) (i := i) (x := x))
theorem vl_bt {n b : Nat} {m : Row} (ok : RowOk n b m) (k : Str) : Bt b (vl m k) := by
  by_cases h : vl m k = 0
  · rw [h]
    exact bt_zero
  · exact ok.bt _ (vl_on ok.nd h)
theorem many_ok : ∀ v ∈ ([.int 0, .int 1, .int (-1), .int 2, .int (-7), .int 100] : List V), ∃ t, v = .int t ∧ Bt 7 t := by
  intro v hv
  simp only [List.mem_cons, List.not_mem_nil, or_false] at hv
  rcases hv with rfl | rfl | rfl | rfl | rfl | rfl <;> exact ⟨_, rfl, by unfold Bt; decide⟩
theorem merge_new : ∀ (L M : List (Key × V)), ((M ++ L).map (·.1)).Nodup → mergeK M L = M ++ L
  | [], M, _ => by rw [List.append_nil]; rfl
  | p :: L, M, h => by
    have hp : p.1 ∉ M.map (·.1) := by
      rw [List.map_append, List.map_cons, List.nodup_append] at h
      exact fun z => h.2.2 _ z _ (.head _) rfl
    have hv : valV M p.1 = none := by
      unfold valV
      rw [List.find?_eq_none.mpr fun q hq => ?_]
      · rfl
      · simp only [decide_eq_true_eq]
        exact fun z => hp (List.mem_map.mpr ⟨q, hq, z⟩)
    show mergeK (putK M p.1 p.2) L = _
    rw [putK_new _ hv, merge_new L (M ++ [(p.1, p.2)]) (by rw [List.append_assoc]; exact h), List.append_assoc]
    rfl
theorem merge_dks {R : Names} (h : (R.map (·.1)).Nodup) : mergeK [] (dks R) = dks R := by
  refine (merge_new (dks R) [] ?_).trans rfl
  rw [List.nil_append]
  unfold dks
  rw [List.map_map]
  exact (List.pairwise_map.mpr ((List.pairwise_map.mp h).imp fun hne z => hne (Sum.inr.inj z)))
theorem ren_nil : ren [] = id := rfl
theorem ren_same {R : Names} : ren (R.map fun q => (q.1, q.1)) = id := by
  funext k
  unfold ren
  induction R with
  | nil => rfl
  | cons p R ih =>
    rw [List.map_cons, List.find?_cons]
    by_cases e : p.1 = k
    · rw [decide_eq_true e]
      exact e
    · rw [decide_eq_false e]
      exact ih
def itS (R : Names) : PyData := .list (R.map fun q => .tuple [.str q.1, .str q.2])
theorem pln_its {R : Names} (ok : NamesOk R) : Pln 2 (itS R) := pln_list fun d hd => by
  obtain ⟨q, hq, rfl⟩ := List.mem_map.mp hd
  refine pln_tuple fun e he => ?_
  simp only [List.mem_cons, List.not_mem_nil, or_false] at he
  rcases he with rfl | rfl
  · exact pln_str (nm_str (ok.nm q hq).1)
  · exact pln_str (nm_str (ok.nm q hq).2)
theorem dp_its {K : PySem.W.Frag} {H : Hp} {p : Addr} {ts : List Addr} {R : Names} (hp : H p = some (.lst (ts.map V.ref))) (h : Paired (fun (t : Addr) (q : Key × V) => H t = some (.tup [kV q.1, q.2])) ts (dks R)) : Dp K H (.ref p) (itS R) := by
  refine .lst (SqL.of hp) ?_
  clear hp
  unfold dks at h
  generalize hks : R.map (fun p => ((.inr p.1, .str p.2) : Key × V)) = ks at h
  induction h generalizing R with
  | nil =>
    cases R with
    | nil => exact .nil
    | cons q L => cases hks
  | cons x y ih =>
    cases R with
    | nil => cases hks
    | cons q L =>
      cases hks
      exact .cons (.tup (SqT.of x) (.cons (.str _) (.cons (.str _) .nil))) (ih rfl)
theorem canon_zero {L : Row} (c : Canon L fun _ => 0) : L = [] :=
  List.eq_nil_iff_forall_not_mem.mpr fun p hp => (c.on p hp).2 (c.on p hp).1
def spRight : Sp := fun vs H Q _ => ∃ r : Addr, vs = [.ref r] ∧ Rng H r ∧ ∀ H', But r H H' → Rng H' r → Q (.bl true) H'
section
variable {P : Program} {w : World} {K : PySem.W.Frag} {mg : Str → Option Value} {base : Heap} {a : Ad}
theorem B_TableK (T : Txt K mg a) : KBn K a.d_Table_init ["self", "counts"] 1 ["counts"] (fun us ws => us ++ ws) (fun vs zs => vs ++ zs) := by
  obtain ⟨its, b⟩ := T.Table_init.F.kbindsD (ps := ["self", "counts"]) 1 ["counts"] (fun us _ ws => us ++ ws) (by decide) (fun r _ z => Vals.append r z) fun T kV doc pm an cdv ct us its ws h1 h2 h3 => match us, its, ws, h1, h2, h3 with
    | [_], [_], [_], _, _, _ => ⟨_, rfl, rfl⟩
  exact b
theorem B_law_right (T : Txt K mg a) : Binds K a.d_law_right ["_law_rng_here"] [] := T.law_right.F.binds fun _ _ _ _ _ _ us hl => match us, hl with | [_], _ => rfl
theorem ok_law_right (T : Txt K mg a) : FnG P w K mg base 8 a.law_right a.d_law_right ["_law_rng_here"] spRight := by
  have G_law_names := ok_law_names (P := P) (w := w) (base := base) T
  have b_law_names := B_law_names T
  have G_law_draw := ok_law_draw (P := P) (w := w) (base := base) T
  have b_law_draw := B_law_draw T
  have G_law_long := ok_law_long (P := P) (w := w) (base := base) T
  have b_law_long := B_law_long T
  have G_law_dict := ok_law_dict (P := P) (w := w) (base := base) T
  have b_law_dict := B_law_dict T
  have G_law_choice := ok_law_choice (P := P) (w := w) (base := base) T
  have b_law_choice := B_law_choice T
  have G_law_mixed := ok_law_mixed (P := P) (w := w) (base := base) T
  have b_law_mixed := B_law_mixed T
  have G_law_is := ok_law_is (P := P) (w := w) (base := base) T
  have b_law_is := B_law_is T
  have G_law_together := ok_law_together (P := P) (w := w) (base := base) T
  have b_law_together := B_law_together T
  have G_law_renamed := ok_law_renamed (P := P) (w := w) (base := base) T
  have b_law_renamed := B_law_renamed T
  have G_law_kept := ok_law_kept (P := P) (w := w) (base := base) T
  have b_law_kept := B_law_kept T
  have G_Table_add := ok_Table_add (P := P) (w := w) (base := base) T
  have b_Table_add := B_Table_add T
  have G_Table_sub := ok_Table_sub (P := P) (w := w) (base := base) T
  have b_Table_sub := B_Table_sub T
  have G_Table_neg := ok_Table_neg (P := P) (w := w) (base := base) T
  have b_Table_neg := B_Table_neg T
  have G_Table_times := ok_Table_times (P := P) (w := w) (base := base) T
  have b_Table_times := B_Table_times T
  have G_Table_renamed := ok_Table_renamed (P := P) (w := w) (base := base) T
  have b_Table_renamed := B_Table_renamed T
  have G_Table_eq := ok_Table_eq (P := P) (w := w) (base := base) T
  have b_Table_eq := B_Table_eq T
  have G_Table_len := ok_Table_len (P := P) (w := w) (base := base) T
  have b_Table_len := B_Table_len T
  have G_Table_is_plain := ok_Table_is_plain (P := P) (w := w) (base := base) T
  have b_Table_is_plain := B_Table_is_plain T
  have G_Table_init := ok_Table_init (P := P) (w := w) (base := base) T
  have M_Table := Mk_Table T
  have b_Table1 := B_Table1 T
  have b_TableK := B_TableK T
  obtain ⟨ds, v_Table0, b_Table0⟩ := B_Table0 T
  refine okG T.law_right.F sc_law_right (fun vs H Q E h => ?_) (fun cdv A outer s H vs Q hg hr h => ?_)
  · obtain ⟨r, rfl, _⟩ := h
    rfl
  · obtain ⟨r, rfl, g, h⟩ := h
    have hgd : (A.deeper (PyProof.Rows.envOfC "_law_right" (defScope s_law_right) s.heap.objs.size a.law_right cdv)).guards = some [] := hg
    refine ⟨_, (pss_mid (ps_set (i := 1) sc_law_right.nd rfl (.inr rfl) (pe_call G_law_names (hr.mono (by decide)) (by rfl) T.law_names.g T.law_names.F.kp b_law_names .nil pass0 (pa_cons (pv 0) (pa_cons (pe_op op_add pe_int (pe_call G_law_draw (hr.mono (by decide)) (by rfl) T.law_draw.g T.law_draw.F.kp b_law_draw .nil pass0 (pa_cons (pv 0) (pa_cons pe_int pa_nil)))) (pa_cons (pe_lst (pa_cons pe_str pa_nil)) pa_nil)))))
      (pss_mid (ps_if (pt_cmpR op_eq (pe_call G_law_draw (hr.mono (by decide)) (by rfl) T.law_draw.g T.law_draw.F.kp b_law_draw .nil pass0 (pa_cons (pv 0) (pa_cons pe_int pa_nil))) pe_int (nomark _)) (pss_one (ps_asg (pe_call G_law_long (hr.mono (by decide)) (by rfl) T.law_long.g T.law_long.F.kp b_law_long .nil pass0 (pa_cons (pv 0) pa_nil)) (pg_sub (pv 1) pe_int set_list))) pss_nil)
      (pss_mid (ps_par (i := 2) (j := 3) (by rfl) sc_law_right.nd rfl rfl (by decide) rfl rfl (pa_cons (pe_call G_law_dict (hr.mono (by decide)) (by rfl) T.law_dict.g T.law_dict.F.kp b_law_dict .nil pass0 (pa_cons (pv 0) (pa_cons (pv 1) pa_nil))) (pa_cons (pe_call G_law_dict (hr.mono (by decide)) (by rfl) T.law_dict.g T.law_dict.F.kp b_law_dict .nil pass0 (pa_cons (pv 0) (pa_cons (pv 1) pa_nil))) pa_nil)) (by rfl))
      (pss_mid (ps_par (i := 4) (j := 5) (by rfl) sc_law_right.nd rfl rfl (by decide) rfl rfl (pa_cons (pe_callTy call_dictD (by rfl) T.b_dict (by decide +kernel) (pa_cons (pv 2) pa_nil)) (pa_cons (LiI.pe_listItems rfl (pv 3) (by rfl) T.b_list (by decide +kernel)) pa_nil)) (by rfl))
      (pss_cons (ps_par (i := 6) (j := 7) (by rfl) sc_law_right.nd rfl rfl (by decide) rfl rfl (pa_cons (pe_make M_Table G_Table_init (hr.mono (by decide)) (by rfl) T.Table.g b_Table1 .nil pass0 (pa_cons (pv 4) pa_nil)) (pa_cons (pe_makeK0 M_Table G_Table_init (hr.mono (by decide)) (by rfl) T.Table.g b_TableK pass0 (pk_cons (pv 3) pk_nil)) pa_nil)) (by rfl))
      (pss_mid (ps_expr (pe_dclear (pv 4)))
      (pss_mid (ps_if (PW.pt (pw_or (pt_not (pt_val (pe_callR (Runs.ofG G_law_is b_law_is hgd (hr.mono (by decide)) rfl) (by rfl) T.law_is.g T.law_is.F.kp (pa_cons (pv 6) (pa_cons (pv 2) (pa_cons (pv 1) pa_nil)))))) (pw_or1 (pt_not (pt_val (pe_callR (Runs.ofG G_law_is b_law_is hgd (hr.mono (by decide)) rfl) (by rfl) T.law_is.g T.law_is.F.kp (pa_cons (pv 7) (pa_cons (pv 3) (pa_cons (pv 1) pa_nil))))))))) (pss_one (ps_ret pe_bl)) pss_nil)
      (pss_mid (ps_if (pt_not (pt_val (pe_callR (Runs.ofG G_law_is b_law_is hgd (hr.mono (by decide)) rfl) (by rfl) T.law_is.g T.law_is.F.kp (pa_cons (pe_op (op_own T.O_Table_add (Runs.of G_Table_add b_Table_add (hr.mono (by decide)) rfl)) (pv 6) (pv 7)) (pa_cons (pe_call G_law_together (hr.mono (by decide)) (by rfl) T.law_together.g T.law_together.F.kp b_law_together .nil pass0 (pa_cons (pv 2) (pa_cons (pv 3) (pa_cons pe_int pa_nil)))) (pa_cons (pv 1) pa_nil)))))) (pss_one (ps_ret pe_bl)) pss_nil)
      (pss_mid (ps_if (pt_not (pt_val (pe_callR (Runs.ofG G_law_is b_law_is hgd (hr.mono (by decide)) rfl) (by rfl) T.law_is.g T.law_is.F.kp (pa_cons (pe_op (op_own T.O_Table_sub (Runs.of G_Table_sub b_Table_sub (hr.mono (by decide)) rfl)) (pv 6) (pv 7)) (pa_cons (pe_call G_law_together (hr.mono (by decide)) (by rfl) T.law_together.g T.law_together.F.kp b_law_together .nil pass0 (pa_cons (pv 2) (pa_cons (pv 3) (pa_cons (pe_un un_neg pe_int) pa_nil)))) (pa_cons (pv 1) pa_nil)))))) (pss_one (ps_ret pe_bl)) pss_nil)
      (pss_cons (ps_set (i := 8) sc_law_right.nd rfl (.inl rfl) (pe_call G_law_choice (hr.mono (by decide)) (by rfl) T.law_choice.g T.law_choice.F.kp b_law_choice .nil pass0 (pa_cons (pv 0) (pa_cons (pe_lst (pa_cons pe_int (pa_cons pe_int (pa_cons (pe_un un_neg pe_int) (pa_cons pe_int (pa_cons (pe_un un_neg pe_int) (pa_cons pe_int pa_nil))))))) pa_nil))))
      (pss_mid (ps_if (pt_not (pt_val (pe_callR (Runs.ofG G_law_is b_law_is hgd (hr.mono (by decide)) rfl) (by rfl) T.law_is.g T.law_is.F.kp (pa_cons (pe_meth (pv 6) T.Table.cls T.Table_times.meth G_Table_times (hr.mono (by decide)) b_Table_times .nil pass0 (pa_cons (pv 8) pa_nil)) (pa_cons (pe_call G_law_together (hr.mono (by decide)) (by rfl) T.law_together.g T.law_together.F.kp b_law_together .nil pass0 (pa_cons pe_dnewK (pa_cons (pv 2) (pa_cons (pv 8) pa_nil)))) (pa_cons (pv 1) pa_nil)))))) (pss_one (ps_ret pe_bl)) pss_nil)
      (pss_mid (ps_if (pt_not (pt_val (pe_callR (Runs.ofG G_law_is b_law_is hgd (hr.mono (by decide)) rfl) (by rfl) T.law_is.g T.law_is.F.kp (pa_cons (pe_un (un_own T.O_Table_neg (Runs.of G_Table_neg b_Table_neg (hr.mono (by decide)) rfl)) (pv 6)) (pa_cons (pe_call G_law_together (hr.mono (by decide)) (by rfl) T.law_together.g T.law_together.F.kp b_law_together .nil pass0 (pa_cons pe_dnewK (pa_cons (pv 2) (pa_cons (pe_un un_neg pe_int) pa_nil)))) (pa_cons (pv 1) pa_nil)))))) (pss_one (ps_ret pe_bl)) pss_nil)
      (pss_mid (ps_if (PW.pt (pw_or (pt_cmpR (op_neO T.O_Table_eq (hu_of hr) (Runs.of (A := _) G_Table_eq b_Table_eq (Room.in1 (hr.mono (by decide))) rfl)) (pe_op (op_own T.O_Table_add (Runs.of G_Table_add b_Table_add (hr.mono (by decide)) rfl)) (pv 6) (pv 7)) (pe_op (op_own T.O_Table_add (Runs.of G_Table_add b_Table_add (hr.mono (by decide)) rfl)) (pv 7) (pv 6)) (nomark _)) (pw_or1 (pt_cmpR (op_neO T.O_Table_eq (hu_of hr) (Runs.of (A := _) G_Table_eq b_Table_eq (Room.in1 (hr.mono (by decide))) rfl)) (pe_op (op_own T.O_Table_sub (Runs.of G_Table_sub b_Table_sub (hr.mono (by decide)) rfl)) (pv 6) (pv 6)) (pe_make0 M_Table G_Table_init (hr.mono (by decide)) (by rfl) T.Table.g b_Table0 v_Table0 pass0) (nomark _))))) (pss_one (ps_ret pe_bl)) pss_nil)
      (pss_mid (ps_set (i := 9) sc_law_right.nd rfl (.inr rfl) (pe_call G_law_names (hr.mono (by decide)) (by rfl) T.law_names.g T.law_names.F.kp b_law_names .nil pass0 (pa_cons (pv 0) (pa_cons pe_int (pa_cons (pe_op op_cat (pv 1) (pe_lst (pa_cons pe_str pa_nil))) pa_nil)))))
      (pss_mid (ps_set (i := 10) sc_law_right.nd rfl (.inl rfl) (pe_callTy (call_dictP rfl) (by rfl) T.b_dict (by decide +kernel) (pa_cons (pe_lc (own := [("_law_key", 11)]) (g := gName 11) (by rfl) sc_law_right.nd (pi_list (pe_call G_law_mixed (hr.mono (by decide)) (by rfl) T.law_mixed.g T.law_mixed.F.kp b_law_mixed .nil pass0 (pa_cons (pv 0) (pa_cons (pv 1) pa_nil)))) (blkOk_by (N := ["_law_rng_here", "_law_names_here", "_law_first", "_law_second", "_law_handed", "_law_spoken", "_law_one", "_law_other", "_law_many", "_law_more", "_law_fresh", "_law_key", "_law_kept_here"]) (sc := defScope s_law_right) (by decide +kernel)) (fun _ _ _ _ _ => (pg_name (i := 11) sc_law_right.nd rfl (.inl rfl) (.inr rfl))) (fun _ _ _ _ _ => pts_one (pt_cmpR op_eq (pe_call G_law_draw (hr.mono (by decide)) (by rfl) T.law_draw.g T.law_draw.F.kp b_law_draw .nil pass0 (pa_cons (pv 0) (pa_cons pe_int pa_nil))) pe_int (nomark _))) (fun _ _ _ _ _ => (pe_tup (pa_cons (pv 11) (pa_cons (pe_call G_law_choice (hr.mono (by decide)) (by rfl) T.law_choice.g T.law_choice.F.kp b_law_choice .nil pass0 (pa_cons (pv 0) (pa_cons (pe_op op_cat (pv 1) (pv 9)) pa_nil))) pa_nil))))) pa_nil)))
      (pss_mid (ps_set (i := 12) sc_law_right.nd rfl (.inl rfl) (LiI.pe_listItems rfl (pv 10) (by rfl) T.b_list (by decide +kernel)))
      (pss_mid (ps_if (PW.pt (pw_or (pt_not (pt_val (pe_callR (Runs.ofG G_law_is b_law_is hgd (hr.mono (by decide)) rfl) (by rfl) T.law_is.g T.law_is.F.kp (pa_cons (pe_meth (pv 6) T.Table.cls T.Table_renamed.meth G_Table_renamed (hr.mono (by decide)) b_Table_renamed .nil pass0 (pa_cons (pv 10) pa_nil)) (pa_cons (pe_call G_law_renamed (hr.mono (by decide)) (by rfl) T.law_renamed.g T.law_renamed.F.kp b_law_renamed .nil pass0 (pa_cons (pv 2) (pa_cons (pv 10) pa_nil))) (pa_cons (pe_op op_cat (pv 1) (pv 9)) pa_nil)))))) (pw_or1 (pt_cmpR (op_neD (hu64 hr)) (LiI.pe_listItems rfl (pv 10) (by rfl) T.b_list (by decide +kernel)) (pv 12) (nomark _))))) (pss_one (ps_ret pe_bl)) pss_nil)
      (pss_mid (ps_if (pt_cmpR (op_neO T.O_Table_eq (hu_of hr) (Runs.of (A := _) G_Table_eq b_Table_eq (Room.in1 (hr.mono (by decide))) rfl)) (pe_meth (pv 6) T.Table.cls T.Table_renamed.meth G_Table_renamed (hr.mono (by decide)) b_Table_renamed .nil pass0 (pa_cons (pe_callTy (call_dictP rfl) (by rfl) T.b_dict (by decide +kernel) (pa_cons (pe_lock (pe_lc (own := [("_law_key", 11)]) (g := gName 11) (by rfl) sc_law_right.nd (pi_keys (pv 10)) (blkOk_by (N := ["_law_rng_here", "_law_names_here", "_law_first", "_law_second", "_law_handed", "_law_spoken", "_law_one", "_law_other", "_law_many", "_law_more", "_law_fresh", "_law_key", "_law_kept_here"]) (sc := defScope s_law_right) (by decide +kernel)) (fun _ _ _ _ _ => (pg_name (i := 11) sc_law_right.nd rfl (.inl rfl) (.inr rfl))) (fun _ _ _ _ _ => pts_nil) (fun _ _ _ _ _ => (pe_tup (pa_cons (pv 11) (pa_cons (pv 11) pa_nil)))))) pa_nil)) pa_nil)) (pv 6) (nomark _)) (pss_one (ps_ret pe_bl)) pss_nil)
      (pss_mid (ps_if (pt_not (pt_val (pe_callR (Runs.ofG G_law_is b_law_is hgd (hr.mono (by decide)) rfl) (by rfl) T.law_is.g T.law_is.F.kp (pa_cons (pe_meth (pv 6) T.Table.cls T.Table_renamed.meth G_Table_renamed (hr.mono (by decide)) b_Table_renamed .nil pass0 (pa_cons (pv 10) pa_nil)) (pa_cons (pe_call G_law_renamed (hr.mono (by decide)) (by rfl) T.law_renamed.g T.law_renamed.F.kp b_law_renamed .nil pass0 (pa_cons (pv 2) (pa_cons (pv 10) pa_nil))) (pa_cons (pe_op op_cat (pv 1) (pv 9)) pa_nil)))))) (pss_one (ps_ret pe_bl)) pss_nil)
      (pss_mid (ps_if (PW.pt (pw_or (pt_cmpR op_ne (pe_cmpR (op_eqO T.O_Table_eq hr.units0 (Runs.of G_Table_eq b_Table_eq (hr.mono (by decide)) rfl)) (pv 6) (pv 7) (nomark _)) (pe_cmpR (op_eqKK hr.units0) (pe_call G_law_kept (hr.mono (by decide)) (by rfl) T.law_kept.g T.law_kept.F.kp b_law_kept .nil pass0 (pa_cons (pv 2) pa_nil)) (pe_call G_law_kept (hr.mono (by decide)) (by rfl) T.law_kept.g T.law_kept.F.kp b_law_kept .nil pass0 (pa_cons (pv 3) pa_nil)) (nomark _)) (nomark _)) (pw_or1 (pt_cmpR (op_neO T.O_Table_eq (hu_of hr) (Runs.of (A := _) G_Table_eq b_Table_eq (Room.in1 (hr.mono (by decide))) rfl)) (pe_meth (pv 6) T.Table.cls T.Table_renamed.meth G_Table_renamed (hr.mono (by decide)) b_Table_renamed .nil pass0 (pa_cons pe_dnewK pa_nil)) (pv 6) (nomark _))))) (pss_one (ps_ret pe_bl)) pss_nil)
      (pss_mid (ps_if (PW.pt (pw_or (pt_cmpR (op_neO T.O_Table_eq (hu_of hr) (Runs.of (A := _) G_Table_eq b_Table_eq (Room.in1 (hr.mono (by decide))) rfl)) (pe_make0 M_Table G_Table_init (hr.mono (by decide)) (by rfl) T.Table.g b_Table0 v_Table0 pass0) (pe_make M_Table G_Table_init (hr.mono (by decide)) (by rfl) T.Table.g b_Table1 .nil pass0 (pa_cons pe_dnewK pa_nil)) (nomark _)) (pw_or (pt_cmpR (op_neO T.O_Table_eq (hu_of hr) (Runs.of (A := _) G_Table_eq b_Table_eq (Room.in1 (hr.mono (by decide))) rfl)) (pe_make M_Table G_Table_init (hr.mono (by decide)) (by rfl) T.Table.g b_Table1 .nil pass0 (pa_cons pe_non pa_nil)) (pe_make M_Table G_Table_init (hr.mono (by decide)) (by rfl) T.Table.g b_Table1 .nil pass0 (pa_cons (pe_disp (pps_cons (pe_ix ix_list (pv 1) pe_int (fun _ _ => rfl)) pe_int pps_nil) rfl rfl (by simp) (by decide)) pa_nil)) (nomark _)) (pw_or (pt_cmpR op_ne (pe_callB (call_lenO T.O_Table_len (Runs.of G_Table_len b_Table_len (hr.in1.mono (by decide)) rfl)) (by rfl) T.b_len (by decide +kernel) (pa_cons (pe_make0 M_Table G_Table_init (hr.mono (by decide)) (by rfl) T.Table.g b_Table0 v_Table0 pass0) pa_nil)) pe_int (nomark _)) (pw_or1 (pt_not (pt_val (pe_prop (pe_make0 M_Table G_Table_init (hr.mono (by decide)) (by rfl) T.Table.g b_Table0 v_Table0 pass0) T.Table.cls T.Table_is_plain.pr G_Table_is_plain (hr.mono (by decide)) b_Table_is_plain .nil pass0 rfl)))))))) (pss_one (ps_ret pe_bl)) pss_nil)
      (pss_one (ps_ret (pe_and (pe_callR (Runs.ofG G_law_is b_law_is hgd (hr.mono (by decide)) rfl) (by rfl) T.law_is.g T.law_is.F.kp (pa_cons (pv 6) (pa_cons (pv 2) (pa_cons (pv 1) pa_nil)))) (pe_and (pe_callR (Runs.ofG G_law_is b_law_is hgd (hr.mono (by decide)) rfl) (by rfl) T.law_is.g T.law_is.F.kp (pa_cons (pv 7) (pa_cons (pv 3) (pa_cons (pv 1) pa_nil)))) (pe_one (pe_cmpR (op_eqD (hu64 hr)) (LiI.pe_listItems rfl (pv 3) (by rfl) T.b_list (by decide +kernel)) (pv 5) (nomark _)))))))))))))))))))))))))))), ?_⟩
    -- the names
    refine ⟨fun σ H' => But r H H' ∧ Rng H' r ∧ ∃ (l : Addr) (ss : List Str), l ≠ r ∧ H l = none ∧ H' l = some (.lst (ss.map V.str)) ∧ ss.length ≤ 5 ∧ 0 < ss.length ∧ ss.Nodup ∧ (∀ s, s ∈ ss → Nm s ∧ s.length ≤ 5) ∧ σ = [some (.ref r), some (.ref l), none, none, none, none, none, none, none, none, none, none, none], ?_, ?_⟩
    · refine ⟨_, rfl, _, rfl, r, 5, rfl, g, by decide, by decide, fun d H1 d0 d1 b1 g1 => ?_⟩
      obtain ⟨j, rfl⟩ : ∃ j : Nat, d = (j : Int) := ⟨d.toNat, by omega⟩
      refine ⟨_, _, rfl, rfl, (by decide), fun z hz => ⟨r, z, 1 + j, ["zz"], ?_, g1.ext (Ext.upd hz), upd_same, g1.fresh hz, by omega, (by decide), fun p ss H2 b2 g2 hp0 hp hn nd hss => ?_⟩⟩
      · rw [Int.natCast_add]
        rfl
      refine ⟨(b1.ext (Ext.upd hz)).trans b2, g2, p, ss, (g1.ext (Ext.upd hz)).fresh hp0, but_none (b1.ext (Ext.upd hz)) hp0 ((g1.ext (Ext.upd hz)).fresh hp0), hp, by omega, by omega, nd, fun s hs => ⟨(hss s hs).1, (hss s hs).2.1⟩, rfl⟩
    rintro σ H1 ⟨b1, g1, l, ss, nlr, l0, hl, few, pos, nd, nm, rfl⟩
    refine ⟨fun σ H' => But r H H' ∧ Rng H' r ∧ ∃ (ss : List Str), H' l = some (.lst (ss.map V.str)) ∧ ss.length ≤ 5 ∧ 0 < ss.length ∧ ss.Nodup ∧ (∀ s, s ∈ ss → Nm s) ∧ σ = [some (.ref r), some (.ref l), none, none, none, none, none, none, none, none, none, none, none], ?_, ?_⟩
    · refine ⟨_, rfl, r, 3, rfl, g1, by decide, by decide, fun d H2 d0 d1 b2 g2 => ?_⟩
      have hl2 := b2 _ _ hl nlr
      refine ⟨rfl, decide (d = 0), ?_, ?_⟩
      · simp
      by_cases hd : d = 0
      · refine iteY (decide_eq_true hd) ?_
        refine ⟨_, rfl, r, rfl, g2, fun s H3 ns s8 b3 g3 => ⟨_, rfl, l, _, 0, 0, rfl, rfl, b3 _ _ hl2 nlr, ?_, ?_⟩⟩
        · unfold ixN
          rw [List.length_map, if_pos (by decide), if_pos (by omega)]
          rfl
        refine ⟨but_put ((b1.trans b2).trans b3) l0, g3.put nlr, ss.set 0 s, by rw [upd_same, ← set_map], by rw [List.length_set]; exact few, by rw [List.length_set]; exact pos, set0_nodup nd (fun x hx => (nm x hx).2) s8, fun x hx => ?_, rfl⟩
        rcases set0_mem hx with rfl | hx
        · exact ns
        · exact (nm x hx).1
      · refine iteN (decide_eq_false hd) ⟨b1.trans b2, g2, ss, hl2, few, pos, nd, fun s hs => (nm s hs).1, rfl⟩
    clear nm nd pos few hl ss
    rintro σ H2 ⟨b2, g2, ss, hl, few, pos, nd, nm, rfl⟩
    clear b1 g1
    -- the rows
    refine ⟨fun σ H' => But r H H' ∧ Rng H' r ∧ H' l = some (.lst (ss.map V.str)) ∧ ∃ (d1 d2 : Addr) (m1 m2 : Row), H d1 = none ∧ H d2 = none ∧ H' d1 = some (.dK (dkv m1)) ∧ H' d2 = some (.dK (dkv m2)) ∧ RowOk 5 100 m1 ∧ RowOk 5 100 m2 ∧ σ = [some (.ref r), some (.ref l), some (.ref d1), some (.ref d2), none, none, none, none, none, none, none, none, none], ?_, ?_⟩
    · refine ⟨_, rfl, _, rfl, r, l, ss, rfl, g2, hl, nlr, by omega, nd, nm, fun d1 m1 H3 b3 g3 n1 h1 ok1 _ => ?_⟩
      have hl3 := b3 _ _ hl nlr
      refine ⟨_, rfl, _, rfl, r, l, ss, rfl, g3, hl3, nlr, by omega, nd, nm, fun d2 m2 H4 b4 g4 n2 h2 ok2 _ => ?_⟩
      have nd1 := g2.fresh n1
      have nd2 := g3.fresh n2
      exact ⟨_, _, rfl, (b2.trans b3).trans b4, g4, b4 _ _ hl3 nlr, d1, d2, m1, m2, but_none b2 n1 nd1, but_none (b2.trans b3) n2 nd2, b4 _ _ h1 nd1, h2, ok1.mono few, ok2.mono few, rfl⟩
    rintro σ H3 ⟨b3, g3, hl, d1, d2, m1, m2, n1, n2, h1, h2, ok1, ok2, rfl⟩
    clear b2 g2
    -- what is handed, what is spoken
    refine ⟨fun σ H' => Ext H3 H' ∧ ∃ (hn sp : Addr) (ts : List Addr), H3 hn = none ∧ H3 sp = none ∧ H' hn = some (.dK (dkv m1)) ∧ H' sp = some (.lst (ts.map V.ref)) ∧ Paired (fun (t : Addr) (q : Key × V) => H' t = some (.tup [kV q.1, q.2])) ts (dkv m2) ∧ σ = [some (.ref r), some (.ref l), some (.ref d1), some (.ref d2), some (.ref hn), some (.ref sp), none, none, none, none, none, none, none], ?_, ?_⟩
    · refine ⟨_, rfl, d1, dkv m1, rfl, .inl h1, fun hn nhd => ?_⟩
      have e4 := Ext.upd (o := .dK (dkv m1)) nhd
      refine ⟨_, rfl, d2, dkv m2, rfl, e4 _ _ h2, fun H5 sp ts k5 nsp nts _ hsp prs => ?_⟩
      exact ⟨_, _, rfl, e4.trans k5, hn, sp, ts, nhd, none_of e4 nsp, k5 _ _ upd_same, hsp, prs, rfl⟩
    rintro σ H4 ⟨e4, hn, sp, ts, nhd, nsp, hhd, hsp, prs, rfl⟩
    -- the tables
    have h1' := e4 _ _ h1
    have h2' := e4 _ _ h2
    have hl' := e4 _ _ hl
    have g4 := g3.ext e4
    have b4 := b3.ext e4
    have nspr := g3.fresh nsp
    have hhd0 : H hn = none := but_none b3 nhd (g3.fresh nhd)
    refine ⟨_, rfl, fun x1 dx1 nx1 ndx1 ne1 => ⟨x1, dx1, _, vl m1, 5, 100, rfl, upd_same, .inr ⟨hn, m1, rfl, ext_made nx1 ndx1 _ _ hhd, ok1, rfl⟩, by decide, fun H5 c1 nc1 keep1 hp1 ic1 => ⟨rfl, ?_⟩⟩⟩
    obtain ⟨e5, -⟩ := made_tab nx1 ndx1 keep1 hp1 ic1
    obtain ⟨L1, hc1, cn1, okL1⟩ := ic1
    refine ⟨_, rfl, rfl, rfl, fun x2 dx2 nx2 ndx2 ne2 => ⟨x2, dx2, _, vl m2, 5, 100, rfl, upd_same, .inr ⟨d2, m2, rfl, ext_made nx2 ndx2 _ _ (e5 _ _ h2'), ok2, rfl⟩, by decide, fun H6 c2 nc2 keep2 hp2 ic2 => ⟨rfl, ?_⟩⟩⟩
    obtain ⟨e6, -⟩ := made_tab nx2 ndx2 keep2 hp2 ic2
    obtain ⟨L2, hc2, cn2, okL2⟩ := ic2
    refine ⟨_, _, rfl, ?_⟩
    have nc1' : H4 c1 = none := none_of (ext_made nx1 ndx1) nc1
    have nc2' : H5 c2 = none := none_of (ext_made nx2 ndx2) nc2
    have e46 := e5.trans e6
    refine ⟨fun σ H' => But r H H' ∧ Held a.Table r l d1 d2 sp x1 dx1 c1 x2 dx2 c2 ss m1 m2 L1 L2 ts H' ∧ σ = [some (.ref r), some (.ref l), some (.ref d1), some (.ref d2), some (.ref hn), some (.ref sp), some (.ref x1), some (.ref x2), none, none, none, none, none], ?_, ?_⟩
    · refine ⟨_, rfl, .inr (.inr (.inl ⟨rfl, .inl ⟨_, e46 _ _ hhd⟩⟩)), hn, _, rfl, rfl, e46 _ _ hhd, ?_⟩
      have up : ∀ {x : Addr} {o : HO}, H6 x = some o → x ≠ hn → upd H6 hn (.dK []) x = some o := fun {x o} hx hn => by rw [upd_ne hn]; exact hx
      have ndh : ∀ {x : Addr} {o : HO}, H3 x = some o → x ≠ hn := fun {x o} hx z => by rw [z, nhd] at hx; cases hx
      have prs' : Paired (fun (t : Addr) (q : Key × V) => upd H6 hn (.dK []) t = some (.tup [kV q.1, q.2])) ts (dkv m2) := paired_imp (fun t (q : Key × V) (z : H4 t = some (.tup [kV q.1, q.2])) => up (e46 _ _ z) (ne_of z hhd fun z => nomatch z)) prs
      refine ⟨but_put (b4.ext e46) hhd0, ⟨(g4.ext e46).put (g3.fresh nhd), up (e46 _ _ hl') (ndh hl), up (e46 _ _ h1') (ndh h1), up (e46 _ _ h2') (ndh h2), up (e46 _ _ hsp) (ne_of hsp hhd fun z => nomatch z), prs', up (e6 _ _ hp1) (ne_of (e6 _ _ hp1) (e46 _ _ hhd) fun z => nomatch z), up (e6 _ _ hc1) fun z => ?_, up hp2 (ne_of hp2 (e46 _ _ hhd) fun z => nomatch z), up hc2 fun z => ?_⟩, rfl⟩
      · rw [z, hhd] at nc1'
        cases nc1'
      · rw [z, e5 _ _ hhd] at nc2'
        cases nc2'
    have sd : Said r l sp ss m1 m2 L1 L2 := ⟨nlr, nspr, few, pos, nd, nm, ok1, ok2, cn1, cn2, okL1, okL2⟩
    have s40 : ss.length ≤ 40 := by omega
    clear few pos nd cn1 cn2 okL1 okL2 nc1 nc2 nc1' nc2' keep1 keep2 hp1 hp2 hc1 hc2 e46 e6 e5 nx1 ndx1 ne1 nx2 ndx2 ne2 hhd0 b4 g4 hl' h1' h2' hhd hsp prs nhd nsp e4 h1 h2 n1 n2 b3 nspr
    rintro σ Ha ⟨ba, ha, rfl⟩
    -- both are right
    refine ⟨fun σ H' => Ext Ha H' ∧ σ = [some (.ref r), some (.ref l), some (.ref d1), some (.ref d2), some (.ref hn), some (.ref sp), some (.ref x1), some (.ref x2), none, none, none, none, none], ?_, ?_⟩
    · refine ⟨_, rfl, _, rfl, _, rfl, .ref x1, d1, l, m1, vl m1, ss, 5, 100, 5, 100, rfl, ha.t1 sd, by decide, by decide, ha.h1, ok1, by decide, rfl, ha.hl, s40, nm, fun H2 e2 => ⟨_, rfl, iteF ?_⟩⟩
      have HL := ha.ext e2
      exact ⟨_, rfl, _, rfl, _, rfl, .ref x2, d2, l, m2, vl m2, ss, 5, 100, 5, 100, rfl, HL.t2 sd, by decide, by decide, HL.h2, ok2, by decide, rfl, HL.hl, s40, nm, fun H3 e3 => ⟨_, rfl, iteF ⟨e2.trans e3, rfl⟩⟩⟩
    rintro σ Hb ⟨eb, rfl⟩
    have bb := ba.ext eb
    have hb := ha.ext eb
    clear eb ba ha
    -- the sum
    refine ⟨fun σ H' => Ext Hb H' ∧ σ = [some (.ref r), some (.ref l), some (.ref d1), some (.ref d2), some (.ref hn), some (.ref sp), some (.ref x1), some (.ref x2), none, none, none, none, none], ?_, ?_⟩
    · refine ⟨_, rfl, _, rfl, x1, dx1, _, rfl, hb.hp1, .inr ⟨x2, dx2, _, rfl, hb.hp2⟩, _, _, vl m1, vl m2, 5, 5, 100, rfl, hb.t1 sd, hb.t2 sd, by decide, fun u H2 e2 tu => ?_⟩
      have h2' := hb.ext e2
      refine ⟨_, rfl, _, rfl, d1, d2, m1, m2, 5, 5, 100, 100, 1, 1, rfl, h2'.h1, ok1, h2'.h2, ok2, by decide, by unfold Bt; decide, by decide, fun q M H3 e3 nq hq acc => ?_⟩
      have HL := h2'.ext e3
      exact ⟨_, rfl, u, q, l, M, _, ss, 10, 101, 10, 101, rfl, tu.ext e3, by decide, by decide, hq, acc.row fun k => (vl_bt ok1 k).add (by rw [Int.one_mul]; exact vl_bt ok2 k), by decide, funext fun k => (acc.val k).trans (by rw [Int.one_mul]), HL.hl, s40, nm, fun H4 e4 => ⟨_, rfl, iteF ⟨(e2.trans e3).trans e4, rfl⟩⟩⟩
    rintro σ Hc ⟨ec, rfl⟩
    have bc := bb.ext ec
    have hc := hb.ext ec
    clear ec bb hb
    -- the difference
    refine ⟨fun σ H' => Ext Hc H' ∧ σ = [some (.ref r), some (.ref l), some (.ref d1), some (.ref d2), some (.ref hn), some (.ref sp), some (.ref x1), some (.ref x2), none, none, none, none, none], ?_, ?_⟩
    · refine ⟨_, rfl, _, rfl, x1, dx1, _, rfl, hc.hp1, .inr ⟨x2, dx2, _, rfl, hc.hp2⟩, _, _, vl m1, vl m2, 5, 5, 100, rfl, hc.t1 sd, hc.t2 sd, by decide, fun u H2 e2 tu => ?_⟩
      have h2' := hc.ext e2
      refine ⟨_, rfl, _, rfl, _, rfl, d1, d2, m1, m2, 5, 5, 100, 100, -1, 1, rfl, h2'.h1, ok1, h2'.h2, ok2, by decide, by unfold Bt; decide, by decide, fun q M H3 e3 nq hq acc => ?_⟩
      have HL := h2'.ext e3
      exact ⟨_, rfl, u, q, l, M, _, ss, 10, 101, 10, 101, rfl, tu.ext e3, by decide, by decide, hq, acc.row fun k => (vl_bt ok1 k).add (by rw [Int.neg_one_mul]; exact (vl_bt ok2 k).neg), by decide, funext fun k => (acc.val k).trans (by rw [Int.neg_one_mul]), HL.hl, s40, nm, fun H4 e4 => ⟨_, rfl, iteF ⟨(e2.trans e3).trans e4, rfl⟩⟩⟩
    rintro σ Hd ⟨ed, rfl⟩
    have bd := bc.ext ed
    have hd := hc.ext ed
    clear ed bc hc
    -- a multiple
    refine ⟨_, rfl, _, rfl, _, rfl, (by show 6 ≤ sizeLine; decide), fun zl hzl => ⟨r, hd.g.ext (Ext.upd hzl), .inl ⟨zl, _, rfl, upd_same, hd.g.fresh hzl, (by show 0 < 6; decide), (by show 6 ≤ 1000; decide), fun v He hv be ge => ?_⟩⟩⟩
    obtain ⟨i, rfl, zi⟩ := many_ok v hv
    have bf := (bd.ext (Ext.upd hzl)).trans be
    have hf := (hd.ext (Ext.upd hzl)).but sd be ge
    clear bd hd be ge
    refine ⟨fun σ H' => Ext He H' ∧ σ = [some (.ref r), some (.ref l), some (.ref d1), some (.ref d2), some (.ref hn), some (.ref sp), some (.ref x1), some (.ref x2), some (.int i), none, none, none, none], ?_, ?_⟩
    · refine ⟨_, rfl, _, _, _, rfl, hf.hp1, rfl, _, rfl, _, i, vl m1, 5, 100, 7, rfl, hf.t1 sd, by decide, zi, by decide, fun u H2 e2 tu => ?_⟩
      have h2' := hf.ext e2
      refine fun z hz => ⟨_, rfl, _, rfl, z, d1, [], m1, 0, 5, 100, 100, i, 7, rfl, upd_same, rowOk_nil, Ext.upd hz _ _ h2'.h1, ok1, by decide, zi, by decide, fun q M H3 e3 nq hq acc => ?_⟩
      have e23 : Ext H2 H3 := (Ext.upd hz).trans e3
      have HL := h2'.ext e23
      exact ⟨_, rfl, u, q, l, M, _, ss, 5, 107, 5, 107, rfl, tu.ext e23, by decide, by decide, hq, acc.row fun k => by rw [vl_nil, Int.zero_add]; exact (zi.mul (vl_bt ok1 k)).mono (by decide), by decide, funext fun k => (acc.val k).trans (by rw [vl_nil, Int.zero_add, Int.mul_comm]), HL.hl, s40, nm, fun H4 e4 => ⟨_, rfl, iteF ⟨(e2.trans e23).trans e4, rfl⟩⟩⟩
    rintro σ Hg ⟨eg, rfl⟩
    have bg := bf.ext eg
    have hg := hf.ext eg
    clear eg bf hf
    -- the negative
    refine ⟨fun σ H' => Ext Hg H' ∧ σ = [some (.ref r), some (.ref l), some (.ref d1), some (.ref d2), some (.ref hn), some (.ref sp), some (.ref x1), some (.ref x2), some (.int i), none, none, none, none], ?_, ?_⟩
    · refine ⟨_, rfl, x1, dx1, _, rfl, hg.hp1, _, vl m1, 5, 100, rfl, hg.t1 sd, by decide, fun u H2 e2 tu => ?_⟩
      have h2' := hg.ext e2
      refine fun z hz => ⟨_, rfl, _, rfl, z, d1, [], m1, 0, 5, 100, 100, -1, 1, rfl, upd_same, rowOk_nil, Ext.upd hz _ _ h2'.h1, ok1, by decide, by unfold Bt; decide, by decide, fun q M H3 e3 nq hq acc => ?_⟩
      have e23 : Ext H2 H3 := (Ext.upd hz).trans e3
      have HL := h2'.ext e23
      exact ⟨_, rfl, u, q, l, M, _, ss, 5, 100, 5, 100, rfl, tu.ext e23, by decide, by decide, hq, acc.row fun k => by rw [vl_nil, Int.zero_add, Int.neg_one_mul]; exact (vl_bt ok1 k).neg, by decide, funext fun k => (acc.val k).trans (by rw [vl_nil, Int.zero_add, Int.neg_one_mul]), HL.hl, s40, nm, fun H4 e4 => ⟨_, rfl, iteF ⟨(e2.trans e23).trans e4, rfl⟩⟩⟩
    rintro σ Hh ⟨eh, rfl⟩
    have bh := bg.ext eh
    have hh := hg.ext eh
    clear eh bg hg
    -- sums the other way, the difference of the same
    refine ⟨fun σ H' => Ext Hh H' ∧ σ = [some (.ref r), some (.ref l), some (.ref d1), some (.ref d2), some (.ref hn), some (.ref sp), some (.ref x1), some (.ref x2), some (.int i), none, none, none, none], ?_, ?_⟩
    · refine ⟨_, rfl, _, rfl, x1, dx1, _, rfl, hh.hp1, .inr ⟨x2, dx2, _, rfl, hh.hp2⟩, _, _, vl m1, vl m2, 5, 5, 100, rfl, hh.t1 sd, hh.t2 sd, by decide, fun u H2 e2 tu => ?_⟩
      have h2' := hh.ext e2
      refine ⟨_, rfl, _, rfl, x2, dx2, _, rfl, h2'.hp2, .inr ⟨x1, dx1, _, rfl, h2'.hp1⟩, _, _, vl m2, vl m1, 5, 5, 100, rfl, h2'.t2 sd, h2'.t1 sd, by decide, fun u' H3 e3 tu' => ?_⟩
      have tu := tu.ext e3
      obtain ⟨pu, dxu, du, rfl, hpu, _⟩ := id tu
      obtain ⟨pu', dxu', du', rfl, hpu', _⟩ := id tu'
      refine ⟨pu, dxu, _, rfl, hpu, .own hpu', _, _, _, 10, 101, rfl, tu, .inl ⟨_, 10, 101, tu', fun rr hrr => ?_⟩⟩
      obtain rfl := hrr.mpr (funext fun k => Int.add_comm _ _)
      refine ⟨true, rfl, _, rfl, iteF ?_⟩
      have h3' := h2'.ext e3
      refine ⟨_, rfl, _, rfl, x1, dx1, _, rfl, h3'.hp1, .inr ⟨x1, dx1, _, rfl, h3'.hp1⟩, _, _, vl m1, vl m1, 5, 5, 100, rfl, h3'.t1 sd, h3'.t1 sd, by decide, fun w4 H4 e4 tw => ?_⟩
      refine fun x3 dx3 nx3 ndx3 ne3 => ⟨x3, dx3, _, fun _ => 0, 0, 0, rfl, upd_same, .inl ⟨rfl, rfl⟩, by decide, fun H5 c3 nc3 keep3 hp3 ic3 => ⟨rfl, ?_⟩⟩
      obtain ⟨e5, t5⟩ := made_tab nx3 ndx3 keep3 hp3 ic3
      have tw := tw.ext e5
      obtain ⟨pw, dxw, dw, rfl, hpw, _⟩ := id tw
      refine ⟨pw, dxw, _, rfl, hpw, .own hp3, _, _, _, 10, 101, rfl, tw, .inl ⟨_, 0, 0, t5, fun rr hrr => ?_⟩⟩
      obtain rfl := hrr.mpr (funext fun k => Int.add_right_neg _)
      exact ⟨true, rfl, _, rfl, iteF ⟨((e2.trans e3).trans e4).trans e5, rfl⟩⟩
    rintro σ Hi ⟨ei, rfl⟩
    have bi := bh.ext ei
    have hi := hh.ext ei
    clear ei bh hh
    -- more names
    have l41 : (ss.map V.str).length + [V.str "zz"].length ≤ sizeLine := by
      rw [List.length_map]
      show ss.length + 1 ≤ _
      exact Nat.le_trans (m := 60) (by omega) (by decide)
    refine ⟨fun σ H' => But r H H' ∧ Held a.Table r l d1 d2 sp x1 dx1 c1 x2 dx2 c2 ss m1 m2 L1 L2 ts H' ∧ ∃ (lm : Addr) (sm : List Str), lm ≠ r ∧ H' lm = some (.lst (sm.map V.str)) ∧ sm.length = 3 ∧ (∀ s, s ∈ sm → Nm s) ∧ σ = [some (.ref r), some (.ref l), some (.ref d1), some (.ref d2), some (.ref hn), some (.ref sp), some (.ref x1), some (.ref x2), some (.int i), some (.ref lm), none, none, none], ?_, ?_⟩
    · refine ⟨_, rfl, _, rfl, (by decide), fun z hz => ⟨l, z, _, _, rfl, rfl, Ext.upd hz _ _ hi.hl, upd_same, l41, fun z1 hz1 => ?_⟩⟩
      have ez : Ext Hi (upd (upd Hi z (.lst [V.str "zz"])) z1 (.lst (ss.map V.str ++ [V.str "zz"]))) := (Ext.upd hz).trans (Ext.upd hz1)
      have h2' := hi.ext ez
      refine ⟨r, z1, 3, ss ++ [("zz" : Str)], rfl, h2'.g, by rw [upd_same, List.map_append]; rfl, (hi.ext (Ext.upd hz)).g.fresh hz1, by decide, by rw [List.length_append]; show ss.length + 1 ≤ 40; have := sd.few; omega, fun lm sm H2 b2 g2 nlm hlm hn3 nd3 hsm => ?_⟩
      exact ⟨(bi.ext ez).trans b2, h2'.but sd b2 g2, lm, sm, h2'.g.fresh nlm, hlm, hn3, fun s hs => (hsm s hs).1, rfl⟩
    rintro σ Hj ⟨bj, hj, lm, sm, nlm, hlm, hn3, nm3, rfl⟩
    clear bi hi
    -- new names for some
    have l8 : (ss.map V.str).length + (sm.map V.str).length ≤ sizeLine := by
      rw [List.length_map, List.length_map, hn3]
      exact Nat.le_trans (m := 60) (by omega) (by decide)
    refine ⟨fun σ H' => But r H H' ∧ Held a.Table r l d1 d2 sp x1 dx1 c1 x2 dx2 c2 ss m1 m2 L1 L2 ts H' ∧ H' lm = some (.lst (sm.map V.str)) ∧ ∃ (fr : Addr) (R : Names), Hj fr = none ∧ H' fr = some (.dK (dks R)) ∧ NamesOk R ∧ (R.map (·.1)).Nodup ∧ σ = [some (.ref r), some (.ref l), some (.ref d1), some (.ref d2), some (.ref hn), some (.ref sp), some (.ref x1), some (.ref x2), some (.int i), some (.ref lm), some (.ref fr), none, none], ?_, ?_⟩
    · refine ⟨_, rfl, _, rfl, r, l, ss, rfl, hj.g, hj.hl, nlr, by omega, fun p ys H1 b1 g1 hp0 hp perm => ?_⟩
      refine ⟨p, rfl, ⟨_, SqL.of hp⟩, fun D hD => ?_⟩
      have npr := hj.g.fresh hp0
      have nDr := g1.fresh hD
      refine lc_list (xs := ys.map V.str) (fun i H' => But r H1 H' ∧ Rng H' r ∧ ∃ (ts : List Addr) (R : Names), H' D = some (.lst (ts.map V.ref)) ∧ ts.length ≤ i ∧ Paired (fun (t : Addr) (kv : Key × V) => H' t = some (.tup [kV kv.1, kv.2])) ts (dks R) ∧ (R.map (·.1)).Sublist (ys.take i) ∧ ∀ q, q ∈ R → Nm q.2) ⟨but_put But.rfl' hD, g1.put nDr, [], [], upd_same, Nat.le_refl _, .nil, List.nil_sublist _, fun q hq => (by cases hq)⟩ (fun i H' _ z => SqL.of (z.1 _ _ hp npr)) ?_ ?_
      · rintro i x H' hx ⟨b2, g2, ts, R, hts, htl, hpr, hsub, hbt⟩
        rw [List.getElem?_map] at hx
        obtain ⟨k, hk, rfl⟩ := Option.map_eq_some_iff.mp hx
        have hi : i < 60 := Nat.lt_of_lt_of_le (List.getElem?_eq_some_iff.mp hk).1 (by rw [perm.length_eq]; omega)
        have et : ys.take (i + 1) = ys.take i ++ [k] := by rw [List.take_add_one, hk]; rfl
        refine ⟨rfl, _, rfl, r, 2, rfl, g2, by decide, by decide, fun d H3 d0 d1' b3 g3 => ?_⟩
        have hpr3 : Paired (fun (t : Addr) (kv : Key × V) => H3 t = some (.tup [kV kv.1, kv.2])) ts (dks R) := paired_imp (fun t kv ht => b3 _ _ ht (g2.ne_tup ht)) hpr
        have hts3 := b3 _ _ hts nDr
        refine ⟨rfl, decide (d = 0), by simp, ?_⟩
        by_cases hd0 : d = 0
        · refine iteY (decide_eq_true hd0) ?_
          have b13 := (b1.trans b2).trans b3
          have hl3 := b13 _ _ hj.hl nlr
          have hlm3 := b13 _ _ hlm nlm
          refine ⟨_, rfl, _, rfl, _, rfl, _, rfl, l, lm, _, _, rfl, rfl, hl3, hlm3, l8, fun z hz => ?_⟩
          have ez := Ext.upd (o := .lst (ss.map V.str ++ sm.map V.str)) hz
          refine ⟨r, g3.ext ez, .inl ⟨z, _, rfl, upd_same, g3.fresh hz, ?_, ?_, fun v H4 hv b4 g4 => ⟨(by show 2 ≤ sizeLine; decide), fun t ht => ?_⟩⟩⟩
          · rw [List.length_append, List.length_map, List.length_map]
            omega
          · rw [List.length_append, List.length_map, List.length_map]
            omega
          obtain ⟨x, nx, rfl⟩ : ∃ x, Nm x ∧ v = .str x := by
            rcases List.mem_append.mp hv with z | z
            · obtain ⟨x, hx, rfl⟩ := List.mem_map.mp z
              exact ⟨x, nm x hx, rfl⟩
            · obtain ⟨x, hx, rfl⟩ := List.mem_map.mp z
              exact ⟨x, nm3 x hx, rfl⟩
          have hts4 := b4 _ _ (ez _ _ hts3) nDr
          have eT := Ext.upd (o := .tup [.str k, .str x]) ht
          have hts5 := eT _ _ hts4
          refine ⟨_, hts5, line60 (by rw [List.length_map]; omega), but_put ((((b2.trans b3).ext ez).trans b4).ext eT) hD, (g4.ext eT).put nDr, ts ++ [t], R ++ [(k, x)], ?_, by rw [List.length_append]; show ts.length + 1 ≤ _; omega, ?_, ?_, ?_⟩
          · rw [upd_same, List.map_append]
            rfl
          · unfold dks
            rw [List.map_append]
            refine paired_snoc (paired_imp (fun t' kv ht' => ?_) hpr3) ?_
            · have h4 := eT _ _ (b4 _ _ (ez _ _ ht') ((g3.ext ez).ne_tup (ez _ _ ht')))
              rw [upd_ne (ne_of h4 hts5 (fun z => nomatch z))]
              exact h4
            · rw [upd_ne (ne_of (upd_same (H := H4)) hts5 (fun z => nomatch z))]
              exact upd_same
          · rw [et, List.map_append]
            exact hsub.append (List.Sublist.refl _)
          · intro q hq
            rcases List.mem_append.mp hq with hq | hq
            · exact hbt q hq
            · rw [List.mem_singleton.mp hq]
              exact nx
        · refine iteN (decide_eq_false hd0) ⟨b2.trans b3, g3, ts, R, hts3, by omega, hpr3, ?_, hbt⟩
          rw [et]
          exact hsub.trans (List.sublist_append_left _ _)
      · rintro H' ⟨b2, g2, ts, R, hts, htl, hpr, hsub, hbt⟩
        rw [List.length_map, List.take_length] at hsub
        have ndR : (R.map (·.1)).Nodup := hsub.nodup (perm.nodup_iff.mpr sd.nd)
        have on : ∀ q, q ∈ R → q.1 ∈ ss := fun q hq => perm.mem_iff.mp (hsub.subset (List.mem_map.mpr ⟨q, hq, rfl⟩))
        refine ⟨D, ts, dks R, rfl, SqL.of hts, paired_imp (fun t kv ht => SqT.of ht) hpr, fun fr hfr => ?_⟩
        rw [merge_dks ndR]
        have b12 := b1.trans b2
        have eq := Ext.upd (o := .dK (dks R)) hfr
        refine ⟨(bj.trans b12).ext eq, (hj.but sd b12 g2).ext eq, eq _ _ (b12 _ _ hlm nlm), fr, R, but_none b12 hfr (g2.fresh hfr), upd_same, ⟨fun q hq => ⟨nm _ (on q hq), hbt q hq⟩, ?_⟩, ndR, rfl⟩
        have := hsub.length_le
        rw [List.length_map, perm.length_eq] at this
        omega
    rintro σ Hk ⟨bk, hk, hlmk, fr, R, nfr, hfr, nok, ndR, rfl⟩
    have nc1 : c1 ≠ fr := ne_of_none hj.hc1 nfr
    have nd1 : d1 ≠ fr := ne_of_none hj.h1 nfr
    clear bj hj hlm
    -- they are kept
    refine ⟨fun σ H' => Ext Hk H' ∧ ∃ (kh : Addr) (tk : List Addr), H' kh = some (.lst (tk.map V.ref)) ∧ Paired (fun (t : Addr) (kv : Key × V) => H' t = some (.tup [kV kv.1, kv.2])) tk (dks R) ∧ σ = [some (.ref r), some (.ref l), some (.ref d1), some (.ref d2), some (.ref hn), some (.ref sp), some (.ref x1), some (.ref x2), some (.int i), some (.ref lm), some (.ref fr), none, some (.ref kh)], ?_, ?_⟩
    · refine ⟨_, rfl, fr, dks R, rfl, hfr, fun H2 kh tk k2 nkh ntk _ hkh prk => ⟨k2, kh, tk, hkh, prk, rfl⟩⟩
    rintro σ Hl ⟨ekl, kh, tk, hkh, prk, rfl⟩
    have bl := bk.ext ekl
    have hl := hk.ext ekl
    have hfr := ekl _ _ hfr
    have hlm := ekl _ _ hlmk
    clear bk hk hlmk
    have nms : ∀ s, s ∈ ss ++ sm → Nm s := fun s hs => by
      rcases List.mem_append.mp hs with z | z
      · exact nm s z
      · exact nm3 s z
    -- renamed
    refine ⟨fun σ H' => Ext Hl H' ∧ σ = [some (.ref r), some (.ref l), some (.ref d1), some (.ref d2), some (.ref hn), some (.ref sp), some (.ref x1), some (.ref x2), some (.int i), some (.ref lm), some (.ref fr), none, some (.ref kh)], ?_, ?_⟩
    · skip
      refine ⟨_, rfl, _, _, _, rfl, hl.hp1, rfl, _, rfl, _, fr, R, vl m1, 5, 100, rfl, hl.t1 sd, by decide, hfr, nok, ?_, fun L cL u H2 e2 tu => ?_⟩
      · intro p dx d hv hp
        cases hv
        rw [hl.hp1] at hp
        cases hp
        exact nc1
      have h2' := hl.ext e2
      refine ⟨_, rfl, _, rfl, d1, fr, m1, R, 5, 100, rfl, h2'.h1, ok1, by decide, e2 _ _ hfr, nok, nd1, fun q M H3 e3 nq hq acc => ?_⟩
      have h3' := h2'.ext e3
      refine ⟨_, rfl, _, rfl, l, lm, _, _, rfl, rfl, h3'.hl, e3 _ _ (e2 _ _ hlm), l8, fun z hz => ?_⟩
      have ez := Ext.upd (o := .lst (ss.map V.str ++ sm.map V.str)) hz
      refine ⟨u, q, z, M, Sm (ren R) L, ss ++ sm, 5, 106, 5, 106, rfl, (tu.ext e3).ext ez, by decide, by decide, ez _ _ hq, acc.row fun k => sm_bt (by decide) ok1, by decide, funext fun k => (acc.val k).trans (sm_canon ok1.nd cL).symm, (by rw [upd_same, ← List.map_append]), (by rw [List.length_append]; have := sd.few; omega), nms, fun H4 e4 => ⟨_, rfl, iteF ?_⟩⟩
      have e24 : Ext Hl H4 := ((e2.trans e3).trans ez).trans e4
      refine ⟨_, rfl, fr, dks R, rfl, e24 _ _ hfr, fun H5 p5 ts5 k5 n5 nt5 _ hp5 pr5 => ⟨_, rfl, ?_⟩⟩
      exact ne_same (pln_its nok) (by decide) (dp_its hp5 pr5) (dp_its (k5 _ _ (e24 _ _ hkh)) (paired_imp (fun t q z => k5 _ _ (e24 _ _ z)) prk)) ⟨false, rfl, iteF ⟨e24.trans k5, rfl⟩⟩
    rintro σ Hm ⟨em, rfl⟩
    have bm := bl.ext em
    have hm := hl.ext em
    have hfrm := em _ _ hfr
    have hlmm := em _ _ hlm
    clear bl hl hfr hlm em hkh prk
    -- renamed to the same
    refine ⟨fun σ H' => Ext Hm H' ∧ σ = [some (.ref r), some (.ref l), some (.ref d1), some (.ref d2), some (.ref hn), some (.ref sp), some (.ref x1), some (.ref x2), some (.int i), some (.ref lm), some (.ref fr), none, some (.ref kh)], ?_, ?_⟩
    · refine ⟨_, rfl, _, _, _, rfl, hm.hp1, rfl, fr, _, hfrm, trivial, fun od => ?_⟩
      have hf : upd Hm fr (.frz od (.dK (dks R))) fr = some (.frz od (.dK (dks R))) := upd_same
      refine ⟨_, rfl, fr, od, rfl, .inl ⟨dks R, hf, fun D hD => ?_⟩⟩
      generalize hH0 : upd Hm fr (.frz od (.dK (dks R))) = H0 at *
      refine lc_it walk_keys (fun i H' => Ext H0 H' ∧ ∃ ts : List Addr, H' D = some (.lst (ts.map V.ref)) ∧ ts.length = i ∧ Paired (fun (t : Addr) (kv : Key × V) => H' t = some (.tup [kV kv.1, kv.2])) ts (dks ((R.take i).map fun q => (q.1, q.1)))) ⟨ext_put Ext.rfl' hD, [], upd_same, rfl, .nil⟩ (fun i H' _ z => z.1 _ _ hf) ?_ ?_
      · rintro i x H' H'' hi ⟨e, ts, hts, hl, hpr⟩ ⟨rfl, k, v, hx, rfl⟩
        have hi' : i < R.length := by rw [dks, List.length_map] at hi; exact hi
        have hm0 : R[i]? = some R[i] := List.getElem?_eq_getElem hi'
        have hk : (dks R)[i]? = some (.inr R[i].1, .str R[i].2) := by rw [dks, List.getElem?_map, hm0]; rfl
        rw [hk] at hx
        cases hx
        refine ⟨rfl, yes_of ?_⟩
        refine ⟨_, rfl, _, rfl, (by show 2 ≤ sizeLine; decide), fun t ht => ?_⟩
        have eT := Ext.upd (o := .tup [.str R[i].1, .str R[i].1]) ht
        have hts' := eT _ _ hts
        refine ⟨_, hts', line60 (by rw [List.length_map]; have := nok.few; omega), ext_put (e.trans eT) hD, ts ++ [t], ?_, by rw [List.length_append]; show ts.length + 1 = _; omega, ?_⟩
        · rw [upd_same, List.map_append]
          rfl
        · rw [take_map _ hm0]
          unfold dks
          rw [List.map_append]
          refine paired_snoc (paired_imp (fun t' kv ht' => ?_) hpr) ?_
          · rw [upd_ne (ne_of (eT _ _ ht') hts' (fun z => nomatch z))]
            exact eT _ _ ht'
          · rw [upd_ne (ne_of upd_same hts' (fun z => nomatch z))]
            exact upd_same
      · rintro H' ⟨e, ts, hts, hl, hpr⟩
        refine ⟨e _ _ hf, ?_⟩
        rw [show (dks R).length = R.length from List.length_map .., List.take_length] at hpr
        have hne : D ≠ fr := fun z => by rw [← z] at hf; rw [hD] at hf; cases hf
        subst hH0
        have e2 := ext_unlock hfrm e
        refine ⟨D, ts, dks (R.map fun q => (q.1, q.1)), rfl, SqL.of (by rw [upd_ne hne]; exact hts), paired_imp (fun t kv ht => SqT.of ?_) hpr, fun q hq => ?_⟩
        · rw [upd_ne (ne_of ht (e _ _ hf) (fun z => nomatch z))]
          exact ht
        rw [merge_dks (by rw [List.map_map]; exact ndR)]
        have e3 := Ext.upd (o := .dK (dks (R.map fun q => (q.1, q.1)))) hq
        have h3' := (hm.ext e2).ext e3
        refine ⟨_, q, R.map fun q => (q.1, q.1), vl m1, 5, 100, rfl, h3'.t1 sd, by decide, upd_same, ⟨fun r hr' => ?_, by rw [List.length_map]; exact nok.few⟩, ?_, fun L cL u H4 e4 tu => ?_⟩
        · obtain ⟨r0, hr0, rfl⟩ := List.mem_map.mp hr'
          exact ⟨(nok.nm r0 hr0).1, (nok.nm r0 hr0).1⟩
        · intro p dx d hv hp
          cases hv
          rw [h3'.hp1] at hp
          cases hp
          exact ne_of_none (e2 _ _ hm.hc1) hq
        have h4' := h3'.ext e4
        obtain ⟨pu, dxu, du, rfl, hpu, _⟩ := id tu
        refine ⟨_, rfl, pu, dxu, _, rfl, hpu, .own h4'.hp1, _, _, _, 5, 106, rfl, tu, .inl ⟨_, 5, 100, h4'.t1 sd, fun rr hrr => ?_⟩⟩
        obtain rfl := hrr.mpr (funext fun k => by rw [ren_same, sm_id cL.nd, cL.vl])
        exact ⟨true, rfl, _, rfl, iteF ⟨(e2.trans e3).trans e4, rfl⟩⟩
    rintro σ Hn ⟨en, rfl⟩
    have bn := bm.ext en
    have hn' := hm.ext en
    have hfr := en _ _ hfrm
    have hlm := en _ _ hlmm
    clear bm hm hfrm hlmm en
    -- renamed again
    refine ⟨fun σ H' => Ext Hn H' ∧ σ = [some (.ref r), some (.ref l), some (.ref d1), some (.ref d2), some (.ref hn), some (.ref sp), some (.ref x1), some (.ref x2), some (.int i), some (.ref lm), some (.ref fr), none, some (.ref kh)], ?_, ?_⟩
    · skip
      refine ⟨_, rfl, _, _, _, rfl, hn'.hp1, rfl, _, rfl, _, fr, R, vl m1, 5, 100, rfl, hn'.t1 sd, by decide, hfr, nok, ?_, fun L cL u H2 e2 tu => ?_⟩
      · intro p dx d hv hp
        cases hv
        rw [hn'.hp1] at hp
        cases hp
        exact nc1
      have h2' := hn'.ext e2
      refine ⟨_, rfl, _, rfl, d1, fr, m1, R, 5, 100, rfl, h2'.h1, ok1, by decide, e2 _ _ hfr, nok, nd1, fun q M H3 e3 nq hq acc => ?_⟩
      have h3' := h2'.ext e3
      refine ⟨_, rfl, _, rfl, l, lm, _, _, rfl, rfl, h3'.hl, e3 _ _ (e2 _ _ hlm), l8, fun z hz => ?_⟩
      have ez := Ext.upd (o := .lst (ss.map V.str ++ sm.map V.str)) hz
      refine ⟨u, q, z, M, Sm (ren R) L, ss ++ sm, 5, 106, 5, 106, rfl, (tu.ext e3).ext ez, by decide, by decide, ez _ _ hq, acc.row fun k => sm_bt (by decide) ok1, by decide, funext fun k => (acc.val k).trans (sm_canon ok1.nd cL).symm, (by rw [upd_same, ← List.map_append]), (by rw [List.length_append]; have := sd.few; omega), nms, fun H4 e4 => ⟨_, rfl, iteF ?_⟩⟩
      have e24 : Ext Hn H4 := ((e2.trans e3).trans ez).trans e4
      exact ⟨e24, rfl⟩
    rintro σ Ho ⟨eo, rfl⟩
    have bo := bn.ext eo
    have ho := hn'.ext eo
    clear bn hn' hfr hlm eo
    -- equal
    refine ⟨fun σ H' => Ext Ho H' ∧ σ = [some (.ref r), some (.ref l), some (.ref d1), some (.ref d2), some (.ref hn), some (.ref sp), some (.ref x1), some (.ref x2), some (.int i), some (.ref lm), some (.ref fr), none, some (.ref kh)], ?_, ?_⟩
    · refine ⟨_, rfl, _, rfl, x1, dx1, _, rfl, ho.hp1, .own ho.hp2, _, _, vl m1, 5, 100, rfl, ho.t1 sd, .inl ⟨vl m2, 5, 100, ho.t2 sd, fun rr hrr => ?_⟩⟩
      refine ⟨_, rfl, d1, m1, 5, 100, rfl, ho.h1, ok1, by decide, fun q1 M1 H2 e2 nq1 hq1 cM1 okM1 => ?_⟩
      have h2' := ho.ext e2
      refine ⟨_, rfl, d2, m2, 5, 100, rfl, h2'.h2, ok2, by decide, fun q2 M2 H3 e3 nq2 hq2 cM2 okM2 => ?_⟩
      have h3' := h2'.ext e3
      refine ⟨q1, q2, dkv M1, dkv M2, rfl, rfl, e3 _ _ hq1, hq2, flat_dkv, flat_val, rfl, false, ?_, iteF ?_⟩
      · have e : rr = sameK (dkv M1) (dkv M2) := by rw [Bool.eq_iff_iff, hrr, same_iff cM1 cM2]
        rw [e]
        simp
      refine ⟨_, rfl, _, _, _, rfl, h3'.hp1, rfl, fun z hz => ?_⟩
      have ez := Ext.upd (o := .dK []) hz
      have h4' := h3'.ext ez
      refine ⟨_, z, [], vl m1, 5, 100, rfl, h4'.t1 sd, by decide, upd_same, ⟨fun p hp => (by cases hp), by decide⟩, ?_, fun L cL u H5 e5 tu => ?_⟩
      · intro p dx d hv hp
        cases hv
        rw [h4'.hp1] at hp
        cases hp
        exact ne_of_none h3'.hc1 hz
      have h5' := h4'.ext e5
      obtain ⟨pu, dxu, du, rfl, hpu, _⟩ := id tu
      refine ⟨_, rfl, pu, dxu, _, rfl, hpu, .own h5'.hp1, _, _, _, 5, 106, rfl, tu, .inl ⟨_, 5, 100, h5'.t1 sd, fun r2 hr2 => ?_⟩⟩
      obtain rfl := hr2.mpr (funext fun k => by rw [ren_nil, sm_id cL.nd, cL.vl])
      exact ⟨true, rfl, _, rfl, iteF ⟨((e2.trans e3).trans ez).trans e5, rfl⟩⟩
    rintro σ Hp ⟨ep, rfl⟩
    have bp := bo.ext ep
    have hp := ho.ext ep
    clear bo ho ep
    -- empty tables
    obtain ⟨s0, hs0⟩ : ∃ s0, ss[0]? = some s0 := ⟨_, List.getElem?_eq_getElem sd.pos⟩
    refine ⟨fun σ H' => Ext Hp H' ∧ σ = [some (.ref r), some (.ref l), some (.ref d1), some (.ref d2), some (.ref hn), some (.ref sp), some (.ref x1), some (.ref x2), some (.int i), some (.ref lm), some (.ref fr), none, some (.ref kh)], ?_, ?_⟩
    · skip
      refine fun y1 dy1 ny1 ndy1 ney1 => ⟨y1, dy1, _, fun _ => 0, 0, 0, rfl, upd_same, .inl ⟨rfl, rfl⟩, by decide, fun K1 cy1 ncy1 kp1 hy1 iy1 => ⟨rfl, ?_⟩⟩
      obtain ⟨ey1, ty1⟩ := made_tab ny1 ndy1 kp1 hy1 iy1
      refine fun z1 hz1 => ?_
      refine fun y2 dy2 ny2 ndy2 ney2 => ⟨y2, dy2, _, fun _ => 0, 0, 0, rfl, upd_same, .inr ⟨z1, [], rfl, ext_made ny2 ndy2 _ _ upd_same, rowOk_nil, rfl⟩, by decide, fun K2 cy2 ncy2 kp2 hy2 iy2 => ⟨rfl, ?_⟩⟩
      obtain ⟨ey2, ty2⟩ := made_tab ny2 ndy2 kp2 hy2 iy2
      have e2 := (Ext.upd (o := .dK []) hz1).trans ey2
      refine ⟨y1, dy1, _, rfl, e2 _ _ hy1, .own hy2, _, _, _, 0, 0, rfl, ty1.ext e2, .inl ⟨_, 0, 0, ty2, fun r1 hr1 => ?_⟩⟩
      obtain rfl := hr1.mpr rfl
      refine ⟨true, rfl, _, rfl, iteF ?_⟩
      refine fun y3 dy3 ny3 ndy3 ney3 => ⟨y3, dy3, _, fun _ => 0, 0, 0, rfl, upd_same, .inl ⟨rfl, rfl⟩, by decide, fun K3 cy3 ncy3 kp3 hy3 iy3 => ⟨rfl, ?_⟩⟩
      obtain ⟨ey3, ty3⟩ := made_tab ny3 ndy3 kp3 hy3 iy3
      have e3 : Ext Hp K3 := (ey1.trans e2).trans ey3
      have h3' := hp.ext e3
      refine fun z2 hz2 => ⟨_, rfl, l, _, 0, .str s0, rfl, rfl, SqL.of (Ext.upd hz2 _ _ h3'.hl), ?_, upd_same, [(.inr s0, .int 0)], rfl, (by show 1 ≤ 15; decide), ?_⟩
      · exact atI_nat (j := 0) (show (ss.map V.str)[0]? = some (V.str s0) by rw [List.getElem?_map, hs0]; rfl)
      have eu : Ext K3 (upd (upd K3 z2 (.dK [])) z2 (.dK (mergeK [] [(.inr s0, .int 0)]))) := ext_put (Ext.upd hz2) hz2
      have hu : upd (upd K3 z2 (.dK [])) z2 (.dK (mergeK [] [(.inr s0, .int 0)])) z2 = some (.dK (dkv [(s0, 0)])) := upd_same
      have ok0 : RowOk 1 1 [(s0, 0)] := ⟨fun q hq => by
        rw [List.mem_singleton.mp hq]
        exact nm s0 (List.mem_of_getElem? hs0), fun q hq => by
        rw [List.mem_singleton.mp hq]
        exact bt_zero, by simp, (by show 1 ≤ 1; decide)⟩
      refine fun y4 dy4 ny4 ndy4 ney4 => ⟨y4, dy4, _, vl [(s0, 0)], 1, 1, rfl, upd_same, .inr ⟨z2, [(s0, 0)], rfl, ext_made ny4 ndy4 _ _ hu, ok0, rfl⟩, by decide, fun K4 cy4 ncy4 kp4 hy4 iy4 => ⟨rfl, ?_⟩⟩
      obtain ⟨ey4, ty4⟩ := made_tab ny4 ndy4 kp4 hy4 iy4
      have e4 := eu.trans ey4
      refine ⟨y3, dy3, _, rfl, e4 _ _ hy3, .own hy4, _, _, _, 0, 0, rfl, ty3.ext e4, .inl ⟨_, 1, 1, ty4, fun r2 hr2 => ?_⟩⟩
      obtain rfl := hr2.mpr (funext fun k => by
        unfold vl
        rw [List.find?_cons]
        by_cases e : s0 = k
        · rw [decide_eq_true e]
          rfl
        · rw [decide_eq_false e]
          rfl)
      refine ⟨true, rfl, _, rfl, iteF ?_⟩
      refine fun y5 dy5 ny5 ndy5 ney5 => ⟨y5, dy5, _, fun _ => 0, 0, 0, rfl, upd_same, .inl ⟨rfl, rfl⟩, by decide, fun K5 cy5 ncy5 kp5 hy5 iy5 => ⟨rfl, ?_⟩⟩
      obtain ⟨ey5, ty5⟩ := made_tab ny5 ndy5 kp5 hy5 iy5
      refine ⟨y5, dy5, _, rfl, hy5, _, _, 0, 0, rfl, ty5, fun L5 c5 => ⟨L5.length, rfl, ?_, rfl, false, ?_, iteF ?_⟩⟩
      · rw [canon_zero c5]
        exact Nat.zero_le _
      · rw [canon_zero c5]
        rfl
      refine fun y6 dy6 ny6 ndy6 ney6 => ⟨y6, dy6, _, fun _ => 0, 0, 0, rfl, upd_same, .inl ⟨rfl, rfl⟩, by decide, fun K6 cy6 ncy6 kp6 hy6 iy6 => ⟨rfl, ?_⟩⟩
      obtain ⟨ey6, ty6⟩ := made_tab ny6 ndy6 kp6 hy6 iy6
      refine ⟨y6, dy6, _, rfl, hy6, _, _, 0, 0, rfl, ty6, by decide, fun L6 H7 e7 c6 => ⟨true, ?_, iteF ⟨(((e3.trans e4).trans ey5).trans ey6).trans e7, rfl⟩⟩⟩
      rw [canon_zero c6]
      rfl
    rintro σ Hq ⟨eq, rfl⟩
    have bq := bp.ext eq
    have hq := hp.ext eq
    clear bp hp eq
    refine ⟨_, rfl, _, rfl, _, rfl, .ref x1, d1, l, m1, vl m1, ss, 5, 100, 5, 100, rfl, hq.t1 sd, by decide, by decide, hq.h1, ok1, by decide, rfl, hq.hl, s40, nm, fun H2 e2 => ⟨_, rfl, iteT ?_⟩⟩
    have HL := hq.ext e2
    refine ⟨_, rfl, _, rfl, _, rfl, .ref x2, d2, l, m2, vl m2, ss, 5, 100, 5, 100, rfl, HL.t2 sd, by decide, by decide, HL.h2, ok2, by decide, rfl, HL.hl, s40, nm, fun H3 e3 => ⟨_, rfl, iteT ?_⟩⟩
    have h3' := HL.ext e3
    refine ⟨_, rfl, d2, dkv m2, rfl, h3'.h2, fun H4 p4 ts4 k4 n4 nt4 _ hp4 pr4 => ⟨_, rfl, ?_⟩⟩
    have h4' := h3'.ext k4
    exact eq_same (pln_it ok2) (by decide) (dp_it hp4 pr4) (dp_it h4'.hs h4'.hts) (h _ (((bq.ext e2).ext e3).ext k4) h4'.g)
end
end P

namespace P
open PySem L2 NS

/-! ### law -/
def spLaw (K : PySem.W.Frag) : Sp := fun vs H Q _ => ∃ (s : Addr) (ns : List Int), vs = [.ref s] ∧ SqL K H s (ns.map V.int) ∧ ns.length ≤ 1000000 ∧ ∀ H', Q (.bl true) H'
section
variable {P : Program} {w : World} {K : PySem.W.Frag} {mg : Str → Option Value} {base : Heap} {a : Ad}
theorem ok_law (T : Txt K mg a) : FnG P w K mg base 10 a.law a.d_law ["_law_script"] (spLaw K) := by
  have G_law_rng := ok_law_rng (P := P) (w := w) (base := base) T
  have b_law_rng := B_law_rng T
  have G_law_right := ok_law_right (P := P) (w := w) (base := base) T
  have b_law_right := B_law_right T
  refine okG T.law.F sc_law (fun vs H Q E h => ?_) (fun cdv A outer s0 H vs Q hg hr h => ?_)
  · obtain ⟨s, ns, rfl, _⟩ := h
    rfl
  · obtain ⟨s, ns, rfl, hs, hl, h⟩ := h
    have hgd : (A.deeper (PyProof.Rows.envOfC "law" (defScope s_law) s0.heap.objs.size a.law cdv)).guards = some [] := hg
    refine ⟨_, (pss_cons (ps_for PassesOwn.never rfl (pi_range1 (by rfl) T.b_range (pa_cons (pe_callB (call_max2 rfl) (by rfl) T.b_max (by decide +kernel) (pa_cons pe_int (pa_cons (pe_callB (call_min2 rfl) (by rfl) T.b_min (by decide +kernel) (pa_cons pe_int (pa_cons (pe_callB call_len (by rfl) T.b_len (by decide +kernel) (pa_cons (pv 0) pa_nil)) pa_nil))) pa_nil))) pa_nil)) (pg_name (i := 1) sc_law.nd rfl (.inl rfl)) (pss_cons (ps_set (i := 2) sc_law.nd rfl (.inl rfl) (pe_call G_law_rng (hr.mono (by decide)) (by rfl) T.law_rng.g T.law_rng.F.kp b_law_rng .nil pass0 (pa_cons (pv 0) (pa_cons (pv 1) pa_nil))))
      (pss_one (ps_for PassesOwn.never rfl (pi_range1 (by rfl) T.b_range (pa_cons pe_int pa_nil)) (pg_name (i := 3) sc_law.nd rfl (.inl rfl)) (pss_one (ps_if (pt_not (pt_val (pe_callR (Runs.ofG G_law_right b_law_right hgd (hr.mono (by decide)) rfl) (by rfl) T.law_right.g T.law_right.F.kp (pa_cons (pv 2) pa_nil)))) (pss_one (ps_ret pe_bl)) pss_nil))))))
      (pss_one (ps_ret pe_bl))), ?_⟩
    refine ⟨_, rfl, _, _, rfl, .inl ⟨_, hs, rfl⟩, _, _, rfl, _, _, rfl, _, rfl, ?_⟩
    obtain ⟨k, hk4, hk⟩ : ∃ k : Nat, k ≤ 4 ∧ (if (if ((ns.map V.int).length : Int) < 4 then ((ns.map V.int).length : Int) else 4) > 1 then (if ((ns.map V.int).length : Int) < 4 then ((ns.map V.int).length : Int) else 4) else 1) = (k : Int) := by
      generalize (ns.map V.int).length = l
      by_cases h4 : (l : Int) < 4
      · rw [if_pos h4]
        by_cases h1 : (l : Int) > 1
        · rw [if_pos h1]
          exact ⟨l, by omega, rfl⟩
        · rw [if_neg h1]
          exact ⟨1, by omega, rfl⟩
      · rw [if_neg h4, if_pos (by decide)]
        exact ⟨4, by omega, rfl⟩
    refine ⟨?_, ?_, ?_⟩
    · rw [hk]; omega
    · rw [hk]; omega
    rw [hk]
    refine for_range (n := k) (fun i σ H' => Ext H H' ∧ ∃ o1 o2 o3, σ = [some (.ref s), o1, o2, o3]) ⟨Ext.rfl', _, _, _, rfl⟩ ?_ ?_
    · rintro i σ H1 hi ⟨e1, o1, o2, o3, rfl⟩
      refine ⟨_, rfl, _, rfl, s, ns, i, by rw [Int.zero_add]; rfl, hs.ext e1, by omega, fun r H2 hr2 e2 g2 => ?_⟩
      refine ⟨5, rfl, by decide, by decide, ?_⟩
      refine for_range (n := 5) (fun j σ H' => But r H1 H' ∧ Rng H' r ∧ ∃ o1 o3, σ = [some (.ref s), o1, some (.ref r), o3]) ⟨but_of e2, g2, _, _, rfl⟩ ?_ ?_
      · rintro j σ H3 _ ⟨b3, g3, o1, o3, rfl⟩
        exact ⟨_, rfl, r, rfl, g3, fun H4 b4 g4 => ⟨_, rfl, iteF ⟨b3.trans b4, g4, _, _, rfl⟩⟩⟩
      · rintro σ H3 ⟨b3, _, o1, o3, rfl⟩
        refine ⟨fun b o hb => b3 b o (e1 b o hb) fun z => ?_, _, _, _, rfl⟩
        rw [← z, e1 b o hb] at hr2
        cases hr2
    · rintro σ H1 _
      exact h H1
end
end P

namespace P
open PySem L2 NS
theorem kit_self {K : PySem.W.Frag} {C : Addr} : PySem.W.kitOne K (.ref C) (.ref C) = some true := by
  unfold PySem.W.kitOne
  rw [if_pos (beq_self_eq_true _)]
theorem kit_cl {K : PySem.W.Frag} {C : Addr} {t : Value} {b : Bool} (hne : (t == Value.ref C) = false) (ic : PySem.W.isClsIn K C = true) (tc : PySem.W.typeIn K (.ref C) = some (.type "type")) (hs : PySem.W.subIn K t (.ref C) = some b) : PySem.W.kitOne K t (.ref C) = some b := by
  unfold PySem.W.kitOne
  rw [if_neg (by rw [hne]; exact Bool.false_ne_true)]
  have ic' : (PySem.W.clsIn K C).isSome = true := ic
  show (if ((PySem.W.clsIn K C).isSome && PySem.W.typeIn K (.ref C) == some (.type "type")) = true then _ else _) = _
  rw [if_pos (by rw [ic', tc]; exact beq_self_eq_true _)]
  exact hs
theorem kit_out {K : PySem.W.Frag} {C : Addr} {T : String} {b : Bool} (hm : PySem.W.kitMeta T = true) (hs : PySem.W.subIn K (.ref C) (.type T) = some b) : PySem.W.kitOne K (.ref C) (.type T) = some b := by
  unfold PySem.W.kitOne
  rw [if_neg (show ¬ ((Value.ref C == Value.type T) = true) from Bool.false_ne_true)]
  show (if PySem.W.kitMeta T = true then _ else _) = _
  rw [if_pos hm]
  exact hs
theorem exm_own {K : PySem.W.Frag} {S : Addr} (hb : PySem.W.subIn K (.ref S) (.type "BaseException") = some true) (ic : PySem.W.isClsIn K S = true) (tc : PySem.W.typeIn K (.ref S) = some (.type "type")) (hs : PySem.W.subIn K (.ref S) (.ref S) = some true) :
    PySem.W.exmOne K (.ref S) (.ref S) = some true := by
  have ic' : (PySem.W.clsIn K S).isSome = true := ic
  unfold PySem.W.exmOne
  rw [hb, if_pos (by rfl)]
  show (if ((PySem.W.clsIn K S).isSome && PySem.W.typeIn K (.ref S) == some (.type "type")) = true then _ else _) = _
  rw [if_pos (by rw [ic', tc]; exact beq_self_eq_true _)]
  exact hs
/-! ### the end -/
theorem mk_all {P : Program} {w : World} {K : PySem.W.Frag} {h : Heap} {mg : Str → Option Value} {fa : Addr} (X : K.In h) (G : h.Ns mainGlobals mg) (hfa : mg "law" = some (.ref fa))
    {A_is_integer : Addr}
    {od_is_integer an_is_integer : Option Addr} {sl_is_integer : Array (Option Value)} {oc_is_integer kV_is_integer dc_is_integer pm_is_integer cd_is_integer ct_is_integer : Value}
    {A_is_key : Addr}
    {od_is_key an_is_key : Option Addr} {sl_is_key : Array (Option Value)} {oc_is_key kV_is_key dc_is_key pm_is_key cd_is_key ct_is_key : Value}
    {A_is_row : Addr}
    {od_is_row an_is_row : Option Addr} {sl_is_row : Array (Option Value)} {oc_is_row kV_is_row dc_is_row pm_is_row cd_is_row ct_is_row : Value}
    {A_kept_row : Addr}
    {od_kept_row an_kept_row : Option Addr} {sl_kept_row : Array (Option Value)} {oc_kept_row kV_kept_row dc_kept_row pm_kept_row cd_kept_row ct_kept_row : Value}
    {A_want_names : Addr}
    {od_want_names an_want_names : Option Addr} {sl_want_names : Array (Option Value)} {oc_want_names kV_want_names dc_want_names pm_want_names cd_want_names ct_want_names : Value}
    {A_renamed_row : Addr}
    {od_renamed_row an_renamed_row : Option Addr} {sl_renamed_row : Array (Option Value)} {oc_renamed_row kV_renamed_row dc_renamed_row pm_renamed_row cd_renamed_row ct_renamed_row : Value}
    {A_want_table : Addr}
    {od_want_table an_want_table : Option Addr} {sl_want_table : Array (Option Value)} {oc_want_table kV_want_table dc_want_table pm_want_table cd_want_table ct_want_table : Value}
    {A_law_rng : Addr}
    {od_law_rng an_law_rng : Option Addr} {sl_law_rng : Array (Option Value)} {oc_law_rng kV_law_rng dc_law_rng pm_law_rng cd_law_rng ct_law_rng : Value}
    {A_law_draw : Addr}
    {od_law_draw an_law_draw : Option Addr} {sl_law_draw : Array (Option Value)} {oc_law_draw kV_law_draw dc_law_draw pm_law_draw cd_law_draw ct_law_draw : Value}
    {A_law_choice : Addr}
    {od_law_choice an_law_choice : Option Addr} {sl_law_choice : Array (Option Value)} {oc_law_choice kV_law_choice dc_law_choice pm_law_choice cd_law_choice ct_law_choice : Value}
    {A_law_names : Addr}
    {od_law_names an_law_names : Option Addr} {sl_law_names : Array (Option Value)} {oc_law_names kV_law_names dc_law_names pm_law_names cd_law_names ct_law_names : Value}
    {A_law_number : Addr}
    {od_law_number an_law_number : Option Addr} {sl_law_number : Array (Option Value)} {oc_law_number kV_law_number dc_law_number pm_law_number cd_law_number ct_law_number : Value}
    {A_law_mixed : Addr}
    {od_law_mixed an_law_mixed : Option Addr} {sl_law_mixed : Array (Option Value)} {oc_law_mixed kV_law_mixed dc_law_mixed pm_law_mixed cd_law_mixed ct_law_mixed : Value}
    {A_law_long : Addr}
    {od_law_long an_law_long : Option Addr} {sl_law_long : Array (Option Value)} {oc_law_long kV_law_long dc_law_long pm_law_long cd_law_long ct_law_long : Value}
    {A_law_dict : Addr}
    {od_law_dict an_law_dict : Option Addr} {sl_law_dict : Array (Option Value)} {oc_law_dict kV_law_dict dc_law_dict pm_law_dict cd_law_dict ct_law_dict : Value}
    {A_law_kept : Addr}
    {od_law_kept an_law_kept : Option Addr} {sl_law_kept : Array (Option Value)} {oc_law_kept kV_law_kept dc_law_kept pm_law_kept cd_law_kept ct_law_kept : Value}
    {A_law_together : Addr}
    {od_law_together an_law_together : Option Addr} {sl_law_together : Array (Option Value)} {oc_law_together kV_law_together dc_law_together pm_law_together cd_law_together ct_law_together : Value}
    {A_law_renamed : Addr}
    {od_law_renamed an_law_renamed : Option Addr} {sl_law_renamed : Array (Option Value)} {oc_law_renamed kV_law_renamed dc_law_renamed pm_law_renamed cd_law_renamed ct_law_renamed : Value}
    {A_law_is : Addr}
    {od_law_is an_law_is : Option Addr} {sl_law_is : Array (Option Value)} {oc_law_is kV_law_is dc_law_is pm_law_is cd_law_is ct_law_is : Value}
    {A_law_right : Addr}
    {od_law_right an_law_right : Option Addr} {sl_law_right : Array (Option Value)} {oc_law_right kV_law_right dc_law_right pm_law_right cd_law_right ct_law_right : Value}
    {A_law : Addr}
    {od_law an_law : Option Addr} {sl_law : Array (Option Value)} {oc_law kV_law dc_law pm_law cd_law ct_law : Value}
    {A_Table : Addr}
    {A_Table_init : Addr}
    {T_Table_init : Addr}
    {od_Table_init an_Table_init : Option Addr} {sl_Table_init : Array (Option Value)} {oc_Table_init kV_Table_init dc_Table_init pm_Table_init cd_Table_init ct_Table_init : Value}
    {n_Table_init : Nat} {td_Table_init : Option Addr} {tl_Table_init : Array (Option Value)} {tt_Table_init : Value}
    {A_Table_is_plain : Addr}
    {P_Table_is_plain : Addr}
    {R_Table_is_plain : List Value}
    {od_Table_is_plain an_Table_is_plain : Option Addr} {sl_Table_is_plain : Array (Option Value)} {oc_Table_is_plain kV_Table_is_plain dc_Table_is_plain pm_Table_is_plain cd_Table_is_plain ct_Table_is_plain : Value}
    {A_Table_at : Addr}
    {od_Table_at an_Table_at : Option Addr} {sl_Table_at : Array (Option Value)} {oc_Table_at kV_Table_at dc_Table_at pm_Table_at cd_Table_at ct_Table_at : Value}
    {A_Table_used_keys : Addr}
    {od_Table_used_keys an_Table_used_keys : Option Addr} {sl_Table_used_keys : Array (Option Value)} {oc_Table_used_keys kV_Table_used_keys dc_Table_used_keys pm_Table_used_keys cd_Table_used_keys ct_Table_used_keys : Value}
    {A_Table_counts : Addr}
    {od_Table_counts an_Table_counts : Option Addr} {sl_Table_counts : Array (Option Value)} {oc_Table_counts kV_Table_counts dc_Table_counts pm_Table_counts cd_Table_counts ct_Table_counts : Value}
    {A_Table_times : Addr}
    {od_Table_times an_Table_times : Option Addr} {sl_Table_times : Array (Option Value)} {oc_Table_times kV_Table_times dc_Table_times pm_Table_times cd_Table_times ct_Table_times : Value}
    {A_Table_renamed : Addr}
    {od_Table_renamed an_Table_renamed : Option Addr} {sl_Table_renamed : Array (Option Value)} {oc_Table_renamed kV_Table_renamed dc_Table_renamed pm_Table_renamed cd_Table_renamed ct_Table_renamed : Value}
    {A_Table_add : Addr}
    {od_Table_add an_Table_add : Option Addr} {sl_Table_add : Array (Option Value)} {oc_Table_add kV_Table_add dc_Table_add pm_Table_add cd_Table_add ct_Table_add : Value}
    {A_Table_sub : Addr}
    {od_Table_sub an_Table_sub : Option Addr} {sl_Table_sub : Array (Option Value)} {oc_Table_sub kV_Table_sub dc_Table_sub pm_Table_sub cd_Table_sub ct_Table_sub : Value}
    {A_Table_neg : Addr}
    {od_Table_neg an_Table_neg : Option Addr} {sl_Table_neg : Array (Option Value)} {oc_Table_neg kV_Table_neg dc_Table_neg pm_Table_neg cd_Table_neg ct_Table_neg : Value}
    {A_Table_len : Addr}
    {od_Table_len an_Table_len : Option Addr} {sl_Table_len : Array (Option Value)} {oc_Table_len kV_Table_len dc_Table_len pm_Table_len cd_Table_len ct_Table_len : Value}
    {A_Table_contains : Addr}
    {od_Table_contains an_Table_contains : Option Addr} {sl_Table_contains : Array (Option Value)} {oc_Table_contains kV_Table_contains dc_Table_contains pm_Table_contains cd_Table_contains ct_Table_contains : Value}
    {A_Table_eq : Addr}
    {od_Table_eq an_Table_eq : Option Addr} {sl_Table_eq : Array (Option Value)} {oc_Table_eq kV_Table_eq dc_Table_eq pm_Table_eq cd_Table_eq ct_Table_eq : Value}
    {A_Table_repr : Addr}
    {od_Table_repr an_Table_repr : Option Addr} {sl_Table_repr : Array (Option Value)} {oc_Table_repr kV_Table_repr dc_Table_repr pm_Table_repr cd_Table_repr ct_Table_repr : Value}
    {fo_Table_add ro_Table_add : Option Value}
    {fo_Table_sub ro_Table_sub : Option Value}
    {tk_LETTERS : Tok}
    {tk_KEY_SIGNS : Tok}
    {tk_LONGEST_KEY : Tok}
    (a_is_integer : PySem.W.nsIn K mainGlobals "is_integer" = some (some (.ref A_is_integer)))
    (l_is_integer : K.lookup A_is_integer = some ⟨oc_is_integer, od_is_integer, .func (PySem.W.fnOf "is_integer" "is_integer" (defArgs s_is_integer) (defBody s_is_integer) (defScope s_is_integer) .none kV_is_integer dc_is_integer pm_is_integer an_is_integer cd_is_integer ct_is_integer), sl_is_integer⟩)
    (c_is_integer : PySem.W.codeIn K cd_is_integer "is_integer" = true)
    (k_is_integer : PySem.W.keepIn K (.ref A_is_integer) = true)
    (a_is_key : PySem.W.nsIn K mainGlobals "is_key" = some (some (.ref A_is_key)))
    (l_is_key : K.lookup A_is_key = some ⟨oc_is_key, od_is_key, .func (PySem.W.fnOf "is_key" "is_key" (defArgs s_is_key) (defBody s_is_key) (defScope s_is_key) .none kV_is_key dc_is_key pm_is_key an_is_key cd_is_key ct_is_key), sl_is_key⟩)
    (c_is_key : PySem.W.codeIn K cd_is_key "is_key" = true)
    (k_is_key : PySem.W.keepIn K (.ref A_is_key) = true)
    (a_is_row : PySem.W.nsIn K mainGlobals "is_row" = some (some (.ref A_is_row)))
    (l_is_row : K.lookup A_is_row = some ⟨oc_is_row, od_is_row, .func (PySem.W.fnOf "is_row" "is_row" (defArgs s_is_row) (defBody s_is_row) (defScope s_is_row) .none kV_is_row dc_is_row pm_is_row an_is_row cd_is_row ct_is_row), sl_is_row⟩)
    (c_is_row : PySem.W.codeIn K cd_is_row "is_row" = true)
    (k_is_row : PySem.W.keepIn K (.ref A_is_row) = true)
    (a_kept_row : PySem.W.nsIn K mainGlobals "kept_row" = some (some (.ref A_kept_row)))
    (l_kept_row : K.lookup A_kept_row = some ⟨oc_kept_row, od_kept_row, .func (PySem.W.fnOf "kept_row" "kept_row" (defArgs s_kept_row) (defBody s_kept_row) (defScope s_kept_row) .none kV_kept_row dc_kept_row pm_kept_row an_kept_row cd_kept_row ct_kept_row), sl_kept_row⟩)
    (c_kept_row : PySem.W.codeIn K cd_kept_row "kept_row" = true)
    (k_kept_row : PySem.W.keepIn K (.ref A_kept_row) = true)
    (a_want_names : PySem.W.nsIn K mainGlobals "want_names" = some (some (.ref A_want_names)))
    (l_want_names : K.lookup A_want_names = some ⟨oc_want_names, od_want_names, .func (PySem.W.fnOf "want_names" "want_names" (defArgs s_want_names) (defBody s_want_names) (defScope s_want_names) .none kV_want_names dc_want_names pm_want_names an_want_names cd_want_names ct_want_names), sl_want_names⟩)
    (c_want_names : PySem.W.codeIn K cd_want_names "want_names" = true)
    (k_want_names : PySem.W.keepIn K (.ref A_want_names) = true)
    (a_renamed_row : PySem.W.nsIn K mainGlobals "renamed_row" = some (some (.ref A_renamed_row)))
    (l_renamed_row : K.lookup A_renamed_row = some ⟨oc_renamed_row, od_renamed_row, .func (PySem.W.fnOf "renamed_row" "renamed_row" (defArgs s_renamed_row) (defBody s_renamed_row) (defScope s_renamed_row) .none kV_renamed_row dc_renamed_row pm_renamed_row an_renamed_row cd_renamed_row ct_renamed_row), sl_renamed_row⟩)
    (c_renamed_row : PySem.W.codeIn K cd_renamed_row "renamed_row" = true)
    (k_renamed_row : PySem.W.keepIn K (.ref A_renamed_row) = true)
    (a_want_table : PySem.W.nsIn K mainGlobals "want_table" = some (some (.ref A_want_table)))
    (l_want_table : K.lookup A_want_table = some ⟨oc_want_table, od_want_table, .func (PySem.W.fnOf "want_table" "want_table" (defArgs s_want_table) (defBody s_want_table) (defScope s_want_table) .none kV_want_table dc_want_table pm_want_table an_want_table cd_want_table ct_want_table), sl_want_table⟩)
    (c_want_table : PySem.W.codeIn K cd_want_table "want_table" = true)
    (k_want_table : PySem.W.keepIn K (.ref A_want_table) = true)
    (a_law_rng : PySem.W.nsIn K mainGlobals "_law_rng" = some (some (.ref A_law_rng)))
    (l_law_rng : K.lookup A_law_rng = some ⟨oc_law_rng, od_law_rng, .func (PySem.W.fnOf "_law_rng" "_law_rng" (defArgs s_law_rng) (defBody s_law_rng) (defScope s_law_rng) .none kV_law_rng dc_law_rng pm_law_rng an_law_rng cd_law_rng ct_law_rng), sl_law_rng⟩)
    (c_law_rng : PySem.W.codeIn K cd_law_rng "_law_rng" = true)
    (k_law_rng : PySem.W.keepIn K (.ref A_law_rng) = true)
    (a_law_draw : PySem.W.nsIn K mainGlobals "_law_draw" = some (some (.ref A_law_draw)))
    (l_law_draw : K.lookup A_law_draw = some ⟨oc_law_draw, od_law_draw, .func (PySem.W.fnOf "_law_draw" "_law_draw" (defArgs s_law_draw) (defBody s_law_draw) (defScope s_law_draw) .none kV_law_draw dc_law_draw pm_law_draw an_law_draw cd_law_draw ct_law_draw), sl_law_draw⟩)
    (c_law_draw : PySem.W.codeIn K cd_law_draw "_law_draw" = true)
    (k_law_draw : PySem.W.keepIn K (.ref A_law_draw) = true)
    (a_law_choice : PySem.W.nsIn K mainGlobals "_law_choice" = some (some (.ref A_law_choice)))
    (l_law_choice : K.lookup A_law_choice = some ⟨oc_law_choice, od_law_choice, .func (PySem.W.fnOf "_law_choice" "_law_choice" (defArgs s_law_choice) (defBody s_law_choice) (defScope s_law_choice) .none kV_law_choice dc_law_choice pm_law_choice an_law_choice cd_law_choice ct_law_choice), sl_law_choice⟩)
    (c_law_choice : PySem.W.codeIn K cd_law_choice "_law_choice" = true)
    (k_law_choice : PySem.W.keepIn K (.ref A_law_choice) = true)
    (a_law_names : PySem.W.nsIn K mainGlobals "_law_names" = some (some (.ref A_law_names)))
    (l_law_names : K.lookup A_law_names = some ⟨oc_law_names, od_law_names, .func (PySem.W.fnOf "_law_names" "_law_names" (defArgs s_law_names) (defBody s_law_names) (defScope s_law_names) .none kV_law_names dc_law_names pm_law_names an_law_names cd_law_names ct_law_names), sl_law_names⟩)
    (c_law_names : PySem.W.codeIn K cd_law_names "_law_names" = true)
    (k_law_names : PySem.W.keepIn K (.ref A_law_names) = true)
    (a_law_number : PySem.W.nsIn K mainGlobals "_law_number" = some (some (.ref A_law_number)))
    (l_law_number : K.lookup A_law_number = some ⟨oc_law_number, od_law_number, .func (PySem.W.fnOf "_law_number" "_law_number" (defArgs s_law_number) (defBody s_law_number) (defScope s_law_number) .none kV_law_number dc_law_number pm_law_number an_law_number cd_law_number ct_law_number), sl_law_number⟩)
    (c_law_number : PySem.W.codeIn K cd_law_number "_law_number" = true)
    (k_law_number : PySem.W.keepIn K (.ref A_law_number) = true)
    (a_law_mixed : PySem.W.nsIn K mainGlobals "_law_mixed" = some (some (.ref A_law_mixed)))
    (l_law_mixed : K.lookup A_law_mixed = some ⟨oc_law_mixed, od_law_mixed, .func (PySem.W.fnOf "_law_mixed" "_law_mixed" (defArgs s_law_mixed) (defBody s_law_mixed) (defScope s_law_mixed) .none kV_law_mixed dc_law_mixed pm_law_mixed an_law_mixed cd_law_mixed ct_law_mixed), sl_law_mixed⟩)
    (c_law_mixed : PySem.W.codeIn K cd_law_mixed "_law_mixed" = true)
    (k_law_mixed : PySem.W.keepIn K (.ref A_law_mixed) = true)
    (a_law_long : PySem.W.nsIn K mainGlobals "_law_long" = some (some (.ref A_law_long)))
    (l_law_long : K.lookup A_law_long = some ⟨oc_law_long, od_law_long, .func (PySem.W.fnOf "_law_long" "_law_long" (defArgs s_law_long) (defBody s_law_long) (defScope s_law_long) .none kV_law_long dc_law_long pm_law_long an_law_long cd_law_long ct_law_long), sl_law_long⟩)
    (c_law_long : PySem.W.codeIn K cd_law_long "_law_long" = true)
    (k_law_long : PySem.W.keepIn K (.ref A_law_long) = true)
    (a_law_dict : PySem.W.nsIn K mainGlobals "_law_dict" = some (some (.ref A_law_dict)))
    (l_law_dict : K.lookup A_law_dict = some ⟨oc_law_dict, od_law_dict, .func (PySem.W.fnOf "_law_dict" "_law_dict" (defArgs s_law_dict) (defBody s_law_dict) (defScope s_law_dict) .none kV_law_dict dc_law_dict pm_law_dict an_law_dict cd_law_dict ct_law_dict), sl_law_dict⟩)
    (c_law_dict : PySem.W.codeIn K cd_law_dict "_law_dict" = true)
    (k_law_dict : PySem.W.keepIn K (.ref A_law_dict) = true)
    (a_law_kept : PySem.W.nsIn K mainGlobals "_law_kept" = some (some (.ref A_law_kept)))
    (l_law_kept : K.lookup A_law_kept = some ⟨oc_law_kept, od_law_kept, .func (PySem.W.fnOf "_law_kept" "_law_kept" (defArgs s_law_kept) (defBody s_law_kept) (defScope s_law_kept) .none kV_law_kept dc_law_kept pm_law_kept an_law_kept cd_law_kept ct_law_kept), sl_law_kept⟩)
    (c_law_kept : PySem.W.codeIn K cd_law_kept "_law_kept" = true)
    (k_law_kept : PySem.W.keepIn K (.ref A_law_kept) = true)
    (a_law_together : PySem.W.nsIn K mainGlobals "_law_together" = some (some (.ref A_law_together)))
    (l_law_together : K.lookup A_law_together = some ⟨oc_law_together, od_law_together, .func (PySem.W.fnOf "_law_together" "_law_together" (defArgs s_law_together) (defBody s_law_together) (defScope s_law_together) .none kV_law_together dc_law_together pm_law_together an_law_together cd_law_together ct_law_together), sl_law_together⟩)
    (c_law_together : PySem.W.codeIn K cd_law_together "_law_together" = true)
    (k_law_together : PySem.W.keepIn K (.ref A_law_together) = true)
    (a_law_renamed : PySem.W.nsIn K mainGlobals "_law_renamed" = some (some (.ref A_law_renamed)))
    (l_law_renamed : K.lookup A_law_renamed = some ⟨oc_law_renamed, od_law_renamed, .func (PySem.W.fnOf "_law_renamed" "_law_renamed" (defArgs s_law_renamed) (defBody s_law_renamed) (defScope s_law_renamed) .none kV_law_renamed dc_law_renamed pm_law_renamed an_law_renamed cd_law_renamed ct_law_renamed), sl_law_renamed⟩)
    (c_law_renamed : PySem.W.codeIn K cd_law_renamed "_law_renamed" = true)
    (k_law_renamed : PySem.W.keepIn K (.ref A_law_renamed) = true)
    (a_law_is : PySem.W.nsIn K mainGlobals "_law_is" = some (some (.ref A_law_is)))
    (l_law_is : K.lookup A_law_is = some ⟨oc_law_is, od_law_is, .func (PySem.W.fnOf "_law_is" "_law_is" (defArgs s_law_is) (defBody s_law_is) (defScope s_law_is) .none kV_law_is dc_law_is pm_law_is an_law_is cd_law_is ct_law_is), sl_law_is⟩)
    (c_law_is : PySem.W.codeIn K cd_law_is "_law_is" = true)
    (k_law_is : PySem.W.keepIn K (.ref A_law_is) = true)
    (a_law_right : PySem.W.nsIn K mainGlobals "_law_right" = some (some (.ref A_law_right)))
    (l_law_right : K.lookup A_law_right = some ⟨oc_law_right, od_law_right, .func (PySem.W.fnOf "_law_right" "_law_right" (defArgs s_law_right) (defBody s_law_right) (defScope s_law_right) .none kV_law_right dc_law_right pm_law_right an_law_right cd_law_right ct_law_right), sl_law_right⟩)
    (c_law_right : PySem.W.codeIn K cd_law_right "_law_right" = true)
    (k_law_right : PySem.W.keepIn K (.ref A_law_right) = true)
    (a_law : PySem.W.nsIn K mainGlobals "law" = some (some (.ref A_law)))
    (l_law : K.lookup A_law = some ⟨oc_law, od_law, .func (PySem.W.fnOf "law" "law" (defArgs s_law) (defBody s_law) (defScope s_law) .none kV_law dc_law pm_law an_law cd_law ct_law), sl_law⟩)
    (c_law : PySem.W.codeIn K cd_law "law" = true)
    (k_law : PySem.W.keepIn K (.ref A_law) = true)
    (a_Table : PySem.W.nsIn K mainGlobals "Table" = some (some (.ref A_Table)))
    (pg_Table : PySem.W.plainGet K A_Table Str.empty = true)
    (hd_Table : PySem.W.hasDictIn K A_Table = true)
    (po_Table : PySem.W.plainOver K A_Table = true)
    (sa_Table : PySem.W.findIn K (.ref A_Table) "__setattr__" = some (some (.builtin "object.__setattr__")))
    (kp_Table : PySem.W.keepIn K (.ref A_Table) = true)
    (mks_Table : PySem.W.makesIn K A_Table = true)
    (ca_Table : PySem.W.findIn K (.ref A_Table) "__class__" = some (some (.builtin "object.__class__")))
    (ob_Table : PySem.W.mroIn K A_Table (.type "object") = some true)
    (ic_Table : PySem.W.isClsIn K A_Table = true)
    (tc_Table : PySem.W.typeIn K (.ref A_Table) = some (.type "type"))
    (si_Table : PySem.W.subIn K (.type "int") (.ref A_Table) = some false)
    (ss_Table : PySem.W.subIn K (.type "str") (.ref A_Table) = some false)
    (st_Table : PySem.W.subIn K (.type "tuple") (.ref A_Table) = some false)
    (sl_Table : PySem.W.subIn K (.type "list") (.ref A_Table) = some false)
    (sd_Table : PySem.W.subIn K (.type "dict") (.ref A_Table) = some false)
    (oi_Table : PySem.W.subIn K (.ref A_Table) (.type "int") = some false)
    (oB_Table : PySem.W.subIn K (.ref A_Table) (.type "bool") = some false)
    (sf_Table : PySem.W.selfFirst K A_Table = true)
    (cg_Table : PySem.W.specialIn K (.builtin "object.__class__") "__get__" = some (some (.builtin "getset_descriptor.__get__")))
    (ct_Table : PySem.W.takesIn K (.builtin "object.__class__") = some true)
    (n_Table_own_counts : PySem.W.findIn K (.ref A_Table) "own_counts" = some none)
    (f_Table_init : PySem.W.findIn K (.ref A_Table) "__init__" = some (some (.ref A_Table_init)))
    (i_Table_init : PySem.W.isFn K (.ref A_Table_init) = true)
    (l_Table_init : K.lookup A_Table_init = some ⟨oc_Table_init, od_Table_init, .func (PySem.W.fnOf "__init__" "Table.__init__" (defArgs s_Table_init) (defBody s_Table_init) (defScope s_Table_init) (.ref T_Table_init) kV_Table_init dc_Table_init pm_Table_init an_Table_init cd_Table_init ct_Table_init), sl_Table_init⟩)
    (c_Table_init : PySem.W.codeIn K cd_Table_init "Table.__init__" = true)
    (k_Table_init : PySem.W.keepIn K (.ref A_Table_init) = true)
    (d_Table_init : K.lookup T_Table_init = some ⟨tt_Table_init, td_Table_init, .seq #[.none] n_Table_init, tl_Table_init⟩)
    (f_Table_is_plain : PySem.W.findIn K (.ref A_Table) "is_plain" = some (some (.ref P_Table_is_plain)))
    (g_Table_is_plain : PySem.W.specialIn K (.ref P_Table_is_plain) "__get__" = some (some (.builtin "property.__get__")))
    (t_Table_is_plain : PySem.W.takesIn K (.ref P_Table_is_plain) = some true)
    (r_Table_is_plain : PySem.W.recIn K P_Table_is_plain "property" = some (.ref A_Table_is_plain :: R_Table_is_plain))
    (l_Table_is_plain : K.lookup A_Table_is_plain = some ⟨oc_Table_is_plain, od_Table_is_plain, .func (PySem.W.fnOf "is_plain" "Table.is_plain" (defArgs s_Table_is_plain) (defBody s_Table_is_plain) (defScope s_Table_is_plain) .none kV_Table_is_plain dc_Table_is_plain pm_Table_is_plain an_Table_is_plain cd_Table_is_plain ct_Table_is_plain), sl_Table_is_plain⟩)
    (c_Table_is_plain : PySem.W.codeIn K cd_Table_is_plain "Table.is_plain" = true)
    (k_Table_is_plain : PySem.W.keepIn K (.ref A_Table_is_plain) = true)
    (f_Table_at : PySem.W.findIn K (.ref A_Table) "at" = some (some (.ref A_Table_at)))
    (i_Table_at : PySem.W.isFn K (.ref A_Table_at) = true)
    (l_Table_at : K.lookup A_Table_at = some ⟨oc_Table_at, od_Table_at, .func (PySem.W.fnOf "at" "Table.at" (defArgs s_Table_at) (defBody s_Table_at) (defScope s_Table_at) .none kV_Table_at dc_Table_at pm_Table_at an_Table_at cd_Table_at ct_Table_at), sl_Table_at⟩)
    (c_Table_at : PySem.W.codeIn K cd_Table_at "Table.at" = true)
    (k_Table_at : PySem.W.keepIn K (.ref A_Table_at) = true)
    (f_Table_used_keys : PySem.W.findIn K (.ref A_Table) "used_keys" = some (some (.ref A_Table_used_keys)))
    (i_Table_used_keys : PySem.W.isFn K (.ref A_Table_used_keys) = true)
    (l_Table_used_keys : K.lookup A_Table_used_keys = some ⟨oc_Table_used_keys, od_Table_used_keys, .func (PySem.W.fnOf "used_keys" "Table.used_keys" (defArgs s_Table_used_keys) (defBody s_Table_used_keys) (defScope s_Table_used_keys) .none kV_Table_used_keys dc_Table_used_keys pm_Table_used_keys an_Table_used_keys cd_Table_used_keys ct_Table_used_keys), sl_Table_used_keys⟩)
    (c_Table_used_keys : PySem.W.codeIn K cd_Table_used_keys "Table.used_keys" = true)
    (k_Table_used_keys : PySem.W.keepIn K (.ref A_Table_used_keys) = true)
    (f_Table_counts : PySem.W.findIn K (.ref A_Table) "counts" = some (some (.ref A_Table_counts)))
    (i_Table_counts : PySem.W.isFn K (.ref A_Table_counts) = true)
    (l_Table_counts : K.lookup A_Table_counts = some ⟨oc_Table_counts, od_Table_counts, .func (PySem.W.fnOf "counts" "Table.counts" (defArgs s_Table_counts) (defBody s_Table_counts) (defScope s_Table_counts) .none kV_Table_counts dc_Table_counts pm_Table_counts an_Table_counts cd_Table_counts ct_Table_counts), sl_Table_counts⟩)
    (c_Table_counts : PySem.W.codeIn K cd_Table_counts "Table.counts" = true)
    (k_Table_counts : PySem.W.keepIn K (.ref A_Table_counts) = true)
    (f_Table_times : PySem.W.findIn K (.ref A_Table) "times" = some (some (.ref A_Table_times)))
    (i_Table_times : PySem.W.isFn K (.ref A_Table_times) = true)
    (l_Table_times : K.lookup A_Table_times = some ⟨oc_Table_times, od_Table_times, .func (PySem.W.fnOf "times" "Table.times" (defArgs s_Table_times) (defBody s_Table_times) (defScope s_Table_times) .none kV_Table_times dc_Table_times pm_Table_times an_Table_times cd_Table_times ct_Table_times), sl_Table_times⟩)
    (c_Table_times : PySem.W.codeIn K cd_Table_times "Table.times" = true)
    (k_Table_times : PySem.W.keepIn K (.ref A_Table_times) = true)
    (f_Table_renamed : PySem.W.findIn K (.ref A_Table) "renamed" = some (some (.ref A_Table_renamed)))
    (i_Table_renamed : PySem.W.isFn K (.ref A_Table_renamed) = true)
    (l_Table_renamed : K.lookup A_Table_renamed = some ⟨oc_Table_renamed, od_Table_renamed, .func (PySem.W.fnOf "renamed" "Table.renamed" (defArgs s_Table_renamed) (defBody s_Table_renamed) (defScope s_Table_renamed) .none kV_Table_renamed dc_Table_renamed pm_Table_renamed an_Table_renamed cd_Table_renamed ct_Table_renamed), sl_Table_renamed⟩)
    (c_Table_renamed : PySem.W.codeIn K cd_Table_renamed "Table.renamed" = true)
    (k_Table_renamed : PySem.W.keepIn K (.ref A_Table_renamed) = true)
    (f_Table_add : PySem.W.findIn K (.ref A_Table) "__add__" = some (some (.ref A_Table_add)))
    (i_Table_add : PySem.W.isFn K (.ref A_Table_add) = true)
    (l_Table_add : K.lookup A_Table_add = some ⟨oc_Table_add, od_Table_add, .func (PySem.W.fnOf "__add__" "Table.__add__" (defArgs s_Table_add) (defBody s_Table_add) (defScope s_Table_add) .none kV_Table_add dc_Table_add pm_Table_add an_Table_add cd_Table_add ct_Table_add), sl_Table_add⟩)
    (c_Table_add : PySem.W.codeIn K cd_Table_add "Table.__add__" = true)
    (k_Table_add : PySem.W.keepIn K (.ref A_Table_add) = true)
    (f_Table_sub : PySem.W.findIn K (.ref A_Table) "__sub__" = some (some (.ref A_Table_sub)))
    (i_Table_sub : PySem.W.isFn K (.ref A_Table_sub) = true)
    (l_Table_sub : K.lookup A_Table_sub = some ⟨oc_Table_sub, od_Table_sub, .func (PySem.W.fnOf "__sub__" "Table.__sub__" (defArgs s_Table_sub) (defBody s_Table_sub) (defScope s_Table_sub) .none kV_Table_sub dc_Table_sub pm_Table_sub an_Table_sub cd_Table_sub ct_Table_sub), sl_Table_sub⟩)
    (c_Table_sub : PySem.W.codeIn K cd_Table_sub "Table.__sub__" = true)
    (k_Table_sub : PySem.W.keepIn K (.ref A_Table_sub) = true)
    (f_Table_neg : PySem.W.findIn K (.ref A_Table) "__neg__" = some (some (.ref A_Table_neg)))
    (i_Table_neg : PySem.W.isFn K (.ref A_Table_neg) = true)
    (l_Table_neg : K.lookup A_Table_neg = some ⟨oc_Table_neg, od_Table_neg, .func (PySem.W.fnOf "__neg__" "Table.__neg__" (defArgs s_Table_neg) (defBody s_Table_neg) (defScope s_Table_neg) .none kV_Table_neg dc_Table_neg pm_Table_neg an_Table_neg cd_Table_neg ct_Table_neg), sl_Table_neg⟩)
    (c_Table_neg : PySem.W.codeIn K cd_Table_neg "Table.__neg__" = true)
    (k_Table_neg : PySem.W.keepIn K (.ref A_Table_neg) = true)
    (f_Table_len : PySem.W.findIn K (.ref A_Table) "__len__" = some (some (.ref A_Table_len)))
    (i_Table_len : PySem.W.isFn K (.ref A_Table_len) = true)
    (l_Table_len : K.lookup A_Table_len = some ⟨oc_Table_len, od_Table_len, .func (PySem.W.fnOf "__len__" "Table.__len__" (defArgs s_Table_len) (defBody s_Table_len) (defScope s_Table_len) .none kV_Table_len dc_Table_len pm_Table_len an_Table_len cd_Table_len ct_Table_len), sl_Table_len⟩)
    (c_Table_len : PySem.W.codeIn K cd_Table_len "Table.__len__" = true)
    (k_Table_len : PySem.W.keepIn K (.ref A_Table_len) = true)
    (f_Table_contains : PySem.W.findIn K (.ref A_Table) "__contains__" = some (some (.ref A_Table_contains)))
    (i_Table_contains : PySem.W.isFn K (.ref A_Table_contains) = true)
    (l_Table_contains : K.lookup A_Table_contains = some ⟨oc_Table_contains, od_Table_contains, .func (PySem.W.fnOf "__contains__" "Table.__contains__" (defArgs s_Table_contains) (defBody s_Table_contains) (defScope s_Table_contains) .none kV_Table_contains dc_Table_contains pm_Table_contains an_Table_contains cd_Table_contains ct_Table_contains), sl_Table_contains⟩)
    (c_Table_contains : PySem.W.codeIn K cd_Table_contains "Table.__contains__" = true)
    (k_Table_contains : PySem.W.keepIn K (.ref A_Table_contains) = true)
    (f_Table_eq : PySem.W.findIn K (.ref A_Table) "__eq__" = some (some (.ref A_Table_eq)))
    (i_Table_eq : PySem.W.isFn K (.ref A_Table_eq) = true)
    (l_Table_eq : K.lookup A_Table_eq = some ⟨oc_Table_eq, od_Table_eq, .func (PySem.W.fnOf "__eq__" "Table.__eq__" (defArgs s_Table_eq) (defBody s_Table_eq) (defScope s_Table_eq) .none kV_Table_eq dc_Table_eq pm_Table_eq an_Table_eq cd_Table_eq ct_Table_eq), sl_Table_eq⟩)
    (c_Table_eq : PySem.W.codeIn K cd_Table_eq "Table.__eq__" = true)
    (k_Table_eq : PySem.W.keepIn K (.ref A_Table_eq) = true)
    (f_Table_repr : PySem.W.findIn K (.ref A_Table) "__repr__" = some (some (.ref A_Table_repr)))
    (i_Table_repr : PySem.W.isFn K (.ref A_Table_repr) = true)
    (l_Table_repr : K.lookup A_Table_repr = some ⟨oc_Table_repr, od_Table_repr, .func (PySem.W.fnOf "__repr__" "Table.__repr__" (defArgs s_Table_repr) (defBody s_Table_repr) (defScope s_Table_repr) .none kV_Table_repr dc_Table_repr pm_Table_repr an_Table_repr cd_Table_repr ct_Table_repr), sl_Table_repr⟩)
    (c_Table_repr : PySem.W.codeIn K cd_Table_repr "Table.__repr__" = true)
    (k_Table_repr : PySem.W.keepIn K (.ref A_Table_repr) = true)
    (nr_Table_add : PySem.W.findIn K (.ref A_Table) "__radd__" = some none)
    (n1_Table_add : PySem.W.findIn K (.type "int") "__add__" = some fo_Table_add)
    (n2_Table_add : PySem.W.findIn K (.type "int") "__radd__" = some ro_Table_add)
    (nr_Table_sub : PySem.W.findIn K (.ref A_Table) "__rsub__" = some none)
    (n1_Table_sub : PySem.W.findIn K (.type "int") "__sub__" = some fo_Table_sub)
    (n2_Table_sub : PySem.W.findIn K (.type "int") "__rsub__" = some ro_Table_sub)
    (ne_Table_eq : PySem.W.findIn K (.ref A_Table) "__ne__" = some (some (.builtin "object.__ne__")))
    (z_abs : PySem.W.nsIn K mainGlobals "abs" = some none)
    (z_all : PySem.W.nsIn K mainGlobals "all" = some none)
    (z_bool : PySem.W.nsIn K mainGlobals "bool" = some none)
    (z_dict : PySem.W.nsIn K mainGlobals "dict" = some none)
    (z_divmod : PySem.W.nsIn K mainGlobals "divmod" = some none)
    (z_int : PySem.W.nsIn K mainGlobals "int" = some none)
    (z_isinstance : PySem.W.nsIn K mainGlobals "isinstance" = some none)
    (z_len : PySem.W.nsIn K mainGlobals "len" = some none)
    (z_list : PySem.W.nsIn K mainGlobals "list" = some none)
    (z_max : PySem.W.nsIn K mainGlobals "max" = some none)
    (z_min : PySem.W.nsIn K mainGlobals "min" = some none)
    (z_range : PySem.W.nsIn K mainGlobals "range" = some none)
    (z_repr : PySem.W.nsIn K mainGlobals "repr" = some none)
    (z_sorted : PySem.W.nsIn K mainGlobals "sorted" = some none)
    (z_str : PySem.W.nsIn K mainGlobals "str" = some none)
    (a_LETTERS : PySem.W.nsIn K mainGlobals "LETTERS" = some (some (.str "abcdefghijklmnopqrstuvwxyz" tk_LETTERS)))
    (a_KEY_SIGNS : PySem.W.nsIn K mainGlobals "KEY_SIGNS" = some (some (.str "abcdefghijklmnopqrstuvwxyz0123456789" tk_KEY_SIGNS)))
    (a_LONGEST_KEY : PySem.W.nsIn K mainGlobals "LONGEST_KEY" = some (some (.int 8 tk_LONGEST_KEY)))
    : ∃ fd : FuncData, (∀ (s : Shared) (u : Value), BindsTo s fd ⟨[u], []⟩ [("_law_script", u)]) ∧ ∀ base : Heap, K.In base → base.Ns mainGlobals mg → FnG P w K mg base 10 fa fd ["_law_script"] (spLaw K) := by
  obtain rfl : fa = A_law := by
    have e := hfa.symm.trans (PySem.W.mg_of X G a_law)
    cases e
    rfl
  have T : Txt K mg {
      is_integer := A_is_integer,
      d_is_integer := PySem.W.fnOf "is_integer" "is_integer" (defArgs s_is_integer) (defBody s_is_integer) (defScope s_is_integer) .none kV_is_integer dc_is_integer pm_is_integer an_is_integer cd_is_integer ct_is_integer,
      is_key := A_is_key,
      d_is_key := PySem.W.fnOf "is_key" "is_key" (defArgs s_is_key) (defBody s_is_key) (defScope s_is_key) .none kV_is_key dc_is_key pm_is_key an_is_key cd_is_key ct_is_key,
      is_row := A_is_row,
      d_is_row := PySem.W.fnOf "is_row" "is_row" (defArgs s_is_row) (defBody s_is_row) (defScope s_is_row) .none kV_is_row dc_is_row pm_is_row an_is_row cd_is_row ct_is_row,
      kept_row := A_kept_row,
      d_kept_row := PySem.W.fnOf "kept_row" "kept_row" (defArgs s_kept_row) (defBody s_kept_row) (defScope s_kept_row) .none kV_kept_row dc_kept_row pm_kept_row an_kept_row cd_kept_row ct_kept_row,
      want_names := A_want_names,
      d_want_names := PySem.W.fnOf "want_names" "want_names" (defArgs s_want_names) (defBody s_want_names) (defScope s_want_names) .none kV_want_names dc_want_names pm_want_names an_want_names cd_want_names ct_want_names,
      renamed_row := A_renamed_row,
      d_renamed_row := PySem.W.fnOf "renamed_row" "renamed_row" (defArgs s_renamed_row) (defBody s_renamed_row) (defScope s_renamed_row) .none kV_renamed_row dc_renamed_row pm_renamed_row an_renamed_row cd_renamed_row ct_renamed_row,
      want_table := A_want_table,
      d_want_table := PySem.W.fnOf "want_table" "want_table" (defArgs s_want_table) (defBody s_want_table) (defScope s_want_table) .none kV_want_table dc_want_table pm_want_table an_want_table cd_want_table ct_want_table,
      law_rng := A_law_rng,
      d_law_rng := PySem.W.fnOf "_law_rng" "_law_rng" (defArgs s_law_rng) (defBody s_law_rng) (defScope s_law_rng) .none kV_law_rng dc_law_rng pm_law_rng an_law_rng cd_law_rng ct_law_rng,
      law_draw := A_law_draw,
      d_law_draw := PySem.W.fnOf "_law_draw" "_law_draw" (defArgs s_law_draw) (defBody s_law_draw) (defScope s_law_draw) .none kV_law_draw dc_law_draw pm_law_draw an_law_draw cd_law_draw ct_law_draw,
      law_choice := A_law_choice,
      d_law_choice := PySem.W.fnOf "_law_choice" "_law_choice" (defArgs s_law_choice) (defBody s_law_choice) (defScope s_law_choice) .none kV_law_choice dc_law_choice pm_law_choice an_law_choice cd_law_choice ct_law_choice,
      law_names := A_law_names,
      d_law_names := PySem.W.fnOf "_law_names" "_law_names" (defArgs s_law_names) (defBody s_law_names) (defScope s_law_names) .none kV_law_names dc_law_names pm_law_names an_law_names cd_law_names ct_law_names,
      law_number := A_law_number,
      d_law_number := PySem.W.fnOf "_law_number" "_law_number" (defArgs s_law_number) (defBody s_law_number) (defScope s_law_number) .none kV_law_number dc_law_number pm_law_number an_law_number cd_law_number ct_law_number,
      law_mixed := A_law_mixed,
      d_law_mixed := PySem.W.fnOf "_law_mixed" "_law_mixed" (defArgs s_law_mixed) (defBody s_law_mixed) (defScope s_law_mixed) .none kV_law_mixed dc_law_mixed pm_law_mixed an_law_mixed cd_law_mixed ct_law_mixed,
      law_long := A_law_long,
      d_law_long := PySem.W.fnOf "_law_long" "_law_long" (defArgs s_law_long) (defBody s_law_long) (defScope s_law_long) .none kV_law_long dc_law_long pm_law_long an_law_long cd_law_long ct_law_long,
      law_dict := A_law_dict,
      d_law_dict := PySem.W.fnOf "_law_dict" "_law_dict" (defArgs s_law_dict) (defBody s_law_dict) (defScope s_law_dict) .none kV_law_dict dc_law_dict pm_law_dict an_law_dict cd_law_dict ct_law_dict,
      law_kept := A_law_kept,
      d_law_kept := PySem.W.fnOf "_law_kept" "_law_kept" (defArgs s_law_kept) (defBody s_law_kept) (defScope s_law_kept) .none kV_law_kept dc_law_kept pm_law_kept an_law_kept cd_law_kept ct_law_kept,
      law_together := A_law_together,
      d_law_together := PySem.W.fnOf "_law_together" "_law_together" (defArgs s_law_together) (defBody s_law_together) (defScope s_law_together) .none kV_law_together dc_law_together pm_law_together an_law_together cd_law_together ct_law_together,
      law_renamed := A_law_renamed,
      d_law_renamed := PySem.W.fnOf "_law_renamed" "_law_renamed" (defArgs s_law_renamed) (defBody s_law_renamed) (defScope s_law_renamed) .none kV_law_renamed dc_law_renamed pm_law_renamed an_law_renamed cd_law_renamed ct_law_renamed,
      law_is := A_law_is,
      d_law_is := PySem.W.fnOf "_law_is" "_law_is" (defArgs s_law_is) (defBody s_law_is) (defScope s_law_is) .none kV_law_is dc_law_is pm_law_is an_law_is cd_law_is ct_law_is,
      law_right := A_law_right,
      d_law_right := PySem.W.fnOf "_law_right" "_law_right" (defArgs s_law_right) (defBody s_law_right) (defScope s_law_right) .none kV_law_right dc_law_right pm_law_right an_law_right cd_law_right ct_law_right,
      law := fa,
      d_law := PySem.W.fnOf "law" "law" (defArgs s_law) (defBody s_law) (defScope s_law) .none kV_law dc_law pm_law an_law cd_law ct_law,
      Table := A_Table,
      Table_init := A_Table_init,
      d_Table_init := PySem.W.fnOf "__init__" "Table.__init__" (defArgs s_Table_init) (defBody s_Table_init) (defScope s_Table_init) (.ref T_Table_init) kV_Table_init dc_Table_init pm_Table_init an_Table_init cd_Table_init ct_Table_init,
      p_Table_is_plain := P_Table_is_plain,
      Table_is_plain := A_Table_is_plain,
      d_Table_is_plain := PySem.W.fnOf "is_plain" "Table.is_plain" (defArgs s_Table_is_plain) (defBody s_Table_is_plain) (defScope s_Table_is_plain) .none kV_Table_is_plain dc_Table_is_plain pm_Table_is_plain an_Table_is_plain cd_Table_is_plain ct_Table_is_plain,
      Table_at := A_Table_at,
      d_Table_at := PySem.W.fnOf "at" "Table.at" (defArgs s_Table_at) (defBody s_Table_at) (defScope s_Table_at) .none kV_Table_at dc_Table_at pm_Table_at an_Table_at cd_Table_at ct_Table_at,
      Table_used_keys := A_Table_used_keys,
      d_Table_used_keys := PySem.W.fnOf "used_keys" "Table.used_keys" (defArgs s_Table_used_keys) (defBody s_Table_used_keys) (defScope s_Table_used_keys) .none kV_Table_used_keys dc_Table_used_keys pm_Table_used_keys an_Table_used_keys cd_Table_used_keys ct_Table_used_keys,
      Table_counts := A_Table_counts,
      d_Table_counts := PySem.W.fnOf "counts" "Table.counts" (defArgs s_Table_counts) (defBody s_Table_counts) (defScope s_Table_counts) .none kV_Table_counts dc_Table_counts pm_Table_counts an_Table_counts cd_Table_counts ct_Table_counts,
      Table_times := A_Table_times,
      d_Table_times := PySem.W.fnOf "times" "Table.times" (defArgs s_Table_times) (defBody s_Table_times) (defScope s_Table_times) .none kV_Table_times dc_Table_times pm_Table_times an_Table_times cd_Table_times ct_Table_times,
      Table_renamed := A_Table_renamed,
      d_Table_renamed := PySem.W.fnOf "renamed" "Table.renamed" (defArgs s_Table_renamed) (defBody s_Table_renamed) (defScope s_Table_renamed) .none kV_Table_renamed dc_Table_renamed pm_Table_renamed an_Table_renamed cd_Table_renamed ct_Table_renamed,
      Table_add := A_Table_add,
      d_Table_add := PySem.W.fnOf "__add__" "Table.__add__" (defArgs s_Table_add) (defBody s_Table_add) (defScope s_Table_add) .none kV_Table_add dc_Table_add pm_Table_add an_Table_add cd_Table_add ct_Table_add,
      Table_sub := A_Table_sub,
      d_Table_sub := PySem.W.fnOf "__sub__" "Table.__sub__" (defArgs s_Table_sub) (defBody s_Table_sub) (defScope s_Table_sub) .none kV_Table_sub dc_Table_sub pm_Table_sub an_Table_sub cd_Table_sub ct_Table_sub,
      Table_neg := A_Table_neg,
      d_Table_neg := PySem.W.fnOf "__neg__" "Table.__neg__" (defArgs s_Table_neg) (defBody s_Table_neg) (defScope s_Table_neg) .none kV_Table_neg dc_Table_neg pm_Table_neg an_Table_neg cd_Table_neg ct_Table_neg,
      Table_len := A_Table_len,
      d_Table_len := PySem.W.fnOf "__len__" "Table.__len__" (defArgs s_Table_len) (defBody s_Table_len) (defScope s_Table_len) .none kV_Table_len dc_Table_len pm_Table_len an_Table_len cd_Table_len ct_Table_len,
      Table_contains := A_Table_contains,
      d_Table_contains := PySem.W.fnOf "__contains__" "Table.__contains__" (defArgs s_Table_contains) (defBody s_Table_contains) (defScope s_Table_contains) .none kV_Table_contains dc_Table_contains pm_Table_contains an_Table_contains cd_Table_contains ct_Table_contains,
      Table_eq := A_Table_eq,
      d_Table_eq := PySem.W.fnOf "__eq__" "Table.__eq__" (defArgs s_Table_eq) (defBody s_Table_eq) (defScope s_Table_eq) .none kV_Table_eq dc_Table_eq pm_Table_eq an_Table_eq cd_Table_eq ct_Table_eq,
      Table_repr := A_Table_repr,
      d_Table_repr := PySem.W.fnOf "__repr__" "Table.__repr__" (defArgs s_Table_repr) (defBody s_Table_repr) (defScope s_Table_repr) .none kV_Table_repr dc_Table_repr pm_Table_repr an_Table_repr cd_Table_repr ct_Table_repr,
      NotesumsError := 0,
      InvalidNumber := 0,
      InvalidName := 0,
      InvalidTable := 0,
      InvalidNames := 0,
      InvalidNumber_init := 0,
      d_InvalidNumber_init := PySem.W.fnOf "law" "law" (defArgs s_law) (defBody s_law) (defScope s_law) .none kV_law dc_law pm_law an_law cd_law ct_law,
      InvalidName_init := 0,
      d_InvalidName_init := PySem.W.fnOf "law" "law" (defArgs s_law) (defBody s_law) (defScope s_law) .none kV_law dc_law pm_law an_law cd_law ct_law,
      InvalidTable_init := 0,
      d_InvalidTable_init := PySem.W.fnOf "law" "law" (defArgs s_law) (defBody s_law) (defScope s_law) .none kV_law dc_law pm_law an_law cd_law ct_law,
      InvalidNames_init := 0,
      d_InvalidNames_init := PySem.W.fnOf "law" "law" (defArgs s_law) (defBody s_law) (defScope s_law) .none kV_law dc_law pm_law an_law cd_law ct_law
    } := {
      is_integer := ⟨fun_mk (st := s_is_integer) l_is_integer c_is_integer k_is_integer, PySem.W.mg_of X G a_is_integer⟩,
      is_key := ⟨fun_mk (st := s_is_key) l_is_key c_is_key k_is_key, PySem.W.mg_of X G a_is_key⟩,
      is_row := ⟨fun_mk (st := s_is_row) l_is_row c_is_row k_is_row, PySem.W.mg_of X G a_is_row⟩,
      kept_row := ⟨fun_mk (st := s_kept_row) l_kept_row c_kept_row k_kept_row, PySem.W.mg_of X G a_kept_row⟩,
      want_names := ⟨fun_mk (st := s_want_names) l_want_names c_want_names k_want_names, PySem.W.mg_of X G a_want_names⟩,
      renamed_row := ⟨fun_mk (st := s_renamed_row) l_renamed_row c_renamed_row k_renamed_row, PySem.W.mg_of X G a_renamed_row⟩,
      want_table := ⟨fun_mk (st := s_want_table) l_want_table c_want_table k_want_table, PySem.W.mg_of X G a_want_table⟩,
      law_rng := ⟨fun_mk (st := s_law_rng) l_law_rng c_law_rng k_law_rng, PySem.W.mg_of X G a_law_rng⟩,
      law_draw := ⟨fun_mk (st := s_law_draw) l_law_draw c_law_draw k_law_draw, PySem.W.mg_of X G a_law_draw⟩,
      law_choice := ⟨fun_mk (st := s_law_choice) l_law_choice c_law_choice k_law_choice, PySem.W.mg_of X G a_law_choice⟩,
      law_names := ⟨fun_mk (st := s_law_names) l_law_names c_law_names k_law_names, PySem.W.mg_of X G a_law_names⟩,
      law_number := ⟨fun_mk (st := s_law_number) l_law_number c_law_number k_law_number, PySem.W.mg_of X G a_law_number⟩,
      law_mixed := ⟨fun_mk (st := s_law_mixed) l_law_mixed c_law_mixed k_law_mixed, PySem.W.mg_of X G a_law_mixed⟩,
      law_long := ⟨fun_mk (st := s_law_long) l_law_long c_law_long k_law_long, PySem.W.mg_of X G a_law_long⟩,
      law_dict := ⟨fun_mk (st := s_law_dict) l_law_dict c_law_dict k_law_dict, PySem.W.mg_of X G a_law_dict⟩,
      law_kept := ⟨fun_mk (st := s_law_kept) l_law_kept c_law_kept k_law_kept, PySem.W.mg_of X G a_law_kept⟩,
      law_together := ⟨fun_mk (st := s_law_together) l_law_together c_law_together k_law_together, PySem.W.mg_of X G a_law_together⟩,
      law_renamed := ⟨fun_mk (st := s_law_renamed) l_law_renamed c_law_renamed k_law_renamed, PySem.W.mg_of X G a_law_renamed⟩,
      law_is := ⟨fun_mk (st := s_law_is) l_law_is c_law_is k_law_is, PySem.W.mg_of X G a_law_is⟩,
      law_right := ⟨fun_mk (st := s_law_right) l_law_right c_law_right k_law_right, PySem.W.mg_of X G a_law_right⟩,
      law := ⟨fun_mk (st := s_law) l_law c_law k_law, PySem.W.mg_of X G a_law⟩,
      Table := ⟨⟨pg_Table, hd_Table, po_Table, sa_Table⟩, PySem.W.mg_of X G a_Table, kp_Table, mks_Table, ca_Table, cg_Table, ct_Table, ob_Table, kit_cl rfl ic_Table tc_Table si_Table, kit_cl rfl ic_Table tc_Table ss_Table, kit_cl rfl ic_Table tc_Table st_Table, kit_self, kit_out (by decide +kernel) oi_Table, kit_out (by decide +kernel) oB_Table⟩,
      no_Table_own_counts := n_Table_own_counts,
      Table_init := ⟨⟨⟨_, _, _, _, _, _, _, _, _, _, rfl, l_Table_init, c_Table_init, .inr ⟨by decide, T_Table_init, _, [.none], n_Table_init, rfl, d_Table_init, rfl, .cons rfl (.nil)⟩, .inl rfl⟩, k_Table_init⟩, f_Table_init, i_Table_init⟩,
      Table_is_plain := ⟨fun_mk (st := s_Table_is_plain) l_Table_is_plain c_Table_is_plain k_Table_is_plain, f_Table_is_plain, g_Table_is_plain, t_Table_is_plain, _, r_Table_is_plain⟩,
      Table_at := ⟨fun_mk (st := s_Table_at) l_Table_at c_Table_at k_Table_at, f_Table_at, i_Table_at⟩,
      Table_used_keys := ⟨fun_mk (st := s_Table_used_keys) l_Table_used_keys c_Table_used_keys k_Table_used_keys, f_Table_used_keys, i_Table_used_keys⟩,
      Table_counts := ⟨fun_mk (st := s_Table_counts) l_Table_counts c_Table_counts k_Table_counts, f_Table_counts, i_Table_counts⟩,
      Table_times := ⟨fun_mk (st := s_Table_times) l_Table_times c_Table_times k_Table_times, f_Table_times, i_Table_times⟩,
      Table_renamed := ⟨fun_mk (st := s_Table_renamed) l_Table_renamed c_Table_renamed k_Table_renamed, f_Table_renamed, i_Table_renamed⟩,
      Table_add := ⟨fun_mk (st := s_Table_add) l_Table_add c_Table_add k_Table_add, f_Table_add, i_Table_add⟩,
      Table_sub := ⟨fun_mk (st := s_Table_sub) l_Table_sub c_Table_sub k_Table_sub, f_Table_sub, i_Table_sub⟩,
      Table_neg := ⟨fun_mk (st := s_Table_neg) l_Table_neg c_Table_neg k_Table_neg, f_Table_neg, i_Table_neg⟩,
      Table_len := ⟨fun_mk (st := s_Table_len) l_Table_len c_Table_len k_Table_len, f_Table_len, i_Table_len⟩,
      Table_contains := ⟨fun_mk (st := s_Table_contains) l_Table_contains c_Table_contains k_Table_contains, f_Table_contains, i_Table_contains⟩,
      Table_eq := ⟨fun_mk (st := s_Table_eq) l_Table_eq c_Table_eq k_Table_eq, f_Table_eq, i_Table_eq⟩,
      Table_repr := ⟨fun_mk (st := s_Table_repr) l_Table_repr c_Table_repr k_Table_repr, f_Table_repr, i_Table_repr⟩,
      O_Table_add := ⟨f_Table_add, i_Table_add, sf_Table, nr_Table_add, ⟨_, n1_Table_add⟩, ⟨_, n2_Table_add⟩, si_Table⟩,
      O_Table_sub := ⟨f_Table_sub, i_Table_sub, sf_Table, nr_Table_sub, ⟨_, n1_Table_sub⟩, ⟨_, n2_Table_sub⟩, si_Table⟩,
      O_Table_neg := ⟨f_Table_neg, i_Table_neg⟩,
      O_Table_len := ⟨f_Table_len, i_Table_len⟩,
      O_Table_contains := ⟨f_Table_contains, i_Table_contains⟩,
      O_Table_eq := ⟨f_Table_eq, ne_Table_eq, i_Table_eq, ob_Table, si_Table, ss_Table, st_Table, sl_Table, sd_Table⟩,
      O_Table_repr := ⟨f_Table_repr, i_Table_repr⟩,
      b_abs := PySem.W.mg_none_of X G z_abs,
      b_all := PySem.W.mg_none_of X G z_all,
      b_bool := PySem.W.mg_none_of X G z_bool,
      b_dict := PySem.W.mg_none_of X G z_dict,
      b_divmod := PySem.W.mg_none_of X G z_divmod,
      b_int := PySem.W.mg_none_of X G z_int,
      b_isinstance := PySem.W.mg_none_of X G z_isinstance,
      b_len := PySem.W.mg_none_of X G z_len,
      b_list := PySem.W.mg_none_of X G z_list,
      b_max := PySem.W.mg_none_of X G z_max,
      b_min := PySem.W.mg_none_of X G z_min,
      b_range := PySem.W.mg_none_of X G z_range,
      b_repr := PySem.W.mg_none_of X G z_repr,
      b_sorted := PySem.W.mg_none_of X G z_sorted,
      b_str := PySem.W.mg_none_of X G z_str,
      c_LETTERS := ⟨_, PySem.W.mg_of X G a_LETTERS⟩,
      c_KEY_SIGNS := ⟨_, PySem.W.mg_of X G a_KEY_SIGNS⟩,
      c_LONGEST_KEY := ⟨_, PySem.W.mg_of X G a_LONGEST_KEY⟩,
      k_dict := kit_cl rfl ic_Table tc_Table sd_Table
    }
  exact ⟨_, fun s u => .of_eq rfl, fun base _ _ => ok_law T⟩
end P
open PySem PySem.W PyProof.Rows
set_option maxRecDepth 100000 in
set_option maxHeartbeats 0 in
theorem PySem.Challenge.cw_notesums_k12_tables_by_dicts_holds : PySem.Challenge.rw_notesums_k12_tables_by_dicts.Holds := by
  w_on; o_law; k_head; (case hw => w_witness2)
  k_fill
  refine NS.walk_ofG (l := PySem.Challenge.rw_notesums_k12_tables_by_dicts) (n := 63) (k := 10) (x := "_law_script") (spK := P.spLaw) rfl (by decide) rfl ⟨rfl, by decide, by decide⟩ (fun w h Y => PySem.W.kIn_of Y) ?F (fun K H b ns hl hS hO => ⟨b, ns, rfl, hS, Nat.le_trans hl (by decide), fun _ => rfl⟩)
  case F =>
    intro w mg fa h KX G hmg
    refine' P.mk_all KX G hmg ?a_is_integer ?l_is_integer ?c_is_integer ?k_is_integer ?a_is_key ?l_is_key ?c_is_key ?k_is_key ?a_is_row ?l_is_row ?c_is_row ?k_is_row ?a_kept_row ?l_kept_row ?c_kept_row ?k_kept_row ?a_want_names ?l_want_names ?c_want_names ?k_want_names ?a_renamed_row ?l_renamed_row ?c_renamed_row ?k_renamed_row ?a_want_table ?l_want_table ?c_want_table ?k_want_table ?a_law_rng ?l_law_rng ?c_law_rng ?k_law_rng ?a_law_draw ?l_law_draw ?c_law_draw ?k_law_draw ?a_law_choice ?l_law_choice ?c_law_choice ?k_law_choice ?a_law_names ?l_law_names ?c_law_names ?k_law_names ?a_law_number ?l_law_number ?c_law_number ?k_law_number ?a_law_mixed ?l_law_mixed ?c_law_mixed ?k_law_mixed ?a_law_long ?l_law_long ?c_law_long ?k_law_long ?a_law_dict ?l_law_dict ?c_law_dict ?k_law_dict ?a_law_kept ?l_law_kept ?c_law_kept ?k_law_kept ?a_law_together ?l_law_together ?c_law_together ?k_law_together ?a_law_renamed ?l_law_renamed ?c_law_renamed ?k_law_renamed ?a_law_is ?l_law_is ?c_law_is ?k_law_is ?a_law_right ?l_law_right ?c_law_right ?k_law_right ?a_law ?l_law ?c_law ?k_law ?a_Table ?pg_Table ?hd_Table ?po_Table ?sa_Table ?kp_Table ?mks_Table ?ca_Table ?ob_Table ?ic_Table ?tc_Table ?si_Table ?ss_Table ?st_Table ?sl_Table ?sd_Table ?oi_Table ?oB_Table ?sf_Table ?cg_Table ?ct_Table ?n_Table_own_counts ?f_Table_init ?i_Table_init ?l_Table_init ?c_Table_init ?k_Table_init ?d_Table_init ?f_Table_is_plain ?g_Table_is_plain ?t_Table_is_plain ?r_Table_is_plain ?l_Table_is_plain ?c_Table_is_plain ?k_Table_is_plain ?f_Table_at ?i_Table_at ?l_Table_at ?c_Table_at ?k_Table_at ?f_Table_used_keys ?i_Table_used_keys ?l_Table_used_keys ?c_Table_used_keys ?k_Table_used_keys ?f_Table_counts ?i_Table_counts ?l_Table_counts ?c_Table_counts ?k_Table_counts ?f_Table_times ?i_Table_times ?l_Table_times ?c_Table_times ?k_Table_times ?f_Table_renamed ?i_Table_renamed ?l_Table_renamed ?c_Table_renamed ?k_Table_renamed ?f_Table_add ?i_Table_add ?l_Table_add ?c_Table_add ?k_Table_add ?f_Table_sub ?i_Table_sub ?l_Table_sub ?c_Table_sub ?k_Table_sub ?f_Table_neg ?i_Table_neg ?l_Table_neg ?c_Table_neg ?k_Table_neg ?f_Table_len ?i_Table_len ?l_Table_len ?c_Table_len ?k_Table_len ?f_Table_contains ?i_Table_contains ?l_Table_contains ?c_Table_contains ?k_Table_contains ?f_Table_eq ?i_Table_eq ?l_Table_eq ?c_Table_eq ?k_Table_eq ?f_Table_repr ?i_Table_repr ?l_Table_repr ?c_Table_repr ?k_Table_repr ?nr_Table_add ?n1_Table_add ?n2_Table_add ?nr_Table_sub ?n1_Table_sub ?n2_Table_sub ?ne_Table_eq ?z_abs ?z_all ?z_bool ?z_dict ?z_divmod ?z_int ?z_isinstance ?z_len ?z_list ?z_max ?z_min ?z_range ?z_repr ?z_sorted ?z_str ?a_LETTERS ?a_KEY_SIGNS ?a_LONGEST_KEY
    case a_is_integer => k_is
    case l_is_integer => k_is
    case c_is_integer => k_is
    case k_is_integer => k_is
    case a_is_key => k_is
    case l_is_key => k_is
    case c_is_key => k_is
    case k_is_key => k_is
    case a_is_row => k_is
    case l_is_row => k_is
    case c_is_row => k_is
    case k_is_row => k_is
    case a_kept_row => k_is
    case l_kept_row => k_is
    case c_kept_row => k_is
    case k_kept_row => k_is
    case a_want_names => k_is
    case l_want_names => k_is
    case c_want_names => k_is
    case k_want_names => k_is
    case a_renamed_row => k_is
    case l_renamed_row => k_is
    case c_renamed_row => k_is
    case k_renamed_row => k_is
    case a_want_table => k_is
    case l_want_table => k_is
    case c_want_table => k_is
    case k_want_table => k_is
    case a_law_rng => k_is
    case l_law_rng => k_is
    case c_law_rng => k_is
    case k_law_rng => k_is
    case a_law_draw => k_is
    case l_law_draw => k_is
    case c_law_draw => k_is
    case k_law_draw => k_is
    case a_law_choice => k_is
    case l_law_choice => k_is
    case c_law_choice => k_is
    case k_law_choice => k_is
    case a_law_names => k_is
    case l_law_names => k_is
    case c_law_names => k_is
    case k_law_names => k_is
    case a_law_number => k_is
    case l_law_number => k_is
    case c_law_number => k_is
    case k_law_number => k_is
    case a_law_mixed => k_is
    case l_law_mixed => k_is
    case c_law_mixed => k_is
    case k_law_mixed => k_is
    case a_law_long => k_is
    case l_law_long => k_is
    case c_law_long => k_is
    case k_law_long => k_is
    case a_law_dict => k_is
    case l_law_dict => k_is
    case c_law_dict => k_is
    case k_law_dict => k_is
    case a_law_kept => k_is
    case l_law_kept => k_is
    case c_law_kept => k_is
    case k_law_kept => k_is
    case a_law_together => k_is
    case l_law_together => k_is
    case c_law_together => k_is
    case k_law_together => k_is
    case a_law_renamed => k_is
    case l_law_renamed => k_is
    case c_law_renamed => k_is
    case k_law_renamed => k_is
    case a_law_is => k_is
    case l_law_is => k_is
    case c_law_is => k_is
    case k_law_is => k_is
    case a_law_right => k_is
    case l_law_right => k_is
    case c_law_right => k_is
    case k_law_right => k_is
    case a_law => k_is
    case l_law => k_is
    case c_law => k_is
    case k_law => k_is
    case a_Table => k_is
    case pg_Table => k_is
    case hd_Table => k_is
    case po_Table => k_is
    case sa_Table => k_is
    case kp_Table => k_is
    case mks_Table => k_is
    case ca_Table => k_is
    case ob_Table => k_is
    case ic_Table => k_is
    case tc_Table => k_is
    case si_Table => first | k_is | rfl
    case ss_Table => first | k_is | rfl
    case st_Table => first | k_is | rfl
    case sl_Table => first | k_is | rfl
    case sd_Table => first | k_is | rfl
    case oi_Table => first | k_is | rfl
    case oB_Table => first | k_is | rfl
    case sf_Table => k_is
    case cg_Table => first | k_is | rfl
    case ct_Table => first | k_is | rfl
    case n_Table_own_counts => k_is
    case f_Table_init => k_is
    case i_Table_init => k_is
    case l_Table_init => k_is
    case c_Table_init => k_is
    case k_Table_init => k_is
    case d_Table_init => k_is
    case f_Table_is_plain => k_is
    case g_Table_is_plain => k_is
    case t_Table_is_plain => k_is
    case r_Table_is_plain => k_is
    case l_Table_is_plain => k_is
    case c_Table_is_plain => k_is
    case k_Table_is_plain => k_is
    case f_Table_at => k_is
    case i_Table_at => k_is
    case l_Table_at => k_is
    case c_Table_at => k_is
    case k_Table_at => k_is
    case f_Table_used_keys => k_is
    case i_Table_used_keys => k_is
    case l_Table_used_keys => k_is
    case c_Table_used_keys => k_is
    case k_Table_used_keys => k_is
    case f_Table_counts => k_is
    case i_Table_counts => k_is
    case l_Table_counts => k_is
    case c_Table_counts => k_is
    case k_Table_counts => k_is
    case f_Table_times => k_is
    case i_Table_times => k_is
    case l_Table_times => k_is
    case c_Table_times => k_is
    case k_Table_times => k_is
    case f_Table_renamed => k_is
    case i_Table_renamed => k_is
    case l_Table_renamed => k_is
    case c_Table_renamed => k_is
    case k_Table_renamed => k_is
    case f_Table_add => k_is
    case i_Table_add => k_is
    case l_Table_add => k_is
    case c_Table_add => k_is
    case k_Table_add => k_is
    case f_Table_sub => k_is
    case i_Table_sub => k_is
    case l_Table_sub => k_is
    case c_Table_sub => k_is
    case k_Table_sub => k_is
    case f_Table_neg => k_is
    case i_Table_neg => k_is
    case l_Table_neg => k_is
    case c_Table_neg => k_is
    case k_Table_neg => k_is
    case f_Table_len => k_is
    case i_Table_len => k_is
    case l_Table_len => k_is
    case c_Table_len => k_is
    case k_Table_len => k_is
    case f_Table_contains => k_is
    case i_Table_contains => k_is
    case l_Table_contains => k_is
    case c_Table_contains => k_is
    case k_Table_contains => k_is
    case f_Table_eq => k_is
    case i_Table_eq => k_is
    case l_Table_eq => k_is
    case c_Table_eq => k_is
    case k_Table_eq => k_is
    case f_Table_repr => k_is
    case i_Table_repr => k_is
    case l_Table_repr => k_is
    case c_Table_repr => k_is
    case k_Table_repr => k_is
    case nr_Table_add => k_is
    case n1_Table_add => k_is
    case n2_Table_add => k_is
    case nr_Table_sub => k_is
    case n1_Table_sub => k_is
    case n2_Table_sub => k_is
    case ne_Table_eq => k_is
    case z_abs => k_is
    case z_all => k_is
    case z_bool => k_is
    case z_dict => k_is
    case z_divmod => k_is
    case z_int => k_is
    case z_isinstance => k_is
    case z_len => k_is
    case z_list => k_is
    case z_max => k_is
    case z_min => k_is
    case z_range => k_is
    case z_repr => k_is
    case z_sorted => k_is
    case z_str => k_is
    case a_LETTERS => k_is
    case a_KEY_SIGNS => k_is
    case a_LONGEST_KEY => k_is
#print axioms PySem.Challenge.cw_notesums_k12_tables_by_dicts_holds
