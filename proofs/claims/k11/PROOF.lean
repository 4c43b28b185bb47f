import PyProof.Rows.All
import Wide.All
import OpenK.AllK
import Wide.FinOn
import HandS.ForMost
import HandS.Exc
import HandS.OwnEq
import HandS.IsInst
import HandS.Property
import HandS.FStr
import HandS.Wide
import HandS.WideBits
import HandS.Star
import HandS.ClsMeth
import HandS.Defaults
import HandS.RaiseMore
import KE.KOpsOwn
import KE.KFmtOwn
import KE.KCallOwn
import PyProof.ReprRoads
import PyProof.InstEq
import PyProof.ReprNest
import HandS.ExcInit
import HandS.ExcIs
import HandS.ExcOwn
import HandS.WordsExc
import PySem.Challenge.RW_notesums_k11_ratios_by_integers
import HandS.Walk
import HandS.Zip
set_option Elab.async false
set_option autoImplicit false
set_option linter.all false
set_option maxRecDepth 100000
set_option maxHeartbeats 4000000
/-! Rules of my own over the hand layer: callees by Runs, own operators, own comparisons, own texts. -/
namespace NS
open PySem L2

section
variable {X : Cx} {A : Around} {f C : Addr} {sp : Sp}

/-- from a state of the body X the def at f, called somewhere below (the around is A), keeps sp and lets nothing out -/
def Runs (X : Cx) (A : Around) (f : Addr) (sp : Sp) : Prop :=
  ∀ (pins : List (Addr × Obj)) (σ : L2.St) (H : Hp) (s : Shared) (vs : List V) (us : List Value) (Q : VK),
    Inv X pins σ H s → Vals vs us → sp vs H Q E0 →
    wpAny (model X.prog X.w) A (call (.ref f) us) (EP X pins σ Q) X.xe s

theorem back_ok {pins : List (Addr × Obj)} {σ : L2.St} {H : Hp} {s s' : Shared} {Q : VK} {r : Result}
    (I : Inv X pins σ H s) (h : CR CX0 X.stack X.prog X.w H s Q E0 r s') :
    wants (EP X pins σ Q) X.xe r s' := by
  match r, h with
  | .ok (.ret _), h => exact I.after h

theorem Runs.of {k : Nat} {fd : FuncData} {ps : List Str}
    (F : FnOk X.prog X.w X.K X.mg X.base CX0 k f fd ps sp) (hb : Binds X.K fd ps [])
    (hr : Room k A) (hf : A.frames = X.A.frames) : Runs X A f sp := by
  intro pins σ H s vs us Q I rv h
  have z := I.env0
  have e0 : Env0 X.prog X.w X.K X.mg X.base A X.stack s H :=
    ⟨hf.trans z.frames, z.mod, z.bs, z.bsz, z.funs, z.frf, z.hok, z.bare⟩
  have hl : (us ++ []).length = ps.length := by
    rw [List.append_nil, ← rv.length]
    exact F.len _ _ _ _ h
  have hbb := hb s us I.kIn hl
  rw [List.append_nil] at hbb
  exact wpAny_call (codeAny_mono (F.run A X.stack s H ⟨us, []⟩ us vs Q E0 hr e0 hbb rv h) fun r s' q => back_ok I q)

theorem Runs.imp {sp' : Sp} (R : Runs X A f sp) (h : ∀ vs H Q E, sp' vs H Q E → sp vs H Q E) : Runs X A f sp' :=
  fun pins σ H s vs us Q I rv q => R pins σ H s vs us Q I rv (h _ _ _ _ q)

theorem rel_cmp {Q : Value → Shared → Prop} {v : V} {u : Value} {s : Shared} (r : RelV v u) (q : Q u s) : PySem.W.CmpBack Q u s := by
  cases v with
  | non => cases r; exact q
  | bl _ => cases r; exact q
  | int _ => obtain ⟨t, rfl⟩ := r; exact q
  | str _ => obtain ⟨t, rfl⟩ := r; exact q
  | byt _ => obtain ⟨t, rfl⟩ := r; exact q
  | flt _ => obtain ⟨t, rfl⟩ := r; exact q
  | ref _ => cases r; exact q
  | ty _ => cases r; exact q

/-- an instance that is tracked, as the library sees it -/
theorem inst_at {pins : List (Addr × Obj)} {σ : L2.St} {H : Hp} {s : Shared} {a dx : Addr} {fs : List (Str × V)}
    (I : Inv X pins σ H s) (h : H a = some (.ins C dx fs)) : ∃ od, PySem.W.InstAt s.heap a (PySem.W.instObj C dx) C (some od) := by
  obtain ⟨mA, J, _⟩ := ins_get I.hok h
  obtain ⟨od, J, _⟩ := J.look
  exact ⟨od, J⟩

/-- what a class says of the operator op by its own method at f; ints stand on the right too -/
structure OwnOp (K : PySem.W.Frag) (C : Addr) (op : Operator) (f : Addr) : Prop where
  at_ : PySem.W.findIn K (.ref C) (PySem.dunder op.info.2) = some (some (.ref f))
  fn : PySem.W.isFn K (.ref f) = true
  sf : PySem.W.selfFirst K C = true
  nr : PySem.W.findIn K (.ref C) (dunderR op.info.2) = some none
  i1 : ∃ fo, PySem.W.findIn K (.type "int") (PySem.dunder op.info.2) = some fo
  i2 : ∃ ro, PySem.W.findIn K (.type "int") (dunderR op.info.2) = some ro
  is_ : PySem.W.subIn K (.type "int") (.ref C) = some false

/-- x op y by x's own method: y an int or an instance of the same class -/
def rOwn (C : Addr) (sp : Sp) : R2 := fun x y H Q => ∃ a dx fs, x = .ref a ∧ H a = some (.ins C dx fs) ∧
  ((∃ i, y = .int i) ∨ ∃ b dy gs, y = .ref b ∧ H b = some (.ins C dy gs)) ∧ sp [x, y] H Q E0
theorem op_own {op : Operator} (T : OwnOp X.K C op f) (R : Runs X X.A f sp) : OpR X (binaryOp op) (rOwn C sp) := by
  intro pins s σ H x y v u Q I rx ry h
  obtain ⟨a, dx, fs, rfl, ha, hy, hsp⟩ := h
  cases rx
  obtain ⟨od, J⟩ := inst_at I ha
  obtain ⟨m, hF⟩ := I.fr
  have run := R pins σ H s [.ref a, y] [.ref a, u] Q I (.cons rfl (.cons ry .nil)) hsp
  have run' : wpAny (model X.prog X.w) X.A (call (.ref f) [.ref a, u]) (PySem.W.CmpBack (EP X pins σ Q)) X.xe s :=
    thn run fun u' s' ⟨v', H', I', r', q'⟩ => rel_cmp r' ⟨v', H', I', r', q'⟩
  rcases hy with ⟨i, rfl⟩ | ⟨b, dy, gs, rfl, hb⟩
  · obtain ⟨t, rfl⟩ := ry
    obtain ⟨fo, i1⟩ := T.i1
    obtain ⟨ro, i2⟩ := T.i2
    exact PySem.W.ksp_binT hF I.ok.mod.kin J (T := "int") rfl T.sf T.at_ T.fn T.nr (.inl rfl) i1 i2 T.is_ run'
  · cases ry
    obtain ⟨od', J'⟩ := inst_at I hb
    exact PySem.W.binop_K hF I.ok.mod.kin J J'.type T.sf T.at_ T.fn run'

/-- -x by x's own __neg__ -/
structure OwnNeg (K : PySem.W.Frag) (C : Addr) (f : Addr) : Prop where
  at_ : PySem.W.findIn K (.ref C) "__neg__" = some (some (.ref f))
  fn : PySem.W.isFn K (.ref f) = true
def rNegO (C : Addr) (sp : Sp) : V → Hp → VK → Prop := fun x H Q => ∃ a dx fs, x = .ref a ∧ H a = some (.ins C dx fs) ∧ sp [x] H Q E0
theorem un_own (T : OwnNeg X.K C f) (R : Runs X X.A f sp) : UnR X (unaryOp .USub) (rNegO C sp) := by
  intro pins s σ H x v Q I rx h
  obtain ⟨a, dx, fs, rfl, ha, hsp⟩ := h
  cases rx
  obtain ⟨od, J⟩ := inst_at I ha
  obtain ⟨m, hF⟩ := I.fr
  exact PySem.W.ksp_neg hF I.ok.mod.kin J T.at_ T.fn (R pins σ H s [.ref a] [.ref a] Q I (.cons rfl .nil) hsp)

/-! ### own == and != -/
structure OwnEq (K : PySem.W.Frag) (C : Addr) (f : Addr) : Prop where
  eq : PySem.W.findIn K (.ref C) "__eq__" = some (some (.ref f))
  ne : PySem.W.findIn K (.ref C) "__ne__" = some (some (.builtin "object.__ne__"))
  fn : PySem.W.isFn K (.ref f) = true
  ob : PySem.W.mroIn K C (.type "object") = some true
  ni : PySem.W.subIn K (.type "int") (.ref C) = some false
  ns : PySem.W.subIn K (.type "str") (.ref C) = some false
  nt : PySem.W.subIn K (.type "tuple") (.ref C) = some false
  nl : PySem.W.subIn K (.type "list") (.ref C) = some false
  nd : PySem.W.subIn K (.type "dict") (.ref C) = some false
/-- what may stand on the right of an own == -/
inductive Rgt (K : PySem.W.Frag) (C : Addr) (H : Hp) : V → Prop where
  | int (i : Int) : Rgt K C H (.int i)
  | str (x : Str) : Rgt K C H (.str x)
  | own {b dy : Addr} {gs : List (Str × V)} (h : H b = some (.ins C dy gs)) : Rgt K C H (.ref b)
  | tup {b : Addr} {xs : List V} (h : H b = some (.tup xs)) : Rgt K C H (.ref b)
  | lst {b : Addr} {xs : List V} (h : H b = some (.lst xs)) : Rgt K C H (.ref b)
  | dK {b : Addr} {kvs : List (Key × V)} (h : H b = some (.dK kvs)) : Rgt K C H (.ref b)
theorem rgt_type {pins : List (Addr × Obj)} {σ : L2.St} {H : Hp} {s : Shared} {y : V} {u : Value} (T : OwnEq X.K C f) (I : Inv X pins σ H s) (ry : RelV y u) (h : Rgt X.K C H y) :
    ∃ tb, PySem.W.Looks (model X.prog X.w) s.heap (typeOf u) tb ∧ PySem.W.notFirst X.K C tb = true := by
  have nf : ∀ {t : String}, PySem.W.subIn X.K (.type t) (.ref C) = some false → PySem.W.notFirst X.K C (.type t) = true := fun e => by
    unfold PySem.W.notFirst
    rw [e]
    simp
  cases h with
  | int i => obtain ⟨t, rfl⟩ := ry; exact ⟨.type "int", PySem.W.Looks.of_pure rfl, nf T.ni⟩
  | str x => obtain ⟨t, rfl⟩ := ry; exact ⟨.type "str", PySem.W.Looks.of_pure rfl, nf T.ns⟩
  | own hb =>
    cases ry
    obtain ⟨od', J'⟩ := inst_at I hb
    exact ⟨_, J'.type, by simp [PySem.W.notFirst]⟩
  | tup hb =>
    cases ry
    obtain ⟨_, its, _, o, e, hc, _⟩ := I.hok _ _ hb
    exact ⟨.type "tuple", hc ▸ (PySem.W.Looks.ld e).andThen .now, nf T.nt⟩
  | lst hb =>
    cases ry
    obtain ⟨_, its, n, _, e⟩ := I.hok _ _ hb
    exact ⟨.type "list", (PySem.W.Looks.ld e).andThen .now, nf T.nl⟩
  | dK hb =>
    cases ry
    obtain ⟨_, _, vs, _, o, es, ep, e, hx, _⟩ := I.hok _ _ hb
    exact ⟨.type "dict", hx.1 ▸ (PySem.W.Looks.ld e).andThen .now, nf T.nd⟩

/-- x == y by x's own __eq__ -/
def rEqO (K : PySem.W.Frag) (C : Addr) (sp : Sp) : R2 := fun x y H Q => ∃ a dx fs, x = .ref a ∧ H a = some (.ins C dx fs) ∧ Rgt K C H y ∧ sp [x, y] H Q E0
theorem op_eqO (T : OwnEq X.K C f) (hr : X.A.units < cLine) (R : Runs X X.A f sp) : OpR X (compareOp .Eq) (rEqO X.K C sp) := by
  intro pins s σ H x y v u Q I rx ry h
  obtain ⟨a, dx, fs, rfl, ha, hy, hsp⟩ := h
  cases rx
  obtain ⟨od, J⟩ := inst_at I ha
  obtain ⟨m, hF⟩ := I.fr
  obtain ⟨tb, Lb, hn⟩ := rgt_type T I ry hy
  show wpAny (model X.prog X.w) X.A (richCompare .Eq (.ref a) u) (EP X pins σ Q) X.xe s
  exact PySem.W.cmp_K (op := .Eq) hr hF I.ok.mod.kin J Lb hn T.eq T.fn
    (thn (R pins σ H s [.ref a, y] [.ref a, u] Q I (.cons rfl (.cons ry .nil)) hsp) fun u' s' ⟨v', H', I', r', q'⟩ => rel_cmp r' ⟨v', H', I', r', q'⟩)

/-- a special method that is a builtin of the base, through the class -/
theorem ifBound_B {M : Model} {E : Value → Shared → Prop} {s : Shared} {K : PySem.W.Frag} {x : Addr} {ox : Obj} {od : Option Obj} {name : Str} {id : String} {args : List Value} {Q : Option Value → Shared → Prop}
    (KX : K.In s.heap) (I : PySem.W.InstAt s.heap x ox C od) (hs : PySem.W.findIn K (.ref C) name = some (some (.builtin id))) (hb : ∀ self, bindSpecial (.builtin id) self = pure (.builtin id, [self]))
    (h : wpAny M A (call (.builtin id) (.ref x :: args)) (fun v => Q (some v)) E s) : wpAny M A (callSpecialIfBound? (.ref x) name args) Q E s := by
  simp only [callSpecialIfBound?, bindSpecialIfBound?]
  refine wpAny_holding (wpAny_bind (wpAny_bind (wpAny_bind (I.type.here ((PySem.W.looks_findIn KX hs).here ?_)))))
  have last : wpAny M A (call (.builtin id) ([.ref x] ++ args) >>= fun v => pure (some v)) Q E s :=
    wpAny_bind (wpAny_mono h (fun v s' q => wpAny_pure q) fun _ _ q => q)
  refine wpAny_bind (wpAny_askSetting (wpAny_ite ?_))
  simp only [hb]
  split
  · exact wpAny_bind (wpAny_pure (wpAny_pure last))
  · exact wpAny_tryCatch (wpAny_bind (wpAny_pure (wpAny_pure last)))

theorem ne_K {E : Value → Shared → Prop} {s : Shared} {K : PySem.W.Frag} {x L : Addr} {ox : Obj} {od : Option Obj} {h₀ : Heap} {m : Str → Option Value} {b tb : Value} {prog : Program} {w : World} {Q : Value → Shared → Prop}
    (T : OwnEq K C f) (hu : A.units + 1 < cLine) (Z : PyProof.Rows.Fr h₀ L s.heap m) (K₀ : K.In h₀) (I : PySem.W.InstAt s.heap x ox C od) (hb : PySem.W.Looks (model prog w) s.heap (typeOf b) tb) (hn : PySem.W.notFirst K C tb = true)
    (h : wpAny (model prog w) A.in1 (call (.ref f) [.ref x, b]) (fun v s' => ∃ r, v = .bool r ∧ Q (.bool (!r)) s') E s) : wpAny (model prog w) A (richCompare .NotEq (.ref x) b) Q E s := by
  have KX := K₀.keeps Z.keep
  have one : wpAny (model prog w) A (tryCompare (.ref x) "__ne__" b) (fun r s' => ∃ v, r = some v ∧ Q v s') E s := by
    unfold tryCompare
    refine wpAny_bind (ifBound_B KX I T.ne F.cmp_object.ne.bind (wpAny_call (codeAny_call_builtin F.cmp_object.ne.plain F.cmpEntry_ne
      (PySem.W.check_slot (i := "object.__ne__") (owner := "object") (n := "__ne__") F.cmpKind_ne F.cmpSplit_ne (I.type.andThen (PySem.W.looks_mroIn KX T.ob)) (F.cmpArgs_ne _ _) ?_))))
    unfold Builtin.«object.__ne__»
    refine wpAny_bind (wpAny_pure ?_)
    refine wpAny_bind (wpAny_cRoomFor hu ?_)
    refine wpAny_bind (PySem.W.ifBound_K KX I T.eq T.fn (wpAny_mono h (fun v s' q => ?_) fun _ _ e => e))
    obtain ⟨r, rfl, q⟩ := q
    refine wpAny_bind (wpAny_truthy_bool ?_)
    exact wpAny_pure (wpAny_pure ⟨_, rfl, q⟩)
  unfold richCompare
  simp only [oneThing_ref]
  refine wpAny_holding (wpAny_bind (wpAny_cRoomFor (Nat.lt_of_succ_lt hu) ?_))
  refine wpAny_bind (I.type.here (wpAny_bind (hb.here ?_)))
  have fin : wpAny (model prog w) A (tryCompare (.ref x) (cmpInfo .NotEq).2.1 b) (fun r s' => ∃ v, r = some v ∧ Q v s') E s := one
  split
  · rename_i q
    have e : PySem.W.subIn K tb (.ref C) = some false := by
      rcases Bool.or_eq_true_iff.mp hn with e | e
      · rw [beq_iff_eq.mp e] at q
        simp at q
      · exact beq_iff_eq.mp e
    refine wpAny_bind ((PySem.W.looks_subIn KX e).here ?_)
    simp only [Bool.false_eq_true, if_false]
    refine wpAny_bind (wpAny_mono fin (fun r s' z => ?_) fun _ _ e => e)
    obtain ⟨v, rfl, hq⟩ := z
    exact wpAny_pure hq
  · refine wpAny_bind (wpAny_pure ?_)
    simp only [Bool.false_eq_true, if_false]
    refine wpAny_bind (wpAny_mono fin (fun r s' z => ?_) fun _ _ e => e)
    obtain ⟨v, rfl, hq⟩ := z
    exact wpAny_pure hq

/-- x != y where x has an own __eq__ and no own __ne__ -/
def rNeO (K : PySem.W.Frag) (C : Addr) (sp : Sp) : R2 := fun x y H Q => ∃ a dx fs, x = .ref a ∧ H a = some (.ins C dx fs) ∧ Rgt K C H y ∧ sp [x, y] H (fun v H' => ∃ r, v = .bl r ∧ Q (.bl (!r)) H') E0
theorem op_neO (T : OwnEq X.K C f) (hr : X.A.units + 1 < cLine) (R : Runs X X.A.in1 f sp) : OpR X (compareOp .NotEq) (rNeO X.K C sp) := by
  intro pins s σ H x y v u Q I rx ry h
  obtain ⟨a, dx, fs, rfl, ha, hy, hsp⟩ := h
  cases rx
  obtain ⟨od, J⟩ := inst_at I ha
  obtain ⟨m, hF⟩ := I.fr
  obtain ⟨tb, Lb, hn⟩ := rgt_type T I ry hy
  show wpAny (model X.prog X.w) X.A (richCompare .NotEq (.ref a) u) (EP X pins σ Q) X.xe s
  refine ne_K T hr hF I.ok.mod.kin J Lb hn (thn (R pins σ H s [.ref a, y] [.ref a, u] _ I (.cons rfl (.cons ry .nil)) hsp) fun u' s' ⟨v', H', I', r', b, e, q'⟩ => ?_)
  subst e
  cases r'
  exact ⟨b, rfl, .bl (!b), H', I', rfl, q'⟩

/-! ### str(x), repr(x) by own methods -/
structure OwnStr (K : PySem.W.Frag) (C : Addr) (nm : Str) (f : Addr) : Prop where
  at_ : PySem.W.findIn K (.ref C) nm = some (some (.ref f))
  fn : PySem.W.isFn K (.ref f) = true
def rStrO (C : Addr) (sp : Sp) : List V → Hp → VK → Prop := fun xs H Q => ∃ a dx fs, xs = [.ref a] ∧ H a = some (.ins C dx fs) ∧ sp [.ref a] H (fun v H' => ∃ z, v = .str z ∧ Q (.str z) H') E0
theorem call_strO (T : OwnStr X.K C "__str__" f) (hu : X.A.in1.in1.units < cLine) (R : Runs X X.A.in1.in1 f sp) : CallR X (.type "str") (rStrO C sp) := by
  intro pins s σ H xs us Q I r h
  obtain ⟨a, dx, fs, rfl, ha, hsp⟩ := h
  obtain ⟨u, rfl, ru⟩ := vals1 r
  cases ru
  obtain ⟨od, J⟩ := inst_at I ha
  refine PySem.W.kso_call hu I.kIn J T.at_ T.fn (thn (R pins σ H s [.ref a] [.ref a] _ I (.cons rfl .nil) hsp) fun u' s' ⟨v', H', I', r', z, e, q'⟩ => ?_)
  subst e
  obtain ⟨t, rfl⟩ := r'
  exact ⟨.str z, H', I', ⟨t, rfl⟩, q'⟩
theorem call_reprO (T : OwnStr X.K C "__repr__" f) (hu : X.A.in1.units < cLine) (R : Runs X X.A.in1 f sp) : CallR X (.builtin "repr") (rStrO C sp) := by
  intro pins s σ H xs us Q I r h
  obtain ⟨a, dx, fs, rfl, ha, hsp⟩ := h
  obtain ⟨u, rfl, ru⟩ := vals1 r
  cases ru
  obtain ⟨od, J⟩ := inst_at I ha
  obtain ⟨m, hF⟩ := I.fr
  refine PySem.W.repr_K hu hF I.ok.mod.kin J T.at_ T.fn (thn (R pins σ H s [.ref a] [.ref a] _ I (.cons rfl .nil) hsp) fun u' s' ⟨v', H', I', r', z, e, q'⟩ => ?_)
  subst e
  obtain ⟨t, rfl⟩ := r'
  exact ⟨.str z, H', I', ⟨t, rfl⟩, q'⟩

end
end NS

/-! repr of values over the hand layer, the guards being known. -/
namespace NS
open PySem L2

/-- somewhere below the body X, with room; g: who is under repr -/
structure Bel (X : Cx) (n : Nat) (A : Around) (g : List Code) : Prop where
  room : Room n A
  fr : A.frames = X.A.frames
  gd : A.guards = some g

/-- repr of v gives t, wherever none of the objects as is under repr; only new objects are made -/
def RepV (X : Cx) (n : Nat) (as : List Addr) (v : V) (H : Hp) (t : Str) : Prop :=
  ∀ (A : Around) (g : List Code) (base : Nat) (pins : List (Addr × Obj)) (σ : L2.St) (H1 : Hp) (s : Shared) (u : Value),
    Bel X n A g → (∀ b ∈ as, Clear g b) → base + t.length ≤ sizeLine → Ext H H1 → Inv X pins σ H1 s → RelV v u →
    wpAny (model X.prog X.w) A (pyReprUnder base u) (fun z s' => z = t ∧ ∃ H2, Inv X pins σ H2 s' ∧ Ext H1 H2) X.xe s

section
variable {X : Cx} {n : Nat} {as : List Addr} {H : Hp}

theorem RepV.of_is {v : V} {t : Str} (h : ∀ u, RelV v u → ReprIs X.prog X.w u t) : RepV X n as v H t :=
  fun A g base pins σ H1 s u _ _ hz _ I r => h u r base hz A X.xe s _ fun tk => ⟨rfl, H1, I.tok tk, Ext.rfl'⟩
theorem repV_str (x : Str) (hz : (reprText x).length ≤ sizeLine) : RepV X n as (.str x) H (reprText x) :=
  RepV.of_is fun u r => by
    obtain ⟨t, rfl⟩ := r
    exact ReprIs.str x t hz
theorem repV_int {i : Int} (hz : i.natAbs.log2 < 1920) : RepV X n as (.int i) H (toString i) :=
  RepV.of_is fun u r => by
    obtain ⟨t, rfl⟩ := r
    exact ReprIs.int t hz
theorem repV_bl (b : Bool) : RepV X n as (.bl b) H (if b then "True" else "False") :=
  RepV.of_is fun u r => by
    cases r
    exact ReprIs.bool b
theorem RepV.mono {as' : List Addr} {m : Nat} {H' : Hp} {v : V} {t : Str} (h : RepV X n as v H t) (ha : ∀ b ∈ as, b ∈ as') (hn : n ≤ m) (e : Ext H H') : RepV X m as' v H' t :=
  fun A g base pins σ H1 s u b c hz e1 I r => h A g base pins σ H1 s u ⟨b.room.mono hn, b.fr, b.gd⟩ (fun x hx => c x (ha x hx)) hz (e.trans e1) I r

theorem Bel.under {A : Around} {g : List Code} {c : Code} (b : Bel X (n + 1) A g) (hg : c.isGuard = true) (he : c.envs = []) (hw : c.weight = 1) (hu : c.cUnits = 1) : Bel X n (A.under c) (c :: g) := by
  refine ⟨⟨b.room.hd, ?_, ?_⟩, ?_, guards_under_guard hg b.gd⟩
  · have := b.room.dp
    show A.depth + c.weight + 3 * n + 5 < _
    omega
  · have := b.room.un
    show A.units + c.cUnits + 16 * n + 200 < _
    omega
  · show pushEnvs c.envs A.frames = _
    rw [he]
    exact b.fr

theorem loop_envs (args : Args) : (Code.builtin "list.__repr__.loop" args).envs = [] := by
  first | rfl | simp [Code.envs, Code.isFrame]
theorem loop_weight (args : Args) : (Code.builtin "list.__repr__.loop" args).weight = 1 := by
  have h := isGuard_list_loop args
  first | rfl | simp [Code.weight, h, Code.frames, Code.isFrame, Code.isCreation, Code.isCaller]
theorem loop_units (args : Args) : (Code.builtin "list.__repr__.loop" args).cUnits = 1 := by
  first | rfl | simp [Code.cUnits, Code.frames, Code.isFrame]

theorem unpinned {pins : List (Addr × Obj)} {σ : L2.St} {s : Shared} {p : Addr × Obj} (I : Inv X (p :: pins) σ H s) : Inv X pins σ H s :=
  I.pins_of fun r hr => I.pin r (List.mem_append_right _ (List.mem_cons_of_mem _ hr))
/-- the parts' list as it grows -/
abbrev partsO (acc : Array Value) (c : Nat) : Obj := { cls := .type "list", dict := none, data := .seq acc c, slots := #[] }

theorem loopV {A : Around} {R : Result → Shared → Prop} {a P : Addr} {xs : List V} {ts : List Str} {base : Nat} {g : List Code} {pins : List (Addr × Obj)} {σ : L2.St}
    (b : Bel X (n + 1) A g) (hcl : ∀ b ∈ as, Clear g b) (hna : a ∉ as) (ha : H a = some (.lst xs)) (hlen : ts.length = xs.length)
    (hT : ∀ (i : Nat) (x : V), xs[i]? = some x → ∃ t, ts[i]? = some t ∧ RepV X n as x H t) (hsz : base + (listText ts).length ≤ sizeLine)
    (hR : ∀ u s' H2, Inv X pins σ H2 s' → Ext H H2 → R (.ok (.ret (.str (listText ts) u))) s') (hE : ∀ e s', X.xe e s' → R (.error e) s') :
    ∀ (k i : Nat) (s : Shared) (H1 : Hp) (acc : Array Value) (c : Nat) (done : List (Str × Tok)), xs.length - i = k → i ≤ xs.length → Inv X ((P, partsO acc c) :: pins) σ H1 s → FpOk X pins H1 P → Ext H H1 →
      acc.toList = strValues done → done.map (·.1) = ts.take i →
      codeAny (model X.prog X.w) A (.builtin "list.__repr__.loop" ⟨[.ref a, rawInt i, .ref P, rawInt ((base + piled (ts.take i) : Nat) : Int)], []⟩) R s := by
  have hX : (listText ts).length = (textFrom 0 "[" ts).length + 1 := by
    show (textFrom 0 "[" ts ++ "]").length = _
    rw [strLen_append]
    rfl
  have hL := textFrom_len ts 0 "["
  have z1 : xs.length ≤ sizeLine := by
    have h1 := hL.1
    rw [if_neg (Nat.lt_irrefl 0)] at h1
    omega
  have z2 : ∀ t ∈ ts, t.length ≤ sizeLine := fun t ht => by
    have h2 := hL.2.1 t ht
    omega
  have hp3 := piled_le_listText ts
  intro k
  induction k with
  | zero =>
    intro i s H1 acc c done hk hi I fp e1 hacc hdone
    have hin : i = xs.length := by omega
    obtain ⟨_, its, na, rv, ho⟩ := I.hok a _ (e1 _ _ ha)
    have hP := (I.pin (P, partsO acc c) (List.mem_append_right _ List.mem_cons_self)).1
    have hn : its.toArray[(i : Int).toNat]? = none := by
      have := rv.length
      simp
      omega
    refine codeAny_builtin F.entry_list_repr_loop ?_
    show wpAny _ _ (Builtin.«list.__repr__.loop» ⟨[.ref a, .int i 0, .ref P, .int ((base + piled (ts.take i) : Nat) : Int) 0], []⟩) _ _ s
    rw [repr_loop_tree]
    refine wpAny_bind (wpAny_listItems ho rfl ?_)
    simp only [hn]
    unfold reprEnd
    refine wpAny_bind (wpAny_listItems hP rfl ?_)
    rw [hacc, repr_fold]
    refine wpAny_bind (wpAny_pure ?_)
    have hall : done.map (·.1) = ts := by rw [hdone, hin, ← hlen, List.take_length]
    rw [hall]
    refine wpAny_bind (wpAny_mkStr (wpAny_pure ?_) (by show (listText ts).length ≤ sizeLine; omega))
    exact hR _ _ H1 ((unpinned I).tok _) e1
  | succ k ih =>
    intro i s H1 acc c done hk hi I fp e1 hacc hdone
    have hlt : i < xs.length := by omega
    obtain ⟨_, its, na, rv, ho⟩ := I.hok a _ (e1 _ _ ha)
    obtain ⟨t, ht, hrep⟩ := hT i xs[i] (List.getElem?_eq_getElem hlt)
    obtain ⟨u, hu, ru⟩ := rv.get (List.getElem?_eq_getElem hlt)
    have hp1 := piled_take_succ ht
    have hp2 := piled_take_le ts (i + 1)
    have hsome : its.toArray[(i : Int).toNat]? = some u := by
      rw [Int.toNat_natCast]
      simpa using hu
    refine codeAny_builtin F.entry_list_repr_loop ?_
    show wpAny _ _ (Builtin.«list.__repr__.loop» ⟨[.ref a, .int i 0, .ref P, .int ((base + piled (ts.take i) : Nat) : Int) 0], []⟩) _ _ s
    rw [repr_loop_tree]
    refine wpAny_bind (wpAny_listItems ho rfl ?_)
    simp only [hsome]
    rw [Int.toNat_natCast]
    refine wpAny_bind (wpAny_holding (wpAny_mono (hrep _ _ (base + piled (ts.take i) + 1) _ σ H1 s u (b.under (isGuard_list_loop _) (loop_envs _) (loop_weight _) (loop_units _)) (fun x hx => (hcl x hx).cons (a := a) fun e => hna (e ▸ hx)) (by omega) e1 I ru) (fun z s2 q => ?_) fun e s2 q => hE e s2 q))
    obtain ⟨rfl, H2, I2, e2⟩ := q
    refine wpAny_bind (wpAny_mkStr ?_ (z2 z (List.mem_of_getElem? ht)))
    refine wpAny_bind ?_
    show wpAny _ _ (updateSeq P _) _ _ _
    have hP := (I2.pin (P, partsO acc c) (List.mem_append_right _ List.mem_cons_self))
    have hasz : acc.size ≤ sizeLine := by
      have q1 : acc.toList.length = acc.size := by simp
      have q2 : (strValues done).length = done.length := by simp [strValues]
      have q3 : done.length = (ts.take i).length := by rw [← hdone, List.length_map]
      have q4 : (ts.take i).length ≤ i := by rw [List.length_take]; omega
      rw [hacc] at q1
      omega
    have fp2 : FpOk X pins H2 P := ⟨hP.2.1, fp.2⟩
    refine wpAny_updateSeq hP.1 rfl (wpAny_pure ⟨F.quiet_list_repr_loop _, ?_⟩) hasz
    have q1 : ((i : Int) + 1) = ((i + 1 : Nat) : Int) := by omega
    have q2 : base + piled (ts.take i) + (z.length + 2) = base + piled (ts.take (i + 1)) := by omega
    rw [q1, q2]
    obtain ⟨f0, f1, f2, f3, f4, f5⟩ := fp2
    have up : (s2.heap.update P (Obj.mapSeq (·.push (.str z s2.toks)))).get? P = some (Obj.mapSeq (·.push (.str z s2.toks)) (partsO acc c)) := Heap.get?_update_self _ (show s2.heap.get? P = some (partsO acc c) from hP.1) rfl
    have I3 := (unpinned I2).turned (t' := s2.toks + 1) (h' := s2.heap.update P (Obj.mapSeq (·.push (.str z s2.toks)))) (fun x o hx e => (Heap.get?_update_other _ _ (Ne.symm hx)).trans e) f0 f1 f3 f4 f5
    refine ih (i + 1) _ H2 (acc.push (.str z s2.toks)) (if (acc.push (.str z s2.toks)).size == acc.size then c else c + 1) (done ++ [(z, s2.toks)]) (by omega) hlt (I3.pins_of fun r hr => ?_) ⟨f0, f1, f2, f3, f4, f5⟩ (e1.trans e2) (by simp [hacc, strValues]) (by simp [List.take_add_one, ht, hdone])
    rcases List.mem_cons.mp hr with rfl | hr
    · exact ⟨up, f0, f1, f2, fun v z => nomatch z⟩
    · exact I3.pin r (List.mem_append_right _ hr)

/-- items shown one by one -/
structure RepL (X : Cx) (n : Nat) (as : List Addr) (xs : List V) (H : Hp) (ts : List Str) : Prop where
  len : ts.length = xs.length
  at_ : ∀ (i : Nat) (x : V), xs[i]? = some x → ∃ t, ts[i]? = some t ∧ RepV X n as x H t
theorem RepL.nil : RepL X n as [] H [] := ⟨rfl, fun i x h => by simp at h⟩
theorem RepL.cons {x : V} {xs : List V} {t : Str} {ts : List Str} (h : RepV X n as x H t) (r : RepL X n as xs H ts) : RepL X n as (x :: xs) H (t :: ts) := by
  refine ⟨by simp [r.len], fun i y e => ?_⟩
  cases i with
  | zero =>
    simp at e
    subst e
    exact ⟨t, rfl, h⟩
  | succ i =>
    simp at e
    obtain ⟨t', q, z⟩ := r.at_ i y e
    exact ⟨t', by simpa using q, z⟩

theorem reprAtV {A : Around} {R : Result → Shared → Prop} {a : Addr} {xs : List V} {ts : List Str} {base : Nat} {g : List Code} {pins : List (Addr × Obj)} {σ : L2.St} {H1 : Hp} {s : Shared}
    (b : Bel X (n + 1) A g) (hca : Clear g a) (hcl : ∀ b ∈ as, Clear g b) (hna : a ∉ as) (ha : H a = some (.lst xs)) (hT : RepL X n as xs H ts) (hsz : base + (listText ts).length ≤ sizeLine) (e1 : Ext H H1) (I : Inv X pins σ H1 s)
    (hR : ∀ u s' H2, Inv X pins σ H2 s' → Ext H1 H2 → R (.ok (.ret (.str (listText ts) u))) s') (hE : ∀ e s', X.xe e s' → R (.error e) s') :
    wpAny (model X.prog X.w) A.in1 (Builtin.listReprAt base ⟨[.ref a], []⟩) (fun fin s' => match fin with | .done f => R (.ok f) s' | .again c' => c'.quiet = true ∧ codeAny (model X.prog X.w) A c' R s') (fun e s' => R (.error e) s') s := by
  obtain ⟨_, its, na, rv, ho⟩ := I.hok a _ (e1 _ _ ha)
  cases rv with
  | nil =>
    have e : ts = [] := List.length_eq_zero_iff.mp hT.len
    subst e
    exact wpAny_list_repr_empty ho rfl (hR _ _ H1 (I.tok _) Ext.rfl')
  | cons r0 rv =>
    rename_i x0 u0 xs0 us0
    refine wpAny_list_repr_head (A := A.in1) b.gd (fun v rest kw hm => listSameRef_of_ne (hca _ _ _ _ hm)) ho rfl ?_
    refine wpAny_bind (m := newList []) (wpAny_newObj_type ?_)
    refine wpAny_pure ⟨F.quiet_list_repr_loop _, ?_⟩
    have I2 : Inv X ((s.heap.objs.size, partsO #[] 0) :: pins) σ H1 { s with heap := s.heap.push (partsO #[] 0) } :=
      ClX.pin_new (t' := s.toks) I (fun _ _ z => Heap.get?_push_of_some _ z) (Nat.le_refl _) (Heap.get?_push_size s.heap rfl) (fun v z => nomatch z)
    exact loopV (P := s.heap.objs.size) (H := H1) b hcl hna (e1 _ _ ha) hT.len (fun i x h => let ⟨t, q, z⟩ := hT.at_ i x h; ⟨t, q, z.mono (fun _ m => m) (Nat.le_refl _) e1⟩) hsz hR hE _ 0 _ H1 #[] 0 [] rfl (Nat.zero_le _) I2
      (I.fpOk (Nat.le_refl _) (I.hok.fresh (Nat.le_refl _))) Ext.rfl' rfl (by simp)

theorem typ_list {a : Addr} {xs : List V} {pins : List (Addr × Obj)} {σ : L2.St} {s : Shared} (I : Inv X pins σ H s) (ha : H a = some (.lst xs)) : s.TypeIs (.ref a) "list" := by
  obtain ⟨_, its, na, rv, ho⟩ := I.hok a _ ha
  exact ⟨_, ho, rfl⟩

/-- a list within -/
theorem repV_lst {a : Addr} {xs : List V} {ts : List Str} (hna : a ∉ as) (ha : H a = some (.lst xs)) (hT : RepL X n as xs H ts) : RepV X (n + 1) (a :: as) (.ref a) H (listText ts) := by
  intro A g base pins σ H1 s u b c hz e1 I r
  cases r
  refine wpAny_pyReprUnder_ref (by omega) ?_
  refine wpAny_pyReprObjUnder_twin (twin := "list.__repr__.under") (typ_list I (e1 _ _ ha)) F.slot_list_repr.toG rfl b.room.units0 ?_
  refine call_twin_plain F.plain_list_repr_under F.entry_list_repr_under F.check_list_repr_under (typ_list I (e1 _ _ ha)) F.slot_list_repr.toG (F.args_list_repr_1 _)
    (reprAtV (R := callEnd _ X.xe) b (c a (.head _)) (fun x hx => c x (.tail _ hx)) hna ha hT hz e1 I (fun u' s' H2 I2 e2 => ?_) fun e s' q => q)
  exact ⟨⟨_, _, rfl⟩, _, _, rfl, rfl, H2, I2, e2⟩

/-- repr(l) -/
def rRepL (X : Cx) (n : Nat) : List V → Hp → VK → Prop := fun vs H Q => ∃ a xs ts as, vs = [.ref a] ∧ a ∉ as ∧ H a = some (.lst xs) ∧ RepL X n as xs H ts ∧ (listText ts).length ≤ sizeLine ∧ ∀ H', Ext H H' → Q (.str (listText ts)) H'
theorem call_reprL (hr : Room (n + 2) X.A) (hg : X.A.guards = some []) : CallR X (.builtin "repr") (rRepL X n) := by
  intro pins s σ H vs us Q I r h
  obtain ⟨a, xs, ts, as, rfl, hna, ha, hT, hz, q⟩ := h
  obtain ⟨u, rfl, ru⟩ := vals1 r
  cases ru
  refine call_repr_slot (by have := hr.un; omega) (typ_list I ha) F.slot_list_repr.toG ?_
  refine wpAny_call (codeAny_call_builtin F.slot_list_repr.plain F.entry_list_repr (F.slot_list_repr.check _ _ _ _ _ _ _ _ (typ_list I ha) (F.args_list_repr_1 _)
    (reprAtV (A := X.A.in1) (base := 0) (R := callEnd _ X.xe) (g := []) ⟨hr.in1, rfl, hg⟩ (Clear.nil _) (fun b _ => Clear.nil b) hna ha hT (by omega) Ext.rfl' I (fun u' s' H2 I2 e2 => ?_) fun e s' q => q)))
  exact ⟨_, _, rfl, .str _, H2, I2, ⟨_, rfl⟩, q H2 e2⟩

/-- an instance with an own __repr__ -/
theorem repV_own {C f a dx : Addr} {fs : List (Str × V)} {sp : Sp} {t : Str} (T : OwnStr X.K C "__repr__" f) (R : ∀ A, Room n A → A.frames = X.A.frames → Runs X A f sp)
    (ha : H a = some (.ins C dx fs)) (hsp : ∀ H1, Ext H H1 → ∀ Q : VK, (∀ H2, Ext H1 H2 → Q (.str t) H2) → sp [.ref a] H1 Q E0) : RepV X n as (.ref a) H t := by
  intro A g base pins σ H1 s u b c hz e1 I r
  cases r
  obtain ⟨od, J⟩ := inst_at I (e1 _ _ ha)
  refine wpAny_pyReprUnder_ref (by omega) ?_
  unfold pyReprObjUnder pyReprObjBy
  refine wpAny_bind (wpAny_cRoomFor b.room.units0 ?_)
  refine wpAny_bind (wpAny_bind (J.type.here ((PySem.W.looks_findIn I.kIn T.at_).here ?_)))
  rw [if_neg (by simp)]
  have run := R A b.room b.fr pins σ H1 s [.ref a] [.ref a] (fun v H2 => v = .str t ∧ Ext H1 H2) I (.cons rfl .nil) (hsp H1 e1 _ fun H2 e2 => ⟨rfl, e2⟩)
  have last : wpAny (model X.prog X.w) A (call (.ref f) ([.ref a] ++ []) >>= fun v => pure (some v)) (fun o s' => ∃ x k H2, o = some (Value.str x k) ∧ x = t ∧ Inv X pins σ H2 s' ∧ Ext H1 H2) X.xe s := by
    refine wpAny_bind (wpAny_mono run (fun v s' q => ?_) fun _ _ q => q)
    obtain ⟨v', H2, I2, r2, rfl, e2⟩ := q
    obtain ⟨k, rfl⟩ := r2
    exact wpAny_pure ⟨t, k, H2, rfl, rfl, I2, e2⟩
  dsimp only
  refine wpAny_bind (wpAny_mono (Q := fun o s' => ∃ x k H2, o = some (Value.str x k) ∧ x = t ∧ Inv X pins σ H2 s' ∧ Ext H1 H2) ?_ (fun o s' q => ?_) fun _ _ q => q)
  · simp only [callSpecialIfBoundBy?, bindSpecialIfBound?]
    refine wpAny_holding (wpAny_bind (wpAny_bind (wpAny_bind (J.type.here ((PySem.W.looks_findIn I.kIn T.at_).here ?_)))))
    refine wpAny_bind (wpAny_askSetting (wpAny_ite ?_))
    split
    · exact wpAny_bind ((PySem.W.bind_fn I.kIn _ (beq_iff_eq.mp T.fn)).here (wpAny_pure (by exact last)))
    · exact wpAny_tryCatch (wpAny_bind ((PySem.W.bind_fn I.kIn _ (beq_iff_eq.mp T.fn)).here (wpAny_pure (by exact last))))
  · obtain ⟨x, k, H2, rfl, rfl, I2, e2⟩ := q
    exact wpAny_bind (wpAny_isInstance (T := "str") (b := true) rfl isSubtype_str_str (wpAny_pure ⟨x, k, rfl, rfl, H2, I2, e2⟩))

end
end NS

/-! Defs whose promise holds where nothing is under repr (guards known to be none); calls by Runs; the law's end. -/
namespace NS
open PySem L2

/-- as FnOk, for calls where nothing is under repr; no exception leaves -/
structure FnG (P : Program) (w : World) (K : PySem.W.Frag) (mg : Str → Option Value) (base : Heap) (k : Nat) (f : Addr) (fd : FuncData) (ps : List Str) (sp : Sp) : Prop where
  len : ∀ vs H Q E, sp vs H Q E → vs.length = ps.length
  run : ∀ (A : Around) (outer : List Env) (s : Shared) (H : Hp) (args : Args) (us : List Value) (vs : List V) (Q : VK), A.guards = some [] → Room k A →
    Env0 P w K mg base A outer s H → BindsTo s fd args (ps.zip us) → Vals vs us → sp vs H Q E0 → codeAny (model P w) A (.call (.ref f) args) (CR CX0 outer P w H s Q E0) s

section
variable {P : Program} {w : World} {K : PySem.W.Frag} {mg : Str → Option Value} {base : Heap} {k : Nat} {f : Addr} {fd : FuncData} {ps : List Str} {sp : Sp}
theorem FnG.of (F : FnOk P w K mg base CX0 k f fd ps sp) : FnG P w K mg base k f fd ps sp :=
  ⟨F.len, fun A outer s H args us vs Q _ hr e0 hb rv h => F.run A outer s H args us vs Q E0 hr e0 hb rv h⟩
theorem FnG.mono {j : Nat} (F : FnG P w K mg base j f fd ps sp) (h : j ≤ k) : FnG P w K mg base k f fd ps sp :=
  ⟨F.len, fun A outer s H args us vs Q g hr => F.run A outer s H args us vs Q g (hr.mono h)⟩

/-- a def of the text, its body walked where nothing is under repr -/
theorem okG {x qual : Str} {st : Stmt} {N : List Str} (F : Fun K x qual st f fd) (S : FnScope N ps (defScope st)) (len : ∀ vs H Q E, sp vs H Q E → vs.length = ps.length)
    (hbody : ∀ (cdv : Value) (A : Around) (outer : List Env) (s : Shared) (H : Hp) (vs : List V) (Q : VK), A.guards = some [] → Room k (A.deeper (PyProof.Rows.envOfC qual (defScope st) s.heap.objs.size f cdv)) → sp vs H Q E0 →
      ∃ t, PSs (cxOf CX0 P w K mg base N qual (defScope st) f cdv A outer s H E0).nox (defBody st) t ∧ t { nx := fun _ H' => Q .non H', rt := Q } (start N vs) H) : FnG P w K mg base (k + 1) f fd ps sp := by
  obtain ⟨oc, od, kV, doc, pm, an, cdv, ct, osl, rfl, lk, hcd⟩ := F.ex
  refine ⟨len, fun A outer s H args us vs Q hg hr e0 hb rv hsp => ?_⟩
  have keep : ∀ b o, base.get? b = some o → s.heap.get? b = some o := fun b o e => (e0.bs b o e).1
  have KX := e0.mod.kin.keeps keep
  refine codeAny_call_function hr.depth (KX _ _ lk) rfl S.co S.gen rfl (PySem.W.codeRec_of KX hcd) (hb _ _ _ _ (wpAny_newFunctionEnv_cells S.kind (fun y hy => ?_) fun env he s1 x => ?_))
  · obtain ⟨n, v⟩ := y
    exact (S.par n (List.of_mem_zip hy).1).elim (fun q => .inl q) fun q => .inr ⟨q, PySem.W.cellsFrom_some _ _ _ (.inl q)⟩
  · subst he
    refine ⟨(e0.mod.nolimit.keeps keep).keeps x.toInCall.keep, codeAny_func ?_⟩
    obtain ⟨t, ht, hq⟩ := hbody cdv A outer s H vs Q hg (hr.deeper _) hsp
    have J := inv_start (CX := CX0) (E := E0) S hr.hd e0 (len _ _ _ _ hsp) rv x
    refine wpAny_mono (ht.nox.run [] s1 (start N vs) H _ J hq) (fun fl s' z => ?_) fun e s' z => z
    cases fl with
    | ret u =>
      obtain ⟨v, σ', H', I', r', q'⟩ := z
      exact ⟨v, H', I'.os, I'.bare, I'.base, I'.hok, r', q'⟩
    | next =>
      obtain ⟨σ', H', I', q'⟩ := z
      exact ⟨V.non, H', I'.os, I'.bare, I'.base, I'.hok, rfl, q'⟩
    | brk =>
      obtain ⟨_, _, _, q'⟩ := z
      exact q'.elim
    | cont =>
      obtain ⟨_, _, _, q'⟩ := z
      exact q'.elim
end

section
variable {X : Cx} {A : Around} {f : Addr} {sp : Sp} {k : Nat} {fd : FuncData} {ps : List Str}
theorem Runs.ofG (F : FnG X.prog X.w X.K X.mg X.base k f fd ps sp) (hb : Binds X.K fd ps []) (hg : A.guards = some []) (hr : Room k A) (hf : A.frames = X.A.frames) : Runs X A f sp := by
  intro pins σ H s vs us Q I rv h
  have z := I.env0
  have hl : (us ++ []).length = ps.length := by
    rw [List.append_nil, ← rv.length]
    exact F.len _ _ _ _ h
  have hbb := hb s us I.kIn hl
  rw [List.append_nil] at hbb
  exact wpAny_call (codeAny_mono (F.run A X.stack s H ⟨us, []⟩ us vs Q hg hr ⟨hf.trans z.frames, z.mod, z.bs, z.bsz, z.funs, z.frf, z.hok, z.bare⟩ hbb rv h) fun r s' q => back_ok I q)

/-- f(e, ..) -/
theorem pe_callR {x : Str} {e : Expr} {es : List Expr} {t : TA} {p pos : Pos} (R : Runs X X.A f sp) (hg : Gl X x) (hm : X.mg x = some (.ref f)) (hk : PySem.W.keepIn X.K (.ref f) = true) (ha : PA X (e :: es) t)
    (hdb : (x == ("__debug__" : Str)) = false := by decide) (he : starEach (e :: es) X.env = (false, eval e X.env) :: starEach es X.env := by rfl) (hpl : (backTo pos (starEach es X.env)).any (·.1) = false := by rfl) :
    PE X (.Call (.Name x p) (e :: es) [] pos) (fun σ H Q => t σ H fun vs H1 => sp vs H1 Q E0) := by
  refine ⟨fun pins s σ H Q I h => wpAny_Call_Name_kw (ld_glob I hg hm ?_ hdb)⟩
  refine PySem.W.callWith_K (h₀ := X.base) I.ok.mod.kin hk (thn (ha.run pos pins s σ H _ I h) fun us s1 z => ?_) he hpl
  obtain ⟨vs, H1, I1, rv, q⟩ := z
  exact ⟨I1.kIn, R pins σ H1 s1 vs us Q I1 rv q⟩
end

section
open PySem.W PyProof.Rows
variable {P : Program} {w : World} {K : PySem.W.Frag} {mg mb : Str → Option Value} {k : Nat} {fa a : Addr} {fd : FuncData} {x : Str} {sp : Sp} {s₁ : Shared} {vs : List Value} {ns : List Int}
/-- the law's call, from an abstract heap H that tracks the script at most -/
theorem law_from {H : Hp} (KX : K.In s₁.heap) (hns : s₁.heap.Ns mainGlobals mg) (hb : s₁.heap.Ns builtinsNs mb) (hbb : ∀ x : Str, x ≠ "__name__" → mb x = bootBuiltins x) (hlim : s₁.heap.NoLimit) (hg : s₁.gens = #[])
    (ha : s₁.heap.get? a = some { cls := .type "list", data := .seq vs.toArray }) (hr : Room k callerA)
    (F : ∀ base : Heap, K.In base → base.Ns mainGlobals mg → FnG P w K mg base k fa fd [x] sp) (hbind : ∀ (s : Shared) (u : Value), BindsTo s fd ⟨[u], []⟩ [(x, u)])
    (hsp : sp [.ref a] H (fun v _ => v = .bl true) E0) (hok : HOk P w H s₁.heap) (hA : ∀ b, H b ≠ none → b = a ∧ K.lookup a = none ∧ ∃ o xs, H b = some (.frz o (.lst xs))) :
    codeAny (model P w) callerA (.call (.ref fa) ⟨[.ref a], []⟩) (fun r s' => r = .ok (.ret (.bool true)) ∧ OldK s₁.heap s'.heap ∧ s'.os = s₁.os ∧ AllBare s'.gens) s₁ := by
  have un : ∀ {b : Addr}, b ≠ a → H b = none := fun {b} hne => by
    cases q : H b with
    | none => rfl
    | some u => exact absurd (hA b (by rw [q]; exact fun z => nomatch z)).1 hne
  have nsK : ∀ {b : Addr} {m : Str → Option Value}, s₁.heap.Ns b m → (hidT s₁.heap H).Ns b m := fun {b m} ⟨o, es, ep, e, d, r⟩ => by
    refine ⟨o, es, ep, hidT_get e (un fun z => ?_), d, r⟩
    subst z
    rw [ha] at e
    cases e
    exact nomatch (show Data.seq vs.toArray _ = Data.dict es ep from d)
  have kb : K.In (hidT s₁.heap H) := fun b o e => hidT_get (KX b o e) (by
    cases q : H b with
    | none => rfl
    | some u =>
      obtain ⟨rfl, hk, _⟩ := hA b (by rw [q]; exact fun z => nomatch z)
      rw [hk] at e
      cases e)
  obtain ⟨mc, l1, l2⟩ := hlim
  have e0 : Env0 P w K mg (hidT s₁.heap H) callerA [] s₁ H :=
    ⟨rfl, ⟨kb, nsK hns, ⟨mb, nsK hb, hbb⟩, ⟨mc, nsK l1, l2⟩⟩, fun b o e => of_hidT e, Nat.le_of_eq (hidT_size _ _), trivial, (fun b z => absurd (show b ∈ ([] : List Addr) from z) (by simp)), hok, .of_eq hg⟩
  refine codeAny_mono ((F _ kb (nsK hns)).run callerA [] s₁ H ⟨[.ref a], []⟩ [.ref a] [.ref a] _ rfl hr e0 (hbind s₁ (.ref a)) (.cons rfl .nil) hsp) fun r s' z => ?_
  match r, z with
  | .ok (.ret u), z =>
    obtain ⟨v, H', os, bare, un', hok', r', q⟩ := z
    cases q
    cases r'
    refine ⟨rfl, OldK.of_keep fun b o e => ?_, os, bare⟩
    cases q : H b with
    | none => exact un'.keep b o e q (fun z => absurd (show b ∈ ([] : List Addr) from z) (by simp)) (by simp)
    | some u =>
      obtain ⟨_, _, ob, xs, z⟩ := hA b (by rw [q]; exact fun z => nomatch z)
      have e1 := (hok b _ z).1
      rw [e] at e1
      cases e1
      exact (hok' b _ (un'.frzs b _ _ z)).1

theorem law_callG (KX : K.In s₁.heap) (hns : s₁.heap.Ns mainGlobals mg) (hb : s₁.heap.Ns builtinsNs mb) (hbb : ∀ x : Str, x ≠ "__name__" → mb x = bootBuiltins x) (hlim : s₁.heap.NoLimit) (hg : s₁.gens = #[])
    (ha : s₁.heap.get? a = some { cls := .type "list", data := .seq vs.toArray }) (hi : IntsAre vs ns) (hl : ns.length ≤ sizeLine) (hr : Room k callerA)
    (F : ∀ base : Heap, K.In base → base.Ns mainGlobals mg → FnG P w K mg base k fa fd [x] sp) (hbind : ∀ (s : Shared) (u : Value), BindsTo s fd ⟨[u], []⟩ [(x, u)])
    (hsp : ∀ H : Hp, SqL K H a (ns.map V.int) → (∀ b o, H b = some o → b = a) → sp [.ref a] H (fun v _ => v = .bl true) E0) :
    codeAny (model P w) callerA (.call (.ref fa) ⟨[.ref a], []⟩) (fun r s' => r = .ok (.ret (.bool true)) ∧ OldK s₁.heap s'.heap ∧ s'.os = s₁.os ∧ AllBare s'.gens) s₁ := by
  have rv := vals_ints hi
  cases hk : K.lookup a with
  | some o =>
    have e := KX a o hk
    rw [ha] at e
    cases e
    refine law_from (H := fun _ => none) KX hns hb hbb hlim hg ha hr F hbind (hsp _ (.inr ⟨_, vs.toArray, _, hk, rfl, rfl, rfl, ?_, by simpa using rv⟩) fun b o z => nomatch z) (fun b u z => nomatch z) fun b z => absurd rfl z
    rw [List.size_toArray, hi.length]
    exact hl
  | none =>
    have at_a : (fun b => if b = a then some (HO.frz { cls := .type "list", data := .seq vs.toArray } (.lst (ns.map V.int))) else none : Hp) a = some (HO.frz { cls := .type "list", data := .seq vs.toArray } (.lst (ns.map V.int))) := if_pos rfl
    have off : ∀ b o, (fun b => if b = a then some (HO.frz { cls := .type "list", data := .seq vs.toArray } (.lst (ns.map V.int))) else none : Hp) b = some o → b = a := fun b o z => by
      by_cases hba : b = a
      · exact hba
      · exact nomatch (if_neg hba).symm.trans z
    refine law_from (H := fun b => if b = a then some (.frz { cls := .type "list", data := .seq vs.toArray } (.lst (ns.map V.int))) else none) KX hns hb hbb hlim hg ha hr F hbind (hsp _ (.inl (.inr ⟨_, at_a⟩)) off) (fun b u z => ?_) fun b z => ?_
    · obtain rfl := off b u z
      rw [at_a] at z
      cases z
      exact ⟨ha, by rw [List.length_map]; exact hl, vs, _, rv, ha⟩
    · cases q : (fun b => if b = a then some (HO.frz { cls := .type "list", data := .seq vs.toArray } (.lst (ns.map V.int))) else none : Hp) b with
      | none => exact absurd q z
      | some u =>
        obtain rfl := off b u q
        exact ⟨rfl, hk, _, _, at_a⟩

/-- the goal that k_head leaves, from the law's promise -/
theorem walk_ofG {l : PySem.W.OpenLaw} {n : Nat} {q : Program} {loose : List Str} {XP : (Str → Option Value) → Heap → Prop} {YP : World → Heap → Prop} {d : DefRec} {KK : Params → PySem.W.Frag} {spK : PySem.W.Frag → Sp}
    (hn : l.most = some n) (hn2 : n ≤ sizeLine) (hdf : d.params.defaults = []) (hr : Room k callerA) (hY : ∀ (w : World) (h : Heap), YP w h → (KK w.params).In h)
    (F : ∀ (w : World) (mg : Str → Option Value) (fa : Addr) (h : Heap), (KK w.params).In h → h.Ns mainGlobals mg → mg d.name = some (.ref fa) →
      ∃ fd : FuncData, (∀ (s : Shared) (u : Value), BindsTo s fd ⟨[u], []⟩ [(x, u)]) ∧ ∀ base : Heap, (KK w.params).In base → base.Ns mainGlobals mg → FnG l.prog w (KK w.params) mg base k fa fd [x] (spK (KK w.params)))
    (hsp : ∀ (K : PySem.W.Frag) (H : Hp) (a : Addr) (ns : List Int), ns.length ≤ n → SqL K H a (ns.map V.int) → (∀ b o, H b = some o → b = a) → spK K [.ref a] H (fun v _ => v = .bl true) E0) :
    PySem.W.WalkO q loose XP YP l.row.toRowW d [] (fun f vs => PySem.call f vs) := by
  refine Att.attach_call hn hdf fun w s₀ s₁ mg mb fa o pm cd doc a vs ns G Y ho hd hcd hmg hobj hints hlen hgn => ?_
  obtain ⟨fd, hb, hF⟩ := F w mg fa _ (hY w _ Y) G.T.g hmg
  exact law_callG (hY w _ Y) G.T.g G.T.b G.T.builtins G.T.nolimit hgn hobj hints (Nat.le_trans hlen hn2) hr hF hb fun H hS hO => hsp _ H a ns hlen hS hO
end
end NS

/-! The mathematics of Ratio: lowest terms are Lean's Rat. -/
namespace NS

/-- the divisor that Ratio takes: the greatest common one, with the bottom's sign -/
def dv (t b : Int) : Int := if b < 0 then -(Nat.gcd t.natAbs b.natAbs : Int) else (Nat.gcd t.natAbs b.natAbs : Int)

theorem dv_ne {t b : Int} (hb : b ≠ 0) : dv t b ≠ 0 := by
  have h : 0 < Nat.gcd t.natAbs b.natAbs := Nat.gcd_pos_of_pos_right _ (by omega)
  unfold dv
  split <;> omega
theorem dv_dvd_t (t b : Int) : dv t b ∣ t := by
  have h : ((Nat.gcd t.natAbs b.natAbs : Nat) : Int) ∣ t := Int.ofNat_dvd_left.mpr (Nat.gcd_dvd_left _ _)
  unfold dv
  split
  · exact Int.neg_dvd.mpr h
  · exact h
theorem dv_dvd_b (t b : Int) : dv t b ∣ b := by
  have h : ((Nat.gcd t.natAbs b.natAbs : Nat) : Int) ∣ b := Int.ofNat_dvd_left.mpr (Nat.gcd_dvd_right _ _)
  unfold dv
  split
  · exact Int.neg_dvd.mpr h
  · exact h
theorem dv_abs (t b : Int) : (dv t b).natAbs = Nat.gcd t.natAbs b.natAbs := by
  unfold dv
  split <;> omega

theorem dv_num {t b : Int} (hb : b ≠ 0) : t.fdiv (dv t b) = (Rat.divInt t b).num := by
  rw [Rat.num_divInt]
  have hg : Int.gcd b t = Nat.gcd t.natAbs b.natAbs := by
    rw [Int.gcd_comm]
    rfl
  rw [hg]
  have hd : ((Nat.gcd t.natAbs b.natAbs : Nat) : Int) ∣ t := Int.ofNat_dvd_left.mpr (Nat.gcd_dvd_left _ _)
  have hp : 0 < Nat.gcd t.natAbs b.natAbs := Nat.gcd_pos_of_pos_right _ (by omega)
  obtain ⟨c, hc⟩ := hd
  have hz : ((Nat.gcd t.natAbs b.natAbs : Nat) : Int) ≠ 0 := by omega
  by_cases hn : b < 0
  · have e : dv t b = -((Nat.gcd t.natAbs b.natAbs : Nat) : Int) := if_pos hn
    have s : b.sign = -1 := Int.sign_eq_neg_one_of_neg hn
    rw [e, s]
    generalize hG : ((Nat.gcd t.natAbs b.natAbs : Nat) : Int) = G at *
    rw [hc]
    have q1 : G * c = -G * -c := by rw [Int.neg_mul_neg]
    rw [q1, Int.mul_fdiv_cancel_left _ (by omega : -G ≠ 0), ← q1]
    have q2 : -1 * (G * c) = G * -c := by rw [Int.neg_one_mul, Int.mul_neg]
    rw [q2, Int.mul_ediv_cancel_left _ hz]
  · have e : dv t b = ((Nat.gcd t.natAbs b.natAbs : Nat) : Int) := if_neg hn
    have s : b.sign = 1 := Int.sign_eq_one_of_pos (by omega)
    rw [e, s, Int.one_mul]
    generalize hG : ((Nat.gcd t.natAbs b.natAbs : Nat) : Int) = G at *
    rw [hc, Int.mul_fdiv_cancel_left _ hz, Int.mul_ediv_cancel_left _ hz]
theorem dv_den {t b : Int} (hb : b ≠ 0) : b.fdiv (dv t b) = ((Rat.divInt t b).den : Int) := by
  rw [Rat.den_divInt, if_neg hb]
  have hg : Int.gcd b t = Nat.gcd t.natAbs b.natAbs := by
    rw [Int.gcd_comm]
    rfl
  rw [hg]
  have hp : 0 < Nat.gcd t.natAbs b.natAbs := Nat.gcd_pos_of_pos_right _ (by omega)
  obtain ⟨c, hc⟩ := Nat.gcd_dvd_right t.natAbs b.natAbs
  generalize hG : Nat.gcd t.natAbs b.natAbs = G at *
  have e2 : b.natAbs / G = c := by rw [hc, Nat.mul_div_cancel_left _ hp]
  rw [e2]
  by_cases hn : b < 0
  · have e : dv t b = -(G : Int) := by rw [← hG]; exact if_pos hn
    have eb : b = -(G : Int) * c := by
      have : b = -((b.natAbs : Nat) : Int) := by omega
      rw [this, hc, Int.natCast_mul, Int.neg_mul]
    rw [e]
    conv => lhs; rw [eb]
    rw [Int.mul_fdiv_cancel_left _ (by omega)]
  · have e : dv t b = (G : Int) := by rw [← hG]; exact if_neg hn
    have eb : b = (G : Int) * c := by
      have : b = ((b.natAbs : Nat) : Int) := by omega
      rw [this, hc, Int.natCast_mul]
    rw [e]
    conv => lhs; rw [eb]
    rw [Int.mul_fdiv_cancel_left _ (by omega)]

/-! ### sizes -/
/-- an int of at most n bits -/
def Bt (n : Nat) (i : Int) : Prop := i.natAbs < 2 ^ n
instance (n : Nat) (i : Int) : Decidable (Bt n i) := inferInstanceAs (Decidable (i.natAbs < 2 ^ n))
theorem Bt.mono {m n : Nat} {i : Int} (h : Bt m i) (hn : m ≤ n) : Bt n i := Nat.lt_of_lt_of_le h (Nat.pow_le_pow_right (by decide) hn)
theorem Bt.neg {n : Nat} {i : Int} (h : Bt n i) : Bt n (-i) := by
  unfold Bt at *
  omega
theorem Bt.mul {m n : Nat} {i j : Int} (h : Bt m i) (k : Bt n j) : Bt (m + n) (i * j) := by
  unfold Bt at *
  rw [Int.natAbs_mul, Nat.pow_add]
  exact Nat.mul_lt_mul'' h k
theorem Bt.add {n : Nat} {i j : Int} (h : Bt n i) (k : Bt n j) : Bt (n + 1) (i + j) := by
  unfold Bt at *
  rw [Nat.pow_succ]
  omega
theorem Bt.sub {n : Nat} {i j : Int} (h : Bt n i) (k : Bt n j) : Bt (n + 1) (i - j) := by
  unfold Bt at *
  rw [Nat.pow_succ]
  omega
theorem Bt.log {n : Nat} {i : Int} (h : Bt n i) (h0 : 0 < n) : i.natAbs.log2 < n := by
  by_cases hz : i.natAbs = 0
  · rw [hz]
    exact h0
  · exact (Nat.log2_lt hz).mpr h
/-- top and bottom of at most n bits -/
structure Sz (n : Nat) (q : Rat) : Prop where
  top : Bt n q.num
  bot : Bt n (q.den : Int)
theorem Sz.mono {m n : Nat} {q : Rat} (h : Sz m q) (hn : m ≤ n) : Sz n q := ⟨h.top.mono hn, h.bot.mono hn⟩
theorem fdiv_abs {t d : Int} (hd : d ∣ t) (h0 : d ≠ 0) : (t.fdiv d).natAbs ≤ t.natAbs := by
  obtain ⟨c, rfl⟩ := hd
  rw [Int.mul_fdiv_cancel_left _ h0, Int.natAbs_mul]
  exact Nat.le_mul_of_pos_left _ (by omega)
theorem sz_divInt {n : Nat} {t b : Int} (hb : b ≠ 0) (h1 : Bt n t) (h2 : Bt n b) : Sz n (Rat.divInt t b) := by
  refine ⟨?_, ?_⟩
  · rw [← dv_num hb]
    exact Nat.lt_of_le_of_lt (fdiv_abs (dv_dvd_t t b) (dv_ne hb)) h1
  · rw [← dv_den hb]
    exact Nat.lt_of_le_of_lt (fdiv_abs (dv_dvd_b t b) (dv_ne hb)) h2
theorem sz_int {n : Nat} {i : Int} (h : Bt n i) (h0 : 0 < n) : Sz n (i : Rat) := ⟨h, by show Bt n 1; exact Nat.one_lt_two_pow (by omega)⟩
theorem sz_neg {n : Nat} {q : Rat} (h : Sz n q) : Sz n (-q) := ⟨by rw [Rat.neg_num]; exact h.top.neg, by rw [Rat.neg_den]; exact h.bot⟩

theorem den_ne (q : Rat) : ((q.den : Nat) : Int) ≠ 0 := by
  have := q.den_nz
  omega
theorem den_pos (q : Rat) : (0 : Int) < (q.den : Int) := by
  have := q.den_nz
  omega
theorem divInt_self_eq (q : Rat) : Rat.divInt q.num (q.den : Int) = q := Rat.num_divInt_den q
theorem add_eq (a b : Rat) : Rat.divInt (a.num * b.den + b.num * a.den) ((a.den : Int) * (b.den : Int)) = a + b := by
  rw [Rat.add_def', ← Int.natCast_mul, Rat.divInt_ofNat]
theorem mul_eq (a b : Rat) : Rat.divInt (a.num * b.num) ((a.den : Int) * (b.den : Int)) = a * b := by
  rw [Rat.mul_def', ← Int.natCast_mul, Rat.divInt_ofNat]
theorem neg_eq (a : Rat) : Rat.divInt (-a.num) (a.den : Int) = -a := by
  rw [← Rat.neg_divInt, Rat.num_divInt_den]
theorem div_eq (a b : Rat) : Rat.divInt (a.num * b.den) ((a.den : Int) * b.num) = a / b := by
  rw [Rat.div_def, Rat.inv_def]
  conv => rhs; rw [← Rat.num_divInt_den a]
  rw [Rat.divInt_mul_divInt]
theorem sub_eq (a b : Rat) : a + -b = a - b := (Rat.sub_eq_add_neg a b).symm
theorem dif_eq (a b : Rat) : Rat.divInt (a.num * b.den - b.num * a.den) ((a.den : Int) * (b.den : Int)) = a - b := by
  rw [Rat.sub_def', ← Int.natCast_mul, Rat.divInt_ofNat]
theorem sz_add {m n : Nat} {a b : Rat} (h : Sz m a) (k : Sz n b) : Sz (m + n + 1) (a + b) := by
  rw [← add_eq]
  refine sz_divInt (by have := den_ne a; have := den_ne b; exact Int.mul_ne_zero (den_ne a) (den_ne b)) ?_ ((h.bot.mul k.bot).mono (by omega))
  exact (h.top.mul k.bot).add ((k.top.mul h.bot).mono (by omega))
theorem sz_sub {m n : Nat} {a b : Rat} (h : Sz m a) (k : Sz n b) : Sz (m + n + 1) (a - b) := by
  rw [← sub_eq]
  exact sz_add h (sz_neg k)
theorem sz_mul {m n : Nat} {a b : Rat} (h : Sz m a) (k : Sz n b) : Sz (m + n) (a * b) := by
  rw [← mul_eq]
  exact sz_divInt (Int.mul_ne_zero (den_ne a) (den_ne b)) (h.top.mul k.top) (h.bot.mul k.bot)
theorem sz_div {m n : Nat} {a b : Rat} (hb : b ≠ 0) (h : Sz m a) (k : Sz n b) : Sz (m + n) (a / b) := by
  rw [← div_eq]
  have hz : b.num ≠ 0 := fun z => hb (Rat.num_eq_zero.mp z)
  exact sz_divInt (Int.mul_ne_zero (den_ne a) hz) (h.top.mul k.bot) (h.bot.mul k.top)
theorem rat_ext_iff {a b : Rat} : a = b ↔ a.num = b.num ∧ (a.den : Int) = b.den := by
  constructor
  · rintro rfl
    exact ⟨rfl, rfl⟩
  · rintro ⟨h1, h2⟩
    exact Rat.ext h1 (by omega)
end NS

/-! What the top has written of a def, a method, a class; small rules. -/
namespace NS
open PySem L2

structure Dfn (K : PySem.W.Frag) (mg : Str → Option Value) (x : Str) (st : Stmt) (f : Addr) (fd : FuncData) : Prop where
  F : Fun K x x st f fd
  g : mg x = some (.ref f)
structure Mth (K : PySem.W.Frag) (C : Addr) (m qual : Str) (st : Stmt) (f : Addr) (fd : FuncData) : Prop where
  F : Fun K m qual st f fd
  at_ : PySem.W.findIn K (.ref C) m = some (some (.ref f))
  fn : PySem.W.isFn K (.ref f) = true
theorem Mth.meth {K : PySem.W.Frag} {C f : Addr} {m qual : Str} {st : Stmt} {fd : FuncData} (M : Mth K C m qual st f fd) : Meth K C m f := ⟨M.at_, M.fn, M.F.kp⟩
/-- a method with defaults dvs -/
structure MthD (K : PySem.W.Frag) (C : Addr) (m qual : Str) (st : Stmt) (dvs : List V) (f : Addr) (fd : FuncData) : Prop where
  F : FunD K m qual (defArgs st) (defBody st) (defScope st) dvs [] f fd
  at_ : PySem.W.findIn K (.ref C) m = some (some (.ref f))
  fn : PySem.W.isFn K (.ref f) = true
/-- a property -/
structure Prp (K : PySem.W.Frag) (C : Addr) (m qual : Str) (st : Stmt) (p f : Addr) (fd : FuncData) : Prop where
  F : Fun K m qual st f fd
  pr : PropOf K C m p f
/-- a class of the text -/
structure Cl (K : PySem.W.Frag) (mg : Str → Option Value) (x : Str) (C : Addr) : Prop where
  cls : Cls K C
  g : mg x = some (.ref C)
  kp : PySem.W.keepIn K (.ref C) = true
  mks : PySem.W.makesIn K C = true
  ca : PySem.W.findIn K (.ref C) "__class__" = some (some (.builtin "object.__class__"))
  cg : PySem.W.specialIn K (.builtin "object.__class__") "__get__" = some (some (.builtin "getset_descriptor.__get__"))
  ct : PySem.W.takesIn K (.builtin "object.__class__") = some true
  ob : PySem.W.mroIn K C (.type "object") = some true
  k_int : PySem.W.kitOne K (.type "int") (.ref C) = some false
  k_str : PySem.W.kitOne K (.type "str") (.ref C) = some false
  k_tup : PySem.W.kitOne K (.type "tuple") (.ref C) = some false
  k_own : PySem.W.kitOne K (.ref C) (.ref C) = some true
  o_int : PySem.W.kitOne K (.ref C) (.type "int") = some false
  o_bool : PySem.W.kitOne K (.ref C) (.type "bool") = some false
theorem Cl.ty {K : PySem.W.Frag} {mg : Str → Option Value} {x : Str} {C a dx : Addr} {fs : List (Str × V)} {H : Hp} (c : Cl K mg x C) (h : H a = some (.ins C dx fs)) : TyX K H (.ref a) (.ref C) :=
  .base (.ins h c.cls c.ca c.cg c.ct c.ob)

section
variable {X : Cx}
/-- isinstance(x, T), T a built-in class: the answer is b -/
theorem isi_B {K : PySem.W.Frag} {T : String} {x : V} {t : Value} {b : Bool} {H : Hp} {Q : VK} (ty : TyX K H x t) (k : PySem.W.kitOne K t (.type T) = some b) (q : Q (.bl b) H) : rIsi K [x, .ty T] H Q :=
  ⟨x, .ty T, t, .type T, b, rfl, .ty T, ty, k, q⟩
theorem isi_C {K : PySem.W.Frag} {C : Addr} {x : V} {t : Value} {b : Bool} {H : Hp} {Q : VK} (ty : TyX K H x t) (k : PySem.W.kitOne K t (.ref C) = some b) (q : Q (.bl b) H) : rIsi K [x, .ref C] H Q :=
  ⟨x, .ref C, t, .ref C, b, rfl, .own C, ty, k, q⟩
theorem kit_int_int {K : PySem.W.Frag} : PySem.W.kitOne K (.type "int") (.type "int") = some true := kit_ty (by decide +kernel)
theorem kit_int_bool {K : PySem.W.Frag} : PySem.W.kitOne K (.type "int") (.type "bool") = some false := kit_ty (by decide +kernel)
theorem ty_int {K : PySem.W.Frag} {H : Hp} (i : Int) : TyX K H (.int i) (.type "int") := .base (.int i)
theorem ty_str {K : PySem.W.Frag} {H : Hp} (x : Str) : TyX K H (.str x) (.type "str") := .base (.str x)
theorem ty_tup {K : PySem.W.Frag} {H : Hp} {a : Addr} {xs : List V} (h : H a = some (.tup xs)) : TyX K H (.ref a) (.type "tuple") := .base (.tup h)

theorem to_heap {R : Hp → Prop} {H1 H2 : Hp} (e : H1 = H2) (h : R H2) : R H1 := by
  subst e
  exact h
theorem iteY {b : Bool} {A B : Prop} (h : b = true) (x : A) : if b = true then A else B := by
  subst h
  exact iteT x
theorem iteN {b : Bool} {A B : Prop} (h : b = false) (x : B) : if b = true then A else B := by
  subst h
  exact iteF x
theorem call_repr_bl : CallR X (.builtin "repr") (fun vs H Q => ∃ b, vs = [.bl b] ∧ Q (.str (if b then "True" else "False")) H) := by
  intro pins s σ H vs us Q I r h
  obtain ⟨b, rfl, q⟩ := h
  obtain ⟨u, rfl, ru⟩ := vals1 r
  cases ru
  exact PySem.P.repr_of_bool ⟨.str _, H, I.tok _, ⟨_, rfl⟩, q⟩
/-- a statement with a word behind it: what follows is shown once -/
def tMid (t u : TS) : TS := fun D σ H => ∃ M : L2.St → Hp → Prop, t { D with nx := M } σ H ∧ ∀ σ' H', M σ' H' → u D σ' H'
theorem pss_mid {st : Stmt} {rest : List Stmt} {t u : TS} (h1 : PS X st t) (h2 : PSs X rest u) : PSs X (st :: rest) (tMid t u) :=
  ⟨fun pins s σ H D I ⟨M, hm, hu⟩ => wpAny_execs_cons (thn (h1.run pins s σ H { D with nx := M } I hm) fun f s1 q => by
    cases f with
    | next =>
      obtain ⟨σ', H', I', q⟩ := q
      exact h2.run pins s1 σ' H' D I' (hu σ' H' q)
    | ret v => exact q
    | brk => exact q
    | cont => exact q)⟩
/-- // by a divisor of either sign, below 2 ^ 9000 -/
def CDivX (_ j : Int) : Prop := j ≠ 0 ∧ j.natAbs.log2 < 9000
theorem op_fdivX : OpR X (binaryOp .FloorDiv) (rI CDivX fun i j => .int (i.fdiv j)) := opI fun i j _ _ _ _ _ hc q =>
  PyProof.Rows.floordiv_int hc.1 q (.inl (PyProof.noPylong_of_log2 hc.2))
theorem cdivX {i j : Int} {n : Nat} (h0 : j ≠ 0) (h : Bt n j) (hn : n ≤ 9000) (hp : 0 < n) : CDivX i j := ⟨h0, Nat.lt_of_lt_of_le (h.log hp) hn⟩
theorem cmulX {i j : Int} {m n : Nat} (h : Bt m i) (k : Bt n j) (hn : m + n ≤ 134217728) : CMulX i j := mulx_ok h k hn
end
end NS

/-! Own exception classes over a built-in base whose __init__ calls that of an own class above it. -/
namespace NS
open PySem L2

/-- refs, then the base's own line -/
def refsTo (bmB : List Value) : List Value → Bool
  | .ref _ :: r => refsTo bmB r
  | l => l == bmB
theorem refsTo_has {bmB : List Value} (Y : String) : ∀ l : List Value, refsTo bmB l = true → l.contains (.type Y) = bmB.contains (.type Y)
  | [], h => by rw [← eq_of_beq (show ([] == bmB) = true from h)]
  | .ref c :: r, h => by
    rw [List.contains_cons, refsTo_has Y r h]
    rfl
  | .none :: r, h => by rw [← eq_of_beq (show (Value.none :: r == bmB) = true from h)]
  | .ellipsis :: r, h => by rw [← eq_of_beq (show (Value.ellipsis :: r == bmB) = true from h)]
  | .notImplemented :: r, h => by rw [← eq_of_beq (show (Value.notImplemented :: r == bmB) = true from h)]
  | .bool b :: r, h => by rw [← eq_of_beq (show (Value.bool b :: r == bmB) = true from h)]
  | .int i t :: r, h => by rw [← eq_of_beq (show (Value.int i t :: r == bmB) = true from h)]
  | .float x t :: r, h => by rw [← eq_of_beq (show (Value.float x t :: r == bmB) = true from h)]
  | .str x t :: r, h => by rw [← eq_of_beq (show (Value.str x t :: r == bmB) = true from h)]
  | .bytes x t :: r, h => by rw [← eq_of_beq (show (Value.bytes x t :: r == bmB) = true from h)]
  | .type n :: r, h => by rw [← eq_of_beq (show (Value.type n :: r == bmB) = true from h)]
  | .builtin n :: r, h => by rw [← eq_of_beq (show (Value.builtin n :: r == bmB) = true from h)]

/-- what the written part says of an own exception class at D over the base B -/
structure ExK (K : PySem.W.Frag) (B newId initId : String) (bmB : List Value) (D : Addr) : Prop where
  F : ExcBaseFacts B newId initId bmB
  cls : ∃ nm q N bs bm sn sub ab col dd k0 k1 k2 k3 k5, K.lookup D = some (excClassObj nm q D N bs bm true sn sub ab col dd k0 k1 k2 k3 k5 newId) ∧ refsTo bmB bm = true
  exC : PySem.W.subIn K (.ref D) (.type "BaseException") = some true
  tyC : PySem.W.typeIn K (.ref D) = some (.type "type")
  kC : PySem.W.keepIn K (.ref D) = true
/-- an own class S whose __init__ is the base's -/
structure ExS (K : PySem.W.Frag) (mg : Str → Option Value) (x : Str) (S : Addr) (initId : String) : Prop where
  g : mg x = some (.ref S)
  rd : PySem.W.readsIn K S (.type "type") = true
  ga : PySem.W.specialIn K (.ref S) "__getattribute__" = some (some (.builtin "type.__getattribute__"))
  at_ : PySem.W.findCls K (.ref S) (.type "type") "__init__" = some (.val (.builtin initId))
  hh : PySem.W.handedIn (.builtin initId) = true

section
variable {X : Cx} {B newId initId : String} {bmB : List Value} {e o : Expr} {es : List Expr} {ta : TA} {p1 p2 pos apos : Pos} {x m : Str} {S D f C : Addr}
/-- S.__init__(self, ..), self an exception that is being made -/
def tBinit (K : PySem.W.Frag) (B newId initId : String) (bmB : List Value) (ta : TA) : TE := fun σ H Q => ta σ H fun vs H1 => ∃ (a D : Addr) (ws : List V), vs = .ref a :: ws ∧ ws.length ≤ 1000 ∧ ExK K B newId initId bmB D ∧ H1 a = some (exo a D none) ∧ Q .non H1
theorem pe_binit {pl : Sem Bool} (T : ExS X.K X.mg x S initId) (ha : PA X (e :: es) ta) (hg : Gl X x)
    (hc : eval (.Call (.Attribute (.Name x p1) "__init__" p2) (e :: es) [] pos) X.env = (do
      let ov ← eval (.Name x p1) X.env
      standAt p2.atName
      let (f, first) ← holding [ov] (getMethod ov "__init__" pl)
      callWith pos f first (backTo pos (starEach (e :: es) X.env)) (backToKw pos (keywordEach [] X.env))) := by rfl)
    (hd : (x == ("__debug__" : Str)) = false := by decide) (he : starEach (e :: es) X.env = (false, eval e X.env) :: starEach es X.env := by rfl) (hpl : (backTo pos (starEach es X.env)).any (·.1) = false := by rfl) :
    PE X (.Call (.Attribute (.Name x p1) "__init__" p2) (e :: es) [] pos) (tBinit X.K B newId initId bmB ta) := by
  refine ⟨fun pins s σ H Q I h => PySem.W.methodCall_KW (ld_glob I hg T.g ?_ hd) hc⟩
  refine PySem.W.method_cls I.kIn T.ga (PySem.W.cls_value I.kIn T.rd T.at_ T.hh ?_)
  show wpAny _ _ (callWith pos (Value.builtin initId) [] (backTo pos (starEach (e :: es) X.env)) []) _ _ _
  refine PyProof.Rows.callWith_method1 (thn (ha.run pos pins _ σ H _ (I.tok _) h) fun us s1 z => ?_) he hpl
  obtain ⟨vs, H1, I1, r1, a, D, ws, rfl, hl, Z, ea, q⟩ := z
  cases r1 with
  | cons ra rw' =>
    cases ra
    rename_i ur
    have hlen : ur.length ≤ sizeLine := by
      rw [← Paired.length rw', sizeLine_eq]
      omega
    obtain ⟨nm, qq, N, bs, bm, sn, sub, ab, col, dd, k0, k1, k2, k3, k5, hC, hbm⟩ := Z.cls
    obtain ⟨t1, ho⟩ := exo_at I1.hok ea
    obtain ⟨hp, g, dr, t, os⟩ := s1
    refine wpAny_call (PySem.HandSPX.init_base Z.F (fun Y => refsTo_has Y bm hbm) (I1.kIn _ _ hC) ho hlen fun h' t2 k hx => ?_)
    have J := I1.write (t' := t) (x := a) (e := a) (o := exo a D none) (by rw [ea]; exact True.intro) (.inl rfl) k ⟨_, hx⟩ (exo_ok hx)
    have eu : upd H1 a (exo a D none) = H1 := by
      funext b
      by_cases hb : b = a
      · rw [hb, upd_same, ea]
      · rw [upd_ne hb]
    rw [eu] at J
    exact ⟨.non, H1, J, rfl, q⟩

/-- D(): an exception without attributes; its __init__ at fI keeps sp -/
def tMk0 (D : Addr) (sp : Sp) : L2.St → Hp → XK → Prop := fun _ H Q => ∀ a, H a = none → sp [.ref a] (upd H a (exo a D none)) (fun v H2 => v = .non ∧ H2 = upd H a (exo a D none) ∧ Q (.ref D) none H) E0
theorem pmk_exc0 {k : Nat} {fI : Addr} {fd : FuncData} {ps : List Str} {sp : Sp} (T : ExK X.K B newId initId bmB D) (iC : PySem.W.findIn X.K (.ref D) "__init__" = some (some (.ref fI))) (tI : PySem.W.typeIn X.K (.ref fI) = some (.type "function"))
    (F1 : FnOk X.prog X.w X.K X.mg X.base CX0 k fI fd ps sp) (hr : Room (k + 1) X.A) (hb : Binds X.K fd ps []) (hg : Gl X x) (hm : X.mg x = some (.ref D)) (hdb : (x == ("__debug__" : Str)) = false := by decide) :
    PMk X (.Call (.Name x p1) [] [] pos) (tMk0 D sp) := by
  intro pins s σ H Q I h
  obtain ⟨nm, qq, N, bs, bm, sn, sub, ab, col, dd, k0, k1, k2, k3, k5, hC, hbm⟩ := T.cls
  refine wpAny_Call_Name_kw (ld_glob I hg hm ?_ hdb)
  refine PySem.W.callWith_K0 I.kIn T.kC ?_
  show wpAny _ _ (call (.ref D) []) _ _ _
  obtain ⟨hp, g, dr, tk, os⟩ := s
  have hsz : hp.objs.size ≤ hp.objs.size + 1 := Nat.le_succ _
  have hn : H (hp.objs.size + 1) = none := I.hok.fresh hsz
  have hq := h (hp.objs.size + 1) hn
  have kk : ∀ b o, hp.get? b = some o → ((hp.push (PySem.W.kdv_tup [])).push (PySem.HandSPX.excO D hp.objs.size)).get? b = some o := fun b o e => Heap.get?_push_of_some _ (Heap.get?_push_of_some _ e)
  have hget : ((hp.push (PySem.W.kdv_tup [])).push (PySem.HandSPX.excO D hp.objs.size)).get? (hp.objs.size + 1) = some (PySem.HandSPX.excO D hp.objs.size) := by heap_get
  have I2 : Inv X pins σ (upd H (hp.objs.size + 1) (exo (hp.objs.size + 1) D none)) ⟨(hp.push (PySem.W.kdv_tup [])).push (PySem.HandSPX.excO D hp.objs.size), g, dr, tk, os⟩ :=
    I.laid (t' := tk) kk hsz (exo_ok hget)
  have hl : ([Value.ref (hp.objs.size + 1)] ++ ([] : List Value)).length = ps.length := by
    rw [← F1.len _ _ _ _ hq]
    rfl
  have hbb := hb _ [Value.ref (hp.objs.size + 1)] I2.kIn hl
  refine wpAny_call (PySem.HandSPX.call_own T.F (fun Y => refsTo_has Y bm hbm) (I.kIn _ _ hC) (PySem.W.looks_findIn I.kIn iC) (fun self => PySem.W.bind_fn I.kIn self tI) (Nat.zero_le _)
    (codeAny_mono (F1.run _ X.stack _ _ ⟨[Value.ref (hp.objs.size + 1)], []⟩ [Value.ref (hp.objs.size + 1)] [V.ref (hp.objs.size + 1)] _ E0 (hr.make D [] []) (I2.env0.make D [] []) hbb (.cons rfl .nil) hq) fun r s' z => ?_))
  match r, z with
  | .ok (.ret u), z =>
    obtain ⟨v, H2, os2, bare2, un2, hok2, rv, rfl, rfl, q2⟩ := z
    cases rv
    obtain ⟨h2, g2, d2, t2, os'⟩ := s'
    obtain ⟨t0, hoe⟩ := exo_at hok2 (upd_same (H := H) (a := hp.objs.size + 1) (o := exo (hp.objs.size + 1) D none))
    refine ⟨rfl, ?_⟩
    obtain ⟨G, g1', g2'⟩ := restrict h2 fun b => decide (b ≠ hp.objs.size + 1)
    have gk : ∀ b, b ≠ hp.objs.size + 1 → G.get? b = h2.get? b := fun b hb => g1' b (decide_eq_true hb)
    have ge : G.get? (hp.objs.size + 1) = none := g2' _ (by simp)
    have nha : ∀ {b : Addr} {o : Obj}, hp.get? b = some o → b ≠ hp.objs.size + 1 := fun {b o} z => Nat.ne_of_lt (Nat.lt_of_lt_of_le (Heap.lt_size z) hsz)
    have U : Un (frs X.stack) [] H H hp G := {
      keep := fun b o z n hf hx => by
        rw [gk b (nha z)]
        exact un2.keep b o (kk b o z) (by rw [upd_ne (nha z)]; exact n) hf hx
      slot := fun b o z n hf hx => by
        rw [gk b (nha z)]
        exact un2.slot b o (kk b o z) (by rw [upd_ne (nha z)]; exact n) hf hx
      free := fun b o z n hx => n
      there := fun b o z hx => by
        rw [gk b (nha z)]
        exact un2.there b o (kk b o z) hx
      tups := fun b xs z => z
      frzs := fun b o v z => z
      tbls := fun b ps z => ⟨#[], by rw [z]; simp⟩ }
    have hok3 : HOk X.prog X.w H G := fun b o z => by
      have hba : b ≠ hp.objs.size + 1 := ne_of_none z hn
      have z2 : upd H (hp.objs.size + 1) (exo (hp.objs.size + 1) D none) b = some o := by
        rw [upd_ne hba]
        exact z
      refine (hok2 b o z2).stay (fun c v hc y => ?_) (fun c hc => ?_) (fun c xs hc => ?_)
      · have hca : c ≠ hp.objs.size + 1 := by
          rcases hc with hc | hc
          · rw [hc]
            exact hba
          · exact at_ne (upd_same (H := H) (a := hp.objs.size + 1) (o := exo (hp.objs.size + 1) D none)) hc exo_own
        rw [gk c hca]
        exact y
      · rw [upd_ne (at_ne (upd_same (H := H) (a := hp.objs.size + 1) (o := exo (hp.objs.size + 1) D none)) hc exo_own)] at hc
        exact hc
      · rw [upd_ne (at_ne (upd_same (H := H) (a := hp.objs.size + 1) (o := exo (hp.objs.size + 1) D none)) hc exo_tup)] at hc
        exact hc
    have J : Inv X pins σ H ⟨G, g2, d2, t2, os'⟩ := I.call' (ch := []) os2 U hok3 bare2 (fun b z => absurd z (by simp))
    refine ⟨hp.objs.size + 1, _, _, ⟨G, g2, d2, t2, os'⟩, H, .ref D, none, rfl, J, fun b o z => ?_, ge, hoe, ⟨rfl, rfl⟩, rfl, rfl, hn, rfl, bare2, raises_own T.exC T.tyC, q2⟩
    by_cases hba : b = hp.objs.size + 1
    · have z' : G.get? b = some o := z
      rw [hba, ge] at z'
      cases z'
    · exact (gk b hba).symm.trans z

/-- isinstance(e, c) in an except suite, e what it holds -/
theorem pe_isE {a : Addr} {oe : Obj} {cls : Value} {d : Option Addr} {pn : List (Addr × Obj)} (Z : ExcC X.K D) (hz : Zc cls d oe) (hf : ∃ vs, oe.data = .fields vs) (hm : X.mg "isinstance" = none) (hv : bootBuiltins "isinstance" = some (.builtin "isinstance"))
    (ha : PA (X.suite a ((a, oe) :: pn)) (e :: es) ta) (hg : Gl (X.suite a ((a, oe) :: pn)) "isinstance" := by rfl)
    (he : starEach (e :: es) X.env = (false, eval e X.env) :: starEach es X.env := by rfl) (hpl : (backTo pos (starEach es X.env)).any (·.1) = false := by rfl) :
    PE (X.suite a ((a, oe) :: pn)) (.Call (.Name "isinstance" p1) (e :: es) [] pos) (fun σ H Q => cls = .ref D ∧ d = none ∧ tCB (rIsE X.K D a) ta σ H Q) :=
  ⟨fun pins s σ H Q I ⟨h1, h2, h⟩ => by
    subst h1 h2
    exact (pe_callB (call_isE Z hz hf) hg hm hv ha (by decide) (by decide) he hpl).run pins s σ H Q I h⟩
/-- o.m(e, ..) where what is raised is wished for at the caller's slots (a try's body) -/
def tMethT (C : Addr) (m : Str) (sp : Sp) (E : L2.St → XK) (to : TE) (t : TA) : TE := fun σ H Q => to σ H fun x H1 => ∃ a dx fs, x = .ref a ∧ H1 a = some (.ins C dx fs) ∧ fs.lookup m = none ∧ t σ H1 fun vs H2 => sp (x :: vs) H2 Q (E σ)
theorem pe_methT {pl : Sem Bool} {CX : CXT} {k : Nat} {fd : FuncData} {ps : List Str} {sp : Sp} {E : L2.St → XK} {to : TE} (he : PE X o to) (c : Cls X.K C) (hm : Meth X.K C m f) (F : FnOk X.prog X.w X.K X.mg X.base CX k f fd ps sp) (hr : Room k X.A) (hb : Binds X.K fd ps [])
    (hx : ∀ σ, PassesAt CX X σ (E σ)) (ha : PA X (e :: es) ta)
    (hst : starEach (e :: es) X.env = (false, eval e X.env) :: starEach es X.env := by rfl) (hpl : (backTo pos (starEach es X.env)).any (·.1) = false := by rfl)
    (ht : eval (.Call (.Attribute o m apos) (e :: es) [] pos) X.env = (do
      let ov ← eval o X.env
      standAt apos.atName
      let (f, first) ← holding [ov] (getMethod ov m pl)
      callWith pos f first (backTo pos (starEach (e :: es) X.env)) (backToKw pos (keywordEach [] X.env))) := by rfl) :
    PE X (.Call (.Attribute o m apos) (e :: es) [] pos) (tMethT C m sp E to ta) := by
  refine ⟨fun pins s σ H Q I h => PySem.W.methodCall_KW (pl := pl) (thn (he.run pins s σ H _ I h) fun u s1 z => ?_) ht⟩
  obtain ⟨x, H1, I1, rx, a, dx, fs, rfl, ea, l, q⟩ := z
  cases rx
  refine getmeth_ok I1 ea c hm l (PySem.W.callWith_K (first := [.ref a]) (h₀ := X.base) I.ok.mod.kin hm.kp (thn (ha.run pos pins s1 σ H1 _ I1 q) fun us s2 z => ?_) hst hpl)
  obtain ⟨vs, H2, I2, rv, q2⟩ := z
  exact ⟨I2.kIn, run_fnS (us := .ref a :: us) (vs := .ref a :: vs) F hr hb (hx σ) I2 (.cons rfl rv) q2⟩
end
end NS

/-! list != list where the items are equal by their own __eq__ -/
namespace NS
open PySem PySem.SeqAt L2
open AutoSeq1 (wpAny_loadPart')
open MeetsSeq MeetsSeq2 MeetsSeq3 SeqRoads2
section
variable {prog : Program} {w : World} {A : Around} {R : Result → Shared → Prop}
theorem neLoop (l b : Addr) (N : Nat) (J : Nat → Shared → Prop) (hJ : GQ.ListI prog w A (fun e t => R (.error e) t) l b N J)
    (done : ∀ t, J N t → R (.ok (.ret (.bool false))) t) : ∀ (k i : Nat), N = i + k → ∀ s, J i s →
      wpAny (model prog w) A.in1 (Builtin.«list.__eq__.loop» ⟨[.ref l, .ref b, rawInt i, rawInt 3], []⟩) (GQ.FinOf prog w A R) (fun e t => R (.error e) t) s
  | 0, i, hk, s, h => by
    obtain ⟨us, vs, n, n2, hu, hv, su, sv, _⟩ := hJ _ _ h
    obtain rfl : i = N := hk.symm
    have hR := done s h
    obtain ⟨hp, g, d, tk, os⟩ := s
    wp_walk using wpAny_loadPart' hu, wpAny_loadPart' hv
    have eu : us[((i : Nat) : Int).toNat]? = none := by simp; omega
    have ev : vs[((i : Nat) : Int).toNat]? = none := by simp; omega
    rw [eu, ev]
    wp_walk using wpAny_loadPart' hu, wpAny_loadPart' hv
    show R (.ok (.ret (.bool (us.size != vs.size)))) _
    rw [su, sv]
    simpa using hR
  | k + 1, i, hk, s, h => by
    obtain ⟨us, vs, n, n2, hu, hv, su, sv, step⟩ := hJ _ _ h
    have lu : i < us.size := by omega
    have lv : i < vs.size := by omega
    have here := step lu lv
    obtain ⟨hp, g, d, tk, os⟩ := s
    wp_walk using wpAny_loadPart' hu, wpAny_loadPart' hv
    have eu : us[((i : Nat) : Int).toNat]? = some us[i] := by simp [lu]
    have ev : vs[((i : Nat) : Int).toNat]? = some vs[i] := by simp [lv]
    have en : ((i : Int) + 1) = ((i + 1 : Nat) : Int) := by omega
    rw [eu, ev]
    refine wpAny_bind (wpAny_mono here (fun r t z => ?_) fun _ _ z => z)
    obtain ⟨rfl, z⟩ := z
    have more := neLoop l b N J hJ done k (i + 1) (by omega) t z
    obtain ⟨hp2, g2, d2, tk2, os2⟩ := t
    wp_walk
    rw [en]
    exact ⟨plainId_quiet plain_eq_loop _, codeAny_builtin entry_eq_loop (by rw [Around.under_plainId plain_eq_loop _]; exact more)⟩
theorem neList (l b : Addr) (N : Nat) (J : Nat → Shared → Prop) (hJ : GQ.ListI prog w A (fun e t => R (.error e) t) l b N J)
    (done : ∀ t, J N t → R (.ok (.ret (.bool false))) t) {s : Shared} (h : J 0 s) :
    wpAny (model prog w) A.in1 (Builtin.«list.__ne__» ⟨[.ref l, .ref b], []⟩) (GQ.FinOf prog w A R) (fun e t => R (.error e) t) s := by
  obtain ⟨us, vs, n, n2, hu, hv, su, sv, _⟩ := hJ _ _ h
  have more := neLoop (A := A) (R := R) l b N J hJ done N 0 (by omega) s h
  obtain ⟨hp, g, d, tk, os⟩ := s
  have isl := AutoSeq1.sub_list_list
  have same : ¬ (us.size != vs.size) = true := by simp [su, sv]
  wp_walk using wpAny_loadPart' hu, wpAny_loadPart' hv
  exact ⟨plainId_quiet plain_eq_loop _, codeAny_builtin entry_eq_loop (by rw [Around.under_plainId plain_eq_loop _]; exact more)⟩
theorem rcNeList {E : Value → Shared → Prop} {s : Shared} {l b : Addr} {N : Nat} {Q : Value → Shared → Prop} (hu : A.units < cLine) (J : Nat → Shared → Prop) (hJ : GQ.ListI prog w A E l b N J)
    (done : ∀ t, J N t → Q (.bool false) t) (h : J 0 s) : wpAny (model prog w) A (richCompare .NotEq (.ref l) (.ref b)) Q E s := by
  obtain ⟨us, vs, n, n2, h1, h2, _⟩ := hJ _ _ h
  refine wpAny_richCompare_same_room (op := .NotEq) ⟨_, h1, rfl⟩ ⟨_, h2, rfl⟩ F.slot_list_ne (GQ.call_here F.slot_list_ne ⟨_, h1, rfl⟩ F.entry_list_ne (F.args_list_ne_2 _ _) ?_) hu
  exact neList (R := wants (fun v t => v ≠ .notImplemented ∧ Q v t) E) l b N J hJ (fun t q => ⟨(fun z => nomatch z), done t q⟩) h
end
section
variable {X : Cx} {n : Nat} {D : Eqv}
/-- a call by Runs, under a name -/
def tCallR (sp : Sp) (t : TA) : TE := fun σ H Q => t σ H fun vs H1 => sp vs H1 Q E0
theorem pe_callD {f : Addr} {sp : Sp} {x : Str} {e : Expr} {es : List Expr} {t : TA} {p pos : Pos} (R : Runs X X.A f sp) (hg : Gl X x) (hm : X.mg x = some (.ref f)) (hk : PySem.W.keepIn X.K (.ref f) = true) (ha : PA X (e :: es) t)
    (hdb : (x == ("__debug__" : Str)) = false := by decide) (he : starEach (e :: es) X.env = (false, eval e X.env) :: starEach es X.env := by rfl) (hpl : (backTo pos (starEach es X.env)).any (·.1) = false := by rfl) :
    PE X (.Call (.Name x p) (e :: es) [] pos) (tCallR sp t) := pe_callR R hg hm hk ha hdb he hpl
/-- x != y, lists whose items are equal by D -/
def rNeL (D : Eqv) : R2 := fun x y H Q => DList D x y H ∧ ∀ H', Ext H H' → Q (.bl false) H'
theorem op_neL (hD : Mon D) (h : EqG X n D) (hr : Room (n + 1) X.A) : OpR X (compareOp .NotEq) (rNeL D) := by
  intro pins s σ H x y v u Q I rx ry hq
  obtain ⟨⟨a, b, xs, ys, rfl, rfl, ha, hb, p⟩, q⟩ := hq
  cases rx
  cases ry
  show wpAny (model X.prog X.w) X.A (richCompare .NotEq (.ref a) (.ref b)) (EP X pins σ Q) X.xe s
  refine rcNeList (N := xs.length) hr.units0 (fun _ t => LoopI X pins σ H t) (fun i t z => ?_) (fun t z => ?_) ⟨H, I, Ext.rfl'⟩
  · obtain ⟨H1, I1, e1⟩ := id z
    obtain ⟨_, us, k1, r1, g1⟩ := I1.hok a _ (e1 _ _ ha)
    obtain ⟨_, vs, k2, r2, g2⟩ := I1.hok b _ (e1 _ _ hb)
    refine ⟨us.toArray, vs.toArray, k1, k2, g1, g2, by rw [List.size_toArray, ← r1.length], by rw [List.size_toArray, ← r2.length, ← p.1], fun l1 l2 => ?_⟩
    exact turnG hD h ⟨hr, rfl⟩ p r1 r2 i l1 l2 t z
  · obtain ⟨H1, I1, e1⟩ := z
    exact ⟨.bl false, H1, I1, rfl, q H1 e1⟩
end
end NS

namespace P
open PySem L2 NS
/-! ### the text by places -/
def top (i : Nat) : Stmt := PySem.Challenge.pw_notesums_k11_ratios_by_integers.main.body.getD i (.Pass ⟨0, 0, 0, 0⟩)
abbrev s_InvalidNumber_init : Stmt := inClass (top 2) 0
theorem sc_InvalidNumber_init : FnScope ["self", "value"] ["self", "value"] (defScope s_InvalidNumber_init) := ⟨rfl, rfl, rfl, by decide +kernel, rfl, by decide +kernel, by decide +kernel⟩
abbrev s_DividedByZero_init : Stmt := inClass (top 4) 0
theorem sc_DividedByZero_init : FnScope ["self"] ["self"] (defScope s_DividedByZero_init) := ⟨rfl, rfl, rfl, by decide +kernel, rfl, by decide +kernel, by decide +kernel⟩
abbrev s_is_integer : Stmt := top 6
theorem sc_is_integer : FnScope ["value"] ["value"] (defScope s_is_integer) := ⟨rfl, rfl, rfl, by decide +kernel, rfl, by decide +kernel, by decide +kernel⟩
abbrev s_is_number : Stmt := top 7
theorem sc_is_number : FnScope ["value"] ["value"] (defScope s_is_number) := ⟨rfl, rfl, rfl, by decide +kernel, rfl, by decide +kernel, by decide +kernel⟩
abbrev s_want_number : Stmt := top 8
theorem sc_want_number : FnScope ["value"] ["value"] (defScope s_want_number) := ⟨rfl, rfl, rfl, by decide +kernel, rfl, by decide +kernel, by decide +kernel⟩
abbrev s_as_ratio : Stmt := top 9
theorem sc_as_ratio : FnScope ["number"] ["number"] (defScope s_as_ratio) := ⟨rfl, rfl, rfl, by decide +kernel, rfl, by decide +kernel, by decide +kernel⟩
abbrev s_common_divisor : Stmt := top 10
theorem sc_common_divisor : FnScope ["one", "other"] ["one", "other"] (defScope s_common_divisor) := ⟨rfl, rfl, rfl, by decide +kernel, rfl, by decide +kernel, by decide +kernel⟩
abbrev s_Ratio_init : Stmt := inClass (top 11) 0
theorem sc_Ratio_init : FnScope ["self", "top", "bottom", "divisor"] ["self", "top", "bottom"] (defScope s_Ratio_init) := ⟨rfl, rfl, rfl, by decide +kernel, rfl, by decide +kernel, by decide +kernel⟩
abbrev s_Ratio_total : Stmt := inClass (top 11) 1
theorem sc_Ratio_total : FnScope ["cls", "numbers", "found", "number"] ["cls", "numbers"] (defScope s_Ratio_total) := ⟨rfl, rfl, rfl, by decide +kernel, rfl, by decide +kernel, by decide +kernel⟩
abbrev s_Ratio_top : Stmt := inClass (top 11) 2
theorem sc_Ratio_top : FnScope ["self"] ["self"] (defScope s_Ratio_top) := ⟨rfl, rfl, rfl, by decide +kernel, rfl, by decide +kernel, by decide +kernel⟩
abbrev s_Ratio_bottom : Stmt := inClass (top 11) 3
theorem sc_Ratio_bottom : FnScope ["self"] ["self"] (defScope s_Ratio_bottom) := ⟨rfl, rfl, rfl, by decide +kernel, rfl, by decide +kernel, by decide +kernel⟩
abbrev s_Ratio_sign : Stmt := inClass (top 11) 4
theorem sc_Ratio_sign : FnScope ["self"] ["self"] (defScope s_Ratio_sign) := ⟨rfl, rfl, rfl, by decide +kernel, rfl, by decide +kernel, by decide +kernel⟩
abbrev s_Ratio_over : Stmt := inClass (top 11) 5
theorem sc_Ratio_over : FnScope ["self", "other", "more"] ["self", "other"] (defScope s_Ratio_over) := ⟨rfl, rfl, rfl, by decide +kernel, rfl, by decide +kernel, by decide +kernel⟩
abbrev s_Ratio_is_below : Stmt := inClass (top 11) 6
theorem sc_Ratio_is_below : FnScope ["self", "other", "more"] ["self", "other"] (defScope s_Ratio_is_below) := ⟨rfl, rfl, rfl, by decide +kernel, rfl, by decide +kernel, by decide +kernel⟩
abbrev s_Ratio_add : Stmt := inClass (top 11) 7
theorem sc_Ratio_add : FnScope ["self", "other", "more", "top"] ["self", "other"] (defScope s_Ratio_add) := ⟨rfl, rfl, rfl, by decide +kernel, rfl, by decide +kernel, by decide +kernel⟩
abbrev s_Ratio_sub : Stmt := inClass (top 11) 8
theorem sc_Ratio_sub : FnScope ["self", "other"] ["self", "other"] (defScope s_Ratio_sub) := ⟨rfl, rfl, rfl, by decide +kernel, rfl, by decide +kernel, by decide +kernel⟩
abbrev s_Ratio_mul : Stmt := inClass (top 11) 9
theorem sc_Ratio_mul : FnScope ["self", "other", "more"] ["self", "other"] (defScope s_Ratio_mul) := ⟨rfl, rfl, rfl, by decide +kernel, rfl, by decide +kernel, by decide +kernel⟩
abbrev s_Ratio_neg : Stmt := inClass (top 11) 10
theorem sc_Ratio_neg : FnScope ["self"] ["self"] (defScope s_Ratio_neg) := ⟨rfl, rfl, rfl, by decide +kernel, rfl, by decide +kernel, by decide +kernel⟩
abbrev s_Ratio_eq : Stmt := inClass (top 11) 11
theorem sc_Ratio_eq : FnScope ["self", "other"] ["self", "other"] (defScope s_Ratio_eq) := ⟨rfl, rfl, rfl, by decide +kernel, rfl, by decide +kernel, by decide +kernel⟩
abbrev s_Ratio_str : Stmt := inClass (top 11) 12
theorem sc_Ratio_str : FnScope ["self"] ["self"] (defScope s_Ratio_str) := ⟨rfl, rfl, rfl, by decide +kernel, rfl, by decide +kernel, by decide +kernel⟩
abbrev s_Ratio_repr : Stmt := inClass (top 11) 13
theorem sc_Ratio_repr : FnScope ["self"] ["self"] (defScope s_Ratio_repr) := ⟨rfl, rfl, rfl, by decide +kernel, rfl, by decide +kernel, by decide +kernel⟩
abbrev s_law_rng : Stmt := top 13
theorem sc_law_rng : FnScope ["_law_script", "_law_k", "_law_cell"] ["_law_script", "_law_k"] (defScope s_law_rng) := ⟨rfl, rfl, rfl, by decide +kernel, rfl, by decide +kernel, by decide +kernel⟩
abbrev s_law_draw : Stmt := top 14
theorem sc_law_draw : FnScope ["_law_rng_here", "_law_many", "_law_digit"] ["_law_rng_here", "_law_many"] (defScope s_law_draw) := ⟨rfl, rfl, rfl, by decide +kernel, rfl, by decide +kernel, by decide +kernel⟩
abbrev s_law_choice : Stmt := top 15
theorem sc_law_choice : FnScope ["_law_rng_here", "_law_some"] ["_law_rng_here", "_law_some"] (defScope s_law_choice) := ⟨rfl, rfl, rfl, by decide +kernel, rfl, by decide +kernel, by decide +kernel⟩
abbrev s_law_common : Stmt := top 16
theorem sc_law_common : FnScope ["_law_one", "_law_other"] ["_law_one", "_law_other"] (defScope s_law_common) := ⟨rfl, rfl, rfl, by decide +kernel, rfl, by decide +kernel, by decide +kernel⟩
abbrev s_law_pair : Stmt := top 17
theorem sc_law_pair : FnScope ["_law_rng_here", "_law_top"] ["_law_rng_here"] (defScope s_law_pair) := ⟨rfl, rfl, rfl, by decide +kernel, rfl, by decide +kernel, by decide +kernel⟩
abbrev s_law_lowest : Stmt := top 18
theorem sc_law_lowest : FnScope ["_law_pair_here", "_law_top", "_law_bottom", "_law_common_here"] ["_law_pair_here"] (defScope s_law_lowest) := ⟨rfl, rfl, rfl, by decide +kernel, rfl, by decide +kernel, by decide +kernel⟩
abbrev s_law_sign : Stmt := top 19
theorem sc_law_sign : FnScope ["_law_number"] ["_law_number"] (defScope s_law_sign) := ⟨rfl, rfl, rfl, by decide +kernel, rfl, by decide +kernel, by decide +kernel⟩
abbrev s_law_is : Stmt := top 20
theorem sc_law_is : FnScope ["_law_one", "_law_pair_here", "_law_top", "_law_bottom", "_law_text", "_law_told"] ["_law_one", "_law_pair_here"] (defScope s_law_is) := ⟨rfl, rfl, rfl, by decide +kernel, rfl, by decide +kernel, by decide +kernel⟩
abbrev s_law_is_divided_right : Stmt := top 21
theorem sc_law_is_divided_right : FnScope ["_law_one", "_law_other", "_law_first", "_law_second", "e"] ["_law_one", "_law_other", "_law_first", "_law_second"] (defScope s_law_is_divided_right) := ⟨rfl, rfl, rfl, by decide +kernel, rfl, by decide +kernel, by decide +kernel⟩
abbrev s_law_two_right : Stmt := top 22
theorem sc_law_two_right : FnScope ["_law_one", "_law_other", "_law_first", "_law_second", "_law_a", "_law_b", "_law_c", "_law_d"] ["_law_one", "_law_other", "_law_first", "_law_second"] (defScope s_law_two_right) := ⟨rfl, rfl, rfl, by decide +kernel, rfl, by decide +kernel, by decide +kernel⟩
abbrev s_law_right : Stmt := top 23
theorem sc_law_right : FnScope ["_law_rng_here", "_law_pairs", "_law_turn", "_law_made", "_law_top", "_law_bottom", "_law_shown", "_law_number", "_law_second", "_law_one", "_law_pair_here", "_law_first", "_law_other", "_law_more", "_law_told", "_law_whole", "_law_totals"] ["_law_rng_here"] (defScope s_law_right) := ⟨rfl, rfl, rfl, by decide +kernel, rfl, by decide +kernel, by decide +kernel⟩
abbrev s_law : Stmt := top 24
theorem sc_law : FnScope ["_law_script", "_law_k", "_law_rng_here", "_law_turn"] ["_law_script"] (defScope s_law) := ⟨rfl, rfl, rfl, by decide +kernel, rfl, by decide +kernel, by decide +kernel⟩
/-! ### addresses, and what the top has written -/
structure Ad where
  Ratio : Addr
  NotesumsError : Addr
  InvalidNumber : Addr
  StateError : Addr
  DividedByZero : Addr
  is_integer : Addr
  d_is_integer : FuncData
  is_number : Addr
  d_is_number : FuncData
  want_number : Addr
  d_want_number : FuncData
  as_ratio : Addr
  d_as_ratio : FuncData
  common_divisor : Addr
  d_common_divisor : FuncData
  law_rng : Addr
  d_law_rng : FuncData
  law_draw : Addr
  d_law_draw : FuncData
  law_choice : Addr
  d_law_choice : FuncData
  law_common : Addr
  d_law_common : FuncData
  law_pair : Addr
  d_law_pair : FuncData
  law_lowest : Addr
  d_law_lowest : FuncData
  law_sign : Addr
  d_law_sign : FuncData
  law_is : Addr
  d_law_is : FuncData
  law_is_divided_right : Addr
  d_law_is_divided_right : FuncData
  law_two_right : Addr
  d_law_two_right : FuncData
  law_right : Addr
  d_law_right : FuncData
  law : Addr
  d_law : FuncData
  Ratio_init : Addr
  d_Ratio_init : FuncData
  Ratio_total : Addr
  d_Ratio_total : FuncData
  Ratio_top : Addr
  d_Ratio_top : FuncData
  Ratio_bottom : Addr
  d_Ratio_bottom : FuncData
  Ratio_sign : Addr
  d_Ratio_sign : FuncData
  Ratio_over : Addr
  d_Ratio_over : FuncData
  Ratio_is_below : Addr
  d_Ratio_is_below : FuncData
  Ratio_add : Addr
  d_Ratio_add : FuncData
  Ratio_sub : Addr
  d_Ratio_sub : FuncData
  Ratio_mul : Addr
  d_Ratio_mul : FuncData
  Ratio_neg : Addr
  d_Ratio_neg : FuncData
  Ratio_eq : Addr
  d_Ratio_eq : FuncData
  Ratio_str : Addr
  d_Ratio_str : FuncData
  Ratio_repr : Addr
  d_Ratio_repr : FuncData
  p_Ratio_total : Addr
  p_Ratio_top : Addr
  p_Ratio_bottom : Addr
  p_Ratio_sign : Addr
  InvalidNumber_init : Addr
  d_InvalidNumber_init : FuncData
  DividedByZero_init : Addr
  d_DividedByZero_init : FuncData
structure Txt (K : PySem.W.Frag) (mg : Str → Option Value) (a : Ad) : Prop where
  is_integer : Dfn K mg "is_integer" s_is_integer a.is_integer a.d_is_integer
  is_number : Dfn K mg "is_number" s_is_number a.is_number a.d_is_number
  want_number : Dfn K mg "want_number" s_want_number a.want_number a.d_want_number
  as_ratio : Dfn K mg "as_ratio" s_as_ratio a.as_ratio a.d_as_ratio
  common_divisor : Dfn K mg "common_divisor" s_common_divisor a.common_divisor a.d_common_divisor
  law_rng : Dfn K mg "_law_rng" s_law_rng a.law_rng a.d_law_rng
  law_draw : Dfn K mg "_law_draw" s_law_draw a.law_draw a.d_law_draw
  law_choice : Dfn K mg "_law_choice" s_law_choice a.law_choice a.d_law_choice
  law_common : Dfn K mg "_law_common" s_law_common a.law_common a.d_law_common
  law_pair : Dfn K mg "_law_pair" s_law_pair a.law_pair a.d_law_pair
  law_lowest : Dfn K mg "_law_lowest" s_law_lowest a.law_lowest a.d_law_lowest
  law_sign : Dfn K mg "_law_sign" s_law_sign a.law_sign a.d_law_sign
  law_is : Dfn K mg "_law_is" s_law_is a.law_is a.d_law_is
  law_is_divided_right : Dfn K mg "_law_is_divided_right" s_law_is_divided_right a.law_is_divided_right a.d_law_is_divided_right
  law_two_right : Dfn K mg "_law_two_right" s_law_two_right a.law_two_right a.d_law_two_right
  law_right : Dfn K mg "_law_right" s_law_right a.law_right a.d_law_right
  law : Dfn K mg "law" s_law a.law a.d_law
  Ratio : Cl K mg "Ratio" a.Ratio
  no_Ratio_own_top : NoAttr K a.Ratio "own_top"
  no_Ratio_own_bottom : NoAttr K a.Ratio "own_bottom"
  Ratio_init : MthD K a.Ratio "__init__" "Ratio.__init__" s_Ratio_init [.int 1] a.Ratio_init a.d_Ratio_init
  Ratio_top : Prp K a.Ratio "top" "Ratio.top" s_Ratio_top a.p_Ratio_top a.Ratio_top a.d_Ratio_top
  Ratio_bottom : Prp K a.Ratio "bottom" "Ratio.bottom" s_Ratio_bottom a.p_Ratio_bottom a.Ratio_bottom a.d_Ratio_bottom
  Ratio_sign : Prp K a.Ratio "sign" "Ratio.sign" s_Ratio_sign a.p_Ratio_sign a.Ratio_sign a.d_Ratio_sign
  Ratio_over : Mth K a.Ratio "over" "Ratio.over" s_Ratio_over a.Ratio_over a.d_Ratio_over
  Ratio_is_below : Mth K a.Ratio "is_below" "Ratio.is_below" s_Ratio_is_below a.Ratio_is_below a.d_Ratio_is_below
  Ratio_add : Mth K a.Ratio "__add__" "Ratio.__add__" s_Ratio_add a.Ratio_add a.d_Ratio_add
  Ratio_sub : Mth K a.Ratio "__sub__" "Ratio.__sub__" s_Ratio_sub a.Ratio_sub a.d_Ratio_sub
  Ratio_mul : Mth K a.Ratio "__mul__" "Ratio.__mul__" s_Ratio_mul a.Ratio_mul a.d_Ratio_mul
  Ratio_neg : Mth K a.Ratio "__neg__" "Ratio.__neg__" s_Ratio_neg a.Ratio_neg a.d_Ratio_neg
  Ratio_eq : Mth K a.Ratio "__eq__" "Ratio.__eq__" s_Ratio_eq a.Ratio_eq a.d_Ratio_eq
  Ratio_str : Mth K a.Ratio "__str__" "Ratio.__str__" s_Ratio_str a.Ratio_str a.d_Ratio_str
  Ratio_repr : Mth K a.Ratio "__repr__" "Ratio.__repr__" s_Ratio_repr a.Ratio_repr a.d_Ratio_repr
  O_Ratio_add : OwnOp K a.Ratio .Add a.Ratio_add
  O_Ratio_sub : OwnOp K a.Ratio .Sub a.Ratio_sub
  O_Ratio_mul : OwnOp K a.Ratio .Mult a.Ratio_mul
  O_Ratio_neg : OwnNeg K a.Ratio a.Ratio_neg
  O_Ratio_eq : OwnEq K a.Ratio a.Ratio_eq
  O_Ratio_str : OwnStr K a.Ratio "__str__" a.Ratio_str
  O_Ratio_repr : OwnStr K a.Ratio "__repr__" a.Ratio_repr
  b_abs : mg "abs" = none
  b_all : mg "all" = none
  b_bool : mg "bool" = none
  b_divmod : mg "divmod" = none
  b_int : mg "int" = none
  b_isinstance : mg "isinstance" = none
  b_len : mg "len" = none
  b_max : mg "max" = none
  b_min : mg "min" = none
  b_range : mg "range" = none
  b_repr : mg "repr" = none
  b_str : mg "str" = none
  b_zip : mg "zip" = none
  g_DividedByZero : mg "DividedByZero" = some (.ref a.DividedByZero)
  g_NotesumsError : mg "NotesumsError" = some (.ref a.NotesumsError)
  g_RuntimeError : mg "RuntimeError" = none
  X_DividedByZero : ExK K "RuntimeError" "RuntimeError.__new__" "RuntimeError.__init__" [.type "RuntimeError", .type "Exception", .type "BaseException", .type "object"] a.DividedByZero
  S_StateError : ExS K mg "StateError" a.StateError "RuntimeError.__init__"
  DividedByZero_init : Mth K a.DividedByZero "__init__" "DividedByZero.__init__" s_DividedByZero_init a.DividedByZero_init a.d_DividedByZero_init
  t_DividedByZero_init : PySem.W.typeIn K (.ref a.DividedByZero_init) = some (.type "function")
  C_DividedByZero : ExcC K a.DividedByZero
  e_DividedByZero : PySem.W.exmOne K (.ref a.DividedByZero) (.ref a.DividedByZero) = some true
  k_DividedByZero : PySem.W.kitOne K (.ref a.DividedByZero) (.type "RuntimeError") = some true
  n_DividedByZero : PySem.W.kitOne K (.ref a.DividedByZero) (.ref a.NotesumsError) = some false
  total_at : ClX.CMet K a.Ratio (.type "type") "total" a.p_Ratio_total a.Ratio_total
  total_rd : ClX.CRead K a.Ratio (.type "type")
  total_fn : ∃ (oc : Value) (od : Option Addr) (kV doc pm : Value) (an : Option Addr) (cdv ct : Value) (osl : Array (Option Value)),
    K.lookup a.Ratio_total = some ⟨oc, od, .func (PySem.W.fnOf "total" "Ratio.total" (defArgs s_Ratio_total) (defBody s_Ratio_total) (defScope s_Ratio_total) .none kV doc pm an cdv ct), osl⟩ ∧ PySem.W.codeIn K cdv "Ratio.total" = true
end P

namespace P
open PySem L2 NS

/-! ### Ratios on the heap -/
theorem bt_ne : ¬ (("own_bottom" : Str) = "own_top") := by decide +kernel
/-- the attributes of a Ratio, in the order in which __init__ stores them -/
def rf (q : Rat) : List (Str × V) := putF "own_bottom" (.int (q.den : Int)) (putF "own_top" (.int q.num) [])
theorem rf_top (q : Rat) : (rf q).lookup ("own_top" : Str) = some (.int q.num) := by
  unfold rf
  rw [lookup_putF, if_neg (fun z => bt_ne z.symm), lookup_putF, if_pos rfl]
theorem rf_bot (q : Rat) : (rf q).lookup ("own_bottom" : Str) = some (.int (q.den : Int)) := by
  unfold rf
  rw [lookup_putF, if_pos rfl]
theorem rf_no (q : Rat) {m : Str} (h1 : ¬ m = "own_bottom") (h2 : ¬ m = "own_top") : (rf q).lookup m = none := by
  unfold rf
  rw [lookup_putF, if_neg h1, lookup_putF, if_neg h2]
  rfl
/-- v is a Ratio of the value q -/
def IsRat (C : Addr) (H : Hp) (v : V) (q : Rat) : Prop := ∃ p dx, v = .ref p ∧ H p = some (.ins C dx (rf q))
theorem IsRat.ext {C : Addr} {H H' : Hp} {v : V} {q : Rat} (h : IsRat C H v q) (e : Ext H H') : IsRat C H' v q := by
  obtain ⟨p, dx, rfl, hp⟩ := h
  exact ⟨p, dx, rfl, e _ _ hp⟩
/-- an int or a Ratio -/
def IsNum (C : Addr) (H : Hp) (v : V) (q : Rat) : Prop := (∃ i : Int, v = .int i ∧ q = (i : Rat)) ∨ IsRat C H v q
theorem IsNum.ext {C : Addr} {H H' : Hp} {v : V} {q : Rat} (h : IsNum C H v q) (e : Ext H H') : IsNum C H' v q := h.elim .inl fun h => .inr (h.ext e)

/-! ### is_integer, is_number, want_number -/
def spIsInt (C : Addr) : Sp := fun vs H Q _ => ∃ v, vs = [v] ∧ ((∃ i, v = .int i ∧ Q (.bl true) H) ∨ ∃ q, IsRat C H v q ∧ Q (.bl false) H)
def spIsNum (C : Addr) : Sp := fun vs H Q _ => ∃ v q, vs = [v] ∧ IsNum C H v q ∧ Q (.bl true) H
def spWant (C : Addr) : Sp := fun vs H Q _ => ∃ v q, vs = [v] ∧ IsNum C H v q ∧ Q .non H
section
variable {P : Program} {w : World} {K : PySem.W.Frag} {mg : Str → Option Value} {base : Heap} {a : Ad}
theorem B_is_integer (T : Txt K mg a) : Binds K a.d_is_integer ["value"] [] := T.is_integer.F.binds fun _ _ _ _ _ _ us hl => match us, hl with | [_], _ => rfl
theorem ok_is_integer (T : Txt K mg a) : FnOk P w K mg base CX0 1 a.is_integer a.d_is_integer ["value"] (spIsInt a.Ratio) := by
  refine T.is_integer.F.ok sc_is_integer (fun vs H Q E h => ?_) (fun cdv A outer s H vs Q E hr h => ?_)
  · obtain ⟨v, rfl, _⟩ := h
    rfl
  · obtain ⟨v, rfl, h⟩ := h
    refine ⟨_, (pss_one (ps_ret (pe_and (pe_callB call_isi (by rfl) T.b_isinstance (by decide +kernel) (pa_cons (pv 0) (pa_cons (pe_bltn (v := .ty "int") (by rfl) T.b_int (by decide +kernel) rfl) pa_nil))) (pe_one (pe_not (pe_callB call_isi (by rfl) T.b_isinstance (by decide +kernel) (pa_cons (pv 0) (pa_cons (pe_bltn (v := .ty "bool") (by rfl) T.b_bool (by decide +kernel) rfl) pa_nil)))))))), ?_⟩
    rcases h with ⟨i, rfl, h⟩ | ⟨q, ⟨p, dx, rfl, hp⟩, h⟩
    · exact ⟨_, rfl, _, _, _, _, _, rfl, .ty _, ty_int i, kit_int_int, _, rfl, iteT ⟨_, rfl, _, _, _, _, _, rfl, .ty _, ty_int i, kit_int_bool, _, rfl, h⟩⟩
    · exact ⟨_, rfl, _, _, _, _, _, rfl, .ty _, T.Ratio.ty hp, T.Ratio.o_int, _, rfl, iteF h⟩
theorem B_is_number (T : Txt K mg a) : Binds K a.d_is_number ["value"] [] := T.is_number.F.binds fun _ _ _ _ _ _ us hl => match us, hl with | [_], _ => rfl
theorem ok_is_number (T : Txt K mg a) : FnOk P w K mg base CX0 2 a.is_number a.d_is_number ["value"] (spIsNum a.Ratio) := by
  have G_is_integer := ok_is_integer (P := P) (w := w) (base := base) T
  have b_is_integer := B_is_integer T
  refine T.is_number.F.ok sc_is_number (fun vs H Q E h => ?_) (fun cdv A outer s H vs Q E hr h => ?_)
  · obtain ⟨v, q, rfl, _⟩ := h
    rfl
  · obtain ⟨v, q, rfl, hn, h⟩ := h
    refine ⟨_, (pss_one (ps_ret (pe_or (pe_call G_is_integer (hr.mono (by decide)) (by rfl) T.is_integer.g T.is_integer.F.kp b_is_integer .nil pass0 (pa_cons (pv 0) pa_nil)) (pe_one (pe_callB call_isi (by rfl) T.b_isinstance (by decide +kernel) (pa_cons (pv 0) (pa_cons (pe_glob (v := .ref a.Ratio) (by rfl) T.Ratio.g rfl) pa_nil))))))), ?_⟩
    rcases hn with ⟨i, rfl, _⟩ | hn
    · exact ⟨_, rfl, _, rfl, .inl ⟨i, rfl, _, rfl, iteT h⟩⟩
    · obtain ⟨p, dx, rfl, hp⟩ := id hn
      exact ⟨_, rfl, _, rfl, .inr ⟨q, hn, _, rfl, iteF ⟨_, rfl, _, _, _, _, _, rfl, .own _, T.Ratio.ty hp, T.Ratio.k_own, h⟩⟩⟩
theorem B_want_number (T : Txt K mg a) : Binds K a.d_want_number ["value"] [] := T.want_number.F.binds fun _ _ _ _ _ _ us hl => match us, hl with | [_], _ => rfl
theorem ok_want_number (T : Txt K mg a) : FnOk P w K mg base CX0 3 a.want_number a.d_want_number ["value"] (spWant a.Ratio) := by
  have G_is_number := ok_is_number (P := P) (w := w) (base := base) T
  have b_is_number := B_is_number T
  refine T.want_number.F.ok sc_want_number (fun vs H Q E h => ?_) (fun cdv A outer s H vs Q E hr h => ?_)
  · obtain ⟨v, q, rfl, _⟩ := h
    rfl
  · obtain ⟨v, q, rfl, hn, h⟩ := h
    refine ⟨_, (pss_one (ps_if (pt_not (pt_val (pe_call G_is_number (hr.mono (by decide)) (by rfl) T.is_number.g T.is_number.F.kp b_is_number .nil pass0 (pa_cons (pv 0) pa_nil)))) (pss_one ps_never) pss_nil)), ?_⟩
    exact ⟨_, rfl, v, q, rfl, hn, _, rfl, iteF h⟩

/-! ### common_divisor -/
def spGcd : Sp := fun vs H Q _ => ∃ m n : Nat, vs = [.int m, .int n] ∧ Q (.int (Nat.gcd m n : Nat)) H
theorem B_common_divisor (T : Txt K mg a) : Binds K a.d_common_divisor ["one", "other"] [] := T.common_divisor.F.binds fun _ _ _ _ _ _ us hl => match us, hl with | [_, _], _ => rfl
theorem gcd_turn {m n : Nat} (h : n ≠ 0) : Nat.gcd n (m % n) = Nat.gcd m n := by
  rw [Nat.gcd_comm m n, Nat.gcd_rec n m, Nat.gcd_comm]
theorem ok_common_divisor (T : Txt K mg a) : FnOk P w K mg base CX0 1 a.common_divisor a.d_common_divisor ["one", "other"] spGcd := by
  refine T.common_divisor.F.ok sc_common_divisor (fun vs H Q E h => ?_) (fun cdv A outer s H vs Q E hr h => ?_)
  · obtain ⟨m, n, rfl, _⟩ := h
    rfl
  · obtain ⟨m, n, rfl, h⟩ := h
    refine ⟨_, (pss_cons (ps_while PassesOwn.never (pt_cmpR op_ne (pv 1) pe_int (nomark _)) (pss_one (ps_par (i := 0) (j := 1) (by rfl) sc_common_divisor.nd rfl rfl (by decide) rfl rfl (pa_cons (pv 1) (pa_cons (pe_op op_modN (pv 0) (pv 1)) pa_nil)) (by rfl))))
      (pss_one (ps_ret (pv 0)))), ?_⟩
    refine ⟨fun k σ H1 => H1 = H ∧ ∃ m' : Nat, σ = [some (.int m'), some (.int k)] ∧ Nat.gcd m' k = Nat.gcd m n, ⟨n, rfl, m, rfl, rfl⟩, ?_⟩
    rintro k σ H1 ⟨rfl, m', rfl, e⟩
    refine ⟨_, rfl, rfl, _, rfl, ?_⟩
    by_cases hk : k = 0
    · subst hk
      rw [Nat.gcd_zero_right] at e
      refine iteN (by decide) ?_
      refine ⟨_, rfl, ?_⟩
      rw [e]
      exact h
    · have hk' : ((k : Nat) : Int) ≠ 0 := by omega
      have hd : (!decide (V.int (k : Int) = V.int 0)) = true := by
        rw [dec_int]
        simp [hk]
      refine iteY hd ?_
      refine ⟨fun σ' H' => H' = H1 ∧ σ' = [some (.int (k : Int)), some (.int ((m' % k : Nat) : Int))], ?_, ?_⟩
      · rintro σ' H' ⟨rfl, rfl⟩
        exact ⟨m' % k, Nat.mod_lt _ (by omega), rfl, k, rfl, (gcd_turn hk).trans e⟩
      · refine ⟨_, rfl, _, rfl, _, rfl, _, _, rfl, rfl, hk', _, _, rfl, rfl, ?_⟩
        show [_, some (V.int ((m' : Int).fmod (k : Int)))] = _
        rw [Int.fmod_eq_emod_of_nonneg _ (by omega)]
        rfl
end
end P

namespace P
open PySem L2 NS

/-! ### Ratio(top, bottom) -/
theorem abs_nat (i : Int) : (if i < 0 then -i else i) = ((i.natAbs : Nat) : Int) := by
  split <;> omega
def spInit (C : Addr) : Sp := fun vs H Q _ => ∃ (p dx : Addr) (t b : Int), vs = [.ref p, .int t, .int b] ∧ H p = some (.ins C dx []) ∧ b ≠ 0 ∧ Bt 9000 t ∧ Bt 9000 b ∧
  ∀ H', (∀ c o, H c = some o → c ≠ p → H' c = some o) → H' p = some (.ins C dx (rf (Rat.divInt t b))) → Q .non H'
section
variable {P : Program} {w : World} {K : PySem.W.Frag} {mg : Str → Option Value} {base : Heap} {a : Ad}
theorem B_Ratio2 (T : Txt K mg a) : Binds K a.d_Ratio_init ["self", "top", "bottom"] [] := by
  obtain ⟨ds, v, b⟩ := T.Ratio_init.F.binds1 (ps := ["self", "top", "bottom"]) 3 1 (by decide) rfl fun T kV doc pm an cdv ct us its h1 h2 => match us, its, h1, h2 with
    | [_, _, _], [_], _, _ => ⟨_, rfl, rfl⟩
  cases v
  exact b
theorem B_Ratio1 (T : Txt K mg a) : ∃ ds, Vals [.int 1] ds ∧ Binds K a.d_Ratio_init ["self", "top", "bottom"] ds :=
  T.Ratio_init.F.binds1 (ps := ["self", "top", "bottom"]) 2 0 (by decide) rfl fun T kV doc pm an cdv ct us its h1 h2 => match us, its, h1, h2 with
    | [_, _], [_], _, _ => ⟨_, rfl, rfl⟩
theorem Mk_Ratio (T : Txt K mg a) : Mk K a.Ratio a.Ratio_init := ⟨T.Ratio.mks, T.Ratio_init.at_, T.Ratio_init.fn, T.Ratio.kp⟩
theorem ok_Ratio_init (T : Txt K mg a) : FnOk P w K mg base CX0 2 a.Ratio_init a.d_Ratio_init ["self", "top", "bottom"] (spInit a.Ratio) := by
  have G_is_integer := ok_is_integer (P := P) (w := w) (base := base) T
  have b_is_integer := B_is_integer T
  have G_common_divisor := ok_common_divisor (P := P) (w := w) (base := base) T
  have b_common_divisor := B_common_divisor T
  refine T.Ratio_init.F.ok sc_Ratio_init (fun vs H Q E h => ?_) (fun cdv A outer s H vs Q E hr h => ?_)
  · obtain ⟨p, dx, t, b, rfl, _⟩ := h
    rfl
  · obtain ⟨p, dx, t, b, rfl, hp, hb, zt, zb, h⟩ := h
    refine ⟨_, PSs.nox (pss_cons (ps_if (pt_not (pt_val (pe_call G_is_integer (hr.mono (by decide)) (by rfl) T.is_integer.g T.is_integer.F.kp b_is_integer .nil pass0 (pa_cons (pv 1) pa_nil)))) (pss_one ps_never) pss_nil)
      (pss_cons (ps_if (PW.pt (pw_or (pt_not (pt_val (pe_call G_is_integer (hr.mono (by decide)) (by rfl) T.is_integer.g T.is_integer.F.kp b_is_integer .nil pass0 (pa_cons (pv 2) pa_nil)))) (pw_or1 (pt_cmpR op_eq (pv 2) pe_int (nomark _))))) (pss_one ps_never) pss_nil)
      (pss_cons (ps_set (i := 3) sc_Ratio_init.nd rfl (.inl rfl) (pe_call G_common_divisor (hr.mono (by decide)) (by rfl) T.common_divisor.g T.common_divisor.F.kp b_common_divisor .nil pass0 (pa_cons (pe_callB call_abs (by rfl) T.b_abs (by decide +kernel) (pa_cons (pv 1) pa_nil)) (pa_cons (pe_callB call_abs (by rfl) T.b_abs (by decide +kernel) (pa_cons (pv 2) pa_nil)) pa_nil))))
      (pss_cons (ps_if (pt_cmpR op_lt (pv 2) pe_int (nomark _)) (pss_one (ps_set (i := 3) sc_Ratio_init.nd rfl (.inl rfl) (pe_un un_neg (pv 3)))) pss_nil)
      (pss_cons (ps_fld (pv 0) (pe_op op_fdivX (pv 1) (pv 3)) rfl)
      (pss_one (ps_fld (pv 0) (pe_op op_fdivX (pv 2) (pv 3)) rfl))))))), ?_⟩
    refine ⟨_, rfl, _, rfl, .inl ⟨t, rfl, _, rfl, iteF ?_⟩⟩
    refine ⟨_, rfl, _, rfl, .inl ⟨b, rfl, _, rfl, iteF ?_⟩⟩
    refine ⟨_, rfl, rfl, _, rfl, iteN (by simpa using hb) ?_⟩
    refine ⟨_, rfl, _, rfl, _, rfl, _, rfl, t.natAbs, b.natAbs, (by rw [← abs_nat, ← abs_nat]; rfl), ?_⟩
    have hdv : ∀ σ : L2.St, σ = [some (.ref p), some (.int t), some (.int b), some (.int (dv t b))] →
        tSeq (sFld K (tVar 0) (tOp (rI CDivX fun i j => .int (i.fdiv j)) (tVar 1) (tVar 3)) "own_top") (sFld K (tVar 0) (tOp (rI CDivX fun i j => .int (i.fdiv j)) (tVar 2) (tVar 3)) "own_bottom")
          { nx := fun _ H' => Q .non H', rt := Q } σ H := by
      rintro σ rfl
      have zd : Bt 9000 (dv t b) := by
        unfold Bt
        rw [dv_abs]
        exact Nat.lt_of_le_of_lt (Nat.gcd_le_right _ (by omega)) zb
      refine ⟨_, rfl, _, rfl, _, _, rfl, rfl, cdivX (dv_ne hb) zd (by decide) (by decide), _, rfl, p, _, dx, _, rfl, hp, T.Ratio.cls, T.no_Ratio_own_top, (by show 0 < 1000; decide), ?_⟩
      refine ⟨_, rfl, _, rfl, _, _, rfl, rfl, cdivX (dv_ne hb) zd (by decide) (by decide), _, rfl, p, _, dx, _, rfl, upd_same, T.Ratio.cls, T.no_Ratio_own_bottom, (by show 1 < 1000; decide), ?_⟩
      refine h _ (fun c o e ne => by rw [upd_ne ne, upd_ne ne]; exact e) ?_
      rw [upd_same]
      show some (HO.ins _ dx (putF "own_bottom" (.int (b.fdiv (dv t b))) (putF "own_top" (.int (t.fdiv (dv t b))) []))) = _
      rw [dv_num hb, dv_den hb]
      rfl
    refine ⟨_, rfl, _, _, rfl, rfl, _, rfl, ?_⟩
    by_cases hn : b < 0
    · refine iteY (decide_eq_true hn) ?_
      refine ⟨_, rfl, _, rfl, ?_⟩
      exact hdv _ (by rw [show dv t b = -((Nat.gcd t.natAbs b.natAbs : Nat) : Int) from if_pos hn]; rfl)
    · refine iteN (decide_eq_false hn) ?_
      exact hdv _ (by rw [show dv t b = ((Nat.gcd t.natAbs b.natAbs : Nat) : Int) from if_neg hn]; rfl)

theorem made {C x dx : Addr} {H H' : Hp} {q : Rat} (hx : H x = none) (hd : H dx = none) (keep : ∀ c o, upd (upd H dx (.own x)) x (.ins C dx []) c = some o → c ≠ x → H' c = some o)
    (hp : H' x = some (.ins C dx (rf q))) : Ext H H' ∧ IsRat C H' (.ref x) q := by
  refine ⟨fun c o e => keep c o ?_ (ne_of_none e hx), x, dx, rfl, hp⟩
  rw [upd_ne (ne_of_none e hx), upd_ne (ne_of_none e hd)]
  exact e
/-- a new Ratio: what is asked of C(..) -/
theorem rd_Ratio {C : Addr} {H : Hp} {t b : Int} {Q : VK} (hb : b ≠ 0) (zt : Bt 9000 t) (zb : Bt 9000 b) (k : ∀ v H', Ext H H' → IsRat C H' v (Rat.divInt t b) → Q v H') :
    ∀ x dx, H x = none → H dx = none → dx ≠ x → spInit C [.ref x, .int t, .int b] (upd (upd H dx (.own x)) x (.ins C dx [])) (fun v H2 => v = .non ∧ Q (.ref x) H2) E0 := by
  intro x dx hx hd ne
  refine ⟨x, dx, t, b, rfl, upd_same, hb, zt, zb, fun H' keep hp => ⟨rfl, k _ _ (fun c o e => keep c o ?_ (ne_of_none e hx)) ⟨x, dx, rfl, hp⟩⟩⟩
  rw [upd_ne (ne_of_none e hx), upd_ne (ne_of_none e hd)]
  exact e
end
end P

namespace P
open PySem L2 NS

/-! ### as_ratio, the operators -/
def spAs (C : Addr) : Sp := fun vs H Q _ => ∃ v q, vs = [v] ∧ IsNum C H v q ∧ Sz 9000 q ∧ ∀ v' H', Ext H H' → IsRat C H' v' q → Q v' H'
/-- an operator with a Ratio on the left and a number on the right -/
def spBin (C : Addr) (f : Rat → Rat → Rat) : Sp := fun vs H Q _ => ∃ v1 v2 q1 q2, vs = [v1, v2] ∧ IsRat C H v1 q1 ∧ IsNum C H v2 q2 ∧ Sz 4000 q1 ∧ Sz 4000 q2 ∧ ∀ v' H', Ext H H' → IsRat C H' v' (f q1 q2) → Q v' H'
def spNeg (C : Addr) : Sp := fun vs H Q _ => ∃ v q, vs = [v] ∧ IsRat C H v q ∧ Sz 9000 q ∧ ∀ v' H', Ext H H' → IsRat C H' v' (-q) → Q v' H'
def spBelow (C : Addr) : Sp := fun vs H Q _ => ∃ v1 v2 q1 q2, vs = [v1, v2] ∧ IsRat C H v1 q1 ∧ IsNum C H v2 q2 ∧ Sz 4000 q1 ∧ Sz 4000 q2 ∧ ∀ H', Ext H H' → Q (.bl (decide (q1 < q2))) H'
/-- == : what may stand on the right -/
def spEq2 (C : Addr) : Sp := fun vs H Q _ => ∃ v1 v2 q1, vs = [v1, v2] ∧ IsRat C H v1 q1 ∧ ((∃ q2, IsRat C H v2 q2 ∧ Q (.bl (decide (q1 = q2))) H) ∨ (((∃ i, v2 = .int i) ∨ (∃ x, v2 = .str x) ∨ ∃ b xs, v2 = .ref b ∧ H b = some (.tup xs)) ∧ Q (.bl false) H))
theorem int_eq (i : Int) : Rat.divInt i 1 = (i : Rat) := by
  have h := Rat.num_divInt_den (i : Rat)
  exact h
section
variable {P : Program} {w : World} {K : PySem.W.Frag} {mg : Str → Option Value} {base : Heap} {a : Ad}
theorem B_as_ratio (T : Txt K mg a) : Binds K a.d_as_ratio ["number"] [] := T.as_ratio.F.binds fun _ _ _ _ _ _ us hl => match us, hl with | [_], _ => rfl
theorem ok_as_ratio (T : Txt K mg a) : FnOk P w K mg base CX0 4 a.as_ratio a.d_as_ratio ["number"] (spAs a.Ratio) := by
  have G_Ratio_init := ok_Ratio_init (P := P) (w := w) (base := base) T
  have M_Ratio := Mk_Ratio T
  obtain ⟨ds, v_Ratio1, b_Ratio1⟩ := B_Ratio1 T
  refine T.as_ratio.F.ok sc_as_ratio (fun vs H Q E h => ?_) (fun cdv A outer s H vs Q E hr h => ?_)
  · obtain ⟨v, q, rfl, _⟩ := h
    rfl
  · obtain ⟨v, q, rfl, hn, zq, h⟩ := h
    refine ⟨_, (pss_one (ps_ret (pe_ifExp (pt_val (pe_callB call_isi (by rfl) T.b_isinstance (by decide +kernel) (pa_cons (pv 0) (pa_cons (pe_glob (v := .ref a.Ratio) (by rfl) T.Ratio.g rfl) pa_nil)))) (pv 0) (pe_make M_Ratio G_Ratio_init (hr.mono (by decide)) (by rfl) T.Ratio.g b_Ratio1 v_Ratio1 pass0 (pa_cons (pv 0) pa_nil))))), ?_⟩
    rcases hn with ⟨i, rfl, rfl⟩ | hn
    · refine ⟨_, rfl, _, _, _, _, _, rfl, .own _, ty_int i, T.Ratio.k_int, _, rfl, iteF ⟨_, rfl, ?_⟩⟩
      refine rd_Ratio (by decide) zq.top (by unfold Bt; exact Nat.one_lt_two_pow (by decide)) fun v' H' e r => h v' H' e ?_
      rw [int_eq] at r
      exact r
    · obtain ⟨p, dx, rfl, hp⟩ := id hn
      exact ⟨_, rfl, _, _, _, _, _, rfl, .own _, T.Ratio.ty hp, T.Ratio.k_own, _, rfl, iteT ⟨_, rfl, h _ H Ext.rfl' hn⟩⟩

theorem B_Ratio_neg (T : Txt K mg a) : Binds K a.d_Ratio_neg ["self"] [] := T.Ratio_neg.F.binds fun _ _ _ _ _ _ us hl => match us, hl with | [_], _ => rfl
theorem ok_Ratio_neg (T : Txt K mg a) : FnOk P w K mg base CX0 4 a.Ratio_neg a.d_Ratio_neg ["self"] (spNeg a.Ratio) := by
  have G_Ratio_init := ok_Ratio_init (P := P) (w := w) (base := base) T
  have M_Ratio := Mk_Ratio T
  have b_Ratio2 := B_Ratio2 T
  refine T.Ratio_neg.F.ok sc_Ratio_neg (fun vs H Q E h => ?_) (fun cdv A outer s H vs Q E hr h => ?_)
  · obtain ⟨v, q, rfl, _⟩ := h
    rfl
  · obtain ⟨v, q, rfl, ⟨p, dx, rfl, hp⟩, zq, h⟩ := h
    refine ⟨_, (pss_one (ps_ret (pe_make M_Ratio G_Ratio_init (hr.mono (by decide)) (by rfl) T.Ratio.g b_Ratio2 .nil pass0 (pa_cons (pe_un un_neg (pe_fld (pv 0) rfl)) (pa_cons (pe_fld (pv 0) rfl) pa_nil))))), ?_⟩
    refine ⟨_, rfl, p, _, dx, _, _, rfl, hp, T.Ratio.cls, T.no_Ratio_own_top, rf_top q, _, rfl, _, rfl, p, _, dx, _, _, rfl, hp, T.Ratio.cls, T.no_Ratio_own_bottom, rf_bot q, ?_⟩
    refine rd_Ratio (den_ne q) zq.top.neg zq.bot fun v' H' e r => h v' H' e ?_
    rw [neg_eq] at r
    exact r

theorem B_Ratio_add (T : Txt K mg a) : Binds K a.d_Ratio_add ["self", "other"] [] := T.Ratio_add.F.binds fun _ _ _ _ _ _ us hl => match us, hl with | [_, _], _ => rfl
theorem ok_Ratio_add (T : Txt K mg a) : FnOk P w K mg base CX0 5 a.Ratio_add a.d_Ratio_add ["self", "other"] (spBin a.Ratio (· + ·)) := by
  have G_Ratio_init := ok_Ratio_init (P := P) (w := w) (base := base) T
  have M_Ratio := Mk_Ratio T
  have b_Ratio2 := B_Ratio2 T
  have G_want_number := ok_want_number (P := P) (w := w) (base := base) T
  have b_want_number := B_want_number T
  have G_as_ratio := ok_as_ratio (P := P) (w := w) (base := base) T
  have b_as_ratio := B_as_ratio T
  refine T.Ratio_add.F.ok sc_Ratio_add (fun vs H Q E h => ?_) (fun cdv A outer s H vs Q E hr h => ?_)
  · obtain ⟨v1, v2, q1, q2, rfl, _⟩ := h
    rfl
  · obtain ⟨v1, v2, q1, q2, rfl, r1, n2, z1, z2, h⟩ := h
    refine ⟨_, (pss_cons (ps_expr (pe_call G_want_number (hr.mono (by decide)) (by rfl) T.want_number.g T.want_number.F.kp b_want_number .nil pass0 (pa_cons (pv 1) pa_nil)))
      (pss_cons (ps_set (i := 2) sc_Ratio_add.nd rfl (.inl rfl) (pe_call G_as_ratio (hr.mono (by decide)) (by rfl) T.as_ratio.g T.as_ratio.F.kp b_as_ratio .nil pass0 (pa_cons (pv 1) pa_nil)))
      (pss_cons (ps_set (i := 3) sc_Ratio_add.nd rfl (.inl rfl) (pe_op op_add (pe_op op_mulX (pe_fld (pv 0) rfl) (pe_fld (pv 2) rfl)) (pe_op op_mulX (pe_fld (pv 2) rfl) (pe_fld (pv 0) rfl))))
      (pss_one (ps_ret (pe_make M_Ratio G_Ratio_init (hr.mono (by decide)) (by rfl) T.Ratio.g b_Ratio2 .nil pass0 (pa_cons (pv 3) (pa_cons (pe_op op_mulX (pe_fld (pv 0) rfl) (pe_fld (pv 2) rfl)) pa_nil)))))))), ?_⟩
    refine ⟨_, rfl, v2, q2, rfl, n2, ?_⟩
    refine ⟨_, rfl, v2, q2, rfl, n2, z2.mono (by decide), fun m H1 e1 r2 => ?_⟩
    obtain ⟨p, dx, rfl, hp⟩ := r1.ext e1
    obtain ⟨p', dx', rfl, hp'⟩ := r2
    refine ⟨_, rfl, p, _, dx, _, _, rfl, hp, T.Ratio.cls, T.no_Ratio_own_top, rf_top q1, _, rfl, p', _, dx', _, _, rfl, hp', T.Ratio.cls, T.no_Ratio_own_bottom, rf_bot q2, _, _, rfl, rfl, cmulX z1.top z2.bot (by decide), ?_⟩
    refine ⟨_, rfl, p', _, dx', _, _, rfl, hp', T.Ratio.cls, T.no_Ratio_own_top, rf_top q2, _, rfl, p, _, dx, _, _, rfl, hp, T.Ratio.cls, T.no_Ratio_own_bottom, rf_bot q1, _, _, rfl, rfl, cmulX z2.top z1.bot (by decide), _, _, rfl, rfl, ?_⟩
    refine ⟨_, rfl, _, rfl, p, _, dx, _, _, rfl, hp, T.Ratio.cls, T.no_Ratio_own_bottom, rf_bot q1, _, rfl, p', _, dx', _, _, rfl, hp', T.Ratio.cls, T.no_Ratio_own_bottom, rf_bot q2, _, _, rfl, rfl, cmulX z1.bot z2.bot (by decide), ?_⟩
    refine rd_Ratio (Int.mul_ne_zero (den_ne q1) (den_ne q2)) (((z1.top.mul z2.bot).add (z2.top.mul z1.bot)).mono (by decide)) ((z1.bot.mul z2.bot).mono (by decide)) fun v' H' e r => h v' H' (e1.trans e) ?_
    rw [add_eq] at r
    exact r

theorem B_Ratio_mul (T : Txt K mg a) : Binds K a.d_Ratio_mul ["self", "other"] [] := T.Ratio_mul.F.binds fun _ _ _ _ _ _ us hl => match us, hl with | [_, _], _ => rfl
theorem ok_Ratio_mul (T : Txt K mg a) : FnOk P w K mg base CX0 5 a.Ratio_mul a.d_Ratio_mul ["self", "other"] (spBin a.Ratio (· * ·)) := by
  have G_Ratio_init := ok_Ratio_init (P := P) (w := w) (base := base) T
  have M_Ratio := Mk_Ratio T
  have b_Ratio2 := B_Ratio2 T
  have G_want_number := ok_want_number (P := P) (w := w) (base := base) T
  have b_want_number := B_want_number T
  have G_as_ratio := ok_as_ratio (P := P) (w := w) (base := base) T
  have b_as_ratio := B_as_ratio T
  refine T.Ratio_mul.F.ok sc_Ratio_mul (fun vs H Q E h => ?_) (fun cdv A outer s H vs Q E hr h => ?_)
  · obtain ⟨v1, v2, q1, q2, rfl, _⟩ := h
    rfl
  · obtain ⟨v1, v2, q1, q2, rfl, r1, n2, z1, z2, h⟩ := h
    refine ⟨_, (pss_cons (ps_expr (pe_call G_want_number (hr.mono (by decide)) (by rfl) T.want_number.g T.want_number.F.kp b_want_number .nil pass0 (pa_cons (pv 1) pa_nil)))
      (pss_cons (ps_set (i := 2) sc_Ratio_mul.nd rfl (.inl rfl) (pe_call G_as_ratio (hr.mono (by decide)) (by rfl) T.as_ratio.g T.as_ratio.F.kp b_as_ratio .nil pass0 (pa_cons (pv 1) pa_nil)))
      (pss_one (ps_ret (pe_make M_Ratio G_Ratio_init (hr.mono (by decide)) (by rfl) T.Ratio.g b_Ratio2 .nil pass0 (pa_cons (pe_op op_mulX (pe_fld (pv 0) rfl) (pe_fld (pv 2) rfl)) (pa_cons (pe_op op_mulX (pe_fld (pv 0) rfl) (pe_fld (pv 2) rfl)) pa_nil))))))), ?_⟩
    refine ⟨_, rfl, v2, q2, rfl, n2, ?_⟩
    refine ⟨_, rfl, v2, q2, rfl, n2, z2.mono (by decide), fun m H1 e1 r2 => ?_⟩
    obtain ⟨p, dx, rfl, hp⟩ := r1.ext e1
    obtain ⟨p', dx', rfl, hp'⟩ := r2
    refine ⟨_, rfl, p, _, dx, _, _, rfl, hp, T.Ratio.cls, T.no_Ratio_own_top, rf_top q1, _, rfl, p', _, dx', _, _, rfl, hp', T.Ratio.cls, T.no_Ratio_own_top, rf_top q2, _, _, rfl, rfl, cmulX z1.top z2.top (by decide), ?_⟩
    refine ⟨_, rfl, p, _, dx, _, _, rfl, hp, T.Ratio.cls, T.no_Ratio_own_bottom, rf_bot q1, _, rfl, p', _, dx', _, _, rfl, hp', T.Ratio.cls, T.no_Ratio_own_bottom, rf_bot q2, _, _, rfl, rfl, cmulX z1.bot z2.bot (by decide), ?_⟩
    refine rd_Ratio (Int.mul_ne_zero (den_ne q1) (den_ne q2)) ((z1.top.mul z2.top).mono (by decide)) ((z1.bot.mul z2.bot).mono (by decide)) fun v' H' e r => h v' H' (e1.trans e) ?_
    rw [mul_eq] at r
    exact r

theorem B_Ratio_is_below (T : Txt K mg a) : Binds K a.d_Ratio_is_below ["self", "other"] [] := T.Ratio_is_below.F.binds fun _ _ _ _ _ _ us hl => match us, hl with | [_, _], _ => rfl
theorem ok_Ratio_is_below (T : Txt K mg a) : FnOk P w K mg base CX0 5 a.Ratio_is_below a.d_Ratio_is_below ["self", "other"] (spBelow a.Ratio) := by
  have G_want_number := ok_want_number (P := P) (w := w) (base := base) T
  have b_want_number := B_want_number T
  have G_as_ratio := ok_as_ratio (P := P) (w := w) (base := base) T
  have b_as_ratio := B_as_ratio T
  refine T.Ratio_is_below.F.ok sc_Ratio_is_below (fun vs H Q E h => ?_) (fun cdv A outer s H vs Q E hr h => ?_)
  · obtain ⟨v1, v2, q1, q2, rfl, _⟩ := h
    rfl
  · obtain ⟨v1, v2, q1, q2, rfl, r1, n2, z1, z2, h⟩ := h
    refine ⟨_, (pss_cons (ps_expr (pe_call G_want_number (hr.mono (by decide)) (by rfl) T.want_number.g T.want_number.F.kp b_want_number .nil pass0 (pa_cons (pv 1) pa_nil)))
      (pss_cons (ps_set (i := 2) sc_Ratio_is_below.nd rfl (.inl rfl) (pe_call G_as_ratio (hr.mono (by decide)) (by rfl) T.as_ratio.g T.as_ratio.F.kp b_as_ratio .nil pass0 (pa_cons (pv 1) pa_nil)))
      (pss_one (ps_ret (pe_cmpR op_lt (pe_op op_mulX (pe_fld (pv 0) rfl) (pe_fld (pv 2) rfl)) (pe_op op_mulX (pe_fld (pv 2) rfl) (pe_fld (pv 0) rfl)) (nomark _)))))), ?_⟩
    refine ⟨_, rfl, v2, q2, rfl, n2, ?_⟩
    refine ⟨_, rfl, v2, q2, rfl, n2, z2.mono (by decide), fun m H1 e1 r2 => ?_⟩
    obtain ⟨p, dx, rfl, hp⟩ := r1.ext e1
    obtain ⟨p', dx', rfl, hp'⟩ := r2
    refine ⟨_, rfl, p, _, dx, _, _, rfl, hp, T.Ratio.cls, T.no_Ratio_own_top, rf_top q1, _, rfl, p', _, dx', _, _, rfl, hp', T.Ratio.cls, T.no_Ratio_own_bottom, rf_bot q2, _, _, rfl, rfl, cmulX z1.top z2.bot (by decide), ?_⟩
    refine ⟨_, rfl, p', _, dx', _, _, rfl, hp', T.Ratio.cls, T.no_Ratio_own_top, rf_top q2, _, rfl, p, _, dx, _, _, rfl, hp, T.Ratio.cls, T.no_Ratio_own_bottom, rf_bot q1, _, _, rfl, rfl, cmulX z2.top z1.bot (by decide), _, _, rfl, rfl, ?_⟩
    have k := h H1 e1
    rw [show decide (q1 < q2) = decide (q1.num * (q2.den : Int) < q2.num * (q1.den : Int)) from decide_eq_decide.mpr (Rat.lt_iff q1 q2)] at k
    exact k

theorem B_Ratio_eq (T : Txt K mg a) : Binds K a.d_Ratio_eq ["self", "other"] [] := T.Ratio_eq.F.binds fun _ _ _ _ _ _ us hl => match us, hl with | [_, _], _ => rfl
theorem ok_Ratio_eq (T : Txt K mg a) : FnOk P w K mg base CX0 1 a.Ratio_eq a.d_Ratio_eq ["self", "other"] (spEq2 a.Ratio) := by
  refine T.Ratio_eq.F.ok sc_Ratio_eq (fun vs H Q E h => ?_) (fun cdv A outer s H vs Q E hr h => ?_)
  · obtain ⟨v1, v2, q1, rfl, _⟩ := h
    rfl
  · obtain ⟨v1, v2, q1, rfl, ⟨p, dx, rfl, hp⟩, h⟩ := h
    refine ⟨_, (pss_one (ps_ret (pe_and (pe_callB call_isi (by rfl) T.b_isinstance (by decide +kernel) (pa_cons (pv 1) (pa_cons (pe_glob (v := .ref a.Ratio) (by rfl) T.Ratio.g rfl) pa_nil))) (pe_and (pe_cmpR op_eq (pe_fld (pv 0) rfl) (pe_fld (pv 1) rfl) (nomark _)) (pe_one (pe_cmpR op_eq (pe_fld (pv 0) rfl) (pe_fld (pv 1) rfl) (nomark _))))))), ?_⟩
    rcases h with ⟨q2, ⟨p', dx', rfl, hp'⟩, h⟩ | ⟨h2, h⟩
    · refine ⟨_, rfl, _, _, _, _, _, rfl, .own _, T.Ratio.ty hp', T.Ratio.k_own, _, rfl, iteT ?_⟩
      refine ⟨_, rfl, p, _, dx, _, _, rfl, hp, T.Ratio.cls, T.no_Ratio_own_top, rf_top q1, _, rfl, p', _, dx', _, _, rfl, hp', T.Ratio.cls, T.no_Ratio_own_top, rf_top q2, rfl, _, rfl, ?_⟩
      by_cases e1 : q1.num = q2.num
      · refine iteY (by rw [e1]; exact decide_eq_true rfl) ?_
        refine ⟨_, rfl, p, _, dx, _, _, rfl, hp, T.Ratio.cls, T.no_Ratio_own_bottom, rf_bot q1, _, rfl, p', _, dx', _, _, rfl, hp', T.Ratio.cls, T.no_Ratio_own_bottom, rf_bot q2, rfl, ?_⟩
        rw [show decide (q1 = q2) = decide (V.int (q1.den : Int) = V.int (q2.den : Int)) from decide_eq_decide.mpr (rat_ext_iff.trans ⟨fun z => by rw [z.2], fun z => ⟨e1, by injection z⟩⟩)] at h
        exact h
      · refine iteN (decide_eq_false fun z => e1 (by injection z)) ?_
        rw [show decide (q1 = q2) = false from decide_eq_false fun z => e1 (by rw [z])] at h
        exact h
    · rcases h2 with ⟨i, rfl⟩ | ⟨x, rfl⟩ | ⟨b, xs, rfl, hb⟩
      · exact ⟨_, rfl, _, _, _, _, _, rfl, .own _, ty_int i, T.Ratio.k_int, _, rfl, iteF h⟩
      · exact ⟨_, rfl, _, _, _, _, _, rfl, .own _, ty_str x, T.Ratio.k_str, _, rfl, iteF h⟩
      · exact ⟨_, rfl, _, _, _, _, _, rfl, .own _, ty_tup hb, T.Ratio.k_tup, _, rfl, iteF h⟩
end
end P

namespace P
open PySem L2 NS

/-! ### -, texts, sign, properties -/
def tx (i : Int) : Str := Str.ofString (toString i)
theorem tx_len {i : Int} (h : i.natAbs.log2 < 1920) : (tx i).length ≤ 1921 := PyProof.Rows.int_text_len_1921 h
/-- str of a Ratio -/
def strQ (q : Rat) : Str := if q.den = 1 then tx q.num else tx q.num ++ Str.ofString "/" ++ tx (q.den : Int)
def reprQ (q : Rat) : Str := Str.ofString "Ratio(" ++ tx q.num ++ Str.ofString ", " ++ tx (q.den : Int) ++ Str.ofString ")"
def sgn (i : Int) : Int := (if decide (0 < i) then 1 else 0) - (if decide (i < 0) then 1 else 0)
def spStr (C : Addr) (f : Rat → Str) : Sp := fun vs H Q _ => ∃ v q, vs = [v] ∧ IsRat C H v q ∧ Sz 1920 q ∧ Q (.str (f q)) H
def spSign (C : Addr) : Sp := fun vs H Q _ => ∃ v q, vs = [v] ∧ IsRat C H v q ∧ Q (.int (sgn q.num)) H
def spTop (C : Addr) : Sp := fun vs H Q _ => ∃ v q, vs = [v] ∧ IsRat C H v q ∧ Q (.int q.num) H
def spBot (C : Addr) : Sp := fun vs H Q _ => ∃ v q, vs = [v] ∧ IsRat C H v q ∧ Q (.int (q.den : Int)) H
theorem line_ge : 20000 ≤ sizeLine := by decide
section
variable {P : Program} {w : World} {K : PySem.W.Frag} {mg : Str → Option Value} {base : Heap} {a : Ad}
theorem B_Ratio_sub (T : Txt K mg a) : Binds K a.d_Ratio_sub ["self", "other"] [] := T.Ratio_sub.F.binds fun _ _ _ _ _ _ us hl => match us, hl with | [_, _], _ => rfl
theorem ok_Ratio_sub (T : Txt K mg a) : FnOk P w K mg base CX0 6 a.Ratio_sub a.d_Ratio_sub ["self", "other"] (spBin a.Ratio (· - ·)) := by
  have G_want_number := ok_want_number (P := P) (w := w) (base := base) T
  have b_want_number := B_want_number T
  have G_as_ratio := ok_as_ratio (P := P) (w := w) (base := base) T
  have b_as_ratio := B_as_ratio T
  have G_Ratio_add := ok_Ratio_add (P := P) (w := w) (base := base) T
  have b_Ratio_add := B_Ratio_add T
  have G_Ratio_neg := ok_Ratio_neg (P := P) (w := w) (base := base) T
  have b_Ratio_neg := B_Ratio_neg T
  refine T.Ratio_sub.F.ok sc_Ratio_sub (fun vs H Q E h => ?_) (fun cdv A outer s H vs Q E hr h => ?_)
  · obtain ⟨v1, v2, q1, q2, rfl, _⟩ := h
    rfl
  · obtain ⟨v1, v2, q1, q2, rfl, r1, n2, z1, z2, h⟩ := h
    refine ⟨_, (pss_cons (ps_expr (pe_call G_want_number (hr.mono (by decide)) (by rfl) T.want_number.g T.want_number.F.kp b_want_number .nil pass0 (pa_cons (pv 1) pa_nil)))
      (pss_one (ps_ret (pe_op (op_own T.O_Ratio_add (Runs.of G_Ratio_add b_Ratio_add (hr.mono (by decide)) rfl)) (pv 0) (pe_un (un_own T.O_Ratio_neg (Runs.of G_Ratio_neg b_Ratio_neg (hr.mono (by decide)) rfl)) (pe_call G_as_ratio (hr.mono (by decide)) (by rfl) T.as_ratio.g T.as_ratio.F.kp b_as_ratio .nil pass0 (pa_cons (pv 1) pa_nil))))))), ?_⟩
    refine ⟨_, rfl, v2, q2, rfl, n2, ?_⟩
    refine ⟨_, rfl, _, rfl, v2, q2, rfl, n2, z2.mono (by decide), fun m H1 e1 r2 => ?_⟩
    obtain ⟨p', dx', rfl, hp'⟩ := id r2
    refine ⟨p', dx', _, rfl, hp', _, q2, rfl, r2, z2.mono (by decide), fun m' H2 e2 r3 => ?_⟩
    have r1' := r1.ext (e1.trans e2)
    obtain ⟨p, dx, rfl, hp⟩ := id r1'
    obtain ⟨p3, dx3, rfl, hp3⟩ := id r3
    refine ⟨p, dx, _, rfl, hp, .inr ⟨p3, dx3, _, rfl, hp3⟩, _, _, q1, -q2, rfl, r1', .inr r3, z1, sz_neg z2, fun v' H' e r => h v' H' ((e1.trans e2).trans e) ?_⟩
    show IsRat a.Ratio H' v' (q1 - q2)
    rw [← sub_eq]
    exact r

theorem B_Ratio_str (T : Txt K mg a) : Binds K a.d_Ratio_str ["self"] [] := T.Ratio_str.F.binds fun _ _ _ _ _ _ us hl => match us, hl with | [_], _ => rfl
theorem ok_Ratio_str (T : Txt K mg a) : FnOk P w K mg base CX0 1 a.Ratio_str a.d_Ratio_str ["self"] (spStr a.Ratio strQ) := by
  refine T.Ratio_str.F.ok sc_Ratio_str (fun vs H Q E h => ?_) (fun cdv A outer s H vs Q E hr h => ?_)
  · obtain ⟨v, q, rfl, _⟩ := h
    rfl
  · obtain ⟨v, q, rfl, ⟨p, dx, rfl, hp⟩, zq, h⟩ := h
    have zt := zq.top.log (by decide)
    have zb := zq.bot.log (by decide)
    refine ⟨_, (pss_cons (ps_if (pt_cmpR op_eq (pe_fld (pv 0) rfl) pe_int (nomark _)) (pss_one (ps_ret (pe_callTy call_str_int (by rfl) T.b_str (by decide +kernel) (pa_cons (pe_fld (pv 0) rfl) pa_nil)))) pss_nil)
      (pss_one (ps_ret (pe_joined (.cons (pe_fmt (pe_fld (pv 0) rfl)) (.cons pe_str (.cons (pe_fmt (pe_fld (pv 0) rfl)) PJ.nil))))))), ?_⟩
    refine ⟨_, rfl, p, _, dx, _, _, rfl, hp, T.Ratio.cls, T.no_Ratio_own_bottom, rf_bot q, rfl, _, rfl, ?_⟩
    by_cases e : q.den = 1
    · refine iteY (by rw [e]; rfl) ?_
      refine ⟨_, rfl, p, _, dx, _, _, rfl, hp, T.Ratio.cls, T.no_Ratio_own_top, rf_top q, _, rfl, zt, ?_⟩
      unfold strQ at h
      rw [if_pos e] at h
      exact h
    · refine iteN (decide_eq_false fun z => e (by injection z with z; omega)) ?_
      have l1 := tx_len zt
      have l2 := tx_len zb
      have ll := line_ge
      refine ⟨_, rfl, p, _, dx, _, _, rfl, hp, T.Ratio.cls, T.no_Ratio_own_top, rf_top q, .inr ⟨_, rfl, zt, _, rfl, ?_, ?_⟩⟩
      · rw [Str.empty_append]
        exact Nat.le_trans l1 (by omega)
      refine ⟨_, rfl, ?_, ?_⟩
      · rw [Str.empty_append, strLen_append]
        show (tx q.num).length + 1 ≤ _
        omega
      refine ⟨_, rfl, p, _, dx, _, _, rfl, hp, T.Ratio.cls, T.no_Ratio_own_bottom, rf_bot q, .inr ⟨_, rfl, zb, _, rfl, ?_, ?_⟩⟩
      · rw [Str.empty_append, strLen_append, strLen_append]
        show (tx q.num).length + 1 + (tx (q.den : Int)).length ≤ _
        omega
      · show Q (.str (Str.empty ++ tx q.num ++ Str.ofString "/" ++ tx (q.den : Int))) H
        rw [Str.empty_append]
        unfold strQ at h
        rw [if_neg e] at h
        exact h
theorem B_Ratio_repr (T : Txt K mg a) : Binds K a.d_Ratio_repr ["self"] [] := T.Ratio_repr.F.binds fun _ _ _ _ _ _ us hl => match us, hl with | [_], _ => rfl
theorem ok_Ratio_repr (T : Txt K mg a) : FnOk P w K mg base CX0 1 a.Ratio_repr a.d_Ratio_repr ["self"] (spStr a.Ratio reprQ) := by
  refine T.Ratio_repr.F.ok sc_Ratio_repr (fun vs H Q E h => ?_) (fun cdv A outer s H vs Q E hr h => ?_)
  · obtain ⟨v, q, rfl, _⟩ := h
    rfl
  · obtain ⟨v, q, rfl, ⟨p, dx, rfl, hp⟩, zq, h⟩ := h
    have zt := zq.top.log (by decide)
    have zb := zq.bot.log (by decide)
    have l1 := tx_len zt
    have l2 := tx_len zb
    have ll := line_ge
    have c6 : (Str.ofString "Ratio(").length = 6 := rfl
    have c2 : (Str.ofString ", ").length = 2 := rfl
    have c1 : (Str.ofString ")").length = 1 := rfl
    refine ⟨_, (pss_one (ps_ret (pe_joined (.cons pe_str (.cons (pe_fmt (pe_fld (pv 0) rfl)) (.cons pe_str (.cons (pe_fmt (pe_fld (pv 0) rfl)) (.cons pe_str PJ.nil)))))))), ?_⟩
    refine ⟨_, rfl, ?_, ?_⟩
    · rw [Str.empty_append, c6]
      omega
    refine ⟨_, rfl, p, _, dx, _, _, rfl, hp, T.Ratio.cls, T.no_Ratio_own_top, rf_top q, .inr ⟨_, rfl, zt, _, rfl, ?_, ?_⟩⟩
    · rw [Str.empty_append, strLen_append, c6]
      show 6 + (tx q.num).length ≤ _
      omega
    refine ⟨_, rfl, ?_, ?_⟩
    · rw [Str.empty_append, strLen_append, strLen_append, c6, c2]
      show 6 + (tx q.num).length + 2 ≤ _
      omega
    refine ⟨_, rfl, p, _, dx, _, _, rfl, hp, T.Ratio.cls, T.no_Ratio_own_bottom, rf_bot q, .inr ⟨_, rfl, zb, _, rfl, ?_, ?_⟩⟩
    · rw [Str.empty_append, strLen_append, strLen_append, strLen_append, c6, c2]
      show 6 + (tx q.num).length + 2 + (tx (q.den : Int)).length ≤ _
      omega
    refine ⟨_, rfl, ?_, ?_⟩
    · rw [Str.empty_append, strLen_append, strLen_append, strLen_append, strLen_append, c6, c2, c1]
      show 6 + (tx q.num).length + 2 + (tx (q.den : Int)).length + 1 ≤ _
      omega
    · show Q (.str (Str.empty ++ Str.ofString "Ratio(" ++ tx q.num ++ Str.ofString ", " ++ tx (q.den : Int) ++ Str.ofString ")")) H
      rw [Str.empty_append]
      exact h

theorem B_Ratio_sign (T : Txt K mg a) : Binds K a.d_Ratio_sign ["self"] [] := T.Ratio_sign.F.binds fun _ _ _ _ _ _ us hl => match us, hl with | [_], _ => rfl
theorem ok_Ratio_sign (T : Txt K mg a) : FnOk P w K mg base CX0 1 a.Ratio_sign a.d_Ratio_sign ["self"] (spSign a.Ratio) := by
  refine T.Ratio_sign.F.ok sc_Ratio_sign (fun vs H Q E h => ?_) (fun cdv A outer s H vs Q E hr h => ?_)
  · obtain ⟨v, q, rfl, _⟩ := h
    rfl
  · obtain ⟨v, q, rfl, ⟨p, dx, rfl, hp⟩, h⟩ := h
    refine ⟨_, (pss_one (ps_ret (pe_op op_sub (pe_callTy call_int1 (by rfl) T.b_int (by decide +kernel) (pa_cons (pe_cmpR op_gt (pe_fld (pv 0) rfl) pe_int (nomark _)) pa_nil)) (pe_callTy call_int1 (by rfl) T.b_int (by decide +kernel) (pa_cons (pe_cmpR op_lt (pe_fld (pv 0) rfl) pe_int (nomark _)) pa_nil))))), ?_⟩
    exact ⟨_, rfl, p, _, dx, _, _, rfl, hp, T.Ratio.cls, T.no_Ratio_own_top, rf_top q, _, _, rfl, rfl, .inr ⟨_, rfl, _, rfl, p, _, dx, _, _, rfl, hp, T.Ratio.cls, T.no_Ratio_own_top, rf_top q, _, _, rfl, rfl, .inr ⟨_, rfl, _, _, rfl, rfl, h⟩⟩⟩
theorem B_Ratio_top (T : Txt K mg a) : Binds K a.d_Ratio_top ["self"] [] := T.Ratio_top.F.binds fun _ _ _ _ _ _ us hl => match us, hl with | [_], _ => rfl
theorem ok_Ratio_top (T : Txt K mg a) : FnOk P w K mg base CX0 1 a.Ratio_top a.d_Ratio_top ["self"] (spTop a.Ratio) := by
  refine T.Ratio_top.F.ok sc_Ratio_top (fun vs H Q E h => ?_) (fun cdv A outer s H vs Q E hr h => ?_)
  · obtain ⟨v, q, rfl, _⟩ := h
    rfl
  · obtain ⟨v, q, rfl, ⟨p, dx, rfl, hp⟩, h⟩ := h
    refine ⟨_, (pss_one (ps_ret (pe_fld (pv 0) rfl))), ?_⟩
    exact ⟨_, rfl, p, _, dx, _, _, rfl, hp, T.Ratio.cls, T.no_Ratio_own_top, rf_top q, h⟩
theorem B_Ratio_bottom (T : Txt K mg a) : Binds K a.d_Ratio_bottom ["self"] [] := T.Ratio_bottom.F.binds fun _ _ _ _ _ _ us hl => match us, hl with | [_], _ => rfl
theorem ok_Ratio_bottom (T : Txt K mg a) : FnOk P w K mg base CX0 1 a.Ratio_bottom a.d_Ratio_bottom ["self"] (spBot a.Ratio) := by
  refine T.Ratio_bottom.F.ok sc_Ratio_bottom (fun vs H Q E h => ?_) (fun cdv A outer s H vs Q E hr h => ?_)
  · obtain ⟨v, q, rfl, _⟩ := h
    rfl
  · obtain ⟨v, q, rfl, ⟨p, dx, rfl, hp⟩, h⟩ := h
    refine ⟨_, (pss_one (ps_ret (pe_fld (pv 0) rfl))), ?_⟩
    exact ⟨_, rfl, p, _, dx, _, _, rfl, hp, T.Ratio.cls, T.no_Ratio_own_bottom, rf_bot q, h⟩
end
end P

namespace P
open PySem L2 NS

/-! ### the drawing -/
/-- all but the object at r is as it was -/
def But (r : Addr) (H H' : Hp) : Prop := ∀ b o, H b = some o → b ≠ r → H' b = some o
theorem But.rfl' {r : Addr} {H : Hp} : But r H H := fun _ _ h _ => h
theorem But.trans {r : Addr} {H H1 H2 : Hp} (x : But r H H1) (y : But r H1 H2) : But r H H2 := fun b o h n => y b o (x b o h n) n
theorem But.ext {r : Addr} {H H1 H2 : Hp} (x : But r H H1) (y : Ext H1 H2) : But r H H2 := fun b o h n => y b o (x b o h n)
theorem but_of {r : Addr} {H H1 : Hp} (y : Ext H H1) : But r H H1 := fun b o h _ => y b o h
theorem But.upd {r : Addr} {H H1 : Hp} {o : HO} (x : But r H H1) : But r H (upd H1 r o) := fun b u h n => by
  rw [upd_ne n]
  exact x b u h n
/-- the drawer at r -/
def Rng (H : Hp) (r : Addr) : Prop := ∃ x y : Int, H r = some (.lst [.int x, .int y]) ∧ 0 ≤ x ∧ 0 ≤ y ∧ y < 2147483648
theorem Rng.ext {H H' : Hp} {r : Addr} (h : Rng H r) (e : Ext H H') : Rng H' r := by
  obtain ⟨x, y, hr, z⟩ := h
  exact ⟨x, y, e _ _ hr, z⟩
theorem Rng.ne_tup {H : Hp} {r b : Addr} {xs : List V} (h : Rng H r) (hb : H b = some (.tup xs)) : b ≠ r := by
  obtain ⟨x, y, hr, _⟩ := h
  exact ne_of hb hr (fun z => nomatch z)
theorem Rng.ne_ins {H : Hp} {r b C dx : Addr} {fs : List (Str × V)} (h : Rng H r) (hb : H b = some (.ins C dx fs)) : b ≠ r := by
  obtain ⟨x, y, hr, _⟩ := h
  exact ne_of hb hr (fun z => nomatch z)
def spRng (K : PySem.W.Frag) : Sp := fun vs H Q _ => ∃ (s : Addr) (ns : List Int) (k : Nat), vs = [.ref s, .int k] ∧ SqL K H s (ns.map V.int) ∧ k ≤ 1000 ∧ ∀ r H', H r = none → Ext H H' → Rng H' r → Q (.ref r) H'
def spDraw : Sp := fun vs H Q _ => ∃ (r : Addr) (n : Int), vs = [.ref r, .int n] ∧ Rng H r ∧ 0 < n ∧ n < 1073741824 ∧ ∀ d H', 0 ≤ d → d < n → But r H H' → Rng H' r → Q (.int d) H'
def spChoice : Sp := fun vs H Q _ => ∃ (r l : Addr) (xs : List V), vs = [.ref r, .ref l] ∧ Rng H r ∧ H l = some (.lst xs) ∧ l ≠ r ∧ 0 < xs.length ∧ xs.length ≤ 1000 ∧ ∀ v H', v ∈ xs → But r H H' → Rng H' r → Q v H'
theorem fmod_pos {i j : Int} (h : 0 < j) : i.fmod j = i % j := Int.fmod_eq_emod_of_nonneg _ (by omega)
theorem fdiv_pos {i j : Int} (h : 0 < j) : i.fdiv j = i / j := Int.fdiv_eq_ediv_of_nonneg _ (by omega)
theorem bt_of {i : Int} {n : Nat} (h0 : 0 ≤ i) (h : i < 2 ^ n) : Bt n i := by
  unfold Bt
  have e : ((2 ^ n : Nat) : Int) = (2 : Int) ^ n := Int.natCast_pow 2 n
  omega
section
variable {P : Program} {w : World} {K : PySem.W.Frag} {mg : Str → Option Value} {base : Heap} {a : Ad}
theorem B_law_draw (T : Txt K mg a) : Binds K a.d_law_draw ["_law_rng_here", "_law_many"] [] := T.law_draw.F.binds fun _ _ _ _ _ _ us hl => match us, hl with | [_, _], _ => rfl
theorem ok_law_draw (T : Txt K mg a) : FnOk P w K mg base CX0 1 a.law_draw a.d_law_draw ["_law_rng_here", "_law_many"] spDraw := by
  refine T.law_draw.F.ok sc_law_draw (fun vs H Q E h => ?_) (fun cdv A outer s H vs Q E hr h => ?_)
  · obtain ⟨r, n, rfl, _⟩ := h
    rfl
  · obtain ⟨r, n, rfl, ⟨x, y, hx, x0, y0, y1⟩, n0, n1, h⟩ := h
    refine ⟨_, (pss_cons (ps_if (pt_cmpR op_gt (pe_ix ix_list (pv 0) pe_int (fun _ _ => rfl)) pe_int (nomark _)) (pss_cons (ps_asg (pe_callB call_divmod (by rfl) T.b_divmod (by decide +kernel) (pa_cons (pe_ix ix_list (pv 0) pe_int (fun _ _ => rfl)) (pa_cons (pv 1) pa_nil))) (pg_tup rfl (pgs_cons (pg_sub (pv 0) pe_int set_list) (pgs_cons (pg_name (i := 2) sc_law_draw.nd rfl (.inl rfl)) pgs_nil))))
      (pss_one (ps_ret (pv 2)))) pss_nil)
      (pss_cons (ps_asg (pe_op op_modN (pe_callTy call_int1 (by rfl) T.b_int (by decide +kernel) (pa_cons (pe_op op_add (pe_op op_mulX (pe_ix ix_list (pv 0) pe_int (fun _ _ => rfl)) pe_int) pe_int) pa_nil)) pe_int) (pg_sub (pv 0) pe_int set_list))
      (pss_one (ps_ret (pe_op op_modN (pe_op op_fdivX (pe_op op_modN (pe_callTy call_int1 (by rfl) T.b_int (by decide +kernel) (pa_cons (pe_op op_mulX (pe_ix ix_list (pv 0) pe_int (fun _ _ => rfl)) (pe_ix ix_list (pv 0) pe_int (fun _ _ => rfl))) pa_nil)) pe_int) pe_int) (pv 1)))))), ?_⟩
    refine ⟨_, rfl, r, _, _, _, rfl, rfl, SqL.of hx, rfl, _, _, rfl, rfl, _, rfl, ?_⟩
    by_cases hp : 0 < x
    · refine iteY (decide_eq_true hp) ?_
      refine ⟨_, rfl, r, _, _, _, rfl, rfl, SqL.of hx, rfl, _, rfl, _, _, rfl, ⟨n0, n1⟩, fun p hn => ?_⟩
      have hr' : upd H p (.tup [.int (x / n), .int (x % n)]) r = some (.lst [.int x, .int y]) := by
        rw [upd_ne (ne_of_none hx hn)]
        exact hx
      refine ⟨p, _, rfl, SqT.of upd_same, rfl, _, _, rfl, _, rfl, r, _, _, 0, rfl, rfl, hr', rfl, _, _, rfl, rfl, ?_⟩
      refine ⟨_, rfl, h _ _ (Int.emod_nonneg _ (by omega)) (Int.emod_lt_of_pos _ n0) (But.upd (but_of (Ext.upd hn))) ⟨x / n, y, upd_same, Int.ediv_nonneg x0 (by omega), y0, y1⟩⟩
    · refine iteN (decide_eq_false hp) ?_
      have b31 : Bt 31 y := bt_of y0 (by omega)
      refine ⟨_, rfl, r, _, _, _, rfl, rfl, SqL.of hx, rfl, _, _, rfl, rfl, cmulX b31 (n := 16) (by decide) (by decide), _, _, rfl, rfl, .inl ⟨_, rfl, _, _, rfl, rfl, (show (2147483563 : Int) ≠ 0 by decide), _, rfl, r, _, _, 1, rfl, rfl, hx, rfl, ?_⟩⟩
      refine to_heap (H2 := upd H r (.lst [.int x, .int ((y * 40693 + 27017) % 2147483563)])) (by rw [← fmod_pos (by decide)]; rfl) ?_
      generalize hz : (y * 40693 + 27017) % 2147483563 = z
      have z0 : 0 ≤ z := by rw [← hz]; exact Int.emod_nonneg _ (by decide)
      have z1 : z < 2147483563 := by rw [← hz]; exact Int.emod_lt_of_pos _ (by decide)
      have bz : Bt 31 z := bt_of z0 (by omega)
      have hr2 : upd H r (.lst [.int x, .int z]) r = some (.lst [.int x, .int z]) := upd_same
      refine ⟨_, rfl, r, _, _, _, rfl, rfl, SqL.of hr2, rfl, _, rfl, r, _, _, _, rfl, rfl, SqL.of hr2, rfl, _, _, rfl, rfl, cmulX bz bz (by decide), .inl ⟨_, rfl, _, _, rfl, rfl, (show (2147483477 : Int) ≠ 0 by decide), _, _, rfl, rfl, ⟨show (17 : Int) ≠ 0 by decide, show Nat.log2 17 < 9000 by decide⟩, _, rfl, _, _, rfl, rfl, (show n ≠ 0 by omega), ?_⟩⟩
      show Q (.int (Int.fmod _ n)) _
      rw [fmod_pos n0]
      exact h _ _ (Int.emod_nonneg _ (by omega)) (Int.emod_lt_of_pos _ n0) (But.upd But.rfl') ⟨x, z, upd_same, x0, z0, by omega⟩
theorem B_law_choice (T : Txt K mg a) : Binds K a.d_law_choice ["_law_rng_here", "_law_some"] [] := T.law_choice.F.binds fun _ _ _ _ _ _ us hl => match us, hl with | [_, _], _ => rfl
theorem ok_law_choice (T : Txt K mg a) : FnOk P w K mg base CX0 2 a.law_choice a.d_law_choice ["_law_rng_here", "_law_some"] spChoice := by
  have G_law_draw := ok_law_draw (P := P) (w := w) (base := base) T
  have b_law_draw := B_law_draw T
  refine T.law_choice.F.ok sc_law_choice (fun vs H Q E h => ?_) (fun cdv A outer s H vs Q E hr h => ?_)
  · obtain ⟨r, l, xs, rfl, _⟩ := h
    rfl
  · obtain ⟨r, l, xs, rfl, hx, hl, ne, x0, x1, h⟩ := h
    refine ⟨_, (pss_one (ps_ret (pe_ix ix_list (pv 1) (pe_call G_law_draw (hr.mono (by decide)) (by rfl) T.law_draw.g T.law_draw.F.kp b_law_draw .nil pass0 (pa_cons (pv 0) (pa_cons (pe_callB call_len (by rfl) T.b_len (by decide +kernel) (pa_cons (pv 1) pa_nil)) pa_nil))) (fun _ _ => rfl)))), ?_⟩
    refine ⟨_, rfl, _, rfl, _, rfl, _, _, rfl, .inl ⟨xs, SqL.of hl, rfl⟩, r, _, rfl, hx, by omega, by omega, fun d H' d0 d1 e hr' => ?_⟩
    obtain ⟨j, rfl⟩ : ∃ j : Nat, d = (j : Int) := ⟨d.toNat, by omega⟩
    have hj : j < xs.length := by omega
    exact ⟨l, xs, _, xs[j], rfl, rfl, SqL.of (e _ _ hl ne), atI_nat (List.getElem?_eq_getElem hj), h _ _ (List.getElem_mem hj) e hr'⟩
theorem B_law_rng (T : Txt K mg a) : Binds K a.d_law_rng ["_law_script", "_law_k"] [] := T.law_rng.F.binds fun _ _ _ _ _ _ us hl => match us, hl with | [_, _], _ => rfl
theorem ok_law_rng (T : Txt K mg a) : FnOk P w K mg base CX0 1 a.law_rng a.d_law_rng ["_law_script", "_law_k"] (spRng K) := by
  refine T.law_rng.F.ok sc_law_rng (fun vs H Q E h => ?_) (fun cdv A outer s H vs Q E hr h => ?_)
  · obtain ⟨r, ns, k, rfl, _⟩ := h
    rfl
  · obtain ⟨r, ns, k, rfl, hs, hk, h⟩ := h
    refine ⟨_, (pss_cons (ps_set (i := 2) sc_law_rng.nd rfl (.inl rfl) (pe_op op_add (pe_op op_mulX pe_int (pv 1)) pe_int))
      (pss_mid (ps_if (pt_cmpR op_lt (pv 1) (pe_callB call_len (by rfl) T.b_len (by decide +kernel) (pa_cons (pv 0) pa_nil)) (nomark _)) (pss_one (ps_set (i := 2) sc_law_rng.nd rfl (.inl rfl) (pe_ix ix_list (pv 0) (pv 1) (fun _ _ => rfl)))) pss_nil)
      (pss_one (ps_ret (pe_lst (pa_cons (pe_callB (call_max2 rfl) (by rfl) T.b_max (by decide +kernel) (pa_cons pe_int (pa_cons (pe_op op_sub (pe_callB call_abs (by rfl) T.b_abs (by decide +kernel) (pa_cons (pv 2) pa_nil)) (pe_op op_pow pe_int pe_int)) pa_nil))) (pa_cons (pe_op op_add (pe_op op_modN (pe_op op_mulX (pe_callTy call_int1 (by rfl) T.b_int (by decide +kernel) (pa_cons (pe_op op_add (pe_op op_modN (pe_callTy call_int1 (by rfl) T.b_int (by decide +kernel) (pa_cons (pe_callB call_abs (by rfl) T.b_abs (by decide +kernel) (pa_cons (pv 2) pa_nil)) pa_nil)) pe_int) pe_int) pa_nil)) (pe_op op_pow (pe_op op_add (pe_op op_mulX pe_int (pv 1)) pe_int) pe_int)) pe_int) pe_int) pa_nil))))))), ?_⟩
    have bk : Bt 10 (k : Int) := bt_of (by omega) (by omega)
    refine ⟨_, rfl, _, _, rfl, rfl, cmulX (m := 5) (by decide) bk (by decide), _, _, rfl, rfl, ?_⟩
    refine ⟨fun σ H1 => H1 = H ∧ ∃ c : Int, σ = [some (.ref r), some (.int (k : Int)), some (.int c)], ?_, ?_⟩
    · refine ⟨_, rfl, _, rfl, _, _, rfl, .inl ⟨_, hs, rfl⟩, _, _, rfl, rfl, _, rfl, ?_⟩
      rw [List.length_map]
      by_cases hl : (k : Int) < (ns.length : Int)
      · refine iteY (decide_eq_true hl) ?_
        have hk' : k < ns.length := by omega
        refine ⟨_, rfl, _, rfl, r, _, _, _, rfl, rfl, hs, atI_nat (show (ns.map V.int)[k]? = some (V.int ns[k]) by rw [List.getElem?_map, List.getElem?_eq_getElem hk']; rfl), rfl, _, rfl⟩
      · exact iteN (decide_eq_false hl) ⟨rfl, _, rfl⟩
    · rintro σ H1 ⟨rfl, c, rfl⟩
      refine ⟨_, rfl, _, rfl, _, _, rfl, rfl, ⟨by decide, by decide, by decide⟩, _, _, rfl, rfl, _, _, rfl, ?_⟩
      refine ⟨_, rfl, _, rfl, .inl ⟨_, rfl, _, _, rfl, rfl, (show (2147483549 : Int) ≠ 0 by decide), _, _, rfl, rfl, .inl ⟨_, rfl, ?_⟩⟩⟩
      rw [fmod_pos (by decide), abs_nat]
      generalize hu : ((c.natAbs : Nat) : Int) % 2147483549 = u
      have u0 : 0 ≤ u := by rw [← hu]; exact Int.emod_nonneg _ (by decide)
      have u1 : u < 2147483549 := by rw [← hu]; exact Int.emod_lt_of_pos _ (by decide)
      have bu : Bt 31 (u + 1) := bt_of (by omega) (by omega)
      have b7 : Bt 12 (2 * (k : Int) + 7) := bt_of (by omega) (by omega)
      refine ⟨_, rfl, _, _, rfl, rfl, cmulX (m := 2) (by decide) bk (by decide), _, _, rfl, rfl, _, _, rfl, rfl, ⟨show (0 : Int) ≤ 3 by decide, show (3 : Int) ≤ 1000000 by decide, Nat.lt_of_lt_of_le b7 (by decide)⟩, _, _, rfl, rfl, ?_, _, _, rfl, rfl, (show (2147483489 : Int) ≠ 0 by decide), _, _, rfl, rfl, (by show 2 ≤ sizeLine; decide), fun p hp => ?_⟩
      · refine cmulX (n := 36) bu ?_ (by decide)
        show Bt 36 ((2 * (k : Int) + 7) ^ 3)
        have e3 : (2 * (k : Int) + 7) ^ 3 = (2 * (k : Int) + 7) * (2 * (k : Int) + 7) * (2 * (k : Int) + 7) := by
          rw [Int.pow_succ, Int.pow_succ, Int.pow_succ, Int.pow_zero, Int.one_mul]
        rw [e3]
        exact (b7.mul b7).mul b7
      · refine h p _ hp (Ext.upd hp) ⟨_, _, upd_same, ?_, ?_, ?_⟩
        · split <;> omega
        · rw [fmod_pos (by decide)]
          have := Int.emod_nonneg ((u + 1) * (2 * (k : Int) + 7) ^ (3 : Int).toNat) (show (2147483489 : Int) ≠ 0 by decide)
          omega
        · rw [fmod_pos (by decide)]
          have := Int.emod_lt_of_pos ((u + 1) * (2 * (k : Int) + 7) ^ (3 : Int).toNat) (show (0 : Int) < 2147483489 by decide)
          omega
end
end P

namespace P
open PySem L2 NS

/-! ### the law's own reckoning -/
def spCommon : Sp := fun vs H Q _ => ∃ x y : Int, vs = [.int x, .int y] ∧ Q (.int (Nat.gcd x.natAbs y.natAbs : Nat)) H
/-- a pair (t, b) at p -/
def PairAt (H : Hp) (v : V) (t b : Int) : Prop := ∃ p, v = .ref p ∧ H p = some (.tup [.int t, .int b])
theorem PairAt.ext {H H' : Hp} {v : V} {t b : Int} (h : PairAt H v t b) (e : Ext H H') : PairAt H' v t b := by
  obtain ⟨p, rfl, hp⟩ := h
  exact ⟨p, rfl, e _ _ hp⟩
theorem PairAt.but {H H' : Hp} {r : Addr} {v : V} {t b : Int} (h : PairAt H v t b) (g : Rng H r) (e : But r H H') : PairAt H' v t b := by
  obtain ⟨p, rfl, hp⟩ := h
  exact ⟨p, rfl, e _ _ hp (g.ne_tup hp)⟩
def spPair : Sp := fun vs H Q _ => ∃ r : Addr, vs = [.ref r] ∧ Rng H r ∧ ∀ v t b H', Bt 100 t → b ≠ 0 → Bt 100 b → But r H H' → Rng H' r → PairAt H' v t b → Q v H'
def spLow : Sp := fun vs H Q _ => ∃ v t b, vs = [v] ∧ PairAt H v t b ∧ b ≠ 0 ∧ Bt 9000 t ∧ Bt 9000 b ∧ ∀ v' H', Ext H H' → PairAt H' v' (Rat.divInt t b).num ((Rat.divInt t b).den : Int) → Q v' H'
def spSgn : Sp := fun vs H Q _ => ∃ i, vs = [.int i] ∧ Q (.int (sgn i)) H
theorem bt_small {d : Int} (h0 : 0 ≤ d) (h1 : d < 49) : Bt 100 (d - 24) := by
  unfold Bt
  have : (64 : Nat) ≤ 2 ^ 100 := by decide
  omega
section
variable {P : Program} {w : World} {K : PySem.W.Frag} {mg : Str → Option Value} {base : Heap} {a : Ad}
theorem B_law_common (T : Txt K mg a) : Binds K a.d_law_common ["_law_one", "_law_other"] [] := T.law_common.F.binds fun _ _ _ _ _ _ us hl => match us, hl with | [_, _], _ => rfl
theorem ok_law_common (T : Txt K mg a) : FnOk P w K mg base CX0 1 a.law_common a.d_law_common ["_law_one", "_law_other"] spCommon := by
  refine T.law_common.F.ok sc_law_common (fun vs H Q E h => ?_) (fun cdv A outer s H vs Q E hr h => ?_)
  · obtain ⟨m, n, rfl, _⟩ := h
    rfl
  · obtain ⟨x, y, rfl, h⟩ := h
    refine ⟨_, (pss_cons (ps_par (i := 0) (j := 1) (by rfl) sc_law_common.nd rfl rfl (by decide) rfl rfl (pa_cons (pe_callB call_abs (by rfl) T.b_abs (by decide +kernel) (pa_cons (pv 0) pa_nil)) (pa_cons (pe_callB call_abs (by rfl) T.b_abs (by decide +kernel) (pa_cons (pv 1) pa_nil)) pa_nil)) (by rfl))
      (pss_cons (ps_while PassesOwn.never (pt_cmpR op_gt (pv 1) pe_int (nomark _)) (pss_one (ps_par (i := 0) (j := 1) (by rfl) sc_law_common.nd rfl rfl (by decide) rfl rfl (pa_cons (pv 1) (pa_cons (pe_op op_modN (pe_callTy call_int1 (by rfl) T.b_int (by decide +kernel) (pa_cons (pv 0) pa_nil)) (pv 1)) pa_nil)) (by rfl))))
      (pss_one (ps_ret (pv 0))))), ?_⟩
    refine ⟨_, rfl, _, rfl, _, rfl, _, rfl, _, _, rfl, ?_⟩
    rw [abs_nat, abs_nat]
    refine ⟨fun k σ H1 => H1 = H ∧ ∃ m' : Nat, σ = [some (.int m'), some (.int k)] ∧ Nat.gcd m' k = Nat.gcd x.natAbs y.natAbs, ⟨y.natAbs, rfl, x.natAbs, rfl, rfl⟩, ?_⟩
    rintro k σ H1 ⟨rfl, m', rfl, e⟩
    refine ⟨_, rfl, _, _, rfl, rfl, _, rfl, ?_⟩
    by_cases hk : k = 0
    · subst hk
      rw [Nat.gcd_zero_right] at e
      refine iteN (by decide) ?_
      refine ⟨_, rfl, ?_⟩
      rw [e]
      exact h
    · have hk' : ((k : Nat) : Int) ≠ 0 := by omega
      refine iteY (decide_eq_true (by omega)) ?_
      refine ⟨fun σ' H' => H' = H1 ∧ σ' = [some (.int (k : Int)), some (.int ((m' % k : Nat) : Int))], ?_, ?_⟩
      · rintro σ' H' ⟨rfl, rfl⟩
        exact ⟨m' % k, Nat.mod_lt _ (by omega), rfl, k, rfl, (gcd_turn hk).trans e⟩
      · refine ⟨_, rfl, _, rfl, .inl ⟨_, rfl, _, rfl, _, _, rfl, rfl, hk', _, _, rfl, rfl, ?_⟩⟩
        show [_, some (V.int ((m' : Int).fmod (k : Int)))] = _
        rw [Int.fmod_eq_emod_of_nonneg _ (by omega)]
        rfl
theorem B_law_sign (T : Txt K mg a) : Binds K a.d_law_sign ["_law_number"] [] := T.law_sign.F.binds fun _ _ _ _ _ _ us hl => match us, hl with | [_], _ => rfl
theorem ok_law_sign (T : Txt K mg a) : FnOk P w K mg base CX0 1 a.law_sign a.d_law_sign ["_law_number"] spSgn := by
  refine T.law_sign.F.ok sc_law_sign (fun vs H Q E h => ?_) (fun cdv A outer s H vs Q E hr h => ?_)
  · obtain ⟨i, rfl, _⟩ := h
    rfl
  · obtain ⟨i, rfl, h⟩ := h
    refine ⟨_, (pss_one (ps_ret (pe_op op_sub (pe_callTy call_int1 (by rfl) T.b_int (by decide +kernel) (pa_cons (pe_cmpR op_gt (pv 0) pe_int (nomark _)) pa_nil)) (pe_callTy call_int1 (by rfl) T.b_int (by decide +kernel) (pa_cons (pe_cmpR op_lt (pv 0) pe_int (nomark _)) pa_nil))))), ?_⟩
    exact ⟨_, rfl, _, _, rfl, rfl, .inr ⟨_, rfl, _, rfl, _, _, rfl, rfl, .inr ⟨_, rfl, _, _, rfl, rfl, h⟩⟩⟩
theorem B_law_lowest (T : Txt K mg a) : Binds K a.d_law_lowest ["_law_pair_here"] [] := T.law_lowest.F.binds fun _ _ _ _ _ _ us hl => match us, hl with | [_], _ => rfl
theorem ok_law_lowest (T : Txt K mg a) : FnOk P w K mg base CX0 2 a.law_lowest a.d_law_lowest ["_law_pair_here"] spLow := by
  have G_law_common := ok_law_common (P := P) (w := w) (base := base) T
  have b_law_common := B_law_common T
  refine T.law_lowest.F.ok sc_law_lowest (fun vs H Q E h => ?_) (fun cdv A outer s H vs Q E hr h => ?_)
  · obtain ⟨v, t, b, rfl, _⟩ := h
    rfl
  · obtain ⟨v, t, b, rfl, ⟨p, rfl, hp⟩, hb, zt, zb, h⟩ := h
    refine ⟨_, (pss_cons (ps_asg (pv 0) (pg_tup rfl (pgs_cons (pg_name (i := 1) sc_law_lowest.nd rfl (.inl rfl)) (pgs_cons (pg_name (i := 2) sc_law_lowest.nd rfl (.inl rfl)) pgs_nil))))
      (pss_cons (ps_set (i := 3) sc_law_lowest.nd rfl (.inl rfl) (pe_call G_law_common (hr.mono (by decide)) (by rfl) T.law_common.g T.law_common.F.kp b_law_common .nil pass0 (pa_cons (pv 1) (pa_cons (pv 2) pa_nil))))
      (pss_cons (ps_set (i := 3) sc_law_lowest.nd rfl (.inl rfl) (pe_ifExp (pt_cmpR op_gt (pv 2) pe_int (nomark _)) (pv 3) (pe_un un_neg (pv 3))))
      (pss_one (ps_ret (pe_tup (pa_cons (pe_op op_fdivX (pv 1) (pv 3)) (pa_cons (pe_op op_fdivX (pv 2) (pv 3)) pa_nil)))))))), ?_⟩
    refine ⟨_, rfl, p, _, rfl, SqT.of hp, rfl, _, _, rfl, _, _, rfl, rfl, ?_⟩
    refine ⟨_, rfl, _, rfl, t, b, rfl, ?_⟩
    have zd : Bt 9000 (dv t b) := by
      unfold Bt
      rw [dv_abs]
      exact Nat.lt_of_le_of_lt (Nat.gcd_le_right _ (by omega)) zb
    have fin : ∀ σ : L2.St, σ = [some (.ref p), some (.int t), some (.int b), some (.int (dv t b))] →
        tRet (tTup (tCons (tOp (rI CDivX fun i j => .int (i.fdiv j)) (tVar 1) (tVar 3)) (tCons (tOp (rI CDivX fun i j => .int (i.fdiv j)) (tVar 2) (tVar 3)) tNil))) { nx := fun _ H' => Q .non H', rt := Q } σ H := by
      rintro σ rfl
      refine ⟨_, rfl, _, rfl, _, _, rfl, rfl, cdivX (dv_ne hb) zd (by decide) (by decide), _, rfl, _, rfl, _, _, rfl, rfl, cdivX (dv_ne hb) zd (by decide) (by decide), (by show 2 ≤ sizeLine; decide), fun u hu => ?_⟩
      refine h _ _ (Ext.upd hu) ⟨u, rfl, ?_⟩
      rw [upd_same]
      show some (HO.tup [.int (t.fdiv (dv t b)), .int (b.fdiv (dv t b))]) = _
      rw [dv_num hb, dv_den hb]
    refine ⟨_, rfl, _, _, rfl, rfl, _, rfl, ?_⟩
    by_cases hn : 0 < b
    · refine iteY (decide_eq_true hn) ?_
      refine ⟨_, rfl, ?_⟩
      exact fin _ (by rw [show dv t b = ((Nat.gcd t.natAbs b.natAbs : Nat) : Int) from if_neg (by omega)]; rfl)
    · refine iteN (decide_eq_false hn) ?_
      refine ⟨_, rfl, _, rfl, ?_⟩
      exact fin _ (by rw [show dv t b = -((Nat.gcd t.natAbs b.natAbs : Nat) : Int) from if_pos (by omega)]; rfl)
theorem B_law_pair (T : Txt K mg a) : Binds K a.d_law_pair ["_law_rng_here"] [] := T.law_pair.F.binds fun _ _ _ _ _ _ us hl => match us, hl with | [_], _ => rfl
theorem tops_ok : ∀ v ∈ ([.int (10 ^ 29 - 1), .int (-(10 ^ 29) + 3), .int (2 ^ 60), .int (-(6 ^ 30)), .int (10 ^ 15)] : List V), ∃ t, v = .int t ∧ Bt 100 t := by
  intro v hv
  simp only [List.mem_cons, List.not_mem_nil, or_false] at hv
  rcases hv with rfl | rfl | rfl | rfl | rfl <;> exact ⟨_, rfl, by decide +kernel⟩
theorem bots_ok : ∀ v ∈ ([.int 1, .int 1, .int 2, .int 3, .int 4, .int 6, .int 9, .int 10, .int 12, .int (-1), .int (-2), .int (-5), .int (-8), .int (10 ^ 15), .int (-(2 ^ 60)), .int (6 ^ 30)] : List V), ∃ t, v = .int t ∧ t ≠ 0 ∧ Bt 100 t := by
  intro v hv
  simp only [List.mem_cons, List.not_mem_nil, or_false] at hv
  rcases hv with rfl | rfl | rfl | rfl | rfl | rfl | rfl | rfl | rfl | rfl | rfl | rfl | rfl | rfl | rfl | rfl <;> exact ⟨_, rfl, by decide +kernel, by decide +kernel⟩
theorem ok_law_pair (T : Txt K mg a) : FnOk P w K mg base CX0 3 a.law_pair a.d_law_pair ["_law_rng_here"] spPair := by
  have G_law_draw := ok_law_draw (P := P) (w := w) (base := base) T
  have b_law_draw := B_law_draw T
  have G_law_choice := ok_law_choice (P := P) (w := w) (base := base) T
  have b_law_choice := B_law_choice T
  have pw : ∀ i j : Int, (0 ≤ j ∧ j ≤ 1000000 ∧ i.natAbs < 2 ^ 64) → CPow i j := fun _ _ h => h
  refine T.law_pair.F.ok sc_law_pair (fun vs H Q E h => ?_) (fun cdv A outer s H vs Q E hr h => ?_)
  · obtain ⟨r, rfl, _⟩ := h
    rfl
  · obtain ⟨r, rfl, hx, h⟩ := h
    refine ⟨_, (pss_cons (ps_set (i := 1) sc_law_pair.nd rfl (.inl rfl) (pe_op op_sub (pe_call G_law_draw (hr.mono (by decide)) (by rfl) T.law_draw.g T.law_draw.F.kp b_law_draw .nil pass0 (pa_cons (pv 0) (pa_cons pe_int pa_nil))) pe_int))
      (pss_mid (ps_if (pt_cmpR op_eq (pe_call G_law_draw (hr.mono (by decide)) (by rfl) T.law_draw.g T.law_draw.F.kp b_law_draw .nil pass0 (pa_cons (pv 0) (pa_cons pe_int pa_nil))) pe_int (nomark _)) (pss_one (ps_set (i := 1) sc_law_pair.nd rfl (.inl rfl) (pe_call G_law_choice (hr.mono (by decide)) (by rfl) T.law_choice.g T.law_choice.F.kp b_law_choice .nil pass0 (pa_cons (pv 0) (pa_cons (pe_lst (pa_cons (pe_op op_sub (pe_op op_pow pe_int pe_int) pe_int) (pa_cons (pe_op op_add (pe_un un_neg (pe_op op_pow pe_int pe_int)) pe_int) (pa_cons (pe_op op_pow pe_int pe_int) (pa_cons (pe_un un_neg (pe_op op_pow pe_int pe_int)) (pa_cons (pe_op op_pow pe_int pe_int) pa_nil)))))) pa_nil))))) pss_nil)
      (pss_one (ps_ret (pe_tup (pa_cons (pv 1) (pa_cons (pe_call G_law_choice (hr.mono (by decide)) (by rfl) T.law_choice.g T.law_choice.F.kp b_law_choice .nil pass0 (pa_cons (pv 0) (pa_cons (pe_lst (pa_cons pe_int (pa_cons pe_int (pa_cons pe_int (pa_cons pe_int (pa_cons pe_int (pa_cons pe_int (pa_cons pe_int (pa_cons pe_int (pa_cons pe_int (pa_cons (pe_un un_neg pe_int) (pa_cons (pe_un un_neg pe_int) (pa_cons (pe_un un_neg pe_int) (pa_cons (pe_un un_neg pe_int) (pa_cons (pe_op op_pow pe_int pe_int) (pa_cons (pe_un un_neg (pe_op op_pow pe_int pe_int)) (pa_cons (pe_op op_pow pe_int pe_int) pa_nil))))))))))))))))) pa_nil))) pa_nil))))))), ?_⟩
    refine ⟨_, rfl, r, _, rfl, hx, by decide, by decide, fun d H1 d0 d1 e1 x1 => ⟨_, _, rfl, rfl, ?_⟩⟩
    refine ⟨fun σ H2 => But r H1 H2 ∧ Rng H2 r ∧ ∃ t : Int, Bt 100 t ∧ σ = [some (.ref r), some (.int t)], ?_, ?_⟩
    · refine ⟨_, rfl, r, _, rfl, x1, by decide, by decide, fun d' H2 d0' d1' e2 x2 => ⟨rfl, _, rfl, ?_⟩⟩
      by_cases hd : d' = 0
      · subst hd
        refine iteY rfl ?_
        refine ⟨_, rfl, _, _, rfl, rfl, pw _ _ (by decide), _, _, rfl, rfl, _, _, rfl, rfl, pw _ _ (by decide), _, rfl, _, _, rfl, rfl, _, _, rfl, rfl, pw _ _ (by decide), _, _, rfl, rfl, pw _ _ (by decide), _, rfl, _, _, rfl, rfl, pw _ _ (by decide), (by show 5 ≤ sizeLine; decide), fun l hl => ?_⟩
        obtain ⟨x, y, hxy, _⟩ := id x2
        refine ⟨r, l, _, rfl, x2.ext (Ext.upd hl), upd_same, fun z => ?_, (by show 0 < 5; decide), (by show 5 ≤ 1000; decide), fun v H3 hv e3 x3 => ?_⟩
        · rw [z, hxy] at hl
          cases hl
        · obtain ⟨t, rfl, zt⟩ := tops_ok v hv
          exact ⟨(e2.ext (Ext.upd hl)).trans e3, x3, t, zt, rfl⟩
      · refine iteN (decide_eq_false fun z => hd (by injection z)) ?_
        exact ⟨e2, x2, _, bt_small d0 d1, rfl⟩
    · rintro σ H2 ⟨e2, x2, t, zt, rfl⟩
      obtain ⟨x, y, hxy, _⟩ := id x2
      refine ⟨_, rfl, _, rfl, _, rfl, _, rfl, _, rfl, _, rfl, _, _, rfl, rfl, pw _ _ (by decide), _, _, rfl, rfl, pw _ _ (by decide), _, rfl, _, _, rfl, rfl, pw _ _ (by decide), (by show 16 ≤ sizeLine; decide), fun l hl => ?_⟩
      refine ⟨r, l, _, rfl, x2.ext (Ext.upd hl), upd_same, fun z => ?_, (by show 0 < 16; decide), (by show 16 ≤ 1000; decide), fun v H3 hv e3 x3 => ?_⟩
      · rw [z, hxy] at hl
        cases hl
      · obtain ⟨b, rfl, hb, zb⟩ := bots_ok v hv
        refine ⟨(by show 2 ≤ sizeLine; decide), fun p hp => ?_⟩
        exact h _ t b _ zt hb zb (((e1.trans e2).ext (Ext.upd hl)).trans (e3.ext (Ext.upd hp))) (x3.ext (Ext.upd hp)) ⟨p, rfl, upd_same⟩
end
end P

namespace P
open PySem L2 NS

/-! ### texts are short -/
theorem tx_code {i : Int} {c : Nat} (h : c ∈ (tx i).cps.toList) : c < 16 ^ 8 := by
  by_cases h1 : c ≠ 45 ∧ (c < 48 ∨ 57 < c)
  · exact absurd h (PyProof.Rows.int_text_free' c h1 i)
  · have : c ≤ 57 := by omega
    exact Nat.lt_of_le_of_lt this (by decide)
theorem code_app {x y : Str} (hx : ∀ c ∈ x.cps.toList, c < 16 ^ 8) (hy : ∀ c ∈ y.cps.toList, c < 16 ^ 8) : ∀ c ∈ (x ++ y).cps.toList, c < 16 ^ 8 := by
  intro c hc
  rw [Str.cps_append, Array.toList_append] at hc
  rcases List.mem_append.mp hc with h | h
  · exact hx c h
  · exact hy c h
theorem code_lit {s : String} (h : ((Str.ofString s).cps.toList.all fun c => decide (c < 16 ^ 8)) = true) : ∀ c ∈ (Str.ofString s).cps.toList, c < 16 ^ 8 := fun c hc => of_decide_eq_true (List.all_eq_true.mp h c hc)
theorem strQ_len {q : Rat} (h : Sz 1920 q) : (strQ q).length ≤ 4000 := by
  have l1 := tx_len (h.top.log (by decide))
  have l2 := tx_len (h.bot.log (by decide))
  unfold strQ
  split
  · omega
  · rw [strLen_append, strLen_append]
    show (tx q.num).length + 1 + (tx (q.den : Int)).length ≤ _
    omega
theorem reprQ_len {q : Rat} (h : Sz 1920 q) : (reprQ q).length ≤ 4000 := by
  have l1 := tx_len (h.top.log (by decide))
  have l2 := tx_len (h.bot.log (by decide))
  unfold reprQ
  rw [strLen_append, strLen_append, strLen_append, strLen_append]
  show 6 + (tx q.num).length + 2 + (tx (q.den : Int)).length + 1 ≤ _
  omega
theorem strQ_code (q : Rat) : ∀ c ∈ (strQ q).cps.toList, c < 16 ^ 8 := by
  unfold strQ
  split
  · exact fun c => tx_code
  · exact code_app (code_app (fun c => tx_code) (code_lit (by decide +kernel))) fun c => tx_code
theorem reprQ_code (q : Rat) : ∀ c ∈ (reprQ q).cps.toList, c < 16 ^ 8 := by
  unfold reprQ
  exact code_app (code_app (code_app (code_app (code_lit (by decide +kernel)) fun c => tx_code) (code_lit (by decide +kernel))) fun c => tx_code) (code_lit (by decide +kernel))
theorem strQ_repr {q : Rat} (h : Sz 1920 q) : (reprText (strQ q)).length ≤ 40002 := by
  have := StrLaws.reprText_len (strQ q) (strQ_code q)
  have := strQ_len h
  omega
theorem reprQ_repr {q : Rat} (h : Sz 1920 q) : (reprText (reprQ q)).length ≤ 40002 := by
  have := StrLaws.reprText_len (reprQ q) (reprQ_code q)
  have := reprQ_len h
  omega
theorem line_big : 1000000 ≤ sizeLine := by decide
theorem sgn_small (i : Int) : (sgn i).natAbs.log2 < 1920 := by
  unfold sgn
  repeat' split
  all_goals decide
/-- what is told of a Ratio, item by item -/
def told (q : Rat) : List V := [.int q.num, .int (q.den : Int), .int (sgn q.num), .str (strQ q), .str (reprQ q)]
def toldT (q : Rat) : List Str := [tx q.num, tx (q.den : Int), tx (sgn q.num), reprText (strQ q), reprText (reprQ q)]
theorem told_rep {X : Cx} {n : Nat} {as : List Addr} {H : Hp} {q : Rat} (h : Sz 1920 q) : RepL X n as (told q) H (toldT q) := by
  have ll := line_big
  have := strQ_repr h
  have := reprQ_repr h
  exact .cons (repV_int (h.top.log (by decide))) (.cons (repV_int (h.bot.log (by decide))) (.cons (repV_int (sgn_small _)) (.cons (repV_str _ (by omega)) (.cons (repV_str _ (by omega)) .nil))))
theorem told_len {q : Rat} (h : Sz 1920 q) : (listText (toldT q)).length ≤ sizeLine := by
  have ll := line_big
  have h1 := strQ_repr h
  have h2 := reprQ_repr h
  have l1 := tx_len (h.top.log (by decide))
  have l2 := tx_len (h.bot.log (by decide))
  have l3 := tx_len (sgn_small q.num)
  refine Nat.le_trans (listText_len_le _) ?_
  show (tx q.num).length + ((tx (q.den : Int)).length + ((tx (sgn q.num)).length + ((reprText (strQ q)).length + ((reprText (reprQ q)).length + 0)))) + 2 * 5 + 3 ≤ sizeLine
  omega

/-! ### _law_is -/
def spLawIs (C : Addr) : Sp := fun vs H Q _ => ∃ v u q t b, vs = [v, u] ∧ IsRat C H v q ∧ PairAt H u t b ∧ b ≠ 0 ∧ Rat.divInt t b = q ∧ Bt 1500 t ∧ Bt 1500 b ∧ ∀ H', Ext H H' → Q (.bl true) H'
theorem three_q (q : Rat) : Rat.divInt (q.num * 3) ((q.den : Int) * 3) = q := by
  rw [Rat.divInt_mul_right (by decide), Rat.num_divInt_den]
theorem neg_q (q : Rat) : Rat.divInt (-q.num) (-(q.den : Int)) = q := by
  rw [Rat.neg_divInt_neg, Rat.num_divInt_den]
section
variable {P : Program} {w : World} {K : PySem.W.Frag} {mg : Str → Option Value} {base : Heap} {a : Ad}
theorem B_law_is (T : Txt K mg a) : Binds K a.d_law_is ["_law_one", "_law_pair_here"] [] := T.law_is.F.binds fun _ _ _ _ _ _ us hl => match us, hl with | [_, _], _ => rfl
theorem ok_law_is (T : Txt K mg a) : FnG P w K mg base 10 a.law_is a.d_law_is ["_law_one", "_law_pair_here"] (spLawIs a.Ratio) := by
  have G_law_lowest := ok_law_lowest (P := P) (w := w) (base := base) T
  have b_law_lowest := B_law_lowest T
  have G_law_sign := ok_law_sign (P := P) (w := w) (base := base) T
  have b_law_sign := B_law_sign T
  have G_is_integer := ok_is_integer (P := P) (w := w) (base := base) T
  have b_is_integer := B_is_integer T
  have G_is_number := ok_is_number (P := P) (w := w) (base := base) T
  have b_is_number := B_is_number T
  have G_Ratio_top := ok_Ratio_top (P := P) (w := w) (base := base) T
  have b_Ratio_top := B_Ratio_top T
  have G_Ratio_bottom := ok_Ratio_bottom (P := P) (w := w) (base := base) T
  have b_Ratio_bottom := B_Ratio_bottom T
  have G_Ratio_sign := ok_Ratio_sign (P := P) (w := w) (base := base) T
  have b_Ratio_sign := B_Ratio_sign T
  have G_Ratio_str := ok_Ratio_str (P := P) (w := w) (base := base) T
  have b_Ratio_str := B_Ratio_str T
  have G_Ratio_repr := ok_Ratio_repr (P := P) (w := w) (base := base) T
  have b_Ratio_repr := B_Ratio_repr T
  have G_Ratio_eq := ok_Ratio_eq (P := P) (w := w) (base := base) T
  have b_Ratio_eq := B_Ratio_eq T
  have G_Ratio_init := ok_Ratio_init (P := P) (w := w) (base := base) T
  have M_Ratio := Mk_Ratio T
  have b_Ratio2 := B_Ratio2 T
  refine okG T.law_is.F sc_law_is (fun vs H Q E h => ?_) (fun cdv A outer s H vs Q hg hr h => ?_)
  · obtain ⟨v, u, q, t, b, rfl, _⟩ := h
    rfl
  · obtain ⟨v, u, q, t, b, rfl, r0, hu, hb, rfl, zt, zb, h⟩ := h
    have hgd : (A.deeper (PyProof.Rows.envOfC "_law_is" (defScope s_law_is) s.heap.objs.size a.law_is cdv)).guards = some [] := hg
    have zq : Sz 1500 (Rat.divInt t b) := sz_divInt hb zt zb
    have zq2 : Sz 1920 (Rat.divInt t b) := zq.mono (by decide)
    refine ⟨_, (pss_cons (ps_asg (pe_call G_law_lowest (hr.mono (by decide)) (by rfl) T.law_lowest.g T.law_lowest.F.kp b_law_lowest .nil pass0 (pa_cons (pv 1) pa_nil)) (pg_tup rfl (pgs_cons (pg_name (i := 2) sc_law_is.nd rfl (.inl rfl)) (pgs_cons (pg_name (i := 3) sc_law_is.nd rfl (.inl rfl)) pgs_nil))))
      (pss_mid (ps_set (i := 4) sc_law_is.nd rfl (.inl rfl) (pe_ifExp (pt_cmpR op_eq (pv 3) pe_int (nomark _)) (pe_callTy call_str_int (by rfl) T.b_str (by decide +kernel) (pa_cons (pv 2) pa_nil)) (pe_op op_add_str (pe_op op_add_str (pe_callTy call_str_int (by rfl) T.b_str (by decide +kernel) (pa_cons (pv 2) pa_nil)) pe_str) (pe_callTy call_str_int (by rfl) T.b_str (by decide +kernel) (pa_cons (pv 3) pa_nil)))))
      (pss_cons (ps_set (i := 5) sc_law_is.nd rfl (.inl rfl) (pe_lst (pa_cons (pe_prop (pv 0) T.Ratio.cls T.Ratio_top.pr G_Ratio_top (hr.mono (by decide)) b_Ratio_top .nil pass0 rfl) (pa_cons (pe_prop (pv 0) T.Ratio.cls T.Ratio_bottom.pr G_Ratio_bottom (hr.mono (by decide)) b_Ratio_bottom .nil pass0 rfl) (pa_cons (pe_prop (pv 0) T.Ratio.cls T.Ratio_sign.pr G_Ratio_sign (hr.mono (by decide)) b_Ratio_sign .nil pass0 rfl) (pa_cons (pe_callTy (call_strO T.O_Ratio_str hr.in1.in1.units0 (Runs.of G_Ratio_str b_Ratio_str (hr.in1.in1.mono (by decide)) rfl)) (by rfl) T.b_str (by decide +kernel) (pa_cons (pv 0) pa_nil)) (pa_cons (pe_callB (call_reprO T.O_Ratio_repr hr.in1.units0 (Runs.of G_Ratio_repr b_Ratio_repr (hr.in1.mono (by decide)) rfl)) (by rfl) T.b_repr (by decide +kernel) (pa_cons (pv 0) pa_nil)) pa_nil)))))))
      (pss_cons (ps_if (pt_cmpR op_ne (pe_callB (call_reprL (n := 2) (hr.mono (by decide)) hgd) (by rfl) T.b_repr (by decide +kernel) (pa_cons (pv 5) pa_nil)) (pe_callB (call_reprL (n := 2) (hr.mono (by decide)) hgd) (by rfl) T.b_repr (by decide +kernel) (pa_cons (pe_lst (pa_cons (pv 2) (pa_cons (pv 3) (pa_cons (pe_call G_law_sign (hr.mono (by decide)) (by rfl) T.law_sign.g T.law_sign.F.kp b_law_sign .nil pass0 (pa_cons (pv 2) pa_nil)) (pa_cons (pv 4) (pa_cons (pe_op op_add_str (pe_op op_add_str (pe_op op_add_str (pe_op op_add_str pe_str (pe_callTy call_str_int (by rfl) T.b_str (by decide +kernel) (pa_cons (pv 2) pa_nil))) pe_str) (pe_callTy call_str_int (by rfl) T.b_str (by decide +kernel) (pa_cons (pv 3) pa_nil))) pe_str) pa_nil)))))) pa_nil)) (nomark _)) (pss_one (ps_ret pe_bl)) pss_nil)
      (pss_cons (ps_if (PW.pt (pw_or (pt_not (pt_val (pe_call G_is_integer (hr.mono (by decide)) (by rfl) T.is_integer.g T.is_integer.F.kp b_is_integer .nil pass0 (pa_cons (pe_prop (pv 0) T.Ratio.cls T.Ratio_top.pr G_Ratio_top (hr.mono (by decide)) b_Ratio_top .nil pass0 rfl) pa_nil)))) (pw_or (pt_not (pt_val (pe_callB call_isi (by rfl) T.b_isinstance (by decide +kernel) (pa_cons (pv 0) (pa_cons (pe_glob (v := .ref a.Ratio) (by rfl) T.Ratio.g rfl) pa_nil))))) (pw_or (pt_not (pt_val (pe_call G_is_number (hr.mono (by decide)) (by rfl) T.is_number.g T.is_number.F.kp b_is_number .nil pass0 (pa_cons (pv 0) pa_nil)))) (pw_or1 (pt_val (pe_call G_is_integer (hr.mono (by decide)) (by rfl) T.is_integer.g T.is_integer.F.kp b_is_integer .nil pass0 (pa_cons (pv 0) pa_nil)))))))) (pss_one (ps_ret pe_bl)) pss_nil)
      (pss_cons (ps_if (pt_cmpR op_ge (pe_callB (call_max2 rfl) (by rfl) T.b_max (by decide +kernel) (pa_cons (pe_callB call_abs (by rfl) T.b_abs (by decide +kernel) (pa_cons (pv 2) pa_nil)) (pa_cons (pv 3) pa_nil))) (pe_op op_pow pe_int pe_int) (nomark _)) (pss_one (ps_ret (pe_cmpR (op_neO T.O_Ratio_eq (hu_of hr) (Runs.of (A := _) G_Ratio_eq b_Ratio_eq (Room.in1 (hr.mono (by decide))) rfl)) (pv 0) (pv 4) (nomark _)))) pss_nil)
      (pss_cons (ps_if (PW.pt (pw_or (pt_cmpR (op_eqO T.O_Ratio_eq hr.units0 (Runs.of G_Ratio_eq b_Ratio_eq (hr.mono (by decide)) rfl)) (pv 0) (pv 2) (nomark _)) (pw_or (pt_cmpR (op_eqO T.O_Ratio_eq hr.units0 (Runs.of G_Ratio_eq b_Ratio_eq (hr.mono (by decide)) rfl)) (pv 0) (pv 4) (nomark _)) (pw_or1 (pt_cmpR (op_eqO T.O_Ratio_eq hr.units0 (Runs.of G_Ratio_eq b_Ratio_eq (hr.mono (by decide)) rfl)) (pv 0) (pe_tup (pa_cons (pv 2) (pa_cons (pv 3) pa_nil))) (nomark _)))))) (pss_one (ps_ret pe_bl)) pss_nil)
      (pss_one (ps_ret (pe_and (pe_cmpR (op_eqO T.O_Ratio_eq hr.units0 (Runs.of G_Ratio_eq b_Ratio_eq (hr.mono (by decide)) rfl)) (pv 0) (pe_make M_Ratio G_Ratio_init (hr.mono (by decide)) (by rfl) T.Ratio.g b_Ratio2 .nil pass0 (pa_cons (pe_op op_mulX (pv 2) pe_int) (pa_cons (pe_op op_mulX (pv 3) pe_int) pa_nil))) (nomark _)) (pe_one (pe_not (pe_cmpR (op_neO T.O_Ratio_eq (hu_of hr) (Runs.of (A := _) G_Ratio_eq b_Ratio_eq (Room.in1 (hr.mono (by decide))) rfl)) (pv 0) (pe_make M_Ratio G_Ratio_init (hr.mono (by decide)) (by rfl) T.Ratio.g b_Ratio2 .nil pass0 (pa_cons (pe_un un_neg (pv 2)) (pa_cons (pe_un un_neg (pv 3)) pa_nil))) (nomark _)))))))))))))), ?_⟩
    refine ⟨_, rfl, _, t, b, rfl, hu, hb, zt.mono (by decide), zb.mono (by decide), fun v' H1 e1 ⟨p1, hv', hp1⟩ => ?_⟩
    subst hv'
    generalize Rat.divInt t b = q at *
    refine ⟨p1, _, rfl, SqT.of hp1, rfl, _, _, rfl, _, _, rfl, rfl, ?_⟩
    refine ⟨fun σ H' => H' = H1 ∧ σ = [some v, some u, some (.int q.num), some (.int (q.den : Int)), some (.str (strQ q)), none], ?_, ?_⟩
    · have l1 := tx_len (zq2.top.log (by decide))
      have l2 := tx_len (zq2.bot.log (by decide))
      have ll := line_big
      refine ⟨_, rfl, rfl, _, rfl, ?_⟩
      by_cases e : q.den = 1
      · refine iteY (by rw [e]; rfl) ⟨_, rfl, _, rfl, zq2.top.log (by decide), rfl, ?_⟩
        unfold strQ
        rw [if_pos e]
        rfl
      · refine iteN (decide_eq_false fun z => e (by injection z with z; omega)) ⟨_, rfl, _, rfl, zq2.top.log (by decide), _, _, rfl, rfl, ?_, _, rfl, _, rfl, zq2.bot.log (by decide), _, _, rfl, rfl, ?_, rfl, ?_⟩
        · show (tx q.num).length + 1 ≤ _
          omega
        · rw [strLen_append]
          show (tx q.num).length + 1 + (tx (q.den : Int)).length ≤ _
          omega
        · unfold strQ
          rw [if_neg e]
          rfl
    rintro σ H' ⟨rfl, rfl⟩
    have r1 := r0.ext e1
    obtain ⟨p, dx, rfl, hp⟩ := id r1
    refine ⟨_, rfl, p, dx, _, rfl, hp, _, q, rfl, r1, _, rfl, p, dx, _, rfl, hp, _, q, rfl, r1, _, rfl, p, dx, _, rfl, hp, _, q, rfl, r1, _, rfl, p, dx, _, rfl, hp, _, q, rfl, r1, zq2, _, rfl, _, rfl, p, dx, _, rfl, hp, _, q, rfl, r1, zq2, _, rfl, (by show 5 ≤ sizeLine; decide), fun l hl => ?_⟩
    have e2 := Ext.upd (o := .lst (told q)) hl
    refine ⟨_, rfl, l, told q, toldT q, [], rfl, (by simp), upd_same, told_rep zq2, told_len zq2, fun H3 e3 => ?_⟩
    have l1 := tx_len (zq2.top.log (by decide))
    have l2 := tx_len (zq2.bot.log (by decide))
    have ll := line_big
    -- the law's own list
    refine ⟨_, rfl, _, rfl, _, rfl, _, rfl, _, rfl, _, rfl, _, rfl, zq2.top.log (by decide), _, _, rfl, rfl, ?_, _, _, rfl, rfl, ?_, _, rfl, _, rfl, zq2.bot.log (by decide), _, _, rfl, rfl, ?_, _, _, rfl, rfl, ?_, (by show 5 ≤ sizeLine; decide), fun l' hl' => ?_⟩
    · show 6 + (tx q.num).length ≤ _
      omega
    · rw [strLen_append]
      show 6 + (tx q.num).length + 2 ≤ _
      omega
    · rw [strLen_append, strLen_append]
      show 6 + (tx q.num).length + 2 + (tx (q.den : Int)).length ≤ _
      omega
    · rw [strLen_append, strLen_append, strLen_append]
      show 6 + (tx q.num).length + 2 + (tx (q.den : Int)).length + 1 ≤ _
      omega
    have e4 := Ext.upd (o := .lst (told q)) hl'
    refine to_heap (H2 := upd H3 l' (.lst (told q))) (by unfold told reprQ tx; rfl) ?_
    refine ⟨l', told q, toldT q, [], rfl, (by simp), upd_same, told_rep zq2, told_len zq2, fun H5 e5 => ⟨rfl, false, congrArg V.bl (by simp), iteF ?_⟩⟩
    have e15 : Ext H' H5 := ((e2.trans e3).trans e4).trans e5
    have r5 := r1.ext e15
    have hp5 : H5 p = some (.ins a.Ratio dx (rf q)) := e15 _ _ hp
    -- the kinds
    refine ⟨_, rfl, p, dx, _, rfl, hp5, _, q, rfl, r5, _, rfl, .inl ⟨_, rfl, _, rfl, iteF ?_⟩⟩
    refine ⟨_, rfl, _, _, _, _, _, rfl, .own _, T.Ratio.ty hp5, T.Ratio.k_own, _, rfl, iteF ?_⟩
    refine ⟨_, rfl, _, q, rfl, .inr r5, _, rfl, iteF ?_⟩
    refine ⟨_, rfl, _, rfl, .inr ⟨q, r5, _, rfl, iteF ?_⟩⟩
    -- great parts
    refine ⟨_, rfl, _, rfl, _, rfl, _, _, rfl, _, _, rfl, rfl, ⟨by decide, by decide, by decide⟩, _, _, rfl, rfl, _, rfl, ite2 (fun _ => ?_) fun _ => ?_⟩
    · refine ⟨_, rfl, _, rfl, p, dx, _, rfl, hp5, .str _, _, _, q, rfl, r5, .inr ⟨.inr (.inl ⟨_, rfl⟩), _, rfl, ?_⟩⟩
      exact h H5 (e1.trans e15)
    · -- not equal to what looks alike
      refine ⟨_, rfl, _, rfl, p, dx, _, rfl, hp5, .int _, _, _, q, rfl, r5, .inr ⟨.inl ⟨_, rfl⟩, _, rfl, iteF ?_⟩⟩
      refine ⟨_, rfl, _, rfl, p, dx, _, rfl, hp5, .str _, _, _, q, rfl, r5, .inr ⟨.inr (.inl ⟨_, rfl⟩), _, rfl, iteF ?_⟩⟩
      refine ⟨_, rfl, _, rfl, _, rfl, (by show 2 ≤ sizeLine; decide), fun t6 ht6 => ?_⟩
      have e6 := Ext.upd (o := .tup [.int q.num, .int (q.den : Int)]) ht6
      refine ⟨p, dx, _, rfl, e6 _ _ hp5, .tup upd_same, _, _, q, rfl, r5.ext e6, .inr ⟨.inr (.inr ⟨t6, _, rfl, upd_same⟩), _, rfl, iteF ?_⟩⟩
      -- equal to what is the same
      refine ⟨_, rfl, _, rfl, _, _, rfl, rfl, cmulX (n := 2) zq.top (by decide) (by decide), _, rfl, _, _, rfl, rfl, cmulX (n := 2) zq.bot (by decide) (by decide), ?_⟩
      refine fun x7 dx7 nx7 nd7 ne7 => ⟨x7, dx7, _, _, rfl, upd_same, Int.mul_ne_zero (den_ne q) (by decide), (zq.top.mul (show Bt 2 3 by decide)).mono (by decide), (zq.bot.mul (show Bt 2 3 by decide)).mono (by decide), fun H7 keep7 hp7' => ⟨rfl, ?_⟩⟩
      obtain ⟨e7, r7⟩ := made nx7 nd7 keep7 hp7'
      rw [three_q] at r7
      have r07 := r5.ext (e6.trans e7)
      have hp7 := e7 _ _ (e6 _ _ hp5)
      obtain ⟨p7, dx7', hv7, hq7⟩ := id r7
      rw [hv7] at r7 ⊢
      refine ⟨p, dx, _, rfl, hp7, .own hq7, _, _, q, rfl, r07, .inl ⟨q, r7, _, rfl, iteY (decide_eq_true rfl) ?_⟩⟩
      refine ⟨_, rfl, _, rfl, _, rfl, _, rfl, _, rfl, ?_⟩
      refine fun x8 dx8 nx8 nd8 ne8 => ⟨x8, dx8, _, _, rfl, upd_same, (by have := den_ne q; omega), zq.top.neg.mono (by decide), zq.bot.neg.mono (by decide), fun H8 keep8 hp8 => ⟨rfl, ?_⟩⟩
      obtain ⟨e8, r8⟩ := made nx8 nd8 keep8 hp8
      rw [neg_q] at r8
      obtain ⟨p8, dx8', hv8, hq8⟩ := id r8
      rw [hv8] at r8 ⊢
      refine ⟨p, dx, _, rfl, e8 _ _ hp7, .own hq8, _, _, q, rfl, r07.ext e8, .inl ⟨q, r8, _, rfl, _, rfl, ?_⟩⟩
      have k := h H8 (((e1.trans e15).trans (e6.trans e7)).trans e8)
      rw [show (!(!decide (q = q))) = true by simp]
      exact k
end
end P

namespace P
open PySem L2 NS

/-! ### over, and the error of a division by 0 -/
def spDz (D : Addr) : Sp := fun vs H Q _ => ∃ e, vs = [.ref e] ∧ H e = some (exo e D none) ∧ Q .non H
def spOver (C D : Addr) : Sp := fun vs H Q E => ∃ v1 v2 q1 q2, vs = [v1, v2] ∧ IsRat C H v1 q1 ∧ IsNum C H v2 q2 ∧ Sz 4000 q1 ∧ Sz 4000 q2 ∧
  ((q2 ≠ 0 ∧ ∀ v' H', Ext H H' → IsRat C H' v' (q1 / q2) → Q v' H') ∨ (q2 = 0 ∧ ∀ H', Ext H H' → E (.ref D) none H'))
section
variable {P : Program} {w : World} {K : PySem.W.Frag} {mg : Str → Option Value} {base : Heap} {a : Ad}
theorem B_DividedByZero_init (T : Txt K mg a) : Binds K a.d_DividedByZero_init ["self"] [] := T.DividedByZero_init.F.binds fun _ _ _ _ _ _ us hl => match us, hl with | [_], _ => rfl
theorem ok_DividedByZero_init (T : Txt K mg a) : FnOk P w K mg base CX0 1 a.DividedByZero_init a.d_DividedByZero_init ["self"] (spDz a.DividedByZero) := by
  refine T.DividedByZero_init.F.ok sc_DividedByZero_init (fun vs H Q E h => ?_) (fun cdv A outer s H vs Q E hr h => ?_)
  · obtain ⟨v, rfl, _⟩ := h
    rfl
  · obtain ⟨e, rfl, he, h⟩ := h
    refine ⟨_, (pss_one (ps_expr (pe_binit (B := "RuntimeError") (newId := "RuntimeError.__new__") (bmB := [.type "RuntimeError", .type "Exception", .type "BaseException", .type "object"]) T.S_StateError (pa_cons (pv 0) (pa_cons pe_str pa_nil)) (by rfl)))), ?_⟩
    exact ⟨_, rfl, e, _, _, rfl, (by show 1 ≤ 1000; decide), T.X_DividedByZero, he, h⟩
theorem B_Ratio_over (T : Txt K mg a) : Binds K a.d_Ratio_over ["self", "other"] [] := T.Ratio_over.F.binds fun _ _ _ _ _ _ us hl => match us, hl with | [_, _], _ => rfl
theorem ok_Ratio_over (T : Txt K mg a) : FnOk P w K mg base (L2.CX P w) 5 a.Ratio_over a.d_Ratio_over ["self", "other"] (spOver a.Ratio a.DividedByZero) := by
  have G_want_number := ok_want_number (P := P) (w := w) (base := base) T
  have b_want_number := B_want_number T
  have G_as_ratio := ok_as_ratio (P := P) (w := w) (base := base) T
  have b_as_ratio := B_as_ratio T
  have G_DividedByZero_init := ok_DividedByZero_init (P := P) (w := w) (base := base) T
  have b_DividedByZero_init := B_DividedByZero_init T
  have G_Ratio_init := ok_Ratio_init (P := P) (w := w) (base := base) T
  have M_Ratio := Mk_Ratio T
  have b_Ratio2 := B_Ratio2 T
  refine T.Ratio_over.F.okX sc_Ratio_over (fun vs H Q E h => ?_) (fun cdv A outer s H vs Q E hr h => ?_)
  · obtain ⟨v1, v2, q1, q2, rfl, _⟩ := h
    rfl
  · obtain ⟨v1, v2, q1, q2, rfl, r1, n2, z1, z2, h⟩ := h
    refine ⟨_, (pss_cons (ps_expr (pe_call G_want_number (hr.mono (by decide)) (by rfl) T.want_number.g T.want_number.F.kp b_want_number .nil pass0 (pa_cons (pv 1) pa_nil)))
      (pss_cons (ps_set (i := 2) sc_Ratio_over.nd rfl (.inl rfl) (pe_call G_as_ratio (hr.mono (by decide)) (by rfl) T.as_ratio.g T.as_ratio.F.kp b_as_ratio .nil pass0 (pa_cons (pv 1) pa_nil)))
      (pss_cons (ps_if (pt_cmpR op_eq (pe_fld (pv 2) rfl) pe_int (nomark _)) (pss_one (ps_raise rfl (takes_of rfl rfl rfl rfl) (pmk_exc0 T.X_DividedByZero T.DividedByZero_init.at_ T.t_DividedByZero_init G_DividedByZero_init (hr.mono (by decide)) b_DividedByZero_init (by rfl) T.g_DividedByZero))) pss_nil)
      (pss_one (ps_ret (pe_make M_Ratio G_Ratio_init (hr.mono (by decide)) (by rfl) T.Ratio.g b_Ratio2 .nil pass0 (pa_cons (pe_op op_mulX (pe_fld (pv 0) rfl) (pe_fld (pv 2) rfl)) (pa_cons (pe_op op_mulX (pe_fld (pv 0) rfl) (pe_fld (pv 2) rfl)) pa_nil)))))))), ?_⟩
    refine ⟨_, rfl, v2, q2, rfl, n2, ?_⟩
    refine ⟨_, rfl, v2, q2, rfl, n2, z2.mono (by decide), fun m H1 e1 r2 => ?_⟩
    obtain ⟨p, dx, rfl, hp⟩ := r1.ext e1
    obtain ⟨p', dx', rfl, hp'⟩ := r2
    refine ⟨_, rfl, p', _, dx', _, _, rfl, hp', T.Ratio.cls, T.no_Ratio_own_top, rf_top q2, rfl, _, rfl, ?_⟩
    rcases h with ⟨hz, h⟩ | ⟨hz, h⟩
    · have hz' : q2.num ≠ 0 := fun z => hz (Rat.num_eq_zero.mp z)
      refine iteN (decide_eq_false fun z => hz' (by injection z)) ?_
      refine ⟨_, rfl, p, _, dx, _, _, rfl, hp, T.Ratio.cls, T.no_Ratio_own_top, rf_top q1, _, rfl, p', _, dx', _, _, rfl, hp', T.Ratio.cls, T.no_Ratio_own_bottom, rf_bot q2, _, _, rfl, rfl, cmulX z1.top z2.bot (by decide), ?_⟩
      refine ⟨_, rfl, p, _, dx, _, _, rfl, hp, T.Ratio.cls, T.no_Ratio_own_bottom, rf_bot q1, _, rfl, p', _, dx', _, _, rfl, hp', T.Ratio.cls, T.no_Ratio_own_top, rf_top q2, _, _, rfl, rfl, cmulX z1.bot z2.top (by decide), ?_⟩
      refine rd_Ratio (Int.mul_ne_zero (den_ne q1) hz') ((z1.top.mul z2.bot).mono (by decide)) ((z1.bot.mul z2.top).mono (by decide)) fun v' H' e r => h v' H' (e1.trans e) ?_
      rw [div_eq] at r
      exact r
    · subst hz
      refine iteY rfl ?_
      exact fun x hx => ⟨x, rfl, upd_same, rfl, rfl, h H1 e1⟩

/-! ### _law_is_divided_right -/
def spTwo (C : Addr) : Sp := fun vs H Q _ => ∃ v1 v2 u1 u2 q1 q2 t1 b1 t2 b2, vs = [v1, v2, u1, u2] ∧ IsRat C H v1 q1 ∧ IsNum C H v2 q2 ∧ PairAt H u1 t1 b1 ∧ PairAt H u2 t2 b2 ∧ b1 ≠ 0 ∧ b2 ≠ 0 ∧ Rat.divInt t1 b1 = q1 ∧ Rat.divInt t2 b2 = q2 ∧
  Bt 100 t1 ∧ Bt 100 b1 ∧ Bt 100 t2 ∧ Bt 100 b2 ∧ ∀ H', Ext H H' → Q (.bl true) H'
theorem quo (t1 b1 t2 b2 : Int) : Rat.divInt (t1 * b2) (b1 * t2) = Rat.divInt t1 b1 / Rat.divInt t2 b2 := by
  rw [Rat.div_def, Rat.inv_divInt, Rat.divInt_mul_divInt]
theorem divInt_zero_iff {t b : Int} (hb : b ≠ 0) : Rat.divInt t b = 0 ↔ t = 0 := by
  constructor
  · intro h
    have e := (Rat.divInt_eq_divInt_iff (n₁ := t) (n₂ := 0) hb (by decide : (1 : Int) ≠ 0)).mp (by rw [h, Rat.zero_divInt])
    omega
  · rintro rfl
    exact Rat.zero_divInt b
theorem B_law_is_divided_right (T : Txt K mg a) : Binds K a.d_law_is_divided_right ["_law_one", "_law_other", "_law_first", "_law_second"] [] := T.law_is_divided_right.F.binds fun _ _ _ _ _ _ us hl => match us, hl with | [_, _, _, _], _ => rfl
theorem ok_law_is_divided_right (T : Txt K mg a) : FnG P w K mg base 12 a.law_is_divided_right a.d_law_is_divided_right ["_law_one", "_law_other", "_law_first", "_law_second"] (spTwo a.Ratio) := by
  have G_Ratio_over := ok_Ratio_over (P := P) (w := w) (base := base) T
  have b_Ratio_over := B_Ratio_over T
  have G_law_is := ok_law_is (P := P) (w := w) (base := base) T
  have b_law_is := B_law_is T
  refine okG T.law_is_divided_right.F sc_law_is_divided_right (fun vs H Q E h => ?_) (fun cdv A outer s H vs Q hg hr h => ?_)
  · obtain ⟨v1, v2, u1, u2, q1, q2, t1, b1, t2, b2, rfl, _⟩ := h
    rfl
  · obtain ⟨v1, v2, u1, u2, q1, q2, t1, b1, t2, b2, rfl, r1, n2, ⟨p1, rfl, hp1⟩, ⟨p2, rfl, hp2⟩, hb1, hb2, rfl, rfl, zt1, zb1, zt2, zb2, h⟩ := h
    have hgd : (A.deeper (PyProof.Rows.envOfC "_law_is_divided_right" (defScope s_law_is_divided_right) s.heap.objs.size a.law_is_divided_right cdv)).guards = some [] := hg
    have z1 : Sz 100 (Rat.divInt t1 b1) := sz_divInt hb1 zt1 zb1
    have z2 : Sz 100 (Rat.divInt t2 b2) := sz_divInt hb2 zt2 zb2
    refine ⟨_, (pss_cons (ps_if (pt_cmpR op_ne (pe_ix ix_tup (pv 3) pe_int (fun _ _ => rfl)) pe_int (nomark _)) (pss_one (ps_ret (pe_callR (Runs.ofG G_law_is b_law_is hgd (hr.mono (by decide)) rfl) (by rfl) T.law_is.g T.law_is.F.kp (pa_cons (pe_meth (pv 0) T.Ratio.cls T.Ratio_over.meth G_Ratio_over (hr.mono (by decide)) b_Ratio_over .nil passL (pa_cons (pv 1) pa_nil)) (pa_cons (pe_tup (pa_cons (pe_op op_mulX (pe_ix ix_tup (pv 2) pe_int (fun _ _ => rfl)) (pe_ix ix_tup (pv 3) pe_int (fun _ _ => rfl))) (pa_cons (pe_op op_mulX (pe_ix ix_tup (pv 2) pe_int (fun _ _ => rfl)) (pe_ix ix_tup (pv 3) pe_int (fun _ _ => rfl))) pa_nil))) pa_nil))))) pss_nil)
      (pss_cons (ps_try_as (i := 4) rfl rfl sc_law_is_divided_right.nd rfl rfl ⟨rfl, by decide, .inl T.g_DividedByZero⟩ takes0
        (fun W pn xe tk _ => (pss_one (ps_expr (pe_methT (pv 0) T.Ratio.cls T.Ratio_over.meth G_Ratio_over (hr.mono (by decide)) b_Ratio_over (fun σ => passAt tk σ) (pa_cons (pv 1) pa_nil)))))
        (fun e oe cls d pn hz hf => (pss_one (ps_ret (pe_and (pe_isE T.C_DividedByZero hz hf T.b_isinstance (by decide +kernel) (pa_cons (pv 4) (pa_cons (pe_bltn (v := .ty "RuntimeError") (by rfl) T.g_RuntimeError (by decide +kernel) rfl) pa_nil))) (pe_one (pe_not (pe_isE T.C_DividedByZero hz hf T.b_isinstance (by decide +kernel) (pa_cons (pv 4) (pa_cons (pe_glob (v := .ref a.NotesumsError) (by rfl) T.g_NotesumsError rfl) pa_nil))))))))))
      (pss_one (ps_ret pe_bl)))), ?_⟩
    refine ⟨_, rfl, p2, _, _, _, rfl, rfl, SqT.of hp2, rfl, rfl, _, rfl, ?_⟩
    by_cases hz : t2 = 0
    · refine iteN (by rw [hz]; rfl) ?_
      obtain ⟨p, dx, rfl, hp⟩ := id r1
      refine ⟨_, rfl, p, dx, _, rfl, hp, rf_no _ (by decide +kernel) (by decide +kernel), _, rfl, _, _, _, _, rfl, r1, n2, z1.mono (by decide), z2.mono (by decide), .inr ⟨(divInt_zero_iff hb2).mpr hz, fun H1 e1 => ?_⟩⟩
      refine ⟨true, T.e_DividedByZero, fun _ e he => ?_, fun q => nomatch q⟩
      exact ⟨rfl, rfl, _, rfl, _, _, _, rfl, fun u r => r, T.k_DividedByZero, _, rfl, iteT ⟨rfl, rfl, _, rfl, _, _, _, rfl, fun u r => r, T.n_DividedByZero, _, rfl, h H1 e1⟩⟩
    · refine iteY (by simpa using hz) ?_
      obtain ⟨p, dx, rfl, hp⟩ := id r1
      have hq2 : Rat.divInt t2 b2 ≠ 0 := fun z => hz ((divInt_zero_iff hb2).mp z)
      refine ⟨_, rfl, p, dx, _, rfl, hp, rf_no _ (by decide +kernel) (by decide +kernel), _, rfl, _, _, _, _, rfl, r1, n2, z1.mono (by decide), z2.mono (by decide), .inl ⟨hq2, fun v' H1 e1 r' => ?_⟩⟩
      have hp1' := e1 _ _ hp1
      have hp2' := e1 _ _ hp2
      refine ⟨_, rfl, p1, _, _, _, rfl, rfl, SqT.of hp1', rfl, _, rfl, p2, _, _, _, rfl, rfl, SqT.of hp2', rfl, _, _, rfl, rfl, cmulX zt1 zb2 (by decide), ?_⟩
      refine ⟨_, rfl, p1, _, _, _, rfl, rfl, SqT.of hp1', rfl, _, rfl, p2, _, _, _, rfl, rfl, SqT.of hp2', rfl, _, _, rfl, rfl, cmulX zb1 zt2 (by decide), (by show 2 ≤ sizeLine; decide), fun u hu => ?_⟩
      exact ⟨v', _, _, _, _, rfl, r'.ext (Ext.upd hu), ⟨u, rfl, upd_same⟩, Int.mul_ne_zero hb1 hz, quo t1 b1 t2 b2, (zt1.mul zb2).mono (by decide), (zb1.mul zt2).mono (by decide), fun H' e' => h H' ((e1.trans (Ext.upd hu)).trans e')⟩
end
end P

namespace P
open PySem L2 NS

/-! ### _law_two_right -/
theorem IsNum.right {C : Addr} {H : Hp} {v : V} {q : Rat} (h : IsNum C H v q) : (∃ i, v = .int i) ∨ ∃ b dy gs, v = .ref b ∧ H b = some (.ins C dy gs) := by
  rcases h with ⟨i, rfl, _⟩ | ⟨p, dx, rfl, hp⟩
  · exact .inl ⟨i, rfl⟩
  · exact .inr ⟨p, dx, _, rfl, hp⟩
section
variable {P : Program} {w : World} {K : PySem.W.Frag} {mg : Str → Option Value} {base : Heap} {a : Ad}
theorem B_law_two_right (T : Txt K mg a) : Binds K a.d_law_two_right ["_law_one", "_law_other", "_law_first", "_law_second"] [] := T.law_two_right.F.binds fun _ _ _ _ _ _ us hl => match us, hl with | [_, _, _, _], _ => rfl
theorem ok_law_two_right (T : Txt K mg a) : FnG P w K mg base 14 a.law_two_right a.d_law_two_right ["_law_one", "_law_other", "_law_first", "_law_second"] (spTwo a.Ratio) := by
  have G_law_lowest := ok_law_lowest (P := P) (w := w) (base := base) T
  have b_law_lowest := B_law_lowest T
  have G_law_is := ok_law_is (P := P) (w := w) (base := base) T
  have b_law_is := B_law_is T
  have G_Ratio_add := ok_Ratio_add (P := P) (w := w) (base := base) T
  have b_Ratio_add := B_Ratio_add T
  have G_Ratio_sub := ok_Ratio_sub (P := P) (w := w) (base := base) T
  have b_Ratio_sub := B_Ratio_sub T
  have G_Ratio_mul := ok_Ratio_mul (P := P) (w := w) (base := base) T
  have b_Ratio_mul := B_Ratio_mul T
  have G_Ratio_neg := ok_Ratio_neg (P := P) (w := w) (base := base) T
  have b_Ratio_neg := B_Ratio_neg T
  have G_Ratio_eq := ok_Ratio_eq (P := P) (w := w) (base := base) T
  have b_Ratio_eq := B_Ratio_eq T
  have G_Ratio_is_below := ok_Ratio_is_below (P := P) (w := w) (base := base) T
  have b_Ratio_is_below := B_Ratio_is_below T
  have G_law_is_divided_right := ok_law_is_divided_right (P := P) (w := w) (base := base) T
  have b_law_is_divided_right := B_law_is_divided_right T
  have G_Ratio_init := ok_Ratio_init (P := P) (w := w) (base := base) T
  have M_Ratio := Mk_Ratio T
  obtain ⟨ds, v_Ratio1, b_Ratio1⟩ := B_Ratio1 T
  refine okG T.law_two_right.F sc_law_two_right (fun vs H Q E h => ?_) (fun cdv A outer s H vs Q hg hr h => ?_)
  · obtain ⟨v1, v2, u1, u2, q1, q2, t1, b1, t2, b2, rfl, _⟩ := h
    rfl
  · obtain ⟨v1, v2, u1, u2, q1, q2, t1, b1, t2, b2, rfl, r1, n2, hu1, hu2, hb1, hb2, d1, d2, zt1, zb1, zt2, zb2, h⟩ := h
    have hgd : (A.deeper (PyProof.Rows.envOfC "_law_two_right" (defScope s_law_two_right) s.heap.objs.size a.law_two_right cdv)).guards = some [] := hg
    have z1 : Sz 100 q1 := by rw [← d1]; exact sz_divInt hb1 zt1 zb1
    have z2 : Sz 100 q2 := by rw [← d2]; exact sz_divInt hb2 zt2 zb2
    refine ⟨_, (pss_cons (ps_asg (pe_tup (pa_cons (pe_call G_law_lowest (hr.mono (by decide)) (by rfl) T.law_lowest.g T.law_lowest.F.kp b_law_lowest .nil pass0 (pa_cons (pv 2) pa_nil)) (pa_cons (pe_call G_law_lowest (hr.mono (by decide)) (by rfl) T.law_lowest.g T.law_lowest.F.kp b_law_lowest .nil pass0 (pa_cons (pv 3) pa_nil)) pa_nil))) (pg_tup rfl (pgs_cons (pg_tup rfl (pgs_cons (pg_name (i := 4) sc_law_two_right.nd rfl (.inl rfl)) (pgs_cons (pg_name (i := 5) sc_law_two_right.nd rfl (.inl rfl)) pgs_nil))) (pgs_cons (pg_tup rfl (pgs_cons (pg_name (i := 6) sc_law_two_right.nd rfl (.inl rfl)) (pgs_cons (pg_name (i := 7) sc_law_two_right.nd rfl (.inl rfl)) pgs_nil))) pgs_nil))))
      (pss_cons (ps_if (PW.pt (pw_or (pt_not (pt_val (pe_callR (Runs.ofG G_law_is b_law_is hgd (hr.mono (by decide)) rfl) (by rfl) T.law_is.g T.law_is.F.kp (pa_cons (pe_op (op_own T.O_Ratio_add (Runs.of G_Ratio_add b_Ratio_add (hr.mono (by decide)) rfl)) (pv 0) (pv 1)) (pa_cons (pe_tup (pa_cons (pe_op op_add (pe_op op_mulX (pv 4) (pv 7)) (pe_op op_mulX (pv 6) (pv 5))) (pa_cons (pe_op op_mulX (pv 5) (pv 7)) pa_nil))) pa_nil))))) (pw_or1 (pt_not (pt_val (pe_callR (Runs.ofG G_law_is b_law_is hgd (hr.mono (by decide)) rfl) (by rfl) T.law_is.g T.law_is.F.kp (pa_cons (pe_op (op_own T.O_Ratio_sub (Runs.of G_Ratio_sub b_Ratio_sub (hr.mono (by decide)) rfl)) (pv 0) (pv 1)) (pa_cons (pe_tup (pa_cons (pe_op op_sub (pe_op op_mulX (pv 4) (pv 7)) (pe_op op_mulX (pv 6) (pv 5))) (pa_cons (pe_op op_mulX (pv 5) (pv 7)) pa_nil))) pa_nil)))))))) (pss_one (ps_ret pe_bl)) pss_nil)
      (pss_cons (ps_if (PW.pt (pw_or (pt_not (pt_val (pe_callR (Runs.ofG G_law_is b_law_is hgd (hr.mono (by decide)) rfl) (by rfl) T.law_is.g T.law_is.F.kp (pa_cons (pe_op (op_own T.O_Ratio_mul (Runs.of G_Ratio_mul b_Ratio_mul (hr.mono (by decide)) rfl)) (pv 0) (pv 1)) (pa_cons (pe_tup (pa_cons (pe_op op_mulX (pv 4) (pv 6)) (pa_cons (pe_op op_mulX (pv 5) (pv 7)) pa_nil))) pa_nil))))) (pw_or1 (pt_cmpR op_ne (pe_callB call_repr_bl (by rfl) T.b_repr (by decide +kernel) (pa_cons (pe_meth (pv 0) T.Ratio.cls T.Ratio_is_below.meth G_Ratio_is_below (hr.mono (by decide)) b_Ratio_is_below .nil pass0 (pa_cons (pv 1) pa_nil)) pa_nil)) (pe_callB call_repr_bl (by rfl) T.b_repr (by decide +kernel) (pa_cons (pe_cmpR op_lt (pe_op op_mulX (pv 4) (pv 7)) (pe_op op_mulX (pv 6) (pv 5)) (nomark _)) pa_nil)) (nomark _))))) (pss_one (ps_ret pe_bl)) pss_nil)
      (pss_cons (ps_if (PW.pt (pw_or (pt_not (pt_val (pe_callR (Runs.ofG G_law_is b_law_is hgd (hr.mono (by decide)) rfl) (by rfl) T.law_is.g T.law_is.F.kp (pa_cons (pe_un (un_own T.O_Ratio_neg (Runs.of G_Ratio_neg b_Ratio_neg (hr.mono (by decide)) rfl)) (pv 0)) (pa_cons (pe_tup (pa_cons (pe_un un_neg (pv 4)) (pa_cons (pv 5) pa_nil))) pa_nil))))) (pw_or (pt_cmpR (op_neO T.O_Ratio_eq (hu_of hr) (Runs.of (A := _) G_Ratio_eq b_Ratio_eq (Room.in1 (hr.mono (by decide))) rfl)) (pe_op (op_own T.O_Ratio_sub (Runs.of G_Ratio_sub b_Ratio_sub (hr.mono (by decide)) rfl)) (pe_op (op_own T.O_Ratio_add (Runs.of G_Ratio_add b_Ratio_add (hr.mono (by decide)) rfl)) (pv 0) (pv 1)) (pv 1)) (pv 0) (nomark _)) (pw_or1 (pt_cmpR (op_neO T.O_Ratio_eq (hu_of hr) (Runs.of (A := _) G_Ratio_eq b_Ratio_eq (Room.in1 (hr.mono (by decide))) rfl)) (pe_op (op_own T.O_Ratio_sub (Runs.of G_Ratio_sub b_Ratio_sub (hr.mono (by decide)) rfl)) (pv 0) (pv 0)) (pe_make M_Ratio G_Ratio_init (hr.mono (by decide)) (by rfl) T.Ratio.g b_Ratio1 v_Ratio1 pass0 (pa_cons pe_int pa_nil)) (nomark _)))))) (pss_one (ps_ret pe_bl)) pss_nil)
      (pss_one (ps_ret (pe_callR (Runs.ofG G_law_is_divided_right b_law_is_divided_right hgd (hr.mono (by decide)) rfl) (by rfl) T.law_is_divided_right.g T.law_is_divided_right.F.kp (pa_cons (pv 0) (pa_cons (pv 1) (pa_cons (pv 2) (pa_cons (pv 3) pa_nil))))))))))), ?_⟩
    refine ⟨_, rfl, _, t1, b1, rfl, hu1, hb1, zt1.mono (by decide), zb1.mono (by decide), fun w1 H1 e1 l1 => ?_⟩
    refine ⟨_, rfl, _, t2, b2, rfl, hu2.ext e1, hb2, zt2.mono (by decide), zb2.mono (by decide), fun w2 H2 e2 l2 => ⟨(by show 2 ≤ sizeLine; decide), fun pp hpp => ?_⟩⟩
    rw [d1] at l1
    rw [d2] at l2
    have e3 := Ext.upd (o := .tup [w1, w2]) hpp
    obtain ⟨p1, rfl, hp1⟩ := l1.ext (e2.trans e3)
    obtain ⟨p2, rfl, hp2⟩ := l2.ext e3
    refine ⟨pp, _, rfl, SqT.of upd_same, rfl, _, _, rfl, p1, _, rfl, SqT.of hp1, rfl, _, _, rfl, _, _, rfl, rfl, _, _, rfl, p2, _, rfl, SqT.of hp2, rfl, _, _, rfl, _, _, rfl, rfl, rfl, ?_⟩
    have e03 : Ext H (upd H2 pp (.tup [.ref p1, .ref p2])) := (e1.trans e2).trans e3
    generalize upd H2 pp (.tup [.ref p1, .ref p2]) = H3 at *
    have zz : ∀ {q : Rat}, Sz 100 q → Sz 4000 q := fun h => h.mono (by decide)
    have m11 : CMulX q1.num (q2.den : Int) := cmulX z1.top z2.bot (by decide)
    have m12 : CMulX q2.num (q1.den : Int) := cmulX z2.top z1.bot (by decide)
    have m13 : CMulX (q1.den : Int) (q2.den : Int) := cmulX z1.bot z2.bot (by decide)
    have dne := Int.mul_ne_zero (den_ne q1) (den_ne q2)
    have zbb : Bt 1500 ((q1.den : Int) * (q2.den : Int)) := (z1.bot.mul z2.bot).mono (by decide)
    -- sums
    have r3 := r1.ext e03
    have n3 := n2.ext e03
    obtain ⟨p, dx, rfl, hp⟩ := id r3
    refine ⟨_, rfl, _, rfl, p, dx, _, rfl, hp, n3.right, _, _, q1, q2, rfl, r3, n3, zz z1, zz z2, fun s4 H4 e4 r4 => ?_⟩
    refine ⟨_, rfl, _, rfl, _, _, rfl, rfl, m11, _, rfl, _, rfl, _, _, rfl, rfl, m12, _, _, rfl, rfl, _, rfl, _, rfl, _, _, rfl, rfl, m13, (by show 2 ≤ sizeLine; decide), fun u5 h5 => ?_⟩
    refine ⟨s4, _, _, _, _, rfl, r4.ext (Ext.upd h5), ⟨u5, rfl, upd_same⟩, dne, add_eq q1 q2, ((z1.top.mul z2.bot).add (z2.top.mul z1.bot)).mono (by decide), zbb, fun H6 e6 => ⟨_, rfl, iteF ?_⟩⟩
    have e36 : Ext H3 H6 := (e4.trans (Ext.upd h5)).trans e6
    -- differences
    refine ⟨_, rfl, _, rfl, p, dx, _, rfl, e36 _ _ hp, (n3.ext e36).right, _, _, q1, q2, rfl, r3.ext e36, n3.ext e36, zz z1, zz z2, fun s7 H7 e7 r7 => ?_⟩
    refine ⟨_, rfl, _, rfl, _, _, rfl, rfl, m11, _, rfl, _, rfl, _, _, rfl, rfl, m12, _, _, rfl, rfl, _, rfl, _, rfl, _, _, rfl, rfl, m13, (by show 2 ≤ sizeLine; decide), fun u8 h8 => ?_⟩
    refine ⟨s7, _, _, _, _, rfl, r7.ext (Ext.upd h8), ⟨u8, rfl, upd_same⟩, dne, dif_eq q1 q2, ((z1.top.mul z2.bot).sub (z2.top.mul z1.bot)).mono (by decide), zbb, fun H9 e9 => ⟨_, rfl, iteF ?_⟩⟩
    have e39 : Ext H3 H9 := e36.trans ((e7.trans (Ext.upd h8)).trans e9)
    -- products
    refine ⟨_, rfl, _, rfl, p, dx, _, rfl, e39 _ _ hp, (n3.ext e39).right, _, _, q1, q2, rfl, r3.ext e39, n3.ext e39, zz z1, zz z2, fun s10 H10 e10 r10 => ?_⟩
    refine ⟨_, rfl, _, rfl, _, _, rfl, rfl, cmulX z1.top z2.top (by decide), _, rfl, _, rfl, _, _, rfl, rfl, m13, (by show 2 ≤ sizeLine; decide), fun u11 h11 => ?_⟩
    refine ⟨s10, _, _, _, _, rfl, r10.ext (Ext.upd h11), ⟨u11, rfl, upd_same⟩, dne, mul_eq q1 q2, (z1.top.mul z2.top).mono (by decide), zbb, fun H12 e12 => ⟨_, rfl, iteF ?_⟩⟩
    have e312 : Ext H3 H12 := e39.trans ((e10.trans (Ext.upd h11)).trans e12)
    -- below
    refine ⟨_, rfl, p, dx, _, rfl, e312 _ _ hp, rf_no _ (by decide +kernel) (by decide +kernel), _, rfl, _, _, q1, q2, rfl, r3.ext e312, n3.ext e312, zz z1, zz z2, fun H13 e13 => ⟨_, rfl, ?_⟩⟩
    refine ⟨_, rfl, _, rfl, _, _, rfl, rfl, m11, _, rfl, _, rfl, _, _, rfl, rfl, m12, _, _, rfl, rfl, _, rfl, rfl, false, ?_, iteF ?_⟩
    · rw [show decide (q1 < q2) = decide (q1.num * (q2.den : Int) < q2.num * (q1.den : Int)) from decide_eq_decide.mpr (Rat.lt_iff q1 q2)]
      exact congrArg V.bl (by simp)
    have e313 : Ext H3 H13 := e312.trans e13
    -- the negative
    refine ⟨_, rfl, p, dx, _, rfl, e313 _ _ hp, _, q1, rfl, r3.ext e313, z1.mono (by decide), fun s14 H14 e14 r14 => ?_⟩
    refine ⟨_, rfl, _, rfl, _, rfl, (by show 2 ≤ sizeLine; decide), fun u15 h15 => ?_⟩
    refine ⟨s14, _, _, _, _, rfl, r14.ext (Ext.upd h15), ⟨u15, rfl, upd_same⟩, den_ne q1, neg_eq q1, z1.top.neg.mono (by decide), z1.bot.mono (by decide), fun H16 e16 => ⟨_, rfl, iteF ?_⟩⟩
    have e316 : Ext H3 H16 := e313.trans ((e14.trans (Ext.upd h15)).trans e16)
    -- one + other - other
    refine ⟨_, rfl, _, rfl, p, dx, _, rfl, e316 _ _ hp, (n3.ext e316).right, _, _, q1, q2, rfl, r3.ext e316, n3.ext e316, zz z1, zz z2, fun s17 H17 e17 r17 => ?_⟩
    obtain ⟨p17, dx17, rfl, hp17⟩ := id r17
    have n17 := n3.ext (e316.trans e17)
    refine ⟨_, rfl, p17, dx17, _, rfl, hp17, n17.right, _, _, q1 + q2, q2, rfl, r17, n17, (sz_add z1 z2).mono (by decide), zz z2, fun s18 H18 e18 r18 => ?_⟩
    have r18 : IsRat a.Ratio H18 s18 (q1 + q2 - q2) := r18
    rw [Rat.add_sub_cancel] at r18
    obtain ⟨p18, dx18, rfl, hp18⟩ := id r18
    have e318 : Ext H3 H18 := (e316.trans e17).trans e18
    refine ⟨_, rfl, p18, dx18, _, rfl, hp18, .own (e318 _ _ hp), _, _, q1, rfl, r18, .inl ⟨q1, r3.ext e318, _, rfl, _, rfl, iteN (by simp) ?_⟩⟩
    -- one - one
    refine ⟨_, rfl, _, rfl, p, dx, _, rfl, e318 _ _ hp, .inr ⟨p, dx, _, rfl, e318 _ _ hp⟩, _, _, q1, q1, rfl, r3.ext e318, .inr (r3.ext e318), zz z1, zz z1, fun s19 H19 e19 r19 => ?_⟩
    have e0 : q1 - q1 = 0 := Rat.sub_self
    have r19 : IsRat a.Ratio H19 s19 (q1 - q1) := r19
    rw [e0] at r19
    obtain ⟨p19, dx19, rfl, hp19⟩ := id r19
    refine fun x20 dx20 nx20 nd20 ne20 => ⟨x20, dx20, _, _, rfl, upd_same, (by decide), (by unfold Bt; exact Nat.two_pow_pos _), (by unfold Bt; exact Nat.one_lt_two_pow (by decide)), fun H20 keep20 hp20 => ⟨rfl, ?_⟩⟩
    obtain ⟨e20, r20⟩ := made nx20 nd20 keep20 hp20
    have ez : Rat.divInt 0 1 = 0 := Rat.zero_divInt 1
    rw [ez] at r20
    obtain ⟨p20, dx20', hv20, hq20⟩ := id r20
    rw [hv20] at r20 ⊢
    refine ⟨p19, dx19, _, rfl, e20 _ _ hp19, .own hq20, _, _, 0, rfl, r19.ext e20, .inl ⟨0, r20, _, rfl, _, rfl, iteN (by simp) ?_⟩⟩
    have e320 : Ext H3 H20 := (e318.trans e19).trans e20
    -- quotients
    exact ⟨_, rfl, _, rfl, _, rfl, _, rfl, _, _, _, _, q1, q2, t1, b1, t2, b2, rfl, r3.ext e320, n3.ext e320, hu1.ext (e03.trans e320), hu2.ext (e03.trans e320), hb1, hb2, d1, d2, zt1, zb1, zt2, zb2, fun H' e' => h H' ((e03.trans e320).trans e')⟩
end
end P

namespace NS
open PySem L2
section
variable {X : Cx} {CX : CXT} {k i : Nat} {f C p g : Addr} {fd : FuncData} {ps : List Str} {sp : Sp} {dvs : List V} {ds : List Value} {E : XK} {x m : Str} {pp pos apos : Pos} {e o : Expr} {es : List Expr} {t : TA} {ta : TE} {mc : Value} {pl : Sem Bool}
/-- the i-th slot holds the class at C; a new instance of it -/
def tMakeL (i : Nat) (C : Addr) (sp : Sp) (dvs : List V) (E : XK) (t : TA) : TE := fun σ H Q => σ[i]? = some (some (.ref C)) ∧ tMake C sp dvs E t σ H Q
theorem pe_makeL (M : Mk X.K C f) (F : FnOk X.prog X.w X.K X.mg X.base CX k f fd ps sp) (hr : Room (k + 1) X.A) (hN : X.N[i]? = some x) (hv : Vis X.env.scope x) (hb : Binds X.K fd ps ds) (hd : Vals dvs ds) (hx : Passes CX X E) (ha : PA X (e :: es) t)
    (hdb : (x == ("__debug__" : Str)) = false := by decide) (hcd : (x == ("__classdict__" : Str)) = false := by decide)
    (he : starEach (e :: es) X.env = (false, eval e X.env) :: starEach es X.env := by rfl) (hpl : (backTo pos (starEach es X.env)).any (·.1) = false := by rfl) :
    PE X (.Call (.Name x pp) (e :: es) [] pos) (tMakeL i C sp dvs E t) := by
  refine ⟨fun pins s σ H Q I h => ?_⟩
  obtain ⟨hs, ht⟩ := h
  have load := (pe_var (pos := pp) hN hv hdb hcd).run pins s σ H (fun v H1 => v = .ref C ∧ H1 = H) I ⟨.ref C, hs, rfl, rfl⟩
  refine wpAny_Call_Name_kw (thn load fun u s1 z => ?_)
  obtain ⟨v, H1, I1, r1, rfl, rfl⟩ := z
  cases r1
  refine PySem.W.callWith_K (h₀ := X.base) I.ok.mod.kin M.kp (thn (ha.run pos pins s1 σ _ _ I1 ht) fun us s2 z => ?_) he hpl
  obtain ⟨vs, H2, I2, rv, q⟩ := z
  exact ⟨I2.kIn, run_make M F hr hb hd hx I2 rv q⟩
/-- C.m() with m a classmethod -/
theorem pe_cmeth0 (he : PE X o ta) (r : ClX.CRead X.K C mc) (c : ClX.CMet X.K C mc m p g) (F : FnR X.prog X.w X.K X.mg X.base CX k g sp) (hr : Room k X.A) (hx : Passes CX X E)
    (ht : eval (.Call (.Attribute o m apos) [] [] pos) X.env = (do
      let ov ← eval o X.env
      standAt apos.atName
      let (f, first) ← holding [ov] (getMethod ov m pl)
      callWith pos f first (backTo pos (starEach [] X.env)) (backToKw pos (keywordEach [] X.env))) := by rfl) :
    PE X (.Call (.Attribute o m apos) [] [] pos) (ClX.tCMeth C sp E ta tNil) := by
  refine ⟨fun pins s σ H Q I h => ?_⟩
  refine PySem.W.methodCall_KW (pl := pl) (thn (he.run pins s σ H _ I h) fun u s1 z => ?_) ht
  obtain ⟨x, H1, I1, rx, rfl, q⟩ := z
  obtain rfl : u = Value.ref C := rx
  refine ClX.getmethcm_ok I1 r c fun s2 I2 => ?_
  exact PySem.W.callWith_M0 ⟨ClX.pin_at I2, I2.kIn⟩ c.fi (ClX.run_cm (us := []) F hr hx I2 .nil q)
end
end NS
namespace P
open PySem L2 NS

/-! ### Ratio.total -/
/-- the sum of numbers -/
def Nums (C : Addr) (H : Hp) (vs : List V) (qs : List Rat) : Prop := vs.length = qs.length ∧ ∀ (i : Nat) (v : V) (q : Rat), vs[i]? = some v → qs[i]? = some q → IsNum C H v q
theorem Nums.ext {C : Addr} {H H' : Hp} {vs : List V} {qs : List Rat} (h : Nums C H vs qs) (e : Ext H H') : Nums C H' vs qs := ⟨h.1, fun i v q a b => (h.2 i v q a b).ext e⟩
theorem Nums.nil {C : Addr} {H : Hp} : Nums C H [] [] := ⟨rfl, fun i v q h _ => by simp at h⟩
theorem Nums.cons {C : Addr} {H : Hp} {v : V} {q : Rat} {vs : List V} {qs : List Rat} (h : IsNum C H v q) (r : Nums C H vs qs) : Nums C H (v :: vs) (q :: qs) := by
  refine ⟨by rw [List.length_cons, List.length_cons, r.1], fun i x y a b => ?_⟩
  cases i with
  | zero =>
    cases a
    cases b
    exact h
  | succ i => exact r.2 i x y a b
def spTot (C : Addr) : Sp := fun vs H Q _ => ∃ (ws : List V) (qs : List Rat), vs = .ref C :: ws ∧ Nums C H ws qs ∧ ws.length ≤ 8 ∧ (∀ n, Sz 800 ((qs.take n).sum)) ∧ (∀ q, q ∈ qs → Sz 200 q) ∧ ∀ v H', Ext H H' → IsRat C H' v qs.sum → Q v H'
section
variable {P : Program} {w : World} {K : PySem.W.Frag} {mg : Str → Option Value} {base : Heap} {a : Ad}
theorem ok_Ratio_total (T : Txt K mg a) : FnR P w K mg base CX0 8 a.Ratio_total (spTot a.Ratio) := by
  have G_Ratio_init := ok_Ratio_init (P := P) (w := w) (base := base) T
  have M_Ratio := Mk_Ratio T
  obtain ⟨ds, v_Ratio1, b_Ratio1⟩ := B_Ratio1 T
  have G_Ratio_add := ok_Ratio_add (P := P) (w := w) (base := base) T
  have b_Ratio_add := B_Ratio_add T
  obtain ⟨oc, od, kV, doc, pm, an, cdv, ct, osl, lk, hcd⟩ := T.total_fn
  have R := StX.fn_star (P := P) (w := w) (mg := mg) (base := base) (CX := CX0) (k := 7) (ps := ["cls"]) (pv := "numbers") (N := ["cls", "numbers", "found", "number"]) lk hcd sc_Ratio_total StX.cxUp_none
    (sp := fun vs H Q _ => ∃ (p : Addr) (ws : List V) (qs : List Rat), vs = [.ref a.Ratio, .ref p] ∧ H p = some (.tup ws) ∧ Nums a.Ratio H ws qs ∧ (∀ n, Sz 800 ((qs.take n).sum)) ∧ (∀ q, q ∈ qs → Sz 200 q) ∧ ∀ v H', Ext H H' → IsRat a.Ratio H' v qs.sum → Q v H')
    (fun us rest hl => match us, rest, hl with | [_], [], _ => rfl | [_], _ :: _, _ => rfl) (fun A outer s H vs Q E hr h => ?_)
  · refine fun A outer s H us vs Q E hr e0 rv h => R A outer s H us vs Q E hr e0 rv ?_
    obtain ⟨ws, qs, rfl, n, hl, sz, szs, h⟩ := h
    exact ⟨[.ref a.Ratio], ws, rfl, rfl, Nat.le_trans hl (by show 8 ≤ sizeLine; decide), fun p hp => ⟨p, ws, qs, rfl, upd_same, n.ext (Ext.upd hp), sz, szs, fun v H' e r => h v H' ((Ext.upd hp).trans e) r⟩⟩
  · obtain ⟨p, ws, qs, rfl, hp, n, sz, szs, h⟩ := h
    refine ⟨_, PSs.nox (pss_cons (ps_set (i := 2) sc_Ratio_total.nd rfl (.inl rfl) (pe_makeL (i := 0) M_Ratio G_Ratio_init (hr.mono (by decide)) (by rfl) (.inl rfl) b_Ratio1 v_Ratio1 pass0 (pa_cons pe_int pa_nil)))
      (pss_cons (ps_for PassesOwn.never rfl (pi_tup (pv 1)) (pg_name (i := 3) sc_Ratio_total.nd rfl (.inl rfl)) (pss_one (ps_set (i := 2) sc_Ratio_total.nd rfl (.inl rfl) (pe_op (op_own T.O_Ratio_add (Runs.of G_Ratio_add b_Ratio_add (hr.mono (by decide)) rfl)) (pv 2) (pv 3)))))
      (pss_one (ps_ret (pv 2))))), ?_⟩
    refine ⟨rfl, fun x dx nx nd ne => ⟨x, dx, _, _, rfl, upd_same, (by decide), (by unfold Bt; exact Nat.two_pow_pos _), (by unfold Bt; exact Nat.one_lt_two_pow (by decide)), fun H1 keep1 hp1 => ⟨rfl, ?_⟩⟩⟩
    obtain ⟨e1, r1⟩ := made nx nd keep1 hp1
    have ez : Rat.divInt 0 1 = 0 := Rat.zero_divInt 1
    rw [ez] at r1
    refine ⟨_, rfl, p, rfl, ⟨_, SqT.of (e1 _ _ hp)⟩, ?_⟩
    refine for_tup (xs := ws) (fun i σ H' => Ext H H' ∧ ∃ v n, σ = [some (.ref a.Ratio), some (.ref p), some v, n] ∧ IsRat a.Ratio H' v ((qs.take i).sum)) ⟨e1, _, _, rfl, r1⟩ ?_ ?_ ?_
    · rintro i σ H' _ ⟨e, _⟩
      exact SqT.of (e _ _ hp)
    · rintro i x σ H' hx ⟨e, v, m, rfl, r⟩
      have hi : i < qs.length := by
        rw [← n.1]
        exact (List.getElem?_eq_some_iff.mp hx).1
      have hq : qs[i]? = some qs[i] := List.getElem?_eq_getElem hi
      have nn := (n.2 i _ _ hx hq).ext e
      obtain ⟨pv, dv, rfl, hv⟩ := id r
      refine ⟨_, rfl, _, rfl, pv, dv, _, rfl, hv, nn.right, _, _, _, _, rfl, r, nn, (sz i).mono (by decide), (szs _ (List.mem_of_getElem? hq)).mono (by decide), fun s2 H2 e2 r2 => ?_⟩
      refine ⟨e.trans e2, _, _, rfl, ?_⟩
      rw [List.take_add_one, hq]
      show IsRat a.Ratio H2 s2 (List.sum (qs.take i ++ [qs[i]]))
      rw [List.sum_append]
      simpa [Rat.add_zero] using r2
    · rintro σ H' ⟨e, v, m, rfl, r⟩
      rw [n.1, List.take_length] at r
      exact ⟨_, rfl, h _ _ e r⟩
end
end P

namespace P
open PySem L2 NS

/-! ### _law_right -/
/-- two Ratios of one value -/
def DRat (C : Addr) : Eqv := DIns C fun p p' H => ∃ q, IsRat C H (.ref p) q ∧ IsRat C H (.ref p') q
theorem monR {C : Addr} : Mon (DRat C) := mon_ins fun p p' H H' e ⟨q, h1, h2⟩ => ⟨q, h1.ext e, h2.ext e⟩
/-- the pair u and the Ratio v of it -/
def PairOk (H : Hp) (u : V) : Prop := ∃ t b, PairAt H u t b ∧ b ≠ 0 ∧ Bt 100 t ∧ Bt 100 b
def Both (C : Addr) (H : Hp) (u v : V) : Prop := ∃ t b, PairAt H u t b ∧ b ≠ 0 ∧ Bt 100 t ∧ Bt 100 b ∧ IsRat C H v (Rat.divInt t b)
theorem Both.ext {C : Addr} {H H' : Hp} {u v : V} (h : Both C H u v) (e : Ext H H') : Both C H' u v := by
  obtain ⟨t, b, hp, z1, z2, z3, hr⟩ := h
  exact ⟨t, b, hp.ext e, z1, z2, z3, hr.ext e⟩
theorem Both.but {C r : Addr} {H H' : Hp} {u v : V} (h : Both C H u v) (g : Rng H r) (e : But r H H') : Both C H' u v := by
  obtain ⟨t, b, hp, z1, z2, z3, p, dx, rfl, hv⟩ := h
  exact ⟨t, b, hp.but g e, z1, z2, z3, p, dx, rfl, e _ _ hv (g.ne_ins hv)⟩
theorem PairOk.but {r : Addr} {H H' : Hp} {u : V} (h : PairOk H u) (g : Rng H r) (e : But r H H') : PairOk H' u := by
  obtain ⟨t, b, hp, z⟩ := h
  exact ⟨t, b, hp.but g e, z⟩
theorem PairOk.ext {H H' : Hp} {u : V} (h : PairOk H u) (e : Ext H H') : PairOk H' u := by
  obtain ⟨t, b, hp, z⟩ := h
  exact ⟨t, b, hp.ext e, z⟩
/-- D, a list, is written anew: tuples and instances stand -/
theorem PairOk.put {H : Hp} {u : V} {D : Addr} {xs ys : List V} (h : PairOk H u) (hD : H D = some (.lst xs)) : PairOk (upd H D (.lst ys)) u := by
  obtain ⟨t, b, ⟨p, rfl, hp⟩, z⟩ := h
  exact ⟨t, b, ⟨p, rfl, by rw [upd_ne (ne_of hp hD (fun z => nomatch z))]; exact hp⟩, z⟩
theorem Both.put {C : Addr} {H : Hp} {u v : V} {D : Addr} {xs ys : List V} (h : Both C H u v) (hD : H D = some (.lst xs)) : Both C (upd H D (.lst ys)) u v := by
  obtain ⟨t, b, ⟨p, rfl, hp⟩, z1, z2, z3, q, dx, rfl, hv⟩ := h
  exact ⟨t, b, ⟨p, rfl, by rw [upd_ne (ne_of hp hD (fun z => nomatch z))]; exact hp⟩, z1, z2, z3, q, dx, rfl, by rw [upd_ne (ne_of hv hD (fun z => nomatch z))]; exact hv⟩
theorem snoc_all {R : Nat → V → Prop} {vs : List V} {y : V} (h : ∀ j v, vs[j]? = some v → R j v) (hy : R vs.length y) : ∀ j v, (vs ++ [y])[j]? = some v → R j v := by
  intro j v hv
  rcases Nat.lt_or_ge j vs.length with l | l
  · rw [List.getElem?_append_left l] at hv
    exact h j v hv
  · rw [List.getElem?_append_right l] at hv
    have : j - vs.length = 0 := by
      rcases Nat.eq_zero_or_pos (j - vs.length) with z | z
      · exact z
      · rw [List.getElem?_eq_none (by show 1 ≤ j - vs.length; omega)] at hv
        cases hv
    have e : j = vs.length := by omega
    subst e
    rw [Nat.sub_self] at hv
    cases hv
    exact hy
theorem nil_at {j : Nat} {u : V} {p : Prop} (h : ([] : List V)[j]? = some u) : p := by simp at h
theorem yes_of {σ : L2.St} {H : Hp} {p q : Hp → Prop} (h : p H) : tYes σ H fun b H' => if b = true then p H' else q H' := by
  show (if true = true then p H else q H)
  rw [if_pos rfl]
  exact h
theorem but_put {r D : Addr} {H H' : Hp} {o : HO} (h : But r H H') (hD : H D = none) : But r H (upd H' D o) := fun b u e n => by
  rw [upd_ne (ne_of_none e hD)]
  exact h b u e n
theorem ext_put {D : Addr} {H H' : Hp} {o : HO} (h : Ext H H') (hD : H D = none) : Ext H (upd H' D o) := fun b u e => by
  rw [upd_ne (ne_of_none e hD)]
  exact h b u e
theorem Rng.put {r D : Addr} {H : Hp} {o : HO} (h : Rng H r) (hD : D ≠ r) : Rng (upd H D o) r := by
  obtain ⟨x, y, hr, z⟩ := h
  exact ⟨x, y, by rw [upd_ne (fun e => hD e.symm)]; exact hr, z⟩
theorem line3 {n : Nat} (h : n ≤ 3) : n < sizeLine := Nat.lt_of_le_of_lt h (by decide)
theorem three {xs : List V} (h : xs.length = 3) : ∃ x y z, xs = [x, y, z] := by
  match xs, h with
  | [x, y, z], _ => exact ⟨x, y, z, rfl⟩
section
variable {P : Program} {w : World} {K : PySem.W.Frag} {mg : Str → Option Value} {base : Heap} {a : Ad}
theorem hu64 {k : Nat} {A : Around} (r : Room k A) : A.units + 64 < cLine := by have := r.un; omega
theorem eqR {X : Cx} (T : Txt X.K X.mg a) : EqG X 1 (DRat a.Ratio) := by
  refine eqG_ins (CX := CX0) (E := E0) ((ok_Ratio_eq T).imp fun vs H Q E h => ?_) T.O_Ratio_eq.eq T.O_Ratio_eq.fn (B_Ratio_eq T) pass0
  obtain ⟨p, p', rfl, ⟨q, h1, h2⟩, k⟩ := h
  exact ⟨_, _, q, rfl, h1, .inl ⟨q, h2, by rw [show decide (q = q) = true from decide_eq_true rfl]; exact k H Ext.rfl'⟩⟩
theorem rep_ratio {X : Cx} {as : List Addr} {H : Hp} {v : V} {q : Rat} (T : Txt X.K X.mg a) (h : IsRat a.Ratio H v q) (z : Sz 1920 q) : RepV X 2 as v H (reprQ q) := by
  obtain ⟨p, dx, rfl, hp⟩ := id h
  exact repV_own T.O_Ratio_repr (fun A h1 h2 => Runs.of (ok_Ratio_repr T) (B_Ratio_repr T) (h1.mono (by decide)) h2) hp fun H1 e1 Q k => ⟨_, q, rfl, h.ext e1, z, k H1 Ext.rfl'⟩
theorem rep3_len {q1 q2 q3 : Rat} (z1 : Sz 1920 q1) (z2 : Sz 1920 q2) (z3 : Sz 1920 q3) : (listText [reprQ q1, reprQ q2, reprQ q3]).length ≤ sizeLine := by
  have ll := line_big
  have l1 := reprQ_len z1
  have l2 := reprQ_len z2
  have l3 := reprQ_len z3
  refine Nat.le_trans (listText_len_le _) ?_
  show (reprQ q1).length + ((reprQ q2).length + ((reprQ q3).length + 0)) + 2 * 3 + 3 ≤ sizeLine
  omega
theorem secs_ok : ∀ v ∈ ([.int 0, .int 1, .int (-1), .int (10 ^ 20)] : List V), ∃ t, v = .int t ∧ Bt 100 t := by
  intro v hv
  simp only [List.mem_cons, List.not_mem_nil, or_false] at hv
  rcases hv with rfl | rfl | rfl | rfl <;> exact ⟨_, rfl, by unfold Bt; decide⟩
theorem low_eq (q q' : Rat) : PyData.eqv (.tuple [.int q.num, .int (q.den : Int)]) (.tuple [.int q'.num, .int (q'.den : Int)]) = decide (q = q') := by
  rw [Bool.eq_iff_iff, decide_eq_true_iff, rat_ext_iff]
  simp [PyData.eqv, PyData.eqvAll]
theorem IsRat.but {C r : Addr} {H H' : Hp} {v : V} {q : Rat} (h : IsRat C H v q) (g : Rng H r) (e : But r H H') : IsRat C H' v q := by
  obtain ⟨p, dx, rfl, hp⟩ := h
  exact ⟨p, dx, rfl, e _ _ hp (g.ne_ins hp)⟩
theorem bt_num {d : Int} (h0 : 0 ≤ d) (h1 : d < 31) : Bt 100 (d - 15) := by
  unfold Bt
  have : (64 : Nat) ≤ 2 ^ 100 := by decide
  omega
theorem bt_one {n : Nat} (h : n ≠ 0) : Bt n 1 := by unfold Bt; exact Nat.one_lt_two_pow h
theorem sz_nat {i : Int} (h : Bt 100 i) : Sz 100 (i : Rat) := by
  rw [← int_eq]
  exact sz_divInt (by decide) h (bt_one (by decide))
theorem sum_sz : ∀ {qs : List Rat}, (∀ q, q ∈ qs → Sz 100 q) → Sz (101 * qs.length + 1) qs.sum
  | [], _ => sz_int (i := 0) (by unfold Bt; decide) (by decide)
  | q :: qs, h => by
    rw [List.sum_cons]
    refine (sz_add (h q (.head _)) (sum_sz fun p hp => h p (.tail _ hp))).mono ?_
    rw [List.length_cons]
    omega
theorem part_sz {qs : List Rat} (hl : qs.length ≤ 4) (h : ∀ q, q ∈ qs → Sz 100 q) (n : Nat) : Sz 800 ((qs.take n).sum) := by
  refine (sum_sz fun q hq => h q (List.mem_of_mem_take hq)).mono ?_
  have : (qs.take n).length ≤ qs.length := List.length_take_le' ..
  omega
theorem B_law_right (T : Txt K mg a) : Binds K a.d_law_right ["_law_rng_here"] [] := T.law_right.F.binds fun _ _ _ _ _ _ us hl => match us, hl with | [_], _ => rfl
def spRight : Sp := fun vs H Q _ => ∃ r : Addr, vs = [.ref r] ∧ Rng H r ∧ ∀ H', But r H H' → Rng H' r → Q (.bl true) H'
theorem ok_law_right (T : Txt K mg a) : FnG P w K mg base 16 a.law_right a.d_law_right ["_law_rng_here"] spRight := by
  have G_law_draw := ok_law_draw (P := P) (w := w) (base := base) T
  have b_law_draw := B_law_draw T
  have G_law_choice := ok_law_choice (P := P) (w := w) (base := base) T
  have b_law_choice := B_law_choice T
  have G_law_pair := ok_law_pair (P := P) (w := w) (base := base) T
  have b_law_pair := B_law_pair T
  have G_law_lowest := ok_law_lowest (P := P) (w := w) (base := base) T
  have b_law_lowest := B_law_lowest T
  have G_law_is := ok_law_is (P := P) (w := w) (base := base) T
  have b_law_is := B_law_is T
  have G_Ratio_add := ok_Ratio_add (P := P) (w := w) (base := base) T
  have b_Ratio_add := B_Ratio_add T
  have G_Ratio_eq := ok_Ratio_eq (P := P) (w := w) (base := base) T
  have b_Ratio_eq := B_Ratio_eq T
  have G_Ratio_repr := ok_Ratio_repr (P := P) (w := w) (base := base) T
  have b_Ratio_repr := B_Ratio_repr T
  have G_law_two_right := ok_law_two_right (P := P) (w := w) (base := base) T
  have b_law_two_right := B_law_two_right T
  have G_total := ok_Ratio_total (P := P) (w := w) (base := base) T
  have G_Ratio_init := ok_Ratio_init (P := P) (w := w) (base := base) T
  have M_Ratio := Mk_Ratio T
  have b_Ratio2 := B_Ratio2 T
  obtain ⟨ds, v_Ratio1, b_Ratio1⟩ := B_Ratio1 T
  refine okG T.law_right.F sc_law_right (fun vs H Q E h => ?_) (fun cdv A outer s H vs Q hg hr h => ?_)
  · obtain ⟨r, rfl, _⟩ := h
    rfl
  · obtain ⟨r, rfl, g, h⟩ := h
    have hgd : (A.deeper (PyProof.Rows.envOfC "_law_right" (defScope s_law_right) s.heap.objs.size a.law_right cdv)).guards = some [] := hg
    refine ⟨_, (pss_cons (ps_setLc (i := 1) (own := [("_law_turn", 2)]) (g := gName 2) (by rfl) sc_law_right.nd rfl rfl (sw_true rfl rfl rfl (by decide +kernel)) (pi_range1 (by rfl) T.b_range (pa_cons pe_int pa_nil)) (blkOk_by (N := ["_law_rng_here", "_law_pairs", "_law_turn", "_law_made", "_law_top", "_law_bottom", "_law_shown", "_law_number", "_law_second", "_law_one", "_law_pair_here", "_law_first", "_law_other", "_law_more", "_law_told", "_law_whole", "_law_totals"]) (sc := defScope s_law_right) (by decide +kernel)) (fun _ _ _ _ _ => (pg_name (i := 2) sc_law_right.nd rfl (.inl rfl) (.inr rfl))) (fun _ _ _ _ _ => pts_nil) (fun _ _ _ _ _ => (pe_call G_law_pair (hr.mono (by decide)) (by rfl) T.law_pair.g T.law_pair.F.kp b_law_pair .nil pass0 (pa_cons (pv 0) pa_nil))))
      (pss_cons (ps_setLc (i := 3) (own := [("_law_top", 4), ("_law_bottom", 5)]) (g := gTup K 2 (gCons (gName 4) (gCons (gName 5) gNil))) (by rfl) sc_law_right.nd rfl rfl (sw_true rfl rfl rfl (by decide +kernel)) (pi_list (pv 1)) (blkOk_by (N := ["_law_rng_here", "_law_pairs", "_law_turn", "_law_made", "_law_top", "_law_bottom", "_law_shown", "_law_number", "_law_second", "_law_one", "_law_pair_here", "_law_first", "_law_other", "_law_more", "_law_told", "_law_whole", "_law_totals"]) (sc := defScope s_law_right) (by decide +kernel)) (fun _ _ _ _ _ => (pg_tup rfl (pgs_cons (pg_name (i := 4) sc_law_right.nd rfl (.inl rfl) (.inr rfl)) (pgs_cons (pg_name (i := 5) sc_law_right.nd rfl (.inl rfl) (.inr rfl)) pgs_nil)))) (fun _ _ _ _ _ => pts_nil) (fun _ _ _ _ _ => (pe_make M_Ratio G_Ratio_init (hr.mono (by decide)) (by rfl) T.Ratio.g b_Ratio2 .nil pass0 (pa_cons (pv 4) (pa_cons (pv 5) pa_nil)))))
      (pss_mid (ps_set (i := 6) sc_law_right.nd rfl (.inl rfl) (pe_callB (call_reprL (n := 2) (hr.mono (by decide)) hgd) (by rfl) T.b_repr (by decide +kernel) (pa_cons (pv 3) pa_nil)))
      (pss_mid (ps_par (i := 7) (j := 8) (by rfl) sc_law_right.nd rfl rfl (by decide) rfl rfl (pa_cons (pe_op op_sub (pe_call G_law_draw (hr.mono (by decide)) (by rfl) T.law_draw.g T.law_draw.F.kp b_law_draw .nil pass0 (pa_cons (pv 0) (pa_cons pe_int pa_nil))) pe_int) (pa_cons (pe_call G_law_choice (hr.mono (by decide)) (by rfl) T.law_choice.g T.law_choice.F.kp b_law_choice .nil pass0 (pa_cons (pv 0) (pa_cons (pe_lst (pa_cons pe_int (pa_cons pe_int (pa_cons (pe_un un_neg pe_int) (pa_cons (pe_op op_pow pe_int pe_int) pa_nil))))) pa_nil))) pa_nil)) (by rfl))
      (pss_cons (ps_if (PW.pt (pw_or (pt_not (pt_val (pe_callB (cr_all rfl) (by rfl) T.b_all (by decide +kernel) (pa_cons (pe_lc (own := [("_law_one", 9), ("_law_pair_here", 10)]) (g := gTup K 2 (gCons (gName 9) (gCons (gName 10) gNil))) (by rfl) sc_law_right.nd (pi_zip (by rfl) T.b_zip (pa_cons (pv 3) (pa_cons (pv 1) pa_nil))) (blkOk_by (N := ["_law_rng_here", "_law_pairs", "_law_turn", "_law_made", "_law_top", "_law_bottom", "_law_shown", "_law_number", "_law_second", "_law_one", "_law_pair_here", "_law_first", "_law_other", "_law_more", "_law_told", "_law_whole", "_law_totals"]) (sc := defScope s_law_right) (by decide +kernel)) (fun _ _ _ _ _ => (pg_tup rfl (pgs_cons (pg_name (i := 9) sc_law_right.nd rfl (.inl rfl) (.inr rfl)) (pgs_cons (pg_name (i := 10) sc_law_right.nd rfl (.inl rfl) (.inr rfl)) pgs_nil)))) (fun _ _ _ _ _ => pts_nil) (fun _ _ _ _ _ => (pe_callD (Runs.ofG G_law_is b_law_is hgd (hr.mono (by decide)) rfl) (by rfl) T.law_is.g T.law_is.F.kp (pa_cons (pv 9) (pa_cons (pv 10) pa_nil))))) pa_nil)))) (pw_or1 (pt_not (pt_val (pe_callR (Runs.ofG G_law_is b_law_is hgd (hr.mono (by decide)) rfl) (by rfl) T.law_is.g T.law_is.F.kp (pa_cons (pe_make M_Ratio G_Ratio_init (hr.mono (by decide)) (by rfl) T.Ratio.g b_Ratio1 v_Ratio1 pass0 (pa_cons (pv 7) pa_nil)) (pa_cons (pe_tup (pa_cons (pv 7) (pa_cons pe_int pa_nil))) pa_nil)))))))) (pss_one (ps_ret pe_bl)) pss_nil)
      (pss_cons (ps_for PassesOwn.never rfl (pi_zip (by rfl) T.b_zip (pa_cons (pv 3) (pa_cons (pv 1) pa_nil))) (pg_tup rfl (pgs_cons (pg_name (i := 9) sc_law_right.nd rfl (.inl rfl)) (pgs_cons (pg_name (i := 11) sc_law_right.nd rfl (.inl rfl)) pgs_nil))) (pss_cons (ps_for PassesOwn.never rfl (pi_zip (by rfl) T.b_zip (pa_cons (pv 3) (pa_cons (pv 1) pa_nil))) (pg_tup rfl (pgs_cons (pg_name (i := 12) sc_law_right.nd rfl (.inl rfl)) (pgs_cons (pg_name (i := 13) sc_law_right.nd rfl (.inl rfl)) pgs_nil))) (pss_cons (ps_if (pt_not (pt_val (pe_callR (Runs.ofG G_law_two_right b_law_two_right hgd (hr.mono (by decide)) rfl) (by rfl) T.law_two_right.g T.law_two_right.F.kp (pa_cons (pv 9) (pa_cons (pv 12) (pa_cons (pv 11) (pa_cons (pv 13) pa_nil))))))) (pss_one (ps_ret pe_bl)) pss_nil)
      (pss_one (ps_if (pt_cmpR op_ne (pe_cmpR (op_eqO T.O_Ratio_eq hr.units0 (Runs.of G_Ratio_eq b_Ratio_eq (hr.mono (by decide)) rfl)) (pv 9) (pv 12) (nomark _)) (pe_cmpR (op_eqD (hu64 hr)) (pe_call G_law_lowest (hr.mono (by decide)) (by rfl) T.law_lowest.g T.law_lowest.F.kp b_law_lowest .nil pass0 (pa_cons (pv 11) pa_nil)) (pe_call G_law_lowest (hr.mono (by decide)) (by rfl) T.law_lowest.g T.law_lowest.F.kp b_law_lowest .nil pass0 (pa_cons (pv 13) pa_nil)) (nomark _)) (nomark _)) (pss_one (ps_ret pe_bl)) pss_nil))))
      (pss_one (ps_for PassesOwn.never rfl (pi_list (pe_lst (pa_cons (pv 7) (pa_cons (pv 8) pa_nil)))) (pg_name (i := 14) sc_law_right.nd rfl (.inl rfl)) (pss_one (ps_if (pt_not (pt_val (pe_callR (Runs.ofG G_law_two_right b_law_two_right hgd (hr.mono (by decide)) rfl) (by rfl) T.law_two_right.g T.law_two_right.F.kp (pa_cons (pv 9) (pa_cons (pv 14) (pa_cons (pv 11) (pa_cons (pe_tup (pa_cons (pv 14) (pa_cons pe_int pa_nil))) pa_nil))))))) (pss_one (ps_ret pe_bl)) pss_nil))))))
      (pss_cons (ps_set (i := 15) sc_law_right.nd rfl (.inl rfl) (pe_op (op_own T.O_Ratio_add (Runs.of G_Ratio_add b_Ratio_add (hr.mono (by decide)) rfl)) (pe_op (op_own T.O_Ratio_add (Runs.of G_Ratio_add b_Ratio_add (hr.mono (by decide)) rfl)) (pe_op (op_own T.O_Ratio_add (Runs.of G_Ratio_add b_Ratio_add (hr.mono (by decide)) rfl)) (pe_ix ix_list (pv 3) pe_int (fun _ _ => rfl)) (pe_ix ix_list (pv 3) pe_int (fun _ _ => rfl))) (pe_ix ix_list (pv 3) pe_int (fun _ _ => rfl))) (pv 7)))
      (pss_cons (ps_set (i := 16) sc_law_right.nd rfl (.inl rfl) (pe_lst (pa_cons (ClX.pe_cmeth (pe_glob (v := .ref a.Ratio) (by rfl) T.Ratio.g rfl) T.total_rd T.total_at G_total (hr.mono (by decide)) pass0 (pa_cons (pe_ix ix_list (pv 3) pe_int (fun _ _ => rfl)) (pa_cons (pe_ix ix_list (pv 3) pe_int (fun _ _ => rfl)) (pa_cons (pe_ix ix_list (pv 3) pe_int (fun _ _ => rfl)) (pa_cons (pv 7) pa_nil))))) (pa_cons (ClX.pe_cmeth (pe_glob (v := .ref a.Ratio) (by rfl) T.Ratio.g rfl) T.total_rd T.total_at G_total (hr.mono (by decide)) pass0 (pa_cons (pv 7) (pa_cons (pe_ix ix_list (pv 3) pe_int (fun _ _ => rfl)) (pa_cons (pe_ix ix_list (pv 3) pe_int (fun _ _ => rfl)) (pa_cons (pe_ix ix_list (pv 3) pe_int (fun _ _ => rfl)) pa_nil))))) pa_nil))))
      (pss_cons (ps_if (PW.pt (pw_or (pt_cmpR (op_neL monR (eqR T) (hr.mono (by decide))) (pv 16) (pe_lst (pa_cons (pv 15) (pa_cons (pv 15) pa_nil))) (nomark _)) (pw_or (pt_cmpR (op_neO T.O_Ratio_eq (hu_of hr) (Runs.of (A := _) G_Ratio_eq b_Ratio_eq (Room.in1 (hr.mono (by decide))) rfl)) (pe_cmeth0 (pe_glob (v := .ref a.Ratio) (by rfl) T.Ratio.g rfl) T.total_rd T.total_at G_total (hr.mono (by decide)) pass0) (pe_make M_Ratio G_Ratio_init (hr.mono (by decide)) (by rfl) T.Ratio.g b_Ratio1 v_Ratio1 pass0 (pa_cons pe_int pa_nil)) (nomark _)) (pw_or1 (pt_cmpR (op_neO T.O_Ratio_eq (hu_of hr) (Runs.of (A := _) G_Ratio_eq b_Ratio_eq (Room.in1 (hr.mono (by decide))) rfl)) (ClX.pe_cmeth (pe_glob (v := .ref a.Ratio) (by rfl) T.Ratio.g rfl) T.total_rd T.total_at G_total (hr.mono (by decide)) pass0 (pa_cons (pe_ix ix_list (pv 3) pe_int (fun _ _ => rfl)) pa_nil)) (pe_ix ix_list (pv 3) pe_int (fun _ _ => rfl)) (nomark _)))))) (pss_one (ps_ret pe_bl)) pss_nil)
      (pss_one (ps_ret (pe_and (pe_cmpR op_eq (pe_callB (call_reprL (n := 2) (hr.mono (by decide)) hgd) (by rfl) T.b_repr (by decide +kernel) (pa_cons (pv 3) pa_nil)) (pv 6) (nomark _)) (pe_one (pe_cmpR (op_eqO T.O_Ratio_eq hr.units0 (Runs.of G_Ratio_eq b_Ratio_eq (hr.mono (by decide)) rfl)) (ClX.pe_cmeth (pe_glob (v := .ref a.Ratio) (by rfl) T.Ratio.g rfl) T.total_rd T.total_at G_total (hr.mono (by decide)) pass0 (pa_cons (pv 8) (pa_cons (pv 7) pa_nil))) (pe_make M_Ratio G_Ratio_init (hr.mono (by decide)) (by rfl) T.Ratio.g b_Ratio1 v_Ratio1 pass0 (pa_cons (pe_op op_add (pv 8) (pv 7)) pa_nil)) (nomark _))))))))))))))), ?_⟩
    have hrr : ∃ o, H r = some o := by
      obtain ⟨x, y, hr, _⟩ := id g
      exact ⟨_, hr⟩
    -- the pairs
    refine ⟨3, rfl, by decide, by decide, fun D1 hD1 => ?_⟩
    have n1 : D1 ≠ r := fun e => by
      obtain ⟨o, ho⟩ := hrr
      rw [← e, hD1] at ho
      cases ho
    refine lc_range (n := 3) (fun i H' => But r H H' ∧ Rng H' r ∧ ∃ us, H' D1 = some (.lst us) ∧ us.length = i ∧ ∀ j u, us[j]? = some u → PairOk H' u) ⟨but_put But.rfl' hD1, g.put n1, [], upd_same, rfl, fun j u z => nil_at z⟩ ?_ ?_
    · rintro i H' hi ⟨b1, g1, us, hus, hl, hp⟩
      refine ⟨rfl, yes_of ?_⟩
      refine ⟨_, rfl, r, rfl, g1, fun v t b H2 zt zb0 zb b2 g2 pa => ?_⟩
      have hus2 := b2 _ _ hus n1
      refine ⟨us, hus2, line3 (by omega), but_put (b1.trans b2) hD1, g2.put n1, _, upd_same, by rw [List.length_append, hl]; rfl, ?_⟩
      exact snoc_all (R := fun _ u => PairOk (upd H2 D1 (.lst (us ++ [v]))) u) (fun j u z => ((hp j u z).but g1 b2).put hus2) (PairOk.put ⟨t, b, pa, zb0, zt, zb⟩ hus2)
    rintro H1 ⟨b1, g1, us, hus, hl, hp⟩
    -- the Ratios
    refine ⟨_, rfl, D1, rfl, ⟨_, SqL.of hus⟩, fun D2 hD2 => ?_⟩
    have n2 : D2 ≠ r := fun e => by
      obtain ⟨x, y, hr, _⟩ := id g1
      rw [← e, hD2] at hr
      cases hr
    refine lc_list (xs := us) (fun i H' => Ext H1 H' ∧ ∃ vs, H' D2 = some (.lst vs) ∧ vs.length = i ∧ ∀ j v, vs[j]? = some v → ∀ u, us[j]? = some u → Both a.Ratio H' u v) ⟨ext_put Ext.rfl' hD2, [], upd_same, rfl, fun j u z => nil_at z⟩ ?_ ?_ ?_
    · rintro i H' _ ⟨e, _⟩
      exact SqL.of (e _ _ hus)
    · rintro i u H' hu ⟨e, vs, hvs, hlv, hb⟩
      obtain ⟨t, b, ⟨p, rfl, hpp⟩, hb0, zt, zb⟩ := (hp i u hu).ext e
      refine ⟨p, _, rfl, SqT.of hpp, rfl, _, _, rfl, _, _, rfl, rfl, rfl, yes_of ?_⟩
      refine ⟨_, rfl, _, rfl, fun x dx nx nd ne => ⟨x, dx, _, _, rfl, upd_same, hb0, zt.mono (by decide), zb.mono (by decide), fun H2 keep2 hp2 => ⟨rfl, ?_⟩⟩⟩
      obtain ⟨e2, r2⟩ := made nx nd keep2 hp2
      have hi : i < 3 := by rw [← hl]; exact (List.getElem?_eq_some_iff.mp hu).1
      have hvs2 := e2 _ _ hvs
      refine ⟨vs, hvs2, line3 (by omega), ext_put (e.trans e2) hD2, _, upd_same, by rw [List.length_append, hlv]; rfl, ?_⟩
      refine snoc_all (R := fun j v => ∀ u, us[j]? = some u → Both a.Ratio (upd H2 D2 (.lst (vs ++ [.ref x]))) u v) (fun j v z u' hu' => ((hb j v z u' hu').ext e2).put hvs2) fun u' hu' => ?_
      rw [hlv, hu] at hu'
      cases hu'
      exact Both.put ⟨t, b, ⟨p, rfl, e2 _ _ hpp⟩, hb0, zt, zb, r2⟩ hvs2
    rintro H2 ⟨e2, vs, hvs, hlv, hb⟩
    rw [hl] at hlv
    obtain ⟨u1, u2, u3, rfl⟩ := three hl
    obtain ⟨v1, v2, v3, rfl⟩ := three hlv
    obtain ⟨t1, c1, pa1, nz1, zt1, zc1, r1⟩ := hb 0 v1 rfl u1 rfl
    obtain ⟨t2, c2, pa2, nz2, zt2, zc2, r2⟩ := hb 1 v2 rfl u2 rfl
    obtain ⟨t3, c3, pa3, nz3, zt3, zc3, r3⟩ := hb 2 v3 rfl u3 rfl
    have zq1 : Sz 100 (Rat.divInt t1 c1) := sz_divInt nz1 zt1 zc1
    have zq2 : Sz 100 (Rat.divInt t2 c2) := sz_divInt nz2 zt2 zc2
    have zq3 : Sz 100 (Rat.divInt t3 c3) := sz_divInt nz3 zt3 zc3
    clear hp hb
    have g2 := g1.ext e2
    have hus2 := e2 _ _ hus
    -- their texts
    generalize ew : listText [reprQ (Rat.divInt t1 c1), reprQ (Rat.divInt t2 c2), reprQ (Rat.divInt t3 c3)] = shown
    refine ⟨fun σ H' => Ext H2 H' ∧ σ = [some (.ref r), some (.ref D1), none, some (.ref D2), none, none, some (.str shown), none, none, none, none, none, none, none, none, none, none], ?_, ?_⟩
    · refine ⟨_, rfl, D2, _, [reprQ _, reprQ _, reprQ _], [], rfl, (by simp), hvs, .cons (rep_ratio T r1 (zq1.mono (by decide))) (.cons (rep_ratio T r2 (zq2.mono (by decide))) (.cons (rep_ratio T r3 (zq3.mono (by decide))) .nil)), rep3_len (zq1.mono (by decide)) (zq2.mono (by decide)) (zq3.mono (by decide)), fun H3 e3 => ⟨e3, by rw [ew]; rfl⟩⟩
    rintro σ H3 ⟨e3, rfl⟩
    -- the two numbers
    refine ⟨fun σ H' => But r H3 H' ∧ Rng H' r ∧ ∃ n m : Int, Bt 100 n ∧ Bt 100 m ∧ σ = [some (.ref r), some (.ref D1), none, some (.ref D2), none, none, some (.str shown), some (.int n), some (.int m), none, none, none, none, none, none, none, none], ?_, ?_⟩
    · refine ⟨_, rfl, r, 31, rfl, g2.ext e3, by decide, by decide, fun d H4 d0 d1 b4 g4 => ?_⟩
      refine ⟨_, _, rfl, rfl, _, rfl, _, rfl, _, _, rfl, rfl, ⟨by decide, by decide, by decide⟩, (by show 4 ≤ sizeLine; decide), fun l hln => ?_⟩
      refine ⟨r, l, _, rfl, g4.ext (Ext.upd hln), upd_same, fun z => ?_, (by show 0 < 4; decide), (by show 4 ≤ 1000; decide), fun m' H5 hm b5 g5 => ?_⟩
      · obtain ⟨x, y, hr', _⟩ := g4
        rw [← z, hln] at hr'
        cases hr'
      · obtain ⟨m, rfl, zm⟩ := secs_ok m' hm
        exact ⟨_, _, rfl, (b4.ext (Ext.upd hln)).trans b5, g5, d - 15, m, bt_num d0 d1, zm, rfl⟩
    rintro σ H5 ⟨b35, g5, n, m, zn, zm, rfl⟩
    have b25 : But r H2 H5 := (but_of e3).trans b35
    have b05 : But r H H5 := (b1.ext e2).trans b25
    have hus5 := b25 _ _ hus2 n1
    have hvs5 := b25 _ _ hvs n2
    have k1 := pa1.but g2 b25
    have k2 := pa2.but g2 b25
    have k3 := pa3.but g2 b25
    have s1 := r1.but g2 b25
    have s2 := r2.but g2 b25
    have s3 := r3.but g2 b25
    clear pa1 pa2 pa3 r1 r2 r3 b25 hus2 hvs g2 e2 hus g1 b1 b35
    have BB : ∀ (i : Nat) (x y : V), [v1, v2, v3][i]? = some x → [u1, u2, u3][i]? = some y → Both a.Ratio H5 y x
      | 0, _, _, rfl, rfl => ⟨t1, c1, k1, nz1, zt1, zc1, s1⟩
      | 1, _, _, rfl, rfl => ⟨t2, c2, k2, nz2, zt2, zc2, s2⟩
      | 2, _, _, rfl, rfl => ⟨t3, c3, k3, nz3, zt3, zc3, s3⟩
    -- each is what its pair says
    refine ⟨_, rfl, _, rfl, D2, D1, _, _, rfl, SqL.of hvs5, SqL.of hus5, fun D3 hD3 => ?_⟩
    refine lc_it (walk_zip (xs := [v1, v2, v3]) (ys := [u1, u2, u3]) (n := 3) rfl) (fun i H' => Ext H5 H' ∧ H' D3 = some (.lst ((List.replicate i true).map V.bl))) ⟨ext_put Ext.rfl' hD3, upd_same⟩ ?_ ?_ ?_
    · rintro i H' _ ⟨e, _⟩
      exact ⟨SqL.of (e _ _ hvs5), SqL.of (e _ _ hus5)⟩
    · rintro i x0 H' H'' hi ⟨e, h3⟩ ⟨T0, x, y, rfl, hT, rfl, hx, hy⟩
      have eT := Ext.upd (o := .tup [x, y]) hT
      refine ⟨T0, _, rfl, SqT.of upd_same, rfl, _, _, rfl, _, _, rfl, rfl, rfl, yes_of ?_⟩
      obtain ⟨t, b, pa, nz, zt, zb, rr⟩ := (BB i x y hx hy).ext (e.trans eT)
      refine ⟨_, rfl, _, rfl, x, y, _, t, b, rfl, rr, pa, nz, rfl, zt.mono (by decide), zb.mono (by decide), fun H7 e7 => ?_⟩
      have h7 := e7 _ _ (eT _ _ h3)
      refine ⟨_, h7, line3 (by simp; omega), ext_put ((e.trans eT).trans e7) hD3, ?_⟩
      rw [upd_same, List.replicate_succ']
      simp
    rintro H6 ⟨e6, h6⟩
    refine ⟨D3, [true, true, true], rfl, SqL.of h6, _, rfl, iteF ?_⟩
    refine ⟨_, rfl, fun x dx nx nd ne => ⟨x, dx, _, _, rfl, upd_same, (by decide), zn.mono (by decide), bt_one (by decide), fun H7 keep7 hp7 => ⟨rfl, ?_⟩⟩⟩
    obtain ⟨e7, r7⟩ := made nx nd keep7 hp7
    refine ⟨_, rfl, (by show 2 ≤ sizeLine; decide), fun u8 h8 => ?_⟩
    refine ⟨_, _, _, n, 1, rfl, r7.ext (Ext.upd h8), ⟨u8, rfl, upd_same⟩, by decide, rfl, zn.mono (by decide), bt_one (by decide), fun H9 e9 => ⟨_, rfl, iteF ?_⟩⟩
    have e59 : Ext H5 H9 := ((e6.trans e7).trans (Ext.upd h8)).trans e9
    -- the pairs of them
    refine ⟨_, rfl, _, rfl, D2, D1, _, _, rfl, SqL.of (e59 _ _ hvs5), SqL.of (e59 _ _ hus5), ?_⟩
    refine RZ.for_zipL (xs := [v1, v2, v3]) (ys := [u1, u2, u3]) rfl (fun i σ H' => Ext H5 H' ∧ ∃ o9 o11 o12 o13 o14, σ = [some (.ref r), some (.ref D1), none, some (.ref D2), none, none, some (.str shown), some (.int n), some (.int m), o9, none, o11, o12, o13, o14, none, none]) ⟨e59, _, _, _, _, _, rfl⟩ ?_ ?_ ?_
    · rintro i σ H' ⟨e, _⟩
      exact ⟨SqL.of (e _ _ hvs5), SqL.of (e _ _ hus5)⟩
    · rintro i x y T0 σ H' hx hy ⟨e, o9, o11, o12, o13, o14, rfl⟩ hT
      have eT : Ext H5 (upd H' T0 (.tup [x, y])) := e.trans (Ext.upd hT)
      obtain ⟨t, b, pa, nz, zt, zb, rr⟩ := BB i x y hx hy
      refine ⟨T0, _, rfl, SqT.of upd_same, rfl, _, _, rfl, _, _, rfl, rfl, ?_⟩
      refine ⟨_, rfl, _, rfl, D2, D1, _, _, rfl, SqL.of (eT _ _ hvs5), SqL.of (eT _ _ hus5), ?_⟩
      refine RZ.for_zipL (xs := [v1, v2, v3]) (ys := [u1, u2, u3]) rfl (fun j σ H' => Ext H5 H' ∧ ∃ o12 o13 o14, σ = [some (.ref r), some (.ref D1), none, some (.ref D2), none, none, some (.str shown), some (.int n), some (.int m), some x, none, some y, o12, o13, o14, none, none]) ⟨eT, _, _, _, rfl⟩ ?_ ?_ ?_
      · rintro j σ H' ⟨e, _⟩
        exact ⟨SqL.of (e _ _ hvs5), SqL.of (e _ _ hus5)⟩
      · rintro j x' y' T1 σ H6 hx' hy' ⟨e6, o12, o13, o14, rfl⟩ hT1
        have eT1 : Ext H5 (upd H6 T1 (.tup [x', y'])) := e6.trans (Ext.upd hT1)
        obtain ⟨t', b', pa', nz', zt', zb', rr'⟩ := BB j x' y' hx' hy'
        refine ⟨T1, _, rfl, SqT.of upd_same, rfl, _, _, rfl, _, _, rfl, rfl, ?_⟩
        refine ⟨_, rfl, _, rfl, _, rfl, _, rfl, _, _, _, _, _, _, t, b, t', b', rfl, rr.ext eT1, .inr (rr'.ext eT1), pa.ext eT1, pa'.ext eT1, nz, nz', rfl, rfl, zt, zb, zt', zb', fun H7 e7 => ⟨_, rfl, iteF ?_⟩⟩
        have e57 := eT1.trans e7
        obtain ⟨p, dx, rfl, hp⟩ := id (rr.ext e57)
        obtain ⟨p', dx', rfl, hp'⟩ := id (rr'.ext e57)
        refine ⟨_, rfl, _, rfl, p, dx, _, rfl, hp, .own hp', _, _, _, rfl, rr.ext e57, .inl ⟨_, rr'.ext e57, ?_⟩⟩
        refine ⟨_, rfl, y, t, b, rfl, pa.ext e57, nz, zt.mono (by decide), zb.mono (by decide), fun w1 H8 e8 l8 => ?_⟩
        refine ⟨_, rfl, y', t', b', rfl, (pa'.ext e57).ext e8, nz', zt'.mono (by decide), zb'.mono (by decide), fun w2 H9' e9' l9 => ?_⟩
        obtain ⟨w1, rfl, hw1⟩ := l8.ext e9'
        obtain ⟨w2, rfl, hw2⟩ := l9
        refine ⟨_, _, .tup (SqT.of hw1) (.cons (.int _) (.cons (.int _) .nil)), .tup (SqT.of hw2) (.cons (.int _) (.cons (.int _) .nil)), rfl, rfl, rfl, false, ?_, iteF ?_⟩
        · rw [low_eq]
          exact congrArg V.bl (by simp)
        exact ⟨(e57.trans e8).trans e9', _, _, _, rfl⟩
      rintro σ H6 ⟨e6, o12, o13, o14, rfl⟩
      refine ⟨_, rfl, _, rfl, (by show 2 ≤ sizeLine; decide), fun l hl' => ⟨l, rfl, ⟨_, SqL.of upd_same⟩, ?_⟩⟩
      refine for_list (xs := [.int n, .int m]) (fun j σ H' => Ext (upd H6 l (.lst [.int n, .int m])) H' ∧ ∃ o12 o13 o14, σ = [some (.ref r), some (.ref D1), none, some (.ref D2), none, none, some (.str shown), some (.int n), some (.int m), some x, none, some y, o12, o13, o14, none, none]) ⟨Ext.rfl', _, _, _, rfl⟩ ?_ ?_ ?_
      · rintro j σ H' _ ⟨e, _⟩
        exact SqL.of (e _ _ upd_same)
      · rintro j k' σ H7 hk ⟨e7, o12, o13, o14, rfl⟩
        obtain ⟨k, rfl, zk⟩ : ∃ k, k' = V.int k ∧ Bt 100 k := by
          match j, hk with
          | 0, rfl => exact ⟨n, rfl, zn⟩
          | 1, rfl => exact ⟨m, rfl, zm⟩
        have e57 : Ext H5 H7 := (e6.trans (Ext.upd hl')).trans e7
        refine ⟨_, rfl, _, rfl, _, rfl, _, rfl, (by show 2 ≤ sizeLine; decide), fun u8 h8 => ?_⟩
        have e58 := e57.trans (Ext.upd (o := .tup [.int k, .int 1]) h8)
        refine ⟨_, _, _, _, _, (k : Rat), t, b, k, 1, rfl, rr.ext e58, .inl ⟨k, rfl, rfl⟩, pa.ext e58, ⟨u8, rfl, upd_same⟩, nz, by decide, rfl, int_eq k, zt, zb, zk, bt_one (by decide), fun H9 e9 => ⟨_, rfl, iteF ?_⟩⟩
        exact ⟨(e7.trans (Ext.upd h8)).trans e9, _, _, _, rfl⟩
      · rintro σ H7 ⟨e7, o12, o13, o14, rfl⟩
        exact ⟨(e6.trans (Ext.upd hl')).trans e7, _, _, _, _, _, rfl⟩
    rintro σ H6 ⟨e6', o9, o11, o12, o13, o14, rfl⟩
    clear BB
    have hvs6 := e6' _ _ hvs5
    have x1 := s1.ext e6'
    have x2 := s2.ext e6'
    have x3 := s3.ext e6'
    generalize Rat.divInt t1 c1 = q1 at *
    generalize Rat.divInt t2 c2 = q2 at *
    generalize Rat.divInt t3 c3 = q3 at *
    obtain ⟨p1, dx1, rfl, hp1⟩ := id x1
    obtain ⟨p2, dx2, rfl, hp2⟩ := id x2
    obtain ⟨p3, dx3, rfl, hp3⟩ := id x3
    have znq := sz_nat zn
    have zmq := sz_nat zm
    -- the sum
    refine ⟨_, rfl, D2, _, _, _, rfl, rfl, SqL.of hvs6, rfl, _, rfl, D2, _, _, _, rfl, rfl, SqL.of hvs6, rfl, p1, dx1, _, rfl, hp1, .inr ⟨p2, dx2, _, rfl, hp2⟩, _, _, q1, q2, rfl, x1, .inr x2, zq1.mono (by decide), zq2.mono (by decide), fun w7 H7 e7 y7 => ?_⟩
    have y7 : IsRat a.Ratio H7 w7 (q1 + q2) := y7
    obtain ⟨p7, dx7, rfl, hp7⟩ := id y7
    refine ⟨_, rfl, D2, _, _, _, rfl, rfl, SqL.of (e7 _ _ hvs6), rfl, p7, dx7, _, rfl, hp7, .inr ⟨p3, dx3, _, rfl, e7 _ _ hp3⟩, _, _, q1 + q2, q3, rfl, y7, .inr (x3.ext e7), (sz_add zq1 zq2).mono (by decide), zq3.mono (by decide), fun w8 H8 e8 y8 => ?_⟩
    have y8 : IsRat a.Ratio H8 w8 (q1 + q2 + q3) := y8
    obtain ⟨p8, dx8, rfl, hp8⟩ := id y8
    refine ⟨_, rfl, p8, dx8, _, rfl, hp8, .inl ⟨n, rfl⟩, _, _, q1 + q2 + q3, (n : Rat), rfl, y8, .inl ⟨n, rfl, rfl⟩, (sz_add (sz_add zq1 zq2) zq3).mono (by decide), znq.mono (by decide), fun w9 H9' e9' y9 => ?_⟩
    have y9 : IsRat a.Ratio H9' w9 (q1 + q2 + q3 + (n : Rat)) := y9
    have e69 : Ext H6 H9' := (e7.trans e8).trans e9'
    -- the totals
    have all4 : ∀ q, q ∈ [q1, q2, q3, (n : Rat)] → Sz 100 q := by
      intro q hq
      simp only [List.mem_cons, List.not_mem_nil, or_false] at hq
      rcases hq with rfl | rfl | rfl | rfl <;> assumption
    have all4' : ∀ q, q ∈ [(n : Rat), q3, q2, q1] → Sz 100 q := fun q hq => all4 q (by
      simp only [List.mem_cons, List.not_mem_nil, or_false] at hq ⊢
      rcases hq with h | h | h | h <;> simp [h])
    refine ⟨rfl, _, rfl, D2, _, _, _, rfl, rfl, SqL.of (e69 _ _ hvs6), rfl, _, rfl, D2, _, _, _, rfl, rfl, SqL.of (e69 _ _ hvs6), rfl, _, rfl, D2, _, _, _, rfl, rfl, SqL.of (e69 _ _ hvs6), rfl, _, rfl, ?_⟩
    refine ⟨_, [q1, q2, q3, (n : Rat)], rfl, .cons (.inr (x1.ext e69)) (.cons (.inr (x2.ext e69)) (.cons (.inr (x3.ext e69)) (.cons (.inl ⟨n, rfl, rfl⟩) .nil))), (by show 4 ≤ 8; decide), part_sz (by show 4 ≤ 4; decide) all4, fun q hq => (all4 q hq).mono (by decide), fun w10 H10 e10 y10 => ?_⟩
    have e610 := e69.trans e10
    refine ⟨rfl, _, rfl, _, rfl, D2, _, _, _, rfl, rfl, SqL.of (e610 _ _ hvs6), rfl, _, rfl, D2, _, _, _, rfl, rfl, SqL.of (e610 _ _ hvs6), rfl, _, rfl, D2, _, _, _, rfl, rfl, SqL.of (e610 _ _ hvs6), rfl, ?_⟩
    refine ⟨_, [(n : Rat), q3, q2, q1], rfl, .cons (.inl ⟨n, rfl, rfl⟩) (.cons (.inr (x3.ext e610)) (.cons (.inr (x2.ext e610)) (.cons (.inr (x1.ext e610)) .nil))), (by show 4 ≤ 8; decide), part_sz (by show 4 ≤ 4; decide) all4', fun q hq => (all4' q hq).mono (by decide), fun w11 H11 e11 y11 => ?_⟩
    refine ⟨(by show 2 ≤ sizeLine; decide), fun l12 h12 => ?_⟩
    have sum1 : [q1, q2, q3, (n : Rat)].sum = q1 + q2 + q3 + (n : Rat) := by
      simp only [List.sum_cons, List.sum_nil]
      grind
    have sum2 : [(n : Rat), q3, q2, q1].sum = q1 + q2 + q3 + (n : Rat) := by
      simp only [List.sum_cons, List.sum_nil]
      grind
    rw [sum1] at y10
    rw [sum2] at y11
    refine ⟨_, rfl, _, rfl, _, rfl, (by show 2 ≤ sizeLine; decide), fun l13 h13 => ?_⟩
    have e1113 : Ext H11 (upd (upd H11 l12 (.lst [w10, w11])) l13 (.lst [w9, w9])) := (Ext.upd h12).trans (Ext.upd h13)
    have y9' := ((y9.ext e10).ext e11).ext e1113
    have y10' := (y10.ext e11).ext e1113
    have y11' := y11.ext e1113
    obtain ⟨p9, dx9, rfl, hp9⟩ := id y9'
    obtain ⟨p10, dx10, rfl, hp10⟩ := id y10'
    obtain ⟨p11, dx11, rfl, hp11⟩ := id y11'
    refine ⟨⟨l12, l13, _, _, rfl, rfl, Ext.upd h13 _ _ upd_same, upd_same, .cons ⟨p10, p9, dx10, dx9, _, _, rfl, rfl, hp10, hp9, _, y10', y9'⟩ (.cons ⟨p11, p9, dx11, dx9, _, _, rfl, rfl, hp11, hp9, _, y11', y9'⟩ .nil)⟩, fun H14 e14 => ⟨_, rfl, iteF ?_⟩⟩
    have e614 : Ext H6 H14 := ((e610.trans e11).trans e1113).trans e14
    -- none
    have ez : Rat.divInt 0 1 = 0 := Rat.zero_divInt 1
    refine ⟨rfl, [], [], rfl, .nil, (by show 0 ≤ 8; decide), part_sz (by show 0 ≤ 4; decide) (fun q hq => nomatch hq), (fun q hq => nomatch hq), fun w15 H15 e15 y15 => ?_⟩
    have y15 : IsRat a.Ratio H15 w15 0 := y15
    refine fun x16 dx16 nx16 nd16 ne16 => ⟨x16, dx16, _, _, rfl, upd_same, (by decide), (by unfold Bt; exact Nat.two_pow_pos _), bt_one (by decide), fun H16 keep16 hp16 => ⟨rfl, ?_⟩⟩
    obtain ⟨e16, y16⟩ := made nx16 nd16 keep16 hp16
    rw [ez] at y16
    obtain ⟨p15, dx15, rfl, hp15⟩ := id (y15.ext e16)
    obtain ⟨p16, dx16', hv16, hq16⟩ := id y16
    rw [hv16] at y16 ⊢
    refine ⟨p15, dx15, _, rfl, hp15, .own hq16, _, _, 0, rfl, y15.ext e16, .inl ⟨0, y16, _, rfl, _, rfl, iteN (by simp) ?_⟩⟩
    have e616 : Ext H6 H16 := (e614.trans e15).trans e16
    -- one
    have all1 : ∀ q, q ∈ [q2] → Sz 100 q := by
      intro q hq
      simp only [List.mem_cons, List.not_mem_nil, or_false] at hq
      rw [hq]
      exact zq2
    refine ⟨rfl, _, rfl, D2, _, _, _, rfl, rfl, SqL.of (e616 _ _ hvs6), rfl, _, [q2], rfl, .cons (.inr (x2.ext e616)) .nil, (by show 1 ≤ 8; decide), part_sz (by show 1 ≤ 4; decide) all1, fun q hq => (all1 q hq).mono (by decide), fun w17 H17 e17 y17 => ?_⟩
    have sum3 : [q2].sum = q2 := by
      simp only [List.sum_cons, List.sum_nil]
      grind
    rw [sum3] at y17
    obtain ⟨p17, dx17, rfl, hp17⟩ := id y17
    have e617 := e616.trans e17
    refine ⟨_, rfl, D2, _, _, _, rfl, rfl, SqL.of (e617 _ _ hvs6), rfl, p17, dx17, _, rfl, hp17, .own (e617 _ _ hp2), _, _, q2, rfl, y17, .inl ⟨q2, x2.ext e617, _, rfl, _, rfl, iteN (by simp) ?_⟩⟩
    -- the texts again, and the last sum
    refine ⟨_, rfl, D2, _, [reprQ _, reprQ _, reprQ _], [], rfl, (by simp), e617 _ _ hvs6, .cons (rep_ratio T (x1.ext e617) (zq1.mono (by decide))) (.cons (rep_ratio T (x2.ext e617) (zq2.mono (by decide))) (.cons (rep_ratio T (x3.ext e617) (zq3.mono (by decide))) .nil)), rep3_len (zq1.mono (by decide)) (zq2.mono (by decide)) (zq3.mono (by decide)), fun H18 e18 => ?_⟩
    refine ⟨_, rfl, rfl, true, congrArg V.bl (decide_eq_true (by rw [ew])), iteT ?_⟩
    have all2 : ∀ q, q ∈ [(m : Rat), (n : Rat)] → Sz 100 q := by
      intro q hq
      simp only [List.mem_cons, List.not_mem_nil, or_false] at hq
      rcases hq with rfl | rfl <;> assumption
    refine ⟨rfl, _, rfl, _, rfl, _, [(m : Rat), (n : Rat)], rfl, .cons (.inl ⟨m, rfl, rfl⟩) (.cons (.inl ⟨n, rfl, rfl⟩) .nil), (by show 2 ≤ 8; decide), part_sz (by show 2 ≤ 4; decide) all2, fun q hq => (all2 q hq).mono (by decide), fun w19 H19 e19 y19 => ?_⟩
    refine ⟨_, rfl, _, rfl, _, _, rfl, rfl, fun x20 dx20 nx20 nd20 ne20 => ⟨x20, dx20, _, _, rfl, upd_same, (by decide), (zm.add zn).mono (by decide), bt_one (by decide), fun H20 keep20 hp20 => ⟨rfl, ?_⟩⟩⟩
    obtain ⟨e20, y20⟩ := made nx20 nd20 keep20 hp20
    have sum4 : [(m : Rat), (n : Rat)].sum = Rat.divInt (m + n) 1 := by
      rw [int_eq, Rat.intCast_add]
      simp only [List.sum_cons, List.sum_nil]
      grind
    rw [sum4] at y19
    obtain ⟨p19, dx19, rfl, hp19⟩ := id (y19.ext e20)
    obtain ⟨p20, dx20', hv20, hq20⟩ := id y20
    rw [hv20] at y20 ⊢
    refine ⟨p19, dx19, _, rfl, hp19, .own hq20, _, _, _, rfl, y19.ext e20, .inl ⟨_, y20, ?_⟩⟩
    rw [show decide (Rat.divInt (m + n) 1 = Rat.divInt (m + n) 1) = true from decide_eq_true rfl]
    have e520 : Ext H5 H20 := (((e6'.trans e617).trans e18).trans e19).trans e20
    exact h _ (b05.ext e520) (g5.ext e520)
end
end P

namespace P
open PySem L2 NS

/-! ### law -/
def spLaw (K : PySem.W.Frag) : Sp := fun vs H Q _ => ∃ (s : Addr) (ns : List Int), vs = [.ref s] ∧ SqL K H s (ns.map V.int) ∧ ns.length ≤ 1000000 ∧ ∀ H', Q (.bl true) H'
section
variable {P : Program} {w : World} {K : PySem.W.Frag} {mg : Str → Option Value} {base : Heap} {a : Ad}
theorem ok_law (T : Txt K mg a) : FnG P w K mg base 18 a.law a.d_law ["_law_script"] (spLaw K) := by
  have G_law_rng := ok_law_rng (P := P) (w := w) (base := base) T
  have b_law_rng := B_law_rng T
  have G_law_right := ok_law_right (P := P) (w := w) (base := base) T
  have b_law_right := B_law_right T
  refine okG T.law.F sc_law (fun vs H Q E h => ?_) (fun cdv A outer s0 H vs Q hg hr h => ?_)
  · obtain ⟨s, ns, rfl, _⟩ := h
    rfl
  · obtain ⟨s, ns, rfl, hs, hl, h⟩ := h
    have hgd : (A.deeper (PyProof.Rows.envOfC "law" (defScope s_law) s0.heap.objs.size a.law cdv)).guards = some [] := hg
    refine ⟨_, (pss_cons (ps_for PassesOwn.never rfl (pi_range1 (by rfl) T.b_range (pa_cons (pe_callB (call_max2 rfl) (by rfl) T.b_max (by decide +kernel) (pa_cons pe_int (pa_cons (pe_callB (call_min2 rfl) (by rfl) T.b_min (by decide +kernel) (pa_cons pe_int (pa_cons (pe_callB call_len (by rfl) T.b_len (by decide +kernel) (pa_cons (pv 0) pa_nil)) pa_nil))) pa_nil))) pa_nil)) (pg_name (i := 1) sc_law.nd rfl (.inl rfl)) (pss_cons (ps_set (i := 2) sc_law.nd rfl (.inl rfl) (pe_call G_law_rng (hr.mono (by decide)) (by rfl) T.law_rng.g T.law_rng.F.kp b_law_rng .nil pass0 (pa_cons (pv 0) (pa_cons (pv 1) pa_nil))))
      (pss_one (ps_for PassesOwn.never rfl (pi_range1 (by rfl) T.b_range (pa_cons pe_int pa_nil)) (pg_name (i := 3) sc_law.nd rfl (.inl rfl)) (pss_one (ps_if (pt_not (pt_val (pe_callR (Runs.ofG G_law_right b_law_right hgd (hr.mono (by decide)) rfl) (by rfl) T.law_right.g T.law_right.F.kp (pa_cons (pv 2) pa_nil)))) (pss_one (ps_ret pe_bl)) pss_nil))))))
      (pss_one (ps_ret pe_bl))), ?_⟩
    refine ⟨_, rfl, _, _, rfl, .inl ⟨_, hs, rfl⟩, _, _, rfl, _, _, rfl, _, rfl, ?_⟩
    obtain ⟨k, hk4, hk⟩ : ∃ k : Nat, k ≤ 4 ∧ (if (if ((ns.map V.int).length : Int) < 4 then ((ns.map V.int).length : Int) else 4) > 1 then (if ((ns.map V.int).length : Int) < 4 then ((ns.map V.int).length : Int) else 4) else 1) = (k : Int) := by
      generalize (ns.map V.int).length = l
      by_cases h4 : (l : Int) < 4
      · rw [if_pos h4]
        by_cases h1 : (l : Int) > 1
        · rw [if_pos h1]
          exact ⟨l, by omega, rfl⟩
        · rw [if_neg h1]
          exact ⟨1, by omega, rfl⟩
      · rw [if_neg h4, if_pos (by decide)]
        exact ⟨4, by omega, rfl⟩
    refine ⟨?_, ?_, ?_⟩
    · rw [hk]; omega
    · rw [hk]; omega
    rw [hk]
    refine for_range (n := k) (fun i σ H' => Ext H H' ∧ ∃ o1 o2 o3, σ = [some (.ref s), o1, o2, o3]) ⟨Ext.rfl', _, _, _, rfl⟩ ?_ ?_
    · rintro i σ H1 hi ⟨e1, o1, o2, o3, rfl⟩
      refine ⟨_, rfl, _, rfl, s, ns, i, by rw [Int.zero_add]; rfl, hs.ext e1, by omega, fun r H2 hr2 e2 g2 => ?_⟩
      refine ⟨6, rfl, by decide, by decide, ?_⟩
      refine for_range (n := 6) (fun j σ H' => But r H1 H' ∧ Rng H' r ∧ ∃ o1 o3, σ = [some (.ref s), o1, some (.ref r), o3]) ⟨but_of e2, g2, _, _, rfl⟩ ?_ ?_
      · rintro j σ H3 _ ⟨b3, g3, o1, o3, rfl⟩
        exact ⟨_, rfl, r, rfl, g3, fun H4 b4 g4 => ⟨_, rfl, iteF ⟨b3.trans b4, g4, _, _, rfl⟩⟩⟩
      · rintro σ H3 ⟨b3, _, o1, o3, rfl⟩
        refine ⟨fun b o hb => b3 b o (e1 b o hb) fun z => ?_, _, _, _, rfl⟩
        rw [← z, e1 b o hb] at hr2
        cases hr2
    · rintro σ H1 _
      exact h H1
end
end P

namespace P
open PySem L2 NS
theorem kit_self {K : PySem.W.Frag} {C : Addr} : PySem.W.kitOne K (.ref C) (.ref C) = some true := by
  unfold PySem.W.kitOne
  rw [if_pos (beq_self_eq_true _)]
theorem kit_cl {K : PySem.W.Frag} {C : Addr} {t : Value} {b : Bool} (hne : (t == Value.ref C) = false) (ic : PySem.W.isClsIn K C = true) (tc : PySem.W.typeIn K (.ref C) = some (.type "type")) (hs : PySem.W.subIn K t (.ref C) = some b) : PySem.W.kitOne K t (.ref C) = some b := by
  unfold PySem.W.kitOne
  rw [if_neg (by rw [hne]; exact Bool.false_ne_true)]
  have ic' : (PySem.W.clsIn K C).isSome = true := ic
  show (if ((PySem.W.clsIn K C).isSome && PySem.W.typeIn K (.ref C) == some (.type "type")) = true then _ else _) = _
  rw [if_pos (by rw [ic', tc]; exact beq_self_eq_true _)]
  exact hs
theorem kit_out {K : PySem.W.Frag} {C : Addr} {T : String} {b : Bool} (hm : PySem.W.kitMeta T = true) (hs : PySem.W.subIn K (.ref C) (.type T) = some b) : PySem.W.kitOne K (.ref C) (.type T) = some b := by
  unfold PySem.W.kitOne
  rw [if_neg (show ¬ ((Value.ref C == Value.type T) = true) from Bool.false_ne_true)]
  show (if PySem.W.kitMeta T = true then _ else _) = _
  rw [if_pos hm]
  exact hs
theorem exm_own {K : PySem.W.Frag} {S : Addr} (hb : PySem.W.subIn K (.ref S) (.type "BaseException") = some true) (ic : PySem.W.isClsIn K S = true) (tc : PySem.W.typeIn K (.ref S) = some (.type "type")) (hs : PySem.W.subIn K (.ref S) (.ref S) = some true) :
    PySem.W.exmOne K (.ref S) (.ref S) = some true := by
  have ic' : (PySem.W.clsIn K S).isSome = true := ic
  unfold PySem.W.exmOne
  rw [hb, if_pos (by rfl)]
  show (if ((PySem.W.clsIn K S).isSome && PySem.W.typeIn K (.ref S) == some (.type "type")) = true then _ else _) = _
  rw [if_pos (by rw [ic', tc]; exact beq_self_eq_true _)]
  exact hs
/-! ### the end -/
theorem mk_all {P : Program} {w : World} {K : PySem.W.Frag} {h : Heap} {mg : Str → Option Value} {fa : Addr} (X : K.In h) (G : h.Ns mainGlobals mg) (hfa : mg "law" = some (.ref fa))
    {A_is_integer : Addr}
    {od_is_integer an_is_integer : Option Addr} {sl_is_integer : Array (Option Value)} {oc_is_integer kV_is_integer dc_is_integer pm_is_integer cd_is_integer ct_is_integer : Value}
    {A_is_number : Addr}
    {od_is_number an_is_number : Option Addr} {sl_is_number : Array (Option Value)} {oc_is_number kV_is_number dc_is_number pm_is_number cd_is_number ct_is_number : Value}
    {A_want_number : Addr}
    {od_want_number an_want_number : Option Addr} {sl_want_number : Array (Option Value)} {oc_want_number kV_want_number dc_want_number pm_want_number cd_want_number ct_want_number : Value}
    {A_as_ratio : Addr}
    {od_as_ratio an_as_ratio : Option Addr} {sl_as_ratio : Array (Option Value)} {oc_as_ratio kV_as_ratio dc_as_ratio pm_as_ratio cd_as_ratio ct_as_ratio : Value}
    {A_common_divisor : Addr}
    {od_common_divisor an_common_divisor : Option Addr} {sl_common_divisor : Array (Option Value)} {oc_common_divisor kV_common_divisor dc_common_divisor pm_common_divisor cd_common_divisor ct_common_divisor : Value}
    {A_law_rng : Addr}
    {od_law_rng an_law_rng : Option Addr} {sl_law_rng : Array (Option Value)} {oc_law_rng kV_law_rng dc_law_rng pm_law_rng cd_law_rng ct_law_rng : Value}
    {A_law_draw : Addr}
    {od_law_draw an_law_draw : Option Addr} {sl_law_draw : Array (Option Value)} {oc_law_draw kV_law_draw dc_law_draw pm_law_draw cd_law_draw ct_law_draw : Value}
    {A_law_choice : Addr}
    {od_law_choice an_law_choice : Option Addr} {sl_law_choice : Array (Option Value)} {oc_law_choice kV_law_choice dc_law_choice pm_law_choice cd_law_choice ct_law_choice : Value}
    {A_law_common : Addr}
    {od_law_common an_law_common : Option Addr} {sl_law_common : Array (Option Value)} {oc_law_common kV_law_common dc_law_common pm_law_common cd_law_common ct_law_common : Value}
    {A_law_pair : Addr}
    {od_law_pair an_law_pair : Option Addr} {sl_law_pair : Array (Option Value)} {oc_law_pair kV_law_pair dc_law_pair pm_law_pair cd_law_pair ct_law_pair : Value}
    {A_law_lowest : Addr}
    {od_law_lowest an_law_lowest : Option Addr} {sl_law_lowest : Array (Option Value)} {oc_law_lowest kV_law_lowest dc_law_lowest pm_law_lowest cd_law_lowest ct_law_lowest : Value}
    {A_law_sign : Addr}
    {od_law_sign an_law_sign : Option Addr} {sl_law_sign : Array (Option Value)} {oc_law_sign kV_law_sign dc_law_sign pm_law_sign cd_law_sign ct_law_sign : Value}
    {A_law_is : Addr}
    {od_law_is an_law_is : Option Addr} {sl_law_is : Array (Option Value)} {oc_law_is kV_law_is dc_law_is pm_law_is cd_law_is ct_law_is : Value}
    {A_law_is_divided_right : Addr}
    {od_law_is_divided_right an_law_is_divided_right : Option Addr} {sl_law_is_divided_right : Array (Option Value)} {oc_law_is_divided_right kV_law_is_divided_right dc_law_is_divided_right pm_law_is_divided_right cd_law_is_divided_right ct_law_is_divided_right : Value}
    {A_law_two_right : Addr}
    {od_law_two_right an_law_two_right : Option Addr} {sl_law_two_right : Array (Option Value)} {oc_law_two_right kV_law_two_right dc_law_two_right pm_law_two_right cd_law_two_right ct_law_two_right : Value}
    {A_law_right : Addr}
    {od_law_right an_law_right : Option Addr} {sl_law_right : Array (Option Value)} {oc_law_right kV_law_right dc_law_right pm_law_right cd_law_right ct_law_right : Value}
    {A_law : Addr}
    {od_law an_law : Option Addr} {sl_law : Array (Option Value)} {oc_law kV_law dc_law pm_law cd_law ct_law : Value}
    {A_Ratio : Addr}
    {A_Ratio_init : Addr}
    {T_Ratio_init : Addr}
    {tk0_Ratio_init : Tok}
    {od_Ratio_init an_Ratio_init : Option Addr} {sl_Ratio_init : Array (Option Value)} {oc_Ratio_init kV_Ratio_init dc_Ratio_init pm_Ratio_init cd_Ratio_init ct_Ratio_init : Value}
    {n_Ratio_init : Nat} {td_Ratio_init : Option Addr} {tl_Ratio_init : Array (Option Value)} {tt_Ratio_init : Value}
    {A_Ratio_total : Addr}
    {P_Ratio_total : Addr}
    {R_Ratio_total : List Value}
    {od_Ratio_total an_Ratio_total : Option Addr} {sl_Ratio_total : Array (Option Value)} {oc_Ratio_total kV_Ratio_total dc_Ratio_total pm_Ratio_total cd_Ratio_total ct_Ratio_total : Value}
    {A_Ratio_top : Addr}
    {P_Ratio_top : Addr}
    {R_Ratio_top : List Value}
    {od_Ratio_top an_Ratio_top : Option Addr} {sl_Ratio_top : Array (Option Value)} {oc_Ratio_top kV_Ratio_top dc_Ratio_top pm_Ratio_top cd_Ratio_top ct_Ratio_top : Value}
    {A_Ratio_bottom : Addr}
    {P_Ratio_bottom : Addr}
    {R_Ratio_bottom : List Value}
    {od_Ratio_bottom an_Ratio_bottom : Option Addr} {sl_Ratio_bottom : Array (Option Value)} {oc_Ratio_bottom kV_Ratio_bottom dc_Ratio_bottom pm_Ratio_bottom cd_Ratio_bottom ct_Ratio_bottom : Value}
    {A_Ratio_sign : Addr}
    {P_Ratio_sign : Addr}
    {R_Ratio_sign : List Value}
    {od_Ratio_sign an_Ratio_sign : Option Addr} {sl_Ratio_sign : Array (Option Value)} {oc_Ratio_sign kV_Ratio_sign dc_Ratio_sign pm_Ratio_sign cd_Ratio_sign ct_Ratio_sign : Value}
    {A_Ratio_over : Addr}
    {od_Ratio_over an_Ratio_over : Option Addr} {sl_Ratio_over : Array (Option Value)} {oc_Ratio_over kV_Ratio_over dc_Ratio_over pm_Ratio_over cd_Ratio_over ct_Ratio_over : Value}
    {A_Ratio_is_below : Addr}
    {od_Ratio_is_below an_Ratio_is_below : Option Addr} {sl_Ratio_is_below : Array (Option Value)} {oc_Ratio_is_below kV_Ratio_is_below dc_Ratio_is_below pm_Ratio_is_below cd_Ratio_is_below ct_Ratio_is_below : Value}
    {A_Ratio_add : Addr}
    {od_Ratio_add an_Ratio_add : Option Addr} {sl_Ratio_add : Array (Option Value)} {oc_Ratio_add kV_Ratio_add dc_Ratio_add pm_Ratio_add cd_Ratio_add ct_Ratio_add : Value}
    {A_Ratio_sub : Addr}
    {od_Ratio_sub an_Ratio_sub : Option Addr} {sl_Ratio_sub : Array (Option Value)} {oc_Ratio_sub kV_Ratio_sub dc_Ratio_sub pm_Ratio_sub cd_Ratio_sub ct_Ratio_sub : Value}
    {A_Ratio_mul : Addr}
    {od_Ratio_mul an_Ratio_mul : Option Addr} {sl_Ratio_mul : Array (Option Value)} {oc_Ratio_mul kV_Ratio_mul dc_Ratio_mul pm_Ratio_mul cd_Ratio_mul ct_Ratio_mul : Value}
    {A_Ratio_neg : Addr}
    {od_Ratio_neg an_Ratio_neg : Option Addr} {sl_Ratio_neg : Array (Option Value)} {oc_Ratio_neg kV_Ratio_neg dc_Ratio_neg pm_Ratio_neg cd_Ratio_neg ct_Ratio_neg : Value}
    {A_Ratio_eq : Addr}
    {od_Ratio_eq an_Ratio_eq : Option Addr} {sl_Ratio_eq : Array (Option Value)} {oc_Ratio_eq kV_Ratio_eq dc_Ratio_eq pm_Ratio_eq cd_Ratio_eq ct_Ratio_eq : Value}
    {A_Ratio_str : Addr}
    {od_Ratio_str an_Ratio_str : Option Addr} {sl_Ratio_str : Array (Option Value)} {oc_Ratio_str kV_Ratio_str dc_Ratio_str pm_Ratio_str cd_Ratio_str ct_Ratio_str : Value}
    {A_Ratio_repr : Addr}
    {od_Ratio_repr an_Ratio_repr : Option Addr} {sl_Ratio_repr : Array (Option Value)} {oc_Ratio_repr kV_Ratio_repr dc_Ratio_repr pm_Ratio_repr cd_Ratio_repr ct_Ratio_repr : Value}
    {fo_Ratio_add ro_Ratio_add : Option Value}
    {fo_Ratio_sub ro_Ratio_sub : Option Value}
    {fo_Ratio_mul ro_Ratio_mul : Option Value}
    {A_NotesumsError : Addr}
    {A_StateError : Addr}
    {A_DividedByZero : Addr}
    {nm q : Str} {Nn : Addr} {bs bm : List Value} {sn : List Str} {sub : List Value} {ab : Bool} {col : Option Bool} {dd : Option Addr} {m0 m1 m2 m3 m5 : Option Value}
    {A_DividedByZero_init : Addr}
    {od_DividedByZero_init an_DividedByZero_init : Option Addr} {sl_DividedByZero_init : Array (Option Value)} {oc_DividedByZero_init kV_DividedByZero_init dc_DividedByZero_init pm_DividedByZero_init cd_DividedByZero_init ct_DividedByZero_init : Value}
    (a_is_integer : PySem.W.nsIn K mainGlobals "is_integer" = some (some (.ref A_is_integer)))
    (l_is_integer : K.lookup A_is_integer = some ⟨oc_is_integer, od_is_integer, .func (PySem.W.fnOf "is_integer" "is_integer" (defArgs s_is_integer) (defBody s_is_integer) (defScope s_is_integer) .none kV_is_integer dc_is_integer pm_is_integer an_is_integer cd_is_integer ct_is_integer), sl_is_integer⟩)
    (c_is_integer : PySem.W.codeIn K cd_is_integer "is_integer" = true)
    (k_is_integer : PySem.W.keepIn K (.ref A_is_integer) = true)
    (a_is_number : PySem.W.nsIn K mainGlobals "is_number" = some (some (.ref A_is_number)))
    (l_is_number : K.lookup A_is_number = some ⟨oc_is_number, od_is_number, .func (PySem.W.fnOf "is_number" "is_number" (defArgs s_is_number) (defBody s_is_number) (defScope s_is_number) .none kV_is_number dc_is_number pm_is_number an_is_number cd_is_number ct_is_number), sl_is_number⟩)
    (c_is_number : PySem.W.codeIn K cd_is_number "is_number" = true)
    (k_is_number : PySem.W.keepIn K (.ref A_is_number) = true)
    (a_want_number : PySem.W.nsIn K mainGlobals "want_number" = some (some (.ref A_want_number)))
    (l_want_number : K.lookup A_want_number = some ⟨oc_want_number, od_want_number, .func (PySem.W.fnOf "want_number" "want_number" (defArgs s_want_number) (defBody s_want_number) (defScope s_want_number) .none kV_want_number dc_want_number pm_want_number an_want_number cd_want_number ct_want_number), sl_want_number⟩)
    (c_want_number : PySem.W.codeIn K cd_want_number "want_number" = true)
    (k_want_number : PySem.W.keepIn K (.ref A_want_number) = true)
    (a_as_ratio : PySem.W.nsIn K mainGlobals "as_ratio" = some (some (.ref A_as_ratio)))
    (l_as_ratio : K.lookup A_as_ratio = some ⟨oc_as_ratio, od_as_ratio, .func (PySem.W.fnOf "as_ratio" "as_ratio" (defArgs s_as_ratio) (defBody s_as_ratio) (defScope s_as_ratio) .none kV_as_ratio dc_as_ratio pm_as_ratio an_as_ratio cd_as_ratio ct_as_ratio), sl_as_ratio⟩)
    (c_as_ratio : PySem.W.codeIn K cd_as_ratio "as_ratio" = true)
    (k_as_ratio : PySem.W.keepIn K (.ref A_as_ratio) = true)
    (a_common_divisor : PySem.W.nsIn K mainGlobals "common_divisor" = some (some (.ref A_common_divisor)))
    (l_common_divisor : K.lookup A_common_divisor = some ⟨oc_common_divisor, od_common_divisor, .func (PySem.W.fnOf "common_divisor" "common_divisor" (defArgs s_common_divisor) (defBody s_common_divisor) (defScope s_common_divisor) .none kV_common_divisor dc_common_divisor pm_common_divisor an_common_divisor cd_common_divisor ct_common_divisor), sl_common_divisor⟩)
    (c_common_divisor : PySem.W.codeIn K cd_common_divisor "common_divisor" = true)
    (k_common_divisor : PySem.W.keepIn K (.ref A_common_divisor) = true)
    (a_law_rng : PySem.W.nsIn K mainGlobals "_law_rng" = some (some (.ref A_law_rng)))
    (l_law_rng : K.lookup A_law_rng = some ⟨oc_law_rng, od_law_rng, .func (PySem.W.fnOf "_law_rng" "_law_rng" (defArgs s_law_rng) (defBody s_law_rng) (defScope s_law_rng) .none kV_law_rng dc_law_rng pm_law_rng an_law_rng cd_law_rng ct_law_rng), sl_law_rng⟩)
    (c_law_rng : PySem.W.codeIn K cd_law_rng "_law_rng" = true)
    (k_law_rng : PySem.W.keepIn K (.ref A_law_rng) = true)
    (a_law_draw : PySem.W.nsIn K mainGlobals "_law_draw" = some (some (.ref A_law_draw)))
    (l_law_draw : K.lookup A_law_draw = some ⟨oc_law_draw, od_law_draw, .func (PySem.W.fnOf "_law_draw" "_law_draw" (defArgs s_law_draw) (defBody s_law_draw) (defScope s_law_draw) .none kV_law_draw dc_law_draw pm_law_draw an_law_draw cd_law_draw ct_law_draw), sl_law_draw⟩)
    (c_law_draw : PySem.W.codeIn K cd_law_draw "_law_draw" = true)
    (k_law_draw : PySem.W.keepIn K (.ref A_law_draw) = true)
    (a_law_choice : PySem.W.nsIn K mainGlobals "_law_choice" = some (some (.ref A_law_choice)))
    (l_law_choice : K.lookup A_law_choice = some ⟨oc_law_choice, od_law_choice, .func (PySem.W.fnOf "_law_choice" "_law_choice" (defArgs s_law_choice) (defBody s_law_choice) (defScope s_law_choice) .none kV_law_choice dc_law_choice pm_law_choice an_law_choice cd_law_choice ct_law_choice), sl_law_choice⟩)
    (c_law_choice : PySem.W.codeIn K cd_law_choice "_law_choice" = true)
    (k_law_choice : PySem.W.keepIn K (.ref A_law_choice) = true)
    (a_law_common : PySem.W.nsIn K mainGlobals "_law_common" = some (some (.ref A_law_common)))
    (l_law_common : K.lookup A_law_common = some ⟨oc_law_common, od_law_common, .func (PySem.W.fnOf "_law_common" "_law_common" (defArgs s_law_common) (defBody s_law_common) (defScope s_law_common) .none kV_law_common dc_law_common pm_law_common an_law_common cd_law_common ct_law_common), sl_law_common⟩)
    (c_law_common : PySem.W.codeIn K cd_law_common "_law_common" = true)
    (k_law_common : PySem.W.keepIn K (.ref A_law_common) = true)
    (a_law_pair : PySem.W.nsIn K mainGlobals "_law_pair" = some (some (.ref A_law_pair)))
    (l_law_pair : K.lookup A_law_pair = some ⟨oc_law_pair, od_law_pair, .func (PySem.W.fnOf "_law_pair" "_law_pair" (defArgs s_law_pair) (defBody s_law_pair) (defScope s_law_pair) .none kV_law_pair dc_law_pair pm_law_pair an_law_pair cd_law_pair ct_law_pair), sl_law_pair⟩)
    (c_law_pair : PySem.W.codeIn K cd_law_pair "_law_pair" = true)
    (k_law_pair : PySem.W.keepIn K (.ref A_law_pair) = true)
    (a_law_lowest : PySem.W.nsIn K mainGlobals "_law_lowest" = some (some (.ref A_law_lowest)))
    (l_law_lowest : K.lookup A_law_lowest = some ⟨oc_law_lowest, od_law_lowest, .func (PySem.W.fnOf "_law_lowest" "_law_lowest" (defArgs s_law_lowest) (defBody s_law_lowest) (defScope s_law_lowest) .none kV_law_lowest dc_law_lowest pm_law_lowest an_law_lowest cd_law_lowest ct_law_lowest), sl_law_lowest⟩)
    (c_law_lowest : PySem.W.codeIn K cd_law_lowest "_law_lowest" = true)
    (k_law_lowest : PySem.W.keepIn K (.ref A_law_lowest) = true)
    (a_law_sign : PySem.W.nsIn K mainGlobals "_law_sign" = some (some (.ref A_law_sign)))
    (l_law_sign : K.lookup A_law_sign = some ⟨oc_law_sign, od_law_sign, .func (PySem.W.fnOf "_law_sign" "_law_sign" (defArgs s_law_sign) (defBody s_law_sign) (defScope s_law_sign) .none kV_law_sign dc_law_sign pm_law_sign an_law_sign cd_law_sign ct_law_sign), sl_law_sign⟩)
    (c_law_sign : PySem.W.codeIn K cd_law_sign "_law_sign" = true)
    (k_law_sign : PySem.W.keepIn K (.ref A_law_sign) = true)
    (a_law_is : PySem.W.nsIn K mainGlobals "_law_is" = some (some (.ref A_law_is)))
    (l_law_is : K.lookup A_law_is = some ⟨oc_law_is, od_law_is, .func (PySem.W.fnOf "_law_is" "_law_is" (defArgs s_law_is) (defBody s_law_is) (defScope s_law_is) .none kV_law_is dc_law_is pm_law_is an_law_is cd_law_is ct_law_is), sl_law_is⟩)
    (c_law_is : PySem.W.codeIn K cd_law_is "_law_is" = true)
    (k_law_is : PySem.W.keepIn K (.ref A_law_is) = true)
    (a_law_is_divided_right : PySem.W.nsIn K mainGlobals "_law_is_divided_right" = some (some (.ref A_law_is_divided_right)))
    (l_law_is_divided_right : K.lookup A_law_is_divided_right = some ⟨oc_law_is_divided_right, od_law_is_divided_right, .func (PySem.W.fnOf "_law_is_divided_right" "_law_is_divided_right" (defArgs s_law_is_divided_right) (defBody s_law_is_divided_right) (defScope s_law_is_divided_right) .none kV_law_is_divided_right dc_law_is_divided_right pm_law_is_divided_right an_law_is_divided_right cd_law_is_divided_right ct_law_is_divided_right), sl_law_is_divided_right⟩)
    (c_law_is_divided_right : PySem.W.codeIn K cd_law_is_divided_right "_law_is_divided_right" = true)
    (k_law_is_divided_right : PySem.W.keepIn K (.ref A_law_is_divided_right) = true)
    (a_law_two_right : PySem.W.nsIn K mainGlobals "_law_two_right" = some (some (.ref A_law_two_right)))
    (l_law_two_right : K.lookup A_law_two_right = some ⟨oc_law_two_right, od_law_two_right, .func (PySem.W.fnOf "_law_two_right" "_law_two_right" (defArgs s_law_two_right) (defBody s_law_two_right) (defScope s_law_two_right) .none kV_law_two_right dc_law_two_right pm_law_two_right an_law_two_right cd_law_two_right ct_law_two_right), sl_law_two_right⟩)
    (c_law_two_right : PySem.W.codeIn K cd_law_two_right "_law_two_right" = true)
    (k_law_two_right : PySem.W.keepIn K (.ref A_law_two_right) = true)
    (a_law_right : PySem.W.nsIn K mainGlobals "_law_right" = some (some (.ref A_law_right)))
    (l_law_right : K.lookup A_law_right = some ⟨oc_law_right, od_law_right, .func (PySem.W.fnOf "_law_right" "_law_right" (defArgs s_law_right) (defBody s_law_right) (defScope s_law_right) .none kV_law_right dc_law_right pm_law_right an_law_right cd_law_right ct_law_right), sl_law_right⟩)
    (c_law_right : PySem.W.codeIn K cd_law_right "_law_right" = true)
    (k_law_right : PySem.W.keepIn K (.ref A_law_right) = true)
    (a_law : PySem.W.nsIn K mainGlobals "law" = some (some (.ref A_law)))
    (l_law : K.lookup A_law = some ⟨oc_law, od_law, .func (PySem.W.fnOf "law" "law" (defArgs s_law) (defBody s_law) (defScope s_law) .none kV_law dc_law pm_law an_law cd_law ct_law), sl_law⟩)
    (c_law : PySem.W.codeIn K cd_law "law" = true)
    (k_law : PySem.W.keepIn K (.ref A_law) = true)
    (a_Ratio : PySem.W.nsIn K mainGlobals "Ratio" = some (some (.ref A_Ratio)))
    (pg_Ratio : PySem.W.plainGet K A_Ratio Str.empty = true)
    (hd_Ratio : PySem.W.hasDictIn K A_Ratio = true)
    (po_Ratio : PySem.W.plainOver K A_Ratio = true)
    (sa_Ratio : PySem.W.findIn K (.ref A_Ratio) "__setattr__" = some (some (.builtin "object.__setattr__")))
    (kp_Ratio : PySem.W.keepIn K (.ref A_Ratio) = true)
    (mks_Ratio : PySem.W.makesIn K A_Ratio = true)
    (ca_Ratio : PySem.W.findIn K (.ref A_Ratio) "__class__" = some (some (.builtin "object.__class__")))
    (ob_Ratio : PySem.W.mroIn K A_Ratio (.type "object") = some true)
    (ic_Ratio : PySem.W.isClsIn K A_Ratio = true)
    (tc_Ratio : PySem.W.typeIn K (.ref A_Ratio) = some (.type "type"))
    (si_Ratio : PySem.W.subIn K (.type "int") (.ref A_Ratio) = some false)
    (ss_Ratio : PySem.W.subIn K (.type "str") (.ref A_Ratio) = some false)
    (st_Ratio : PySem.W.subIn K (.type "tuple") (.ref A_Ratio) = some false)
    (sl_Ratio : PySem.W.subIn K (.type "list") (.ref A_Ratio) = some false)
    (sd_Ratio : PySem.W.subIn K (.type "dict") (.ref A_Ratio) = some false)
    (oi_Ratio : PySem.W.subIn K (.ref A_Ratio) (.type "int") = some false)
    (oB_Ratio : PySem.W.subIn K (.ref A_Ratio) (.type "bool") = some false)
    (sf_Ratio : PySem.W.selfFirst K A_Ratio = true)
    (cg_Ratio : PySem.W.specialIn K (.builtin "object.__class__") "__get__" = some (some (.builtin "getset_descriptor.__get__")))
    (ct_Ratio : PySem.W.takesIn K (.builtin "object.__class__") = some true)
    (n_Ratio_own_top : PySem.W.findIn K (.ref A_Ratio) "own_top" = some none)
    (n_Ratio_own_bottom : PySem.W.findIn K (.ref A_Ratio) "own_bottom" = some none)
    (f_Ratio_init : PySem.W.findIn K (.ref A_Ratio) "__init__" = some (some (.ref A_Ratio_init)))
    (i_Ratio_init : PySem.W.isFn K (.ref A_Ratio_init) = true)
    (l_Ratio_init : K.lookup A_Ratio_init = some ⟨oc_Ratio_init, od_Ratio_init, .func (PySem.W.fnOf "__init__" "Ratio.__init__" (defArgs s_Ratio_init) (defBody s_Ratio_init) (defScope s_Ratio_init) (.ref T_Ratio_init) kV_Ratio_init dc_Ratio_init pm_Ratio_init an_Ratio_init cd_Ratio_init ct_Ratio_init), sl_Ratio_init⟩)
    (c_Ratio_init : PySem.W.codeIn K cd_Ratio_init "Ratio.__init__" = true)
    (k_Ratio_init : PySem.W.keepIn K (.ref A_Ratio_init) = true)
    (d_Ratio_init : K.lookup T_Ratio_init = some ⟨tt_Ratio_init, td_Ratio_init, .seq #[.int 1 tk0_Ratio_init] n_Ratio_init, tl_Ratio_init⟩)
    (f_Ratio_total : PySem.W.findCls K (.ref A_Ratio) (.type "type") "total" = some (.get (.builtin "classmethod.__get__") (.ref P_Ratio_total) .none (.ref A_Ratio)))
    (r_Ratio_total : PySem.W.recIn K P_Ratio_total "classmethod" = some (.ref A_Ratio_total :: R_Ratio_total))
    (fi_Ratio_total : PySem.W.fnIn K A_Ratio_total = true)
    (rd_Ratio_total : PySem.W.readsIn K A_Ratio (.type "type") = true)
    (ga_Ratio_total : PySem.W.specialIn K (.ref A_Ratio) "__getattribute__" = some (some (.builtin "type.__getattribute__")))
    (l_Ratio_total : K.lookup A_Ratio_total = some ⟨oc_Ratio_total, od_Ratio_total, .func (PySem.W.fnOf "total" "Ratio.total" (defArgs s_Ratio_total) (defBody s_Ratio_total) (defScope s_Ratio_total) .none kV_Ratio_total dc_Ratio_total pm_Ratio_total an_Ratio_total cd_Ratio_total ct_Ratio_total), sl_Ratio_total⟩)
    (c_Ratio_total : PySem.W.codeIn K cd_Ratio_total "Ratio.total" = true)
    (k_Ratio_total : PySem.W.keepIn K (.ref A_Ratio_total) = true)
    (f_Ratio_top : PySem.W.findIn K (.ref A_Ratio) "top" = some (some (.ref P_Ratio_top)))
    (g_Ratio_top : PySem.W.specialIn K (.ref P_Ratio_top) "__get__" = some (some (.builtin "property.__get__")))
    (t_Ratio_top : PySem.W.takesIn K (.ref P_Ratio_top) = some true)
    (r_Ratio_top : PySem.W.recIn K P_Ratio_top "property" = some (.ref A_Ratio_top :: R_Ratio_top))
    (l_Ratio_top : K.lookup A_Ratio_top = some ⟨oc_Ratio_top, od_Ratio_top, .func (PySem.W.fnOf "top" "Ratio.top" (defArgs s_Ratio_top) (defBody s_Ratio_top) (defScope s_Ratio_top) .none kV_Ratio_top dc_Ratio_top pm_Ratio_top an_Ratio_top cd_Ratio_top ct_Ratio_top), sl_Ratio_top⟩)
    (c_Ratio_top : PySem.W.codeIn K cd_Ratio_top "Ratio.top" = true)
    (k_Ratio_top : PySem.W.keepIn K (.ref A_Ratio_top) = true)
    (f_Ratio_bottom : PySem.W.findIn K (.ref A_Ratio) "bottom" = some (some (.ref P_Ratio_bottom)))
    (g_Ratio_bottom : PySem.W.specialIn K (.ref P_Ratio_bottom) "__get__" = some (some (.builtin "property.__get__")))
    (t_Ratio_bottom : PySem.W.takesIn K (.ref P_Ratio_bottom) = some true)
    (r_Ratio_bottom : PySem.W.recIn K P_Ratio_bottom "property" = some (.ref A_Ratio_bottom :: R_Ratio_bottom))
    (l_Ratio_bottom : K.lookup A_Ratio_bottom = some ⟨oc_Ratio_bottom, od_Ratio_bottom, .func (PySem.W.fnOf "bottom" "Ratio.bottom" (defArgs s_Ratio_bottom) (defBody s_Ratio_bottom) (defScope s_Ratio_bottom) .none kV_Ratio_bottom dc_Ratio_bottom pm_Ratio_bottom an_Ratio_bottom cd_Ratio_bottom ct_Ratio_bottom), sl_Ratio_bottom⟩)
    (c_Ratio_bottom : PySem.W.codeIn K cd_Ratio_bottom "Ratio.bottom" = true)
    (k_Ratio_bottom : PySem.W.keepIn K (.ref A_Ratio_bottom) = true)
    (f_Ratio_sign : PySem.W.findIn K (.ref A_Ratio) "sign" = some (some (.ref P_Ratio_sign)))
    (g_Ratio_sign : PySem.W.specialIn K (.ref P_Ratio_sign) "__get__" = some (some (.builtin "property.__get__")))
    (t_Ratio_sign : PySem.W.takesIn K (.ref P_Ratio_sign) = some true)
    (r_Ratio_sign : PySem.W.recIn K P_Ratio_sign "property" = some (.ref A_Ratio_sign :: R_Ratio_sign))
    (l_Ratio_sign : K.lookup A_Ratio_sign = some ⟨oc_Ratio_sign, od_Ratio_sign, .func (PySem.W.fnOf "sign" "Ratio.sign" (defArgs s_Ratio_sign) (defBody s_Ratio_sign) (defScope s_Ratio_sign) .none kV_Ratio_sign dc_Ratio_sign pm_Ratio_sign an_Ratio_sign cd_Ratio_sign ct_Ratio_sign), sl_Ratio_sign⟩)
    (c_Ratio_sign : PySem.W.codeIn K cd_Ratio_sign "Ratio.sign" = true)
    (k_Ratio_sign : PySem.W.keepIn K (.ref A_Ratio_sign) = true)
    (f_Ratio_over : PySem.W.findIn K (.ref A_Ratio) "over" = some (some (.ref A_Ratio_over)))
    (i_Ratio_over : PySem.W.isFn K (.ref A_Ratio_over) = true)
    (l_Ratio_over : K.lookup A_Ratio_over = some ⟨oc_Ratio_over, od_Ratio_over, .func (PySem.W.fnOf "over" "Ratio.over" (defArgs s_Ratio_over) (defBody s_Ratio_over) (defScope s_Ratio_over) .none kV_Ratio_over dc_Ratio_over pm_Ratio_over an_Ratio_over cd_Ratio_over ct_Ratio_over), sl_Ratio_over⟩)
    (c_Ratio_over : PySem.W.codeIn K cd_Ratio_over "Ratio.over" = true)
    (k_Ratio_over : PySem.W.keepIn K (.ref A_Ratio_over) = true)
    (f_Ratio_is_below : PySem.W.findIn K (.ref A_Ratio) "is_below" = some (some (.ref A_Ratio_is_below)))
    (i_Ratio_is_below : PySem.W.isFn K (.ref A_Ratio_is_below) = true)
    (l_Ratio_is_below : K.lookup A_Ratio_is_below = some ⟨oc_Ratio_is_below, od_Ratio_is_below, .func (PySem.W.fnOf "is_below" "Ratio.is_below" (defArgs s_Ratio_is_below) (defBody s_Ratio_is_below) (defScope s_Ratio_is_below) .none kV_Ratio_is_below dc_Ratio_is_below pm_Ratio_is_below an_Ratio_is_below cd_Ratio_is_below ct_Ratio_is_below), sl_Ratio_is_below⟩)
    (c_Ratio_is_below : PySem.W.codeIn K cd_Ratio_is_below "Ratio.is_below" = true)
    (k_Ratio_is_below : PySem.W.keepIn K (.ref A_Ratio_is_below) = true)
    (f_Ratio_add : PySem.W.findIn K (.ref A_Ratio) "__add__" = some (some (.ref A_Ratio_add)))
    (i_Ratio_add : PySem.W.isFn K (.ref A_Ratio_add) = true)
    (l_Ratio_add : K.lookup A_Ratio_add = some ⟨oc_Ratio_add, od_Ratio_add, .func (PySem.W.fnOf "__add__" "Ratio.__add__" (defArgs s_Ratio_add) (defBody s_Ratio_add) (defScope s_Ratio_add) .none kV_Ratio_add dc_Ratio_add pm_Ratio_add an_Ratio_add cd_Ratio_add ct_Ratio_add), sl_Ratio_add⟩)
    (c_Ratio_add : PySem.W.codeIn K cd_Ratio_add "Ratio.__add__" = true)
    (k_Ratio_add : PySem.W.keepIn K (.ref A_Ratio_add) = true)
    (f_Ratio_sub : PySem.W.findIn K (.ref A_Ratio) "__sub__" = some (some (.ref A_Ratio_sub)))
    (i_Ratio_sub : PySem.W.isFn K (.ref A_Ratio_sub) = true)
    (l_Ratio_sub : K.lookup A_Ratio_sub = some ⟨oc_Ratio_sub, od_Ratio_sub, .func (PySem.W.fnOf "__sub__" "Ratio.__sub__" (defArgs s_Ratio_sub) (defBody s_Ratio_sub) (defScope s_Ratio_sub) .none kV_Ratio_sub dc_Ratio_sub pm_Ratio_sub an_Ratio_sub cd_Ratio_sub ct_Ratio_sub), sl_Ratio_sub⟩)
    (c_Ratio_sub : PySem.W.codeIn K cd_Ratio_sub "Ratio.__sub__" = true)
    (k_Ratio_sub : PySem.W.keepIn K (.ref A_Ratio_sub) = true)
    (f_Ratio_mul : PySem.W.findIn K (.ref A_Ratio) "__mul__" = some (some (.ref A_Ratio_mul)))
    (i_Ratio_mul : PySem.W.isFn K (.ref A_Ratio_mul) = true)
    (l_Ratio_mul : K.lookup A_Ratio_mul = some ⟨oc_Ratio_mul, od_Ratio_mul, .func (PySem.W.fnOf "__mul__" "Ratio.__mul__" (defArgs s_Ratio_mul) (defBody s_Ratio_mul) (defScope s_Ratio_mul) .none kV_Ratio_mul dc_Ratio_mul pm_Ratio_mul an_Ratio_mul cd_Ratio_mul ct_Ratio_mul), sl_Ratio_mul⟩)
    (c_Ratio_mul : PySem.W.codeIn K cd_Ratio_mul "Ratio.__mul__" = true)
    (k_Ratio_mul : PySem.W.keepIn K (.ref A_Ratio_mul) = true)
    (f_Ratio_neg : PySem.W.findIn K (.ref A_Ratio) "__neg__" = some (some (.ref A_Ratio_neg)))
    (i_Ratio_neg : PySem.W.isFn K (.ref A_Ratio_neg) = true)
    (l_Ratio_neg : K.lookup A_Ratio_neg = some ⟨oc_Ratio_neg, od_Ratio_neg, .func (PySem.W.fnOf "__neg__" "Ratio.__neg__" (defArgs s_Ratio_neg) (defBody s_Ratio_neg) (defScope s_Ratio_neg) .none kV_Ratio_neg dc_Ratio_neg pm_Ratio_neg an_Ratio_neg cd_Ratio_neg ct_Ratio_neg), sl_Ratio_neg⟩)
    (c_Ratio_neg : PySem.W.codeIn K cd_Ratio_neg "Ratio.__neg__" = true)
    (k_Ratio_neg : PySem.W.keepIn K (.ref A_Ratio_neg) = true)
    (f_Ratio_eq : PySem.W.findIn K (.ref A_Ratio) "__eq__" = some (some (.ref A_Ratio_eq)))
    (i_Ratio_eq : PySem.W.isFn K (.ref A_Ratio_eq) = true)
    (l_Ratio_eq : K.lookup A_Ratio_eq = some ⟨oc_Ratio_eq, od_Ratio_eq, .func (PySem.W.fnOf "__eq__" "Ratio.__eq__" (defArgs s_Ratio_eq) (defBody s_Ratio_eq) (defScope s_Ratio_eq) .none kV_Ratio_eq dc_Ratio_eq pm_Ratio_eq an_Ratio_eq cd_Ratio_eq ct_Ratio_eq), sl_Ratio_eq⟩)
    (c_Ratio_eq : PySem.W.codeIn K cd_Ratio_eq "Ratio.__eq__" = true)
    (k_Ratio_eq : PySem.W.keepIn K (.ref A_Ratio_eq) = true)
    (f_Ratio_str : PySem.W.findIn K (.ref A_Ratio) "__str__" = some (some (.ref A_Ratio_str)))
    (i_Ratio_str : PySem.W.isFn K (.ref A_Ratio_str) = true)
    (l_Ratio_str : K.lookup A_Ratio_str = some ⟨oc_Ratio_str, od_Ratio_str, .func (PySem.W.fnOf "__str__" "Ratio.__str__" (defArgs s_Ratio_str) (defBody s_Ratio_str) (defScope s_Ratio_str) .none kV_Ratio_str dc_Ratio_str pm_Ratio_str an_Ratio_str cd_Ratio_str ct_Ratio_str), sl_Ratio_str⟩)
    (c_Ratio_str : PySem.W.codeIn K cd_Ratio_str "Ratio.__str__" = true)
    (k_Ratio_str : PySem.W.keepIn K (.ref A_Ratio_str) = true)
    (f_Ratio_repr : PySem.W.findIn K (.ref A_Ratio) "__repr__" = some (some (.ref A_Ratio_repr)))
    (i_Ratio_repr : PySem.W.isFn K (.ref A_Ratio_repr) = true)
    (l_Ratio_repr : K.lookup A_Ratio_repr = some ⟨oc_Ratio_repr, od_Ratio_repr, .func (PySem.W.fnOf "__repr__" "Ratio.__repr__" (defArgs s_Ratio_repr) (defBody s_Ratio_repr) (defScope s_Ratio_repr) .none kV_Ratio_repr dc_Ratio_repr pm_Ratio_repr an_Ratio_repr cd_Ratio_repr ct_Ratio_repr), sl_Ratio_repr⟩)
    (c_Ratio_repr : PySem.W.codeIn K cd_Ratio_repr "Ratio.__repr__" = true)
    (k_Ratio_repr : PySem.W.keepIn K (.ref A_Ratio_repr) = true)
    (nr_Ratio_add : PySem.W.findIn K (.ref A_Ratio) "__radd__" = some none)
    (n1_Ratio_add : PySem.W.findIn K (.type "int") "__add__" = some fo_Ratio_add)
    (n2_Ratio_add : PySem.W.findIn K (.type "int") "__radd__" = some ro_Ratio_add)
    (nr_Ratio_sub : PySem.W.findIn K (.ref A_Ratio) "__rsub__" = some none)
    (n1_Ratio_sub : PySem.W.findIn K (.type "int") "__sub__" = some fo_Ratio_sub)
    (n2_Ratio_sub : PySem.W.findIn K (.type "int") "__rsub__" = some ro_Ratio_sub)
    (nr_Ratio_mul : PySem.W.findIn K (.ref A_Ratio) "__rmul__" = some none)
    (n1_Ratio_mul : PySem.W.findIn K (.type "int") "__mul__" = some fo_Ratio_mul)
    (n2_Ratio_mul : PySem.W.findIn K (.type "int") "__rmul__" = some ro_Ratio_mul)
    (ne_Ratio_eq : PySem.W.findIn K (.ref A_Ratio) "__ne__" = some (some (.builtin "object.__ne__")))
    (z_abs : PySem.W.nsIn K mainGlobals "abs" = some none)
    (z_all : PySem.W.nsIn K mainGlobals "all" = some none)
    (z_bool : PySem.W.nsIn K mainGlobals "bool" = some none)
    (z_divmod : PySem.W.nsIn K mainGlobals "divmod" = some none)
    (z_int : PySem.W.nsIn K mainGlobals "int" = some none)
    (z_isinstance : PySem.W.nsIn K mainGlobals "isinstance" = some none)
    (z_len : PySem.W.nsIn K mainGlobals "len" = some none)
    (z_max : PySem.W.nsIn K mainGlobals "max" = some none)
    (z_min : PySem.W.nsIn K mainGlobals "min" = some none)
    (z_range : PySem.W.nsIn K mainGlobals "range" = some none)
    (z_repr : PySem.W.nsIn K mainGlobals "repr" = some none)
    (z_str : PySem.W.nsIn K mainGlobals "str" = some none)
    (z_zip : PySem.W.nsIn K mainGlobals "zip" = some none)
    (a_NotesumsError : PySem.W.nsIn K mainGlobals "NotesumsError" = some (some (.ref A_NotesumsError)))
    (a_StateError : PySem.W.nsIn K mainGlobals "StateError" = some (some (.ref A_StateError)))
    (a_DividedByZero : PySem.W.nsIn K mainGlobals "DividedByZero" = some (some (.ref A_DividedByZero)))
    (z_RuntimeError : PySem.W.nsIn K mainGlobals "RuntimeError" = some none)
    (x_D : K.lookup A_DividedByZero = some (excClassObj nm q A_DividedByZero Nn bs bm true sn sub ab col dd m0 m1 m2 m3 m5 "RuntimeError.__new__"))
    (bm_D : refsTo [.type "RuntimeError", .type "Exception", .type "BaseException", .type "object"] bm = true)
    (e_D : PySem.W.subIn K (.ref A_DividedByZero) (.type "BaseException") = some true)
    (t_D : PySem.W.typeIn K (.ref A_DividedByZero) = some (.type "type"))
    (k_D : PySem.W.keepIn K (.ref A_DividedByZero) = true)
    (rd_S : PySem.W.readsIn K A_StateError (.type "type") = true)
    (ga_S : PySem.W.specialIn K (.ref A_StateError) "__getattribute__" = some (some (.builtin "type.__getattribute__")))
    (at_S : PySem.W.findCls K (.ref A_StateError) (.type "type") "__init__" = some (.val (.builtin "RuntimeError.__init__")))
    (f_DividedByZero_init : PySem.W.findIn K (.ref A_DividedByZero) "__init__" = some (some (.ref A_DividedByZero_init)))
    (i_DividedByZero_init : PySem.W.isFn K (.ref A_DividedByZero_init) = true)
    (l_DividedByZero_init : K.lookup A_DividedByZero_init = some ⟨oc_DividedByZero_init, od_DividedByZero_init, .func (PySem.W.fnOf "__init__" "DividedByZero.__init__" (defArgs s_DividedByZero_init) (defBody s_DividedByZero_init) (defScope s_DividedByZero_init) .none kV_DividedByZero_init dc_DividedByZero_init pm_DividedByZero_init an_DividedByZero_init cd_DividedByZero_init ct_DividedByZero_init), sl_DividedByZero_init⟩)
    (c_DividedByZero_init : PySem.W.codeIn K cd_DividedByZero_init "DividedByZero.__init__" = true)
    (k_DividedByZero_init : PySem.W.keepIn K (.ref A_DividedByZero_init) = true)
    (ty_DividedByZero_init : PySem.W.typeIn K (.ref A_DividedByZero_init) = some (.type "function"))
    (hg_D : PySem.W.findIn K (.ref A_DividedByZero) "__getattribute__" = some (some (.builtin "BaseException.__getattribute__")))
    (hk_D : PySem.W.findIn K (.ref A_DividedByZero) "__getattr__" = some none)
    (hd_D : PySem.W.hasDictIn K A_DividedByZero = true)
    (ha_D : PySem.W.findIn K (.ref A_DividedByZero) "__class__" = some (some (.builtin "object.__class__")))
    (hm_D : PySem.W.mroIn K A_DividedByZero (.type "object") = some true)
    (ic_D : PySem.W.isClsIn K A_DividedByZero = true)
    (sD : PySem.W.subIn K (.ref A_DividedByZero) (.ref A_DividedByZero) = some true)
    (sR : PySem.W.subIn K (.ref A_DividedByZero) (.type "RuntimeError") = some true)
    (ic_N : PySem.W.isClsIn K A_NotesumsError = true)
    (t_N : PySem.W.typeIn K (.ref A_NotesumsError) = some (.type "type"))
    (sN : PySem.W.subIn K (.ref A_DividedByZero) (.ref A_NotesumsError) = some false)
    (neN : (Value.ref A_DividedByZero == Value.ref A_NotesumsError) = false)
    : ∃ fd : FuncData, (∀ (s : Shared) (u : Value), BindsTo s fd ⟨[u], []⟩ [("_law_script", u)]) ∧ ∀ base : Heap, K.In base → base.Ns mainGlobals mg → FnG P w K mg base 18 fa fd ["_law_script"] (spLaw K) := by
  obtain rfl : fa = A_law := by
    have e := hfa.symm.trans (PySem.W.mg_of X G a_law)
    cases e
    rfl
  have T : Txt K mg {
      is_integer := A_is_integer,
      d_is_integer := PySem.W.fnOf "is_integer" "is_integer" (defArgs s_is_integer) (defBody s_is_integer) (defScope s_is_integer) .none kV_is_integer dc_is_integer pm_is_integer an_is_integer cd_is_integer ct_is_integer,
      is_number := A_is_number,
      d_is_number := PySem.W.fnOf "is_number" "is_number" (defArgs s_is_number) (defBody s_is_number) (defScope s_is_number) .none kV_is_number dc_is_number pm_is_number an_is_number cd_is_number ct_is_number,
      want_number := A_want_number,
      d_want_number := PySem.W.fnOf "want_number" "want_number" (defArgs s_want_number) (defBody s_want_number) (defScope s_want_number) .none kV_want_number dc_want_number pm_want_number an_want_number cd_want_number ct_want_number,
      as_ratio := A_as_ratio,
      d_as_ratio := PySem.W.fnOf "as_ratio" "as_ratio" (defArgs s_as_ratio) (defBody s_as_ratio) (defScope s_as_ratio) .none kV_as_ratio dc_as_ratio pm_as_ratio an_as_ratio cd_as_ratio ct_as_ratio,
      common_divisor := A_common_divisor,
      d_common_divisor := PySem.W.fnOf "common_divisor" "common_divisor" (defArgs s_common_divisor) (defBody s_common_divisor) (defScope s_common_divisor) .none kV_common_divisor dc_common_divisor pm_common_divisor an_common_divisor cd_common_divisor ct_common_divisor,
      law_rng := A_law_rng,
      d_law_rng := PySem.W.fnOf "_law_rng" "_law_rng" (defArgs s_law_rng) (defBody s_law_rng) (defScope s_law_rng) .none kV_law_rng dc_law_rng pm_law_rng an_law_rng cd_law_rng ct_law_rng,
      law_draw := A_law_draw,
      d_law_draw := PySem.W.fnOf "_law_draw" "_law_draw" (defArgs s_law_draw) (defBody s_law_draw) (defScope s_law_draw) .none kV_law_draw dc_law_draw pm_law_draw an_law_draw cd_law_draw ct_law_draw,
      law_choice := A_law_choice,
      d_law_choice := PySem.W.fnOf "_law_choice" "_law_choice" (defArgs s_law_choice) (defBody s_law_choice) (defScope s_law_choice) .none kV_law_choice dc_law_choice pm_law_choice an_law_choice cd_law_choice ct_law_choice,
      law_common := A_law_common,
      d_law_common := PySem.W.fnOf "_law_common" "_law_common" (defArgs s_law_common) (defBody s_law_common) (defScope s_law_common) .none kV_law_common dc_law_common pm_law_common an_law_common cd_law_common ct_law_common,
      law_pair := A_law_pair,
      d_law_pair := PySem.W.fnOf "_law_pair" "_law_pair" (defArgs s_law_pair) (defBody s_law_pair) (defScope s_law_pair) .none kV_law_pair dc_law_pair pm_law_pair an_law_pair cd_law_pair ct_law_pair,
      law_lowest := A_law_lowest,
      d_law_lowest := PySem.W.fnOf "_law_lowest" "_law_lowest" (defArgs s_law_lowest) (defBody s_law_lowest) (defScope s_law_lowest) .none kV_law_lowest dc_law_lowest pm_law_lowest an_law_lowest cd_law_lowest ct_law_lowest,
      law_sign := A_law_sign,
      d_law_sign := PySem.W.fnOf "_law_sign" "_law_sign" (defArgs s_law_sign) (defBody s_law_sign) (defScope s_law_sign) .none kV_law_sign dc_law_sign pm_law_sign an_law_sign cd_law_sign ct_law_sign,
      law_is := A_law_is,
      d_law_is := PySem.W.fnOf "_law_is" "_law_is" (defArgs s_law_is) (defBody s_law_is) (defScope s_law_is) .none kV_law_is dc_law_is pm_law_is an_law_is cd_law_is ct_law_is,
      law_is_divided_right := A_law_is_divided_right,
      d_law_is_divided_right := PySem.W.fnOf "_law_is_divided_right" "_law_is_divided_right" (defArgs s_law_is_divided_right) (defBody s_law_is_divided_right) (defScope s_law_is_divided_right) .none kV_law_is_divided_right dc_law_is_divided_right pm_law_is_divided_right an_law_is_divided_right cd_law_is_divided_right ct_law_is_divided_right,
      law_two_right := A_law_two_right,
      d_law_two_right := PySem.W.fnOf "_law_two_right" "_law_two_right" (defArgs s_law_two_right) (defBody s_law_two_right) (defScope s_law_two_right) .none kV_law_two_right dc_law_two_right pm_law_two_right an_law_two_right cd_law_two_right ct_law_two_right,
      law_right := A_law_right,
      d_law_right := PySem.W.fnOf "_law_right" "_law_right" (defArgs s_law_right) (defBody s_law_right) (defScope s_law_right) .none kV_law_right dc_law_right pm_law_right an_law_right cd_law_right ct_law_right,
      law := fa,
      d_law := PySem.W.fnOf "law" "law" (defArgs s_law) (defBody s_law) (defScope s_law) .none kV_law dc_law pm_law an_law cd_law ct_law,
      Ratio := A_Ratio,
      Ratio_init := A_Ratio_init,
      d_Ratio_init := PySem.W.fnOf "__init__" "Ratio.__init__" (defArgs s_Ratio_init) (defBody s_Ratio_init) (defScope s_Ratio_init) (.ref T_Ratio_init) kV_Ratio_init dc_Ratio_init pm_Ratio_init an_Ratio_init cd_Ratio_init ct_Ratio_init,
      Ratio_total := A_Ratio_total,
      p_Ratio_total := P_Ratio_total,
      d_Ratio_total := PySem.W.fnOf "total" "Ratio.total" (defArgs s_Ratio_total) (defBody s_Ratio_total) (defScope s_Ratio_total) .none kV_Ratio_total dc_Ratio_total pm_Ratio_total an_Ratio_total cd_Ratio_total ct_Ratio_total,
      p_Ratio_top := P_Ratio_top,
      Ratio_top := A_Ratio_top,
      d_Ratio_top := PySem.W.fnOf "top" "Ratio.top" (defArgs s_Ratio_top) (defBody s_Ratio_top) (defScope s_Ratio_top) .none kV_Ratio_top dc_Ratio_top pm_Ratio_top an_Ratio_top cd_Ratio_top ct_Ratio_top,
      p_Ratio_bottom := P_Ratio_bottom,
      Ratio_bottom := A_Ratio_bottom,
      d_Ratio_bottom := PySem.W.fnOf "bottom" "Ratio.bottom" (defArgs s_Ratio_bottom) (defBody s_Ratio_bottom) (defScope s_Ratio_bottom) .none kV_Ratio_bottom dc_Ratio_bottom pm_Ratio_bottom an_Ratio_bottom cd_Ratio_bottom ct_Ratio_bottom,
      p_Ratio_sign := P_Ratio_sign,
      Ratio_sign := A_Ratio_sign,
      d_Ratio_sign := PySem.W.fnOf "sign" "Ratio.sign" (defArgs s_Ratio_sign) (defBody s_Ratio_sign) (defScope s_Ratio_sign) .none kV_Ratio_sign dc_Ratio_sign pm_Ratio_sign an_Ratio_sign cd_Ratio_sign ct_Ratio_sign,
      Ratio_over := A_Ratio_over,
      d_Ratio_over := PySem.W.fnOf "over" "Ratio.over" (defArgs s_Ratio_over) (defBody s_Ratio_over) (defScope s_Ratio_over) .none kV_Ratio_over dc_Ratio_over pm_Ratio_over an_Ratio_over cd_Ratio_over ct_Ratio_over,
      Ratio_is_below := A_Ratio_is_below,
      d_Ratio_is_below := PySem.W.fnOf "is_below" "Ratio.is_below" (defArgs s_Ratio_is_below) (defBody s_Ratio_is_below) (defScope s_Ratio_is_below) .none kV_Ratio_is_below dc_Ratio_is_below pm_Ratio_is_below an_Ratio_is_below cd_Ratio_is_below ct_Ratio_is_below,
      Ratio_add := A_Ratio_add,
      d_Ratio_add := PySem.W.fnOf "__add__" "Ratio.__add__" (defArgs s_Ratio_add) (defBody s_Ratio_add) (defScope s_Ratio_add) .none kV_Ratio_add dc_Ratio_add pm_Ratio_add an_Ratio_add cd_Ratio_add ct_Ratio_add,
      Ratio_sub := A_Ratio_sub,
      d_Ratio_sub := PySem.W.fnOf "__sub__" "Ratio.__sub__" (defArgs s_Ratio_sub) (defBody s_Ratio_sub) (defScope s_Ratio_sub) .none kV_Ratio_sub dc_Ratio_sub pm_Ratio_sub an_Ratio_sub cd_Ratio_sub ct_Ratio_sub,
      Ratio_mul := A_Ratio_mul,
      d_Ratio_mul := PySem.W.fnOf "__mul__" "Ratio.__mul__" (defArgs s_Ratio_mul) (defBody s_Ratio_mul) (defScope s_Ratio_mul) .none kV_Ratio_mul dc_Ratio_mul pm_Ratio_mul an_Ratio_mul cd_Ratio_mul ct_Ratio_mul,
      Ratio_neg := A_Ratio_neg,
      d_Ratio_neg := PySem.W.fnOf "__neg__" "Ratio.__neg__" (defArgs s_Ratio_neg) (defBody s_Ratio_neg) (defScope s_Ratio_neg) .none kV_Ratio_neg dc_Ratio_neg pm_Ratio_neg an_Ratio_neg cd_Ratio_neg ct_Ratio_neg,
      Ratio_eq := A_Ratio_eq,
      d_Ratio_eq := PySem.W.fnOf "__eq__" "Ratio.__eq__" (defArgs s_Ratio_eq) (defBody s_Ratio_eq) (defScope s_Ratio_eq) .none kV_Ratio_eq dc_Ratio_eq pm_Ratio_eq an_Ratio_eq cd_Ratio_eq ct_Ratio_eq,
      Ratio_str := A_Ratio_str,
      d_Ratio_str := PySem.W.fnOf "__str__" "Ratio.__str__" (defArgs s_Ratio_str) (defBody s_Ratio_str) (defScope s_Ratio_str) .none kV_Ratio_str dc_Ratio_str pm_Ratio_str an_Ratio_str cd_Ratio_str ct_Ratio_str,
      Ratio_repr := A_Ratio_repr,
      d_Ratio_repr := PySem.W.fnOf "__repr__" "Ratio.__repr__" (defArgs s_Ratio_repr) (defBody s_Ratio_repr) (defScope s_Ratio_repr) .none kV_Ratio_repr dc_Ratio_repr pm_Ratio_repr an_Ratio_repr cd_Ratio_repr ct_Ratio_repr,
      NotesumsError := A_NotesumsError,
      StateError := A_StateError,
      DividedByZero := A_DividedByZero,
      DividedByZero_init := A_DividedByZero_init,
      d_DividedByZero_init := PySem.W.fnOf "__init__" "DividedByZero.__init__" (defArgs s_DividedByZero_init) (defBody s_DividedByZero_init) (defScope s_DividedByZero_init) .none kV_DividedByZero_init dc_DividedByZero_init pm_DividedByZero_init an_DividedByZero_init cd_DividedByZero_init ct_DividedByZero_init,
      InvalidNumber := 0,
      InvalidNumber_init := 0,
      d_InvalidNumber_init := PySem.W.fnOf "law" "law" (defArgs s_law) (defBody s_law) (defScope s_law) .none kV_law dc_law pm_law an_law cd_law ct_law
    } := {
      is_integer := ⟨fun_mk (st := s_is_integer) l_is_integer c_is_integer k_is_integer, PySem.W.mg_of X G a_is_integer⟩,
      is_number := ⟨fun_mk (st := s_is_number) l_is_number c_is_number k_is_number, PySem.W.mg_of X G a_is_number⟩,
      want_number := ⟨fun_mk (st := s_want_number) l_want_number c_want_number k_want_number, PySem.W.mg_of X G a_want_number⟩,
      as_ratio := ⟨fun_mk (st := s_as_ratio) l_as_ratio c_as_ratio k_as_ratio, PySem.W.mg_of X G a_as_ratio⟩,
      common_divisor := ⟨fun_mk (st := s_common_divisor) l_common_divisor c_common_divisor k_common_divisor, PySem.W.mg_of X G a_common_divisor⟩,
      law_rng := ⟨fun_mk (st := s_law_rng) l_law_rng c_law_rng k_law_rng, PySem.W.mg_of X G a_law_rng⟩,
      law_draw := ⟨fun_mk (st := s_law_draw) l_law_draw c_law_draw k_law_draw, PySem.W.mg_of X G a_law_draw⟩,
      law_choice := ⟨fun_mk (st := s_law_choice) l_law_choice c_law_choice k_law_choice, PySem.W.mg_of X G a_law_choice⟩,
      law_common := ⟨fun_mk (st := s_law_common) l_law_common c_law_common k_law_common, PySem.W.mg_of X G a_law_common⟩,
      law_pair := ⟨fun_mk (st := s_law_pair) l_law_pair c_law_pair k_law_pair, PySem.W.mg_of X G a_law_pair⟩,
      law_lowest := ⟨fun_mk (st := s_law_lowest) l_law_lowest c_law_lowest k_law_lowest, PySem.W.mg_of X G a_law_lowest⟩,
      law_sign := ⟨fun_mk (st := s_law_sign) l_law_sign c_law_sign k_law_sign, PySem.W.mg_of X G a_law_sign⟩,
      law_is := ⟨fun_mk (st := s_law_is) l_law_is c_law_is k_law_is, PySem.W.mg_of X G a_law_is⟩,
      law_is_divided_right := ⟨fun_mk (st := s_law_is_divided_right) l_law_is_divided_right c_law_is_divided_right k_law_is_divided_right, PySem.W.mg_of X G a_law_is_divided_right⟩,
      law_two_right := ⟨fun_mk (st := s_law_two_right) l_law_two_right c_law_two_right k_law_two_right, PySem.W.mg_of X G a_law_two_right⟩,
      law_right := ⟨fun_mk (st := s_law_right) l_law_right c_law_right k_law_right, PySem.W.mg_of X G a_law_right⟩,
      law := ⟨fun_mk (st := s_law) l_law c_law k_law, PySem.W.mg_of X G a_law⟩,
      Ratio := ⟨⟨pg_Ratio, hd_Ratio, po_Ratio, sa_Ratio⟩, PySem.W.mg_of X G a_Ratio, kp_Ratio, mks_Ratio, ca_Ratio, cg_Ratio, ct_Ratio, ob_Ratio, kit_cl rfl ic_Ratio tc_Ratio si_Ratio, kit_cl rfl ic_Ratio tc_Ratio ss_Ratio, kit_cl rfl ic_Ratio tc_Ratio st_Ratio, kit_self, kit_out (by decide +kernel) oi_Ratio, kit_out (by decide +kernel) oB_Ratio⟩,
      no_Ratio_own_top := n_Ratio_own_top,
      no_Ratio_own_bottom := n_Ratio_own_bottom,
      Ratio_init := ⟨⟨⟨_, _, _, _, _, _, _, _, _, _, rfl, l_Ratio_init, c_Ratio_init, .inr ⟨by decide, T_Ratio_init, _, [.int 1 tk0_Ratio_init], n_Ratio_init, rfl, d_Ratio_init, rfl, .cons ⟨_, rfl⟩ (.nil)⟩, .inl rfl⟩, k_Ratio_init⟩, f_Ratio_init, i_Ratio_init⟩,
      total_at := ⟨f_Ratio_total, ⟨_, r_Ratio_total⟩, fi_Ratio_total⟩,
      total_rd := ⟨rd_Ratio_total, ga_Ratio_total⟩,
      total_fn := ⟨_, _, _, _, _, _, _, _, _, l_Ratio_total, c_Ratio_total⟩,
      Ratio_top := ⟨fun_mk (st := s_Ratio_top) l_Ratio_top c_Ratio_top k_Ratio_top, f_Ratio_top, g_Ratio_top, t_Ratio_top, _, r_Ratio_top⟩,
      Ratio_bottom := ⟨fun_mk (st := s_Ratio_bottom) l_Ratio_bottom c_Ratio_bottom k_Ratio_bottom, f_Ratio_bottom, g_Ratio_bottom, t_Ratio_bottom, _, r_Ratio_bottom⟩,
      Ratio_sign := ⟨fun_mk (st := s_Ratio_sign) l_Ratio_sign c_Ratio_sign k_Ratio_sign, f_Ratio_sign, g_Ratio_sign, t_Ratio_sign, _, r_Ratio_sign⟩,
      Ratio_over := ⟨fun_mk (st := s_Ratio_over) l_Ratio_over c_Ratio_over k_Ratio_over, f_Ratio_over, i_Ratio_over⟩,
      Ratio_is_below := ⟨fun_mk (st := s_Ratio_is_below) l_Ratio_is_below c_Ratio_is_below k_Ratio_is_below, f_Ratio_is_below, i_Ratio_is_below⟩,
      Ratio_add := ⟨fun_mk (st := s_Ratio_add) l_Ratio_add c_Ratio_add k_Ratio_add, f_Ratio_add, i_Ratio_add⟩,
      Ratio_sub := ⟨fun_mk (st := s_Ratio_sub) l_Ratio_sub c_Ratio_sub k_Ratio_sub, f_Ratio_sub, i_Ratio_sub⟩,
      Ratio_mul := ⟨fun_mk (st := s_Ratio_mul) l_Ratio_mul c_Ratio_mul k_Ratio_mul, f_Ratio_mul, i_Ratio_mul⟩,
      Ratio_neg := ⟨fun_mk (st := s_Ratio_neg) l_Ratio_neg c_Ratio_neg k_Ratio_neg, f_Ratio_neg, i_Ratio_neg⟩,
      Ratio_eq := ⟨fun_mk (st := s_Ratio_eq) l_Ratio_eq c_Ratio_eq k_Ratio_eq, f_Ratio_eq, i_Ratio_eq⟩,
      Ratio_str := ⟨fun_mk (st := s_Ratio_str) l_Ratio_str c_Ratio_str k_Ratio_str, f_Ratio_str, i_Ratio_str⟩,
      Ratio_repr := ⟨fun_mk (st := s_Ratio_repr) l_Ratio_repr c_Ratio_repr k_Ratio_repr, f_Ratio_repr, i_Ratio_repr⟩,
      O_Ratio_add := ⟨f_Ratio_add, i_Ratio_add, sf_Ratio, nr_Ratio_add, ⟨_, n1_Ratio_add⟩, ⟨_, n2_Ratio_add⟩, si_Ratio⟩,
      O_Ratio_sub := ⟨f_Ratio_sub, i_Ratio_sub, sf_Ratio, nr_Ratio_sub, ⟨_, n1_Ratio_sub⟩, ⟨_, n2_Ratio_sub⟩, si_Ratio⟩,
      O_Ratio_mul := ⟨f_Ratio_mul, i_Ratio_mul, sf_Ratio, nr_Ratio_mul, ⟨_, n1_Ratio_mul⟩, ⟨_, n2_Ratio_mul⟩, si_Ratio⟩,
      O_Ratio_neg := ⟨f_Ratio_neg, i_Ratio_neg⟩,
      O_Ratio_eq := ⟨f_Ratio_eq, ne_Ratio_eq, i_Ratio_eq, ob_Ratio, si_Ratio, ss_Ratio, st_Ratio, sl_Ratio, sd_Ratio⟩,
      O_Ratio_str := ⟨f_Ratio_str, i_Ratio_str⟩,
      O_Ratio_repr := ⟨f_Ratio_repr, i_Ratio_repr⟩,
      b_abs := PySem.W.mg_none_of X G z_abs,
      b_all := PySem.W.mg_none_of X G z_all,
      b_bool := PySem.W.mg_none_of X G z_bool,
      b_divmod := PySem.W.mg_none_of X G z_divmod,
      b_int := PySem.W.mg_none_of X G z_int,
      b_isinstance := PySem.W.mg_none_of X G z_isinstance,
      b_len := PySem.W.mg_none_of X G z_len,
      b_max := PySem.W.mg_none_of X G z_max,
      b_min := PySem.W.mg_none_of X G z_min,
      b_range := PySem.W.mg_none_of X G z_range,
      b_repr := PySem.W.mg_none_of X G z_repr,
      b_str := PySem.W.mg_none_of X G z_str,
      b_zip := PySem.W.mg_none_of X G z_zip,
      g_RuntimeError := PySem.W.mg_none_of X G z_RuntimeError,
      g_DividedByZero := PySem.W.mg_of X G a_DividedByZero,
      g_NotesumsError := PySem.W.mg_of X G a_NotesumsError,
      X_DividedByZero := ⟨PySem.F.excBase_RuntimeError, ⟨nm, q, Nn, bs, bm, sn, sub, ab, col, dd, m0, m1, m2, m3, m5, x_D, bm_D⟩, e_D, t_D, k_D⟩,
      S_StateError := ⟨PySem.W.mg_of X G a_StateError, rd_S, ga_S, at_S, by decide +kernel⟩,
      DividedByZero_init := ⟨fun_mk (st := s_DividedByZero_init) l_DividedByZero_init c_DividedByZero_init k_DividedByZero_init, f_DividedByZero_init, i_DividedByZero_init⟩,
      t_DividedByZero_init := ty_DividedByZero_init,
      C_DividedByZero := ⟨hg_D, hk_D, e_D, hd_D, ha_D, cg_Ratio, ct_Ratio, hm_D⟩,
      e_DividedByZero := exm_own e_D ic_D t_D sD,
      k_DividedByZero := kit_out (by decide +kernel) sR,
      n_DividedByZero := kit_cl neN ic_N t_N sN
    }
  exact ⟨_, fun s u => .of_eq rfl, fun base _ _ => ok_law T⟩
end P
open PySem PySem.W PyProof.Rows
set_option maxRecDepth 100000 in
set_option maxHeartbeats 0 in
theorem PySem.Challenge.cw_notesums_k11_ratios_by_integers_holds : PySem.Challenge.rw_notesums_k11_ratios_by_integers.Holds := by
  w_on; o_law; k_head; (case hw => w_witness2)
  k_fill
  refine NS.walk_ofG (l := PySem.Challenge.rw_notesums_k11_ratios_by_integers) (n := 63) (k := 18) (x := "_law_script") (spK := P.spLaw) rfl (by decide) rfl ⟨rfl, by decide, by decide⟩ (fun w h Y => PySem.W.kIn_of Y) ?F (fun K H b ns hl hS hO => ⟨b, ns, rfl, hS, Nat.le_trans hl (by decide), fun _ => rfl⟩)
  case F =>
    intro w mg fa h KX G hmg
    refine' P.mk_all KX G hmg ?a_is_integer ?l_is_integer ?c_is_integer ?k_is_integer ?a_is_number ?l_is_number ?c_is_number ?k_is_number ?a_want_number ?l_want_number ?c_want_number ?k_want_number ?a_as_ratio ?l_as_ratio ?c_as_ratio ?k_as_ratio ?a_common_divisor ?l_common_divisor ?c_common_divisor ?k_common_divisor ?a_law_rng ?l_law_rng ?c_law_rng ?k_law_rng ?a_law_draw ?l_law_draw ?c_law_draw ?k_law_draw ?a_law_choice ?l_law_choice ?c_law_choice ?k_law_choice ?a_law_common ?l_law_common ?c_law_common ?k_law_common ?a_law_pair ?l_law_pair ?c_law_pair ?k_law_pair ?a_law_lowest ?l_law_lowest ?c_law_lowest ?k_law_lowest ?a_law_sign ?l_law_sign ?c_law_sign ?k_law_sign ?a_law_is ?l_law_is ?c_law_is ?k_law_is ?a_law_is_divided_right ?l_law_is_divided_right ?c_law_is_divided_right ?k_law_is_divided_right ?a_law_two_right ?l_law_two_right ?c_law_two_right ?k_law_two_right ?a_law_right ?l_law_right ?c_law_right ?k_law_right ?a_law ?l_law ?c_law ?k_law ?a_Ratio ?pg_Ratio ?hd_Ratio ?po_Ratio ?sa_Ratio ?kp_Ratio ?mks_Ratio ?ca_Ratio ?ob_Ratio ?ic_Ratio ?tc_Ratio ?si_Ratio ?ss_Ratio ?st_Ratio ?sl_Ratio ?sd_Ratio ?oi_Ratio ?oB_Ratio ?sf_Ratio ?cg_Ratio ?ct_Ratio ?n_Ratio_own_top ?n_Ratio_own_bottom ?f_Ratio_init ?i_Ratio_init ?l_Ratio_init ?c_Ratio_init ?k_Ratio_init ?d_Ratio_init ?f_Ratio_total ?r_Ratio_total ?fi_Ratio_total ?rd_Ratio_total ?ga_Ratio_total ?l_Ratio_total ?c_Ratio_total ?k_Ratio_total ?f_Ratio_top ?g_Ratio_top ?t_Ratio_top ?r_Ratio_top ?l_Ratio_top ?c_Ratio_top ?k_Ratio_top ?f_Ratio_bottom ?g_Ratio_bottom ?t_Ratio_bottom ?r_Ratio_bottom ?l_Ratio_bottom ?c_Ratio_bottom ?k_Ratio_bottom ?f_Ratio_sign ?g_Ratio_sign ?t_Ratio_sign ?r_Ratio_sign ?l_Ratio_sign ?c_Ratio_sign ?k_Ratio_sign ?f_Ratio_over ?i_Ratio_over ?l_Ratio_over ?c_Ratio_over ?k_Ratio_over ?f_Ratio_is_below ?i_Ratio_is_below ?l_Ratio_is_below ?c_Ratio_is_below ?k_Ratio_is_below ?f_Ratio_add ?i_Ratio_add ?l_Ratio_add ?c_Ratio_add ?k_Ratio_add ?f_Ratio_sub ?i_Ratio_sub ?l_Ratio_sub ?c_Ratio_sub ?k_Ratio_sub ?f_Ratio_mul ?i_Ratio_mul ?l_Ratio_mul ?c_Ratio_mul ?k_Ratio_mul ?f_Ratio_neg ?i_Ratio_neg ?l_Ratio_neg ?c_Ratio_neg ?k_Ratio_neg ?f_Ratio_eq ?i_Ratio_eq ?l_Ratio_eq ?c_Ratio_eq ?k_Ratio_eq ?f_Ratio_str ?i_Ratio_str ?l_Ratio_str ?c_Ratio_str ?k_Ratio_str ?f_Ratio_repr ?i_Ratio_repr ?l_Ratio_repr ?c_Ratio_repr ?k_Ratio_repr ?nr_Ratio_add ?n1_Ratio_add ?n2_Ratio_add ?nr_Ratio_sub ?n1_Ratio_sub ?n2_Ratio_sub ?nr_Ratio_mul ?n1_Ratio_mul ?n2_Ratio_mul ?ne_Ratio_eq ?z_abs ?z_all ?z_bool ?z_divmod ?z_int ?z_isinstance ?z_len ?z_max ?z_min ?z_range ?z_repr ?z_str ?z_zip ?a_NotesumsError ?a_StateError ?a_DividedByZero ?z_RuntimeError ?x_D ?bm_D ?e_D ?t_D ?k_D ?rd_S ?ga_S ?at_S ?f_DividedByZero_init ?i_DividedByZero_init ?l_DividedByZero_init ?c_DividedByZero_init ?k_DividedByZero_init ?ty_DividedByZero_init ?hg_D ?hk_D ?hd_D ?ha_D ?hm_D ?ic_D ?sD ?sR ?ic_N ?t_N ?sN ?neN
    case a_is_integer => k_is
    case l_is_integer => k_is
    case c_is_integer => k_is
    case k_is_integer => k_is
    case a_is_number => k_is
    case l_is_number => k_is
    case c_is_number => k_is
    case k_is_number => k_is
    case a_want_number => k_is
    case l_want_number => k_is
    case c_want_number => k_is
    case k_want_number => k_is
    case a_as_ratio => k_is
    case l_as_ratio => k_is
    case c_as_ratio => k_is
    case k_as_ratio => k_is
    case a_common_divisor => k_is
    case l_common_divisor => k_is
    case c_common_divisor => k_is
    case k_common_divisor => k_is
    case a_law_rng => k_is
    case l_law_rng => k_is
    case c_law_rng => k_is
    case k_law_rng => k_is
    case a_law_draw => k_is
    case l_law_draw => k_is
    case c_law_draw => k_is
    case k_law_draw => k_is
    case a_law_choice => k_is
    case l_law_choice => k_is
    case c_law_choice => k_is
    case k_law_choice => k_is
    case a_law_common => k_is
    case l_law_common => k_is
    case c_law_common => k_is
    case k_law_common => k_is
    case a_law_pair => k_is
    case l_law_pair => k_is
    case c_law_pair => k_is
    case k_law_pair => k_is
    case a_law_lowest => k_is
    case l_law_lowest => k_is
    case c_law_lowest => k_is
    case k_law_lowest => k_is
    case a_law_sign => k_is
    case l_law_sign => k_is
    case c_law_sign => k_is
    case k_law_sign => k_is
    case a_law_is => k_is
    case l_law_is => k_is
    case c_law_is => k_is
    case k_law_is => k_is
    case a_law_is_divided_right => k_is
    case l_law_is_divided_right => k_is
    case c_law_is_divided_right => k_is
    case k_law_is_divided_right => k_is
    case a_law_two_right => k_is
    case l_law_two_right => k_is
    case c_law_two_right => k_is
    case k_law_two_right => k_is
    case a_law_right => k_is
    case l_law_right => k_is
    case c_law_right => k_is
    case k_law_right => k_is
    case a_law => k_is
    case l_law => k_is
    case c_law => k_is
    case k_law => k_is
    case a_Ratio => k_is
    case pg_Ratio => k_is
    case hd_Ratio => k_is
    case po_Ratio => k_is
    case sa_Ratio => k_is
    case kp_Ratio => k_is
    case mks_Ratio => k_is
    case ca_Ratio => k_is
    case ob_Ratio => k_is
    case ic_Ratio => k_is
    case tc_Ratio => k_is
    case si_Ratio => first | k_is | rfl
    case ss_Ratio => first | k_is | rfl
    case st_Ratio => first | k_is | rfl
    case sl_Ratio => first | k_is | rfl
    case sd_Ratio => first | k_is | rfl
    case oi_Ratio => first | k_is | rfl
    case oB_Ratio => first | k_is | rfl
    case sf_Ratio => k_is
    case cg_Ratio => first | k_is | rfl
    case ct_Ratio => first | k_is | rfl
    case n_Ratio_own_top => k_is
    case n_Ratio_own_bottom => k_is
    case f_Ratio_init => k_is
    case i_Ratio_init => k_is
    case l_Ratio_init => k_is
    case c_Ratio_init => k_is
    case k_Ratio_init => k_is
    case d_Ratio_init => k_is
    case f_Ratio_total => k_is
    case r_Ratio_total => k_is
    case fi_Ratio_total => k_is
    case rd_Ratio_total => k_is
    case ga_Ratio_total => k_is
    case l_Ratio_total => k_is
    case c_Ratio_total => k_is
    case k_Ratio_total => k_is
    case f_Ratio_top => k_is
    case g_Ratio_top => k_is
    case t_Ratio_top => k_is
    case r_Ratio_top => k_is
    case l_Ratio_top => k_is
    case c_Ratio_top => k_is
    case k_Ratio_top => k_is
    case f_Ratio_bottom => k_is
    case g_Ratio_bottom => k_is
    case t_Ratio_bottom => k_is
    case r_Ratio_bottom => k_is
    case l_Ratio_bottom => k_is
    case c_Ratio_bottom => k_is
    case k_Ratio_bottom => k_is
    case f_Ratio_sign => k_is
    case g_Ratio_sign => k_is
    case t_Ratio_sign => k_is
    case r_Ratio_sign => k_is
    case l_Ratio_sign => k_is
    case c_Ratio_sign => k_is
    case k_Ratio_sign => k_is
    case f_Ratio_over => k_is
    case i_Ratio_over => k_is
    case l_Ratio_over => k_is
    case c_Ratio_over => k_is
    case k_Ratio_over => k_is
    case f_Ratio_is_below => k_is
    case i_Ratio_is_below => k_is
    case l_Ratio_is_below => k_is
    case c_Ratio_is_below => k_is
    case k_Ratio_is_below => k_is
    case f_Ratio_add => k_is
    case i_Ratio_add => k_is
    case l_Ratio_add => k_is
    case c_Ratio_add => k_is
    case k_Ratio_add => k_is
    case f_Ratio_sub => k_is
    case i_Ratio_sub => k_is
    case l_Ratio_sub => k_is
    case c_Ratio_sub => k_is
    case k_Ratio_sub => k_is
    case f_Ratio_mul => k_is
    case i_Ratio_mul => k_is
    case l_Ratio_mul => k_is
    case c_Ratio_mul => k_is
    case k_Ratio_mul => k_is
    case f_Ratio_neg => k_is
    case i_Ratio_neg => k_is
    case l_Ratio_neg => k_is
    case c_Ratio_neg => k_is
    case k_Ratio_neg => k_is
    case f_Ratio_eq => k_is
    case i_Ratio_eq => k_is
    case l_Ratio_eq => k_is
    case c_Ratio_eq => k_is
    case k_Ratio_eq => k_is
    case f_Ratio_str => k_is
    case i_Ratio_str => k_is
    case l_Ratio_str => k_is
    case c_Ratio_str => k_is
    case k_Ratio_str => k_is
    case f_Ratio_repr => k_is
    case i_Ratio_repr => k_is
    case l_Ratio_repr => k_is
    case c_Ratio_repr => k_is
    case k_Ratio_repr => k_is
    case nr_Ratio_add => k_is
    case n1_Ratio_add => k_is
    case n2_Ratio_add => k_is
    case nr_Ratio_sub => k_is
    case n1_Ratio_sub => k_is
    case n2_Ratio_sub => k_is
    case nr_Ratio_mul => k_is
    case n1_Ratio_mul => k_is
    case n2_Ratio_mul => k_is
    case ne_Ratio_eq => k_is
    case z_abs => k_is
    case z_all => k_is
    case z_bool => k_is
    case z_divmod => k_is
    case z_int => k_is
    case z_isinstance => k_is
    case z_len => k_is
    case z_max => k_is
    case z_min => k_is
    case z_range => k_is
    case z_repr => k_is
    case z_str => k_is
    case z_zip => k_is
    case a_NotesumsError => k_is
    case a_StateError => k_is
    case a_DividedByZero => k_is
    case z_RuntimeError => k_is
    case x_D => k_is
    case bm_D => rfl
    case e_D => k_is
    case t_D => k_is
    case k_D => k_is
    case rd_S => k_is
    case ga_S => k_is
    case at_S => k_is
    case f_DividedByZero_init => k_is
    case i_DividedByZero_init => k_is
    case l_DividedByZero_init => k_is
    case c_DividedByZero_init => k_is
    case k_DividedByZero_init => k_is
    case ty_DividedByZero_init => k_is
    case hg_D => k_is
    case hk_D => k_is
    case hd_D => k_is
    case ha_D => k_is
    case hm_D => k_is
    case ic_D => k_is
    case sD => first | rfl | k_is
    case sR => first | k_is | rfl
    case ic_N => k_is
    case t_N => k_is
    case sN => first | k_is | rfl
    case neN => rfl
#print axioms PySem.Challenge.cw_notesums_k11_ratios_by_integers_holds
