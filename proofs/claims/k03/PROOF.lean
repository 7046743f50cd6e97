import PyProof.Rows.All
import Wide.All
import OpenK.AllK
import Wide.FinOn
import KE.KUnpackStar
import KE.KCallOwn
import KE.KFmtOwn
import HandS.ForMost
import HandS.Exc
import HandS.TryOnly
import HandS.ExcOwn
import HandS.WordsExc
import HandS.Codes
import HandS.Defaults
import HandS.IsInst
import HandS.OwnEq
import HandS.FStr
import HandS.Flow
import HandS.Style
import HandS.More
import HandS.Wide
import HandS.MakeKw
import HandS.MakeKwOnly
import HandS.DictComp
import HandS.DictEq
import HandS.Evl
import HandS.Head0
import HandS.Head1
import HandS.Head2
import HandS.HeadEnd
import HandS.HeadHook1
import HandS.HeadHook2
import HandS.Walk
import HandS.RaiseMore
import HandS.Sort
import PyProof.StrLawsRepr
import PySem.Challenge.RW_skinrooms_k03_bags_told
set_option Elab.async false
set_option linter.all false
set_option maxRecDepth 100000
set_option maxHeartbeats 4000000
set_option maxHeartbeats 4000000
/-! Own rules over the hand layer: own methods called by str, len, ==, repr; a star in a target; facts of the head with one more look. -/
namespace Sk
open PySem PySem.Spec PyProof.Rows L2
/-! ### the hook: facts by names, and one more look -/
abbrev AlS : Type := He.AlD × Bool
def obsS (n : Nat) (fa : List He.Fa) (fn : List He.DefD) (ex : PySem.W.Frag → Bool) (g : Addr → Option Obj) : AlS := (He.obsDG n fa fn g, ex (He.frG g (He.asD g n)))
def valS (fn : List He.DefD) : AlS := (He.valD fn, true)
def hookS (n : Nat) (fa : List He.Fa) (fn : List He.DefD) (ex : PySem.W.Frag → Bool) : PySem.W.Hook where
  α := AlS
  obs := fun s => obsS n fa fn ex s.heap.get?
  val := fun _ => valS fn
  says := fun _ h => ∃ K : PySem.W.Frag, K.In h ∧ He.SaysD fa fn K ∧ ex K = true
  of := fun _ _ e => ⟨_, He.frG_in, congrArg (fun z : AlS => z.1) e, congrArg (fun z : AlS => z.2) e⟩
  keeps := fun _ _ _ ⟨K, hK, c⟩ k => ⟨K, PySem.W.Frag.In.keeps hK k, c⟩
theorem obsS_eq {n : Nat} {fa : List He.Fa} {fn : List He.DefD} {ex : PySem.W.Frag → Bool} {g : Addr → Option Obj} {s : Shared} (h : ∀ a, g a = s.heap.get? a) : obsS n fa fn ex g = (hookS n fa fn ex).obs s := by
  have e : g = s.heap.get? := funext h
  rw [e] <;> rfl
/-! ### isinstance with an own class -/
structure IsiC (K : PySem.W.Frag) (C : Addr) : Prop where
  cl : Cls K C
  ha : PySem.W.findIn K (.ref C) "__class__" = some (some (.builtin "object.__class__"))
  hn : PySem.W.specialIn K (.builtin "object.__class__") "__get__" = some (some (.builtin "getset_descriptor.__get__"))
  htk : PySem.W.takesIn K (.builtin "object.__class__") = some true
  hm : PySem.W.mroIn K C (.type "object") = some true
  me : PySem.W.kitOne K (.ref C) (.ref C) = some true
  no : ∀ T ∈ ["NoneType", "bool", "int", "str", "list", "tuple", "dict"], PySem.W.kitOne K (.type T) (.ref C) = some false
  ne : PySem.W.findIn K (.ref C) "__ne__" = some (some (.builtin "object.__ne__"))
  sub : ∀ T ∈ ["NoneType", "int", "str", "list", "tuple", "dict"], PySem.W.mroIn K C (.type T) = some false
  bl : PySem.W.findIn K (.ref C) "__bool__" = some none
def isiB (K : PySem.W.Frag) (C : Addr) : Bool :=
  He.eqO (PySem.W.findIn K (.ref C) "__class__") (some (some (.builtin "object.__class__"))) && (decide (PySem.W.specialIn K (.builtin "object.__class__") "__get__" = some (some (.builtin "getset_descriptor.__get__"))) &&
    (decide (PySem.W.takesIn K (.builtin "object.__class__") = some true) && (decide (PySem.W.mroIn K C (.type "object") = some true) && (decide (PySem.W.kitOne K (.ref C) (.ref C) = some true) &&
      ((["NoneType", "bool", "int", "str", "list", "tuple", "dict"].all fun T => decide (PySem.W.kitOne K (.type T) (.ref C) = some false)) && (He.eqO (PySem.W.findIn K (.ref C) "__ne__") (some (some (.builtin "object.__ne__"))) &&
        (["NoneType", "int", "str", "list", "tuple", "dict"].all (fun T => decide (PySem.W.mroIn K C (.type T) = some false)) && He.eqO (PySem.W.findIn K (.ref C) "__bool__") (some none))))))))
theorem isiB_ok {K : PySem.W.Frag} {C : Addr} (cl : Cls K C) (h : isiB K C = true) : IsiC K C := by
  obtain ⟨h1, h⟩ := He.ba h
  obtain ⟨h2, h⟩ := He.ba h
  obtain ⟨h3, h⟩ := He.ba h
  obtain ⟨h4, h⟩ := He.ba h
  obtain ⟨h5, h⟩ := He.ba h
  obtain ⟨h6, h⟩ := He.ba h
  obtain ⟨h7, h⟩ := He.ba h
  obtain ⟨h8, h9⟩ := He.ba h
  exact ⟨cl, He.eqO_ok h1, of_decide_eq_true h2, of_decide_eq_true h3, of_decide_eq_true h4, of_decide_eq_true h5, fun T hT => of_decide_eq_true (List.all_eq_true.mp h6 T hT), He.eqO_ok h7, fun T hT => of_decide_eq_true (List.all_eq_true.mp h8 T hT), He.eqO_ok h9⟩
theorem IsiC.ty {K : PySem.W.Frag} {C : Addr} (c : IsiC K C) {H : Hp} {a dx : Addr} {fs : List (Str × V)} (e : H a = some (.ins C dx fs)) : TyX K H (.ref a) (.ref C) := .base (TyOf.ins e c.cl c.ha c.hn c.htk c.hm)
/-! ### calls by what stands behind a name -/
section
variable {P : Program} {w : World} {K : PySem.W.Frag} {mg : Str → Option Value} {base : Heap}
theorem calD {x qual : Str} {params : Arguments} {body : List Stmt} {scope : Scope} {f : Addr} {fd : FuncData} {N ps : List Str} {k : Nat} {sp : Sp} (F : FunD K x qual params body scope [] [] f fd) (hm : mg x = some (.ref f)) (S : FnScope N ps scope)
    (hb : ∀ (kV doc pm : Value) (an : Option Addr) (cdv ct : Value) (us : List Value), us.length = ps.length → bindArgs (PySem.W.fnOf x qual params body scope .none kV doc pm an cdv ct) ⟨us, []⟩ = pure (ps.zip us))
    (len : ∀ vs H Q E, sp vs H Q E → vs.length = ps.length)
    (hbody : ∀ (cdv : Value) (A : Around) (outer : List Env) (s : Shared) (H : Hp) (vs : List V) (Q : VK) (E : XK), Room k (A.deeper (envOfC qual scope s.heap.objs.size f cdv)) → sp vs H Q E →
      ∃ t, PSs (cxOf C8.CX0 P w K mg base N qual scope f cdv A outer s H E).nox body t ∧ t { nx := fun _ H' => Q .non H', rt := Q } (start N vs) H) : C8.Cal P w K mg base (k + 1) x sp [] :=
  ⟨f, fd, ps, [], F.ok S len fun cdv A outer s H vs Q E hr hsp => let ⟨t, h, q⟩ := hbody cdv A outer s H vs Q E hr hsp; ⟨t, h.nox, q⟩, hm, F.kp, F.bindsN hb, .nil⟩
theorem metD {m qual : Str} {C : Addr} {params : Arguments} {body : List Stmt} {scope : Scope} {f : Addr} {fd : FuncData} {N ps : List Str} {k : Nat} {sp : Sp} (c : Cls K C) (me : Meth K C m f) (F : FunD K m qual params body scope [] [] f fd) (S : FnScope N ps scope)
    (hb : ∀ (kV doc pm : Value) (an : Option Addr) (cdv ct : Value) (us : List Value), us.length = ps.length → bindArgs (PySem.W.fnOf m qual params body scope .none kV doc pm an cdv ct) ⟨us, []⟩ = pure (ps.zip us))
    (len : ∀ vs H Q E, sp vs H Q E → vs.length = ps.length)
    (hbody : ∀ (cdv : Value) (A : Around) (outer : List Env) (s : Shared) (H : Hp) (vs : List V) (Q : VK) (E : XK), Room k (A.deeper (envOfC qual scope s.heap.objs.size f cdv)) → sp vs H Q E →
      ∃ t, PSs (cxOf C8.CX0 P w K mg base N qual scope f cdv A outer s H E).nox body t ∧ t { nx := fun _ H' => Q .non H', rt := Q } (start N vs) H) : C8.Met P w K mg base (k + 1) C m sp [] :=
  ⟨f, fd, ps, [], c, me, F.ok S len fun cdv A outer s H vs Q E hr hsp => let ⟨t, h, q⟩ := hbody cdv A outer s H vs Q E hr hsp; ⟨t, h.nox, q⟩, F.bindsN hb, .nil⟩
theorem fnD0 {x qual : Str} {params : Arguments} {body : List Stmt} {scope : Scope} {dvs : List V} {kws : List (Str × V)} {f : Addr} {fd : FuncData} {N ps : List Str} {k : Nat} {sp : Sp} (F : FunD K x qual params body scope dvs kws f fd) (S : FnScope N ps scope)
    (len : ∀ vs H Q E, sp vs H Q E → vs.length = ps.length)
    (hbody : ∀ (cdv : Value) (A : Around) (outer : List Env) (s : Shared) (H : Hp) (vs : List V) (Q : VK) (E : XK), Room k (A.deeper (envOfC qual scope s.heap.objs.size f cdv)) → sp vs H Q E →
      ∃ t, PSs (cxOf C8.CX0 P w K mg base N qual scope f cdv A outer s H E).nox body t ∧ t { nx := fun _ H' => Q .non H', rt := Q } (start N vs) H) : FnOk P w K mg base C8.CX0 (k + 1) f fd ps sp :=
  F.ok S len fun cdv A outer s H vs Q E hr hsp => let ⟨t, h, q⟩ := hbody cdv A outer s H vs Q E hr hsp; ⟨t, h.nox, q⟩
end
section
variable {X : Cx} {k j : Nat} {C : Addr} {x m : Str} {sp : Sp} {dvs : List V} {p pos apos : Pos} {e o : Expr} {es : List Expr} {ta : TE} {t : TA}
theorem pe_c0 (c : C8.Cal X.prog X.w X.K X.mg X.base k x sp dvs) (hr : Room j X.A) (hk : k ≤ j) (hg : Gl X x) (hdb : (x == ("__debug__" : Str)) = false := by decide) :
    PE X (.Call (.Name x p) [] [] pos) (tCall sp dvs C8.E0 tNil) := by
  obtain ⟨f, fd, ps, ds, F, hm, kp, b, d⟩ := c.ex
  exact pe_call0 F (hr.mono hk) hg hm kp b d C8.pass0 hdb
theorem pe_mk0 (c : C8.Mak X.prog X.w X.K X.mg X.base k x C sp dvs) (hr : Room j X.A) (hk : k + 1 ≤ j) (hg : Gl X x) (hdb : (x == ("__debug__" : Str)) = false := by decide) :
    PE X (.Call (.Name x p) [] [] pos) (tMake C sp dvs C8.E0 tNil) := by
  obtain ⟨f, fd, ps, ds, M, F, hm, b, d⟩ := c.ex
  exact pe_make0 M F (hr.mono hk) hg hm b d C8.pass0 hdb
/-! ### own methods by built-in words -/
theorem vals_ref (a : Addr) : Vals [V.ref a] [Value.ref a] := .cons (show RelV (V.ref a) (Value.ref a) from rfl) .nil
/-- a method called from a place below the running body -/
theorem run_met {n : Nat} {A : Around} (c : C8.Met X.prog X.w X.K X.mg X.base n C m sp []) (sb : Sub X n A) {pins : List (Addr × Obj)} {s : Shared} {σ : L2.St} {H : Hp} {vs : List V} {us : List Value} {Q : VK} (I : Inv X pins σ H s) (r : Vals vs us) (h : sp vs H Q C8.E0) :
    ∃ f, Meth X.K C m f ∧ wpAny (model X.prog X.w) A (call (.ref f) us) (EP X pins σ Q) X.xe s := by
  obtain ⟨f, fd, ps, ds, hc, hm, F, hb, hd⟩ := c.ex
  cases hd
  refine ⟨f, hm, ?_⟩
  have e0 : Env0 X.prog X.w X.K X.mg X.base A X.stack s H := by
    have e := I.env0
    exact ⟨by rw [sb.fr]; exact e.frames, e.mod, e.bs, e.bsz, e.funs, e.frf, e.hok, e.bare⟩
  have hl : us.length = ps.length := r.length.symm.trans (F.len _ _ _ _ h)
  refine wpAny_call (codeAny_mono (F.run A X.stack s H ⟨us, []⟩ us vs Q C8.E0 sb.room e0 (by
    have := hb s us I.kIn (by simpa using hl)
    simpa using this) r h) fun r s' hq => ?_)
  cases r with
  | error e => exact hq.elim
  | ok fl =>
    cases fl with
    | ret u => exact I.after hq
    | next => exact False.elim hq
    | brk => exact False.elim hq
    | cont => exact False.elim hq
theorem met_cls {n : Nat} (c : C8.Met X.prog X.w X.K X.mg X.base n C m sp []) : Cls X.K C := let ⟨_, _, _, _, hc, _⟩ := c.ex; hc
theorem sub_in1 {n : Nat} (hr : Room (n + 1) X.A) : Sub X n X.A.in1 := Sub.in1 ⟨hr, rfl⟩
/-- len(o) by the class's own __len__ -/
def rLenOwn (C : Addr) (sp : Sp) : List V → Hp → VK → Prop := fun xs H Q => ∃ a dx fs, xs = [.ref a] ∧ H a = some (.ins C dx fs) ∧ sp [.ref a] H (fun v H' => ∃ n : Int, v = .int n ∧ 0 ≤ n ∧ n < 2 ^ 63 ∧ Q (.int n) H') C8.E0
theorem call_lenOwn {n : Nat} (c : C8.Met X.prog X.w X.K X.mg X.base n C "__len__" sp []) (hr : Room (n + 1) X.A) : CallR X (.builtin "len") (rLenOwn C sp) := by
  intro pins s σ H xs us Q I r h
  obtain ⟨a, dx, fs, rfl, ha, h⟩ := h
  obtain ⟨u, rfl, ru⟩ := vals1 r
  cases ru
  obtain ⟨mA, O, _⟩ := ins_get I.hok ha
  obtain ⟨od, J, _⟩ := O.look
  obtain ⟨m, hF⟩ := I.fr
  obtain ⟨f, hm, q⟩ := run_met c (sub_in1 hr) I (vals_ref a) h
  refine PySem.W.len_K hF I.ok.mod.kin J hm.at_ hm.fn (thn q fun v s1 hv => ?_)
  obtain ⟨z, H', I', rz, i, rfl, h0, h1, hq⟩ := hv
  obtain ⟨t, rfl⟩ := rz
  exact ⟨⟨h0, h1⟩, .int i, H', I'.tok _, ⟨_, rfl⟩, hq⟩
/-- str(o) by the class's own __str__ -/
def rStrOwn (C : Addr) (sp : Sp) : List V → Hp → VK → Prop := fun xs H Q => ∃ a dx fs, xs = [.ref a] ∧ H a = some (.ins C dx fs) ∧ sp [.ref a] H (fun v H' => ∃ z : Str, v = .str z ∧ Q (.str z) H') C8.E0
theorem call_strOwn {n : Nat} (c : C8.Met X.prog X.w X.K X.mg X.base n C "__str__" sp []) (hr : Room (n + 2) X.A) : CallR X (.type "str") (rStrOwn C sp) := by
  intro pins s σ H xs us Q I r h
  obtain ⟨a, dx, fs, rfl, ha, h⟩ := h
  obtain ⟨u, rfl, ru⟩ := vals1 r
  cases ru
  obtain ⟨mA, O, _⟩ := ins_get I.hok ha
  obtain ⟨od, J, _⟩ := O.look
  have sb : Sub X n X.A.in1.in1 := Sub.in1 (sub_in1 hr)
  obtain ⟨f, hm, q⟩ := run_met c sb I (vals_ref a) h
  refine PySem.W.kso_call sb.room.units0 I.kIn J hm.at_ hm.fn (thn q fun v s1 hv => ?_)
  obtain ⟨z, H', I', rz, i, rfl, hq⟩ := hv
  obtain ⟨t, rfl⟩ := rz
  exact ⟨.str i, H', I', ⟨_, rfl⟩, hq⟩
/-- repr(o) by the class's own __repr__ -/
theorem call_reprOwn {n : Nat} (c : C8.Met X.prog X.w X.K X.mg X.base n C "__repr__" sp []) (hr : Room (n + 1) X.A) : CallR X (.builtin "repr") (rStrOwn C sp) := by
  intro pins s σ H xs us Q I r h
  obtain ⟨a, dx, fs, rfl, ha, h⟩ := h
  obtain ⟨u, rfl, ru⟩ := vals1 r
  cases ru
  obtain ⟨mA, O, _⟩ := ins_get I.hok ha
  obtain ⟨od, J, _⟩ := O.look
  obtain ⟨m, hF⟩ := I.fr
  have sb := sub_in1 (n := n) hr
  obtain ⟨f, hm, q⟩ := run_met c sb I (vals_ref a) h
  refine PySem.W.repr_K sb.room.units0 hF I.ok.mod.kin J hm.at_ hm.fn (thn q fun v s1 hv => ?_)
  obtain ⟨z, H', I', rz, i, rfl, hq⟩ := hv
  obtain ⟨t, rfl⟩ := rz
  exact ⟨.str i, H', I', ⟨_, rfl⟩, hq⟩
end
end Sk

set_option maxHeartbeats 4000000
/-! More own rules: a star in a target, text times a number, == of dicts of ints, comprehensions that only add. -/
namespace Sk
open PySem PySem.Spec PyProof.Rows L2
theorem ns_only' {h : Heap} {L : Addr} {m m' : Str → Option Value} (x : h.Ns L m) (y : h.Ns L m') : m = m' := x.eq_nsMap.trans y.eq_nsMap.symm
theorem iteDT {c A B : Prop} [Decidable c] (hc : c) (h : A) : if decide c = true then A else B := by
  rw [decide_eq_true hc]
  exact iteT h
theorem iteDF {c A B : Prop} [Decidable c] (hc : ¬ c) (h : B) : if decide c = true then A else B := by
  rw [decide_eq_false hc]
  exact iteF h
theorem iteE {b : Bool} {A B : Prop} (b' : Bool) (e : b = b') (h : if b' = true then A else B) : if b = true then A else B := by
  rw [e]
  exact h
theorem iteB {b : Bool} {A B : Prop} (h1 : b = true → A) (h2 : b = false → B) : if b = true then A else B := by
  cases b with
  | true => exact h1 rfl
  | false => exact h2 rfl
/-! ### heaps -/
theorem same_upd {H : Hp} {p : Addr} {o : HO} (h : H p = none) : Same H (upd H p o) := fun b x e => by
  rw [upd_ne (ne_of_none e h)]
  exact e
theorem Same.upd {H H1 : Hp} {p : Addr} {o : HO} (e : Same H H1) (h : H1 p = none) : Same H (L2.upd H1 p o) := e.trans (same_upd h)
/-- an object that H does not know may change -/
theorem Same.mut {H H1 : Hp} {p : Addr} {o : HO} (e : Same H H1) (h : H p = none) : Same H (L2.upd H1 p o) := fun b x q => by
  rw [upd_ne (ne_of_none q h)]
  exact e b x q
theorem Same.seqT {K : PySem.W.Frag} {H H' : Hp} {a : Addr} {xs : List V} (e : Same H H') (h : SqT K H a xs) : SqT K H' a xs :=
  h.elim (fun h => .inl (h.elim (fun h => .inl (e _ _ h)) fun ⟨o, h⟩ => .inr ⟨o, e _ _ h⟩)) fun h => .inr h
/-- all but what stands at d is as it was -/
def But (d : Addr) (H H' : Hp) : Prop := ∀ b o, b ≠ d → H b = some o → H' b = some o
theorem But.refl (d : Addr) (H : Hp) : But d H H := fun _ _ _ h => h
theorem But.trans {d : Addr} {H H1 H2 : Hp} (a : But d H H1) (b : But d H1 H2) : But d H H2 := fun c o n h => b c o n (a c o n h)
theorem But.of {d : Addr} {H H1 : Hp} (a : Same H H1) : But d H H1 := fun c o _ h => a c o h
theorem But.upd {d : Addr} {H H1 : Hp} {o : HO} (a : But d H H1) : But d H (L2.upd H1 d o) := fun c u n h => by
  rw [upd_ne n]
  exact a c u n h
theorem But.new {d p : Addr} {H H1 : Hp} {o : HO} (a : But d H H1) (h : H1 p = none) : But d H (L2.upd H1 p o) := fun c u n e => by
  have := a c u n e
  rw [upd_ne (ne_of_none this h)]
  exact this
theorem But.none {d p : Addr} {H H1 : Hp} (a : But d H H1) (hd : ∃ o, H1 d = some o) (h : H1 p = none) : H p = none := by
  cases e : H p with
  | none => rfl
  | some o =>
    by_cases n : p = d
    · subst n
      obtain ⟨o', ho⟩ := hd
      rw [ho] at h
      cases h
    · rw [a p o n e] at h
      cases h
theorem obj_there {P : Program} {w : World} {H : Hp} {h : Heap} {a : Addr} {o : HO} (x : ObjOk P w H h a o) : ∃ u, h.get? a = some u := by
  induction o with
  | lst xs => obtain ⟨_, _, _, _, e⟩ := x; exact ⟨_, e⟩
  | tup xs => obtain ⟨_, _, _, _, e, _⟩ := x; exact ⟨_, e⟩
  | dK kvs => obtain ⟨_, _, _, _, _, _, _, e, _⟩ := x; exact ⟨_, e⟩
  | dT kvs => obtain ⟨_, _, _, _, _, _, _, e, _⟩ := x; exact ⟨_, e⟩
  | set S n => obtain ⟨_, _, _, _, e, _⟩ := x; exact ⟨_, e⟩
  | ins C dx fs => obtain ⟨_, _, _, e, _⟩ := x; exact ⟨_, e⟩
  | own y => exact x
  | xd fs => obtain ⟨_, ⟨_, _, _, e, _⟩, _⟩ := x; exact ⟨_, e⟩
  | rng lo hi => obtain ⟨_, _, _, e⟩ := x; exact ⟨_, e⟩
  | frz ob u ih => exact ⟨_, x.1⟩
  | tbl ps => exact ⟨_, (show h.get? a = some _ from x)⟩
  | met f y => exact ⟨_, (show h.get? a = some _ from x)⟩
  | ext φ => exact x.2.1
section
variable {X : Cx} {pins : List (Addr × Obj)} {σ : L2.St} {H : Hp} {s : Shared}
/-- behind a rule of the ledger that made one object more -/
theorem inv_made {h' : Heap} {tk : Nat} {D : Addr} {ob : Obj} {o : HO} {m : Str → Option Value} (I : Inv X pins σ H s) (F : Fr X.base X.env.locals s.heap m) (F' : Fr X.base X.env.locals h' m)
    (N' : News X.base X.env.locals h' ((D, ob) :: allNews X.base s.heap X.env.locals)) (lt : ∀ p ∈ allNews X.base s.heap X.env.locals, p.1 < D) (new : ObjOk X.prog X.w (upd H D o) h' D o) :
    H D = none ∧ Inv X pins σ (upd H D o) { s with heap := h', toks := tk } := by
  obtain ⟨eD, nL, nB⟩ := N' (D, ob) List.mem_cons_self
  have gone : s.heap.get? D = none := by
    cases e : s.heap.get? D with
    | none => rfl
    | some u => exact absurd (lt (D, u) (mem_allNews nL nB e)) (Nat.lt_irrefl _)
  have hD : H D = none := by
    cases e : H D with
    | none => rfl
    | some u =>
      obtain ⟨v, q⟩ := obj_there (I.hok D u e)
      rw [gone] at q
      cases q
  have keep : ∀ b u, b ≠ X.env.locals → s.heap.get? b = some u → h'.get? b = some u := fun b u n e => by
    cases q : X.base.get? b with
    | some v =>
      have z := I.bk b v q
      rw [e] at z
      cases z
      exact F'.keep b _ q
    | none => exact (N' (b, u) (List.mem_cons_of_mem _ (mem_allNews n q e))).1
  have neD : ∀ b u, s.heap.get? b = some u → b ≠ D := fun b u e z => by
    rw [z, gone] at e
    cases e
  refine ⟨hD, I.step (g' := s.gens) (d' := s.drawn) (ch := []) (fun _ z => nomatch z) (fun b u n _ _ e _ => keep b u n e) (fun b u n _ _ e _ => ⟨u.slots, keep b u n e⟩) (fun b u _ e n => by rw [upd_ne (neD b u e)]; exact n) (fun b u _ e => ?_)
    (fun b xs e => by rw [upd_ne (ne_of_none e hD)]; exact e) (fun b u xs e => by rw [upd_ne (ne_of_none e hD)]; exact e) (fun b ps e => ⟨#[], by rw [upd_ne (ne_of_none e hD), e]; simp⟩) (fun m' hm => ?_) (fun b u e => ?_) I.bare⟩
  · by_cases n : b = X.env.locals
    · obtain ⟨v, _, _, q, _⟩ := F'.ns
      exact ⟨v, by rw [n]; exact q⟩
    · exact ⟨u, keep b u n e⟩
  · rw [ns_only' hm F.ns]
    exact F'.ns
  · by_cases n : b = D
    · subst n
      rw [upd_same] at e
      cases e
      exact new
    · rw [upd_ne n] at e
      refine (I.hok b u e).stay (fun c v hc q => keep c v (fun z => ?_) q) (fun c q => by rw [upd_ne (ne_of_none q hD)]; exact q) fun c xs q => by rw [upd_ne (ne_of_none q hD)]; exact q
      subst z
      rcases hc with z | z
      · rw [← z] at e
        rw [I.free] at e
        cases e
      · rw [I.free] at z
        cases z
/-! ### a, *b = a list -/
def gStar2 (K : PySem.W.Frag) (t : TGs) : TG := fun v σ H Q => ∃ a x rest, v = .ref a ∧ SqL K H a (x :: rest) ∧ rest.length ≤ 16000 ∧ ∀ D, H D = none → t [x, .ref D] σ (upd H D (.lst rest)) Q
theorem pgs_consS {e : Expr} {es : List Expr} {t : TG} {u : TGs} {p : Pos} (h1 : PG X e t) (h2 : PGs X es u)
    (hs : (assignEach (.Starred e p :: es) X.env).map (·.2) = assign e X.env :: (assignEach es X.env).map (·.2) := by rfl) : PGs X (.Starred e p :: es) (gCons t u) := by
  refine ⟨fun pins s σ H vs us Q I r h => ?_⟩
  obtain ⟨v, vr, e1, h⟩ := h
  subst e1
  cases r with
  | cons r rr =>
    rw [hs]
    refine assignInOrder_cons (thn (h1.run pins s σ H _ _ _ I r h) fun _ s1 ⟨σ1, H1, I1, q1⟩ => ?_)
    exact h2.run pins s1 σ1 H1 _ _ Q I1 rr q1
theorem pg_star2 {es : List Expr} {k : Nat} {t : TGs} {pos : Pos} (hc : X.calm = true) (h : PGs X es t)
    (hn : (assignEach es X.env).length = 2 := by rfl) (hst : (assignEach es X.env).findIdx? (·.1) = some 1 := by rfl) : PG X (.Tuple es k pos) (gStar2 X.K t) := by
  refine ⟨fun pins s σ H v u Q I r hw => ?_⟩
  obtain ⟨a, x, rest, e1, hq, hl, hw⟩ := hw
  subst e1
  cases r
  obtain ⟨its, rv, ht, hz⟩ := I.list hq
  obtain ⟨m, hF⟩ := I.fr
  cases rv with
  | cons rx rr =>
    rename_i u0 us
    have el := rr.length
    refine PySem.W.kun_assignL (n := 2) (i := 1) (first := [u0]) (mids := us) (lasts := []) hF (news_all (h := s.heap)) ht.isList (I.ok.hd hc) hn hst (by decide) (by simp) (by simp only [List.size_toArray, List.length_cons] <;> omega) rfl (by simp) (by simp) (fun D h' tk F' N' hlt => ?_)
    obtain ⟨hD, I1⟩ := inv_made (tk := tk) (o := .lst rest) I hF F' N' hlt ⟨by rw [sizeLine_eq]; omega, us, 0, rr, (N' _ List.mem_cons_self).1⟩
    exact h.run pins _ σ _ _ _ Q I1 (.cons rx (.cons (show RelV (V.ref D) (Value.ref D) from rfl) .nil)) (hw D hD)
/-! ### text * number -/
theorem op_mul_str : OpR X (binaryOp .Mult) (fun x y H Q => ∃ z n, x = .str z ∧ y = .int n ∧ 0 ≤ n ∧ n ≤ 1000 ∧ z.length ≤ 16000 ∧ Q (.str (Txt.mul z n)) H) := by
  intro pins s σ H x y v u Q I rx ry h
  obtain ⟨z, n, rfl, rfl, h0, h1, hz, q⟩ := h
  obtain ⟨t, rfl⟩ := rx
  obtain ⟨t', rfl⟩ := ry
  refine SB.mul ⟨?_, fun _ _ => ?_, fun _ _ => ?_⟩ fun t' k => ⟨.str _, H, I.tok _, ⟨_, rfl⟩, q⟩
  · rw [decide_eq_false (by omega), decide_eq_false (by omega)]
    rfl
  · have e : (16000 : Int) ≤ (2 ^ 63 - 1) / n := by
      rw [Int.le_ediv_iff_mul_le (by omega)]
      omega
    omega
  · have e : z.length * n.toNat ≤ 16000 * 1000 := Nat.mul_le_mul hz (by omega)
    show decide (_ > sizeLine) = false
    exact decide_eq_false (by rw [sizeLine_eq]; omega)
end
/-! ### dicts of whole numbers, by texts -/
def kvS (cs : List (Str × Int)) : List (Key × V) := cs.map fun p => (Sum.inr p.1, V.int p.2)
def look (cs : List (Str × Int)) (n : Str) : Option Int := (cs.find? fun p => decide (p.1 = n)).map (·.2)
theorem valV_kvS (cs : List (Str × Int)) (n : Str) : valV (kvS cs) (Sum.inr n) = (look cs n).map V.int := by
  induction cs with
  | nil => rfl
  | cons p r ih =>
    by_cases e : p.1 = n
    · simp [kvS, look, valV, e]
    · have h1 : ¬ (Sum.inr p.1 : Key) = Sum.inr n := fun q => e (Sum.inr.inj q)
      show valV ((Sum.inr p.1, V.int p.2) :: kvS r) (Sum.inr n) = _
      rw [valV_neg h1, ih]
      simp [look, e]
theorem look_cons (p : Str × Int) (r : List (Str × Int)) (n : Str) : look (p :: r) n = if p.1 = n then some p.2 else look r n := by
  by_cases e : p.1 = n
  · simp [look, e]
  · simp [look, e]
def put (cs : List (Str × Int)) (n : Str) (c : Int) : List (Str × Int) := if (cs.any fun p => decide (p.1 = n)) = true then cs.map fun p => if p.1 = n then (p.1, c) else p else cs ++ [(n, c)]
theorem putK_kvS (cs : List (Str × Int)) (n : Str) (c : Int) : putK (kvS cs) (Sum.inr n) (V.int c) = kvS (put cs n c) := by
  have key : ∀ p : Str × Int, decide ((Sum.inr p.1 : Key) = Sum.inr n) = decide (p.1 = n) := fun p => decide_eq_decide.mpr ⟨fun e => Sum.inr.inj e, fun e => by rw [e]⟩
  have e1 : ((kvS cs).any fun kv => decide (kv.1 = (Sum.inr n : Key))) = cs.any fun p => decide (p.1 = n) := by
    unfold kvS
    rw [List.any_map]
    exact congrArg cs.any (funext key)
  unfold putK put
  rw [e1]
  split
  · unfold kvS
    rw [List.map_map, List.map_map]
    refine List.map_congr_left fun p _ => ?_
    show (if (Sum.inr p.1 : Key) = Sum.inr n then _ else _) = _
    by_cases e : p.1 = n
    · rw [if_pos (by rw [e])]
      simp [e]
    · rw [if_neg fun q => e (Sum.inr.inj q)]
      simp [e]
  · unfold kvS
    rw [List.map_append]
    rfl
theorem length_put (cs : List (Str × Int)) (n : Str) (c : Int) : (put cs n c).length ≤ cs.length + 1 := by
  unfold put
  split
  · rw [List.length_map]
    omega
  · simp
theorem look_put (cs : List (Str × Int)) (n m : Str) (c : Int) : look (put cs n c) m = if m = n then some c else look cs m := by
  have h := valV_put (kvS cs) (Sum.inr n) (Sum.inr m) (V.int c)
  rw [putK_kvS, valV_kvS, valV_kvS] at h
  by_cases e : m = n
  · subst e
    rw [if_pos rfl] at h
    rw [if_pos rfl]
    cases q : look (put cs m c) m with
    | none => rw [q] at h; cases h
    | some z =>
      rw [q] at h
      injection h with h
      injection h with h
      rw [h]
  · rw [if_neg fun q => e (Sum.inr.inj q)] at h
    rw [if_neg e]
    cases q : look (put cs n c) m with
    | none =>
      rw [q] at h
      cases q2 : look cs m with
      | none => rfl
      | some z => rw [q2] at h; cases h
    | some z =>
      rw [q] at h
      cases q2 : look cs m with
      | none => rw [q2] at h; cases h
      | some y =>
        rw [q2] at h
        injection h with h
        injection h with h
        rw [h]
theorem dget_kv {H : Hp} {d : Addr} {cs : List (Str × Int)} (n : Str) (h : H d = some (.dK (kvS cs))) : DGet H d (.str n) ((look cs n).map V.int) := by
  have := DGet.k (k := Sum.inr n) h
  rw [valV_kvS] at this
  exact this
theorem dget_f {H : Hp} {d : Addr} {o : Obj} {cs : List (Str × Int)} (n : Str) (h : H d = some (.frz o (.dK (kvS cs)))) : DGet H d (.str n) ((look cs n).map V.int) := by
  rw [← valV_kvS]
  exact .inl ⟨kvS cs, Sum.inr n, .inr ⟨o, h⟩, rfl, rfl⟩
theorem dput_kv {H : Hp} {d : Addr} {cs : List (Str × Int)} (n : Str) (c : Int) (h : H d = some (.dK (kvS cs))) (hl : cs.length < 16000) : DPut H d (.str n) (.int c) (upd H d (.dK (kvS (put cs n c)))) := by
  have := DPut.k (k := Sum.inr n) (v := V.int c) h (by rw [sizeLine_eq]; unfold kvS; rw [List.length_map]; omega)
  rw [putK_kvS] at this
  exact this
theorem getD_kv (o : Option Int) (d : Int) : (o.map V.int).getD (.int d) = .int (o.getD d) := by cases o <;> rfl
section
variable {X : Cx}
theorem hits_ints {A : Around} {s : Shared} {ls : List (Str × Int)} {vb : List (Key × Value)} (rb : KV (kvS ls) vb) : ∀ {ks : List (Str × Int)} {va : List (Key × Value)}, KV (kvS ks) va →
    PySem.W.KeqHits A s vb va (ks.all fun p => decide (look ls p.1 = some p.2))
  | [], va, ra => by
    cases ra
    exact .nil
  | p :: ks, va, ra => by
    have ra' : KV ((Sum.inr p.1, V.int p.2) :: kvS ks) va := ra
    cases ra' with
    | @cons _ q _ qs h t =>
      obtain ⟨k, v⟩ := q
      obtain ⟨h1, h2⟩ := h
      have h1 : (Sum.inr p.1 : Key) = k := h1
      subst h1
      obtain ⟨tv, rfl⟩ := h2
      have ih := hits_ints (A := A) (s := s) rb (ks := ks) t
      have rr : RelO (valV (kvS ls) (Sum.inr p.1)) (valueAt vb (Sum.inr p.1)) := rb.val _
      rw [valV_kvS] at rr
      rw [List.all_cons]
      cases e : look ls p.1 with
      | none =>
        rw [e] at rr
        cases ev : valueAt vb (Sum.inr p.1) with
        | none =>
          rw [decide_eq_false (fun z => nomatch z), Bool.false_and]
          exact .miss ev
        | some y =>
          rw [ev] at rr
          exact rr.elim
      | some z =>
        rw [e] at rr
        obtain ⟨y, hy, ry⟩ := RelO.some_of rr
        have q := eqAt_V (A := A) (s := s) (show RelV (V.int p.2) (Value.int p.2 tv) from ⟨tv, rfl⟩) ry rfl rfl
        have eb : eqV (V.int p.2) (V.int z) = decide (some z = some p.2) := by
          show (p.2 == z) = _
          rw [Bool.beq_eq_decide_eq]
          exact decide_eq_decide.mpr ⟨fun e => by rw [e], fun e => (Option.some.inj e).symm⟩
        rw [eb] at q
        exact .hit hy q ih
def sameC (ks ls : List (Str × Int)) : Bool := ks.length == ls.length && ks.all fun p => decide (look ls p.1 = some p.2)
def rEqDI (neg : Bool) : R2 := fun x y H Q => ∃ a b ks ls, x = .ref a ∧ y = .ref b ∧ H a = some (.dK (kvS ks)) ∧ H b = some (.dK (kvS ls)) ∧ Q (.bl (if neg then !sameC ks ls else sameC ks ls)) H
theorem op_eqDict (hu : X.A.units < cLine) : OpR X (compareOp .Eq) (rEqDI false) := by
  intro pins s σ H x y v u Q I rx ry h
  obtain ⟨a, b, ks, ls, rfl, rfl, ea, eb, q⟩ := h
  obtain rfl : v = Value.ref a := rx
  obtain rfl : u = Value.ref b := ry
  obtain ⟨_, ya, va, ra, da⟩ := (show ObjOk X.prog X.w H s.heap a (.dK (kvS ks)) from I.hok a _ ea)
  obtain ⟨_, yb, vb, rb, db⟩ := (show ObjOk X.prog X.w H s.heap b (.dK (kvS ls)) from I.hok b _ eb)
  have la : va.length = ks.length := by rw [← ra.length]; simp [kvS]
  have lb : vb.length = ls.length := by rw [← rb.length]; simp [kvS]
  exact PySem.W.keq_eq (knd := mixKind X.prog X.w) ya yb da db hu (fun _ => hits_ints rb ra) ⟨.bl _, H, I, by rw [la, lb]; rfl, q⟩
theorem op_neDict (hu : X.A.units < cLine) : OpR X (compareOp .NotEq) (rEqDI true) := by
  intro pins s σ H x y v u Q I rx ry h
  obtain ⟨a, b, ks, ls, rfl, rfl, ea, eb, q⟩ := h
  obtain rfl : v = Value.ref a := rx
  obtain rfl : u = Value.ref b := ry
  obtain ⟨_, ya, va, ra, da⟩ := (show ObjOk X.prog X.w H s.heap a (.dK (kvS ks)) from I.hok a _ ea)
  obtain ⟨_, yb, vb, rb, db⟩ := (show ObjOk X.prog X.w H s.heap b (.dK (kvS ls)) from I.hok b _ eb)
  have la : va.length = ks.length := by rw [← ra.length]; simp [kvS]
  have lb : vb.length = ls.length := by rw [← rb.length]; simp [kvS]
  exact PySem.W.keq_ne (knd := mixKind X.prog X.w) ya yb da db hu (fun _ => hits_ints rb ra) ⟨.bl _, H, I, by rw [la, lb]; rfl, q⟩
end
/-! ### comprehensions that only add -/
section
variable {J : It} {n : Nat} {G : Hp → Prop} {Y : Nat → Hp → V → Hp → Prop}
/-- each turn gives f i and only adds to the heap -/
theorem lc_same (w : Walk J n G Y) {g : TG} {te : TE} {vs : List Nat} {σ : L2.St} {H1 : Hp} {D : Addr} {Qd : Hp → Prop} (f : Nat → V) (hD : H1 D = none) (hn : n < sizeLine) (hG : ∀ H, Same H1 H → G H)
    (hs : ∀ i x H H', i < n → Same H1 H → Y i H x H' → ∀ k : V → Hp → Prop, (∀ H4, Same H H4 → k (f i) H4) → g x (wipe σ vs) H' fun σ2 H2 => wipe σ2 vs = wipe σ vs ∧ te σ2 H2 k) (hd : ∀ H, Same H1 H → H D = some (.lst ((List.range n).map f)) → Qd H) :
    ∃ W : Nat → Nat → Hp → Prop, (∃ m, W 0 m (upd H1 D (.lst []))) ∧ ∀ i m H, W i m H →
      (J.stop i H ∧ Qd H) ∨ (J.go i H ∧ ∃ Nx : Hp → Prop, (∀ H', Nx H' → ∃ m', m' < m ∧ W (i + 1) m' H') ∧ ∀ x H', J.yld i H x H' → g x (wipe σ vs) H' fun σ2 H2 => wipe σ2 vs = wipe σ vs ∧ tYes σ2 H2 fun b H3 =>
        if b = true then te σ2 H3 fun y H4 => ∃ acc, H4 D = some (.lst acc) ∧ acc.length < sizeLine ∧ Nx (upd H4 D (.lst (acc ++ [y]))) else Nx H3) := by
  refine lc_it w (fun i H => Same H1 H ∧ H D = some (.lst ((List.range i).map f))) ⟨same_upd hD, upd_same⟩ (fun i H _ p => hG H p.1) (fun i x H H' hi p y => ?_) (fun H p => hd H p.1 p.2)
  obtain ⟨p1, p2⟩ := p
  refine hs i x H H' hi p1 y _ fun H4 e => ⟨_, e _ _ p2, ?_, ?_, ?_⟩
  · rw [List.length_map, List.length_range]
    omega
  · exact Same.mut (p1.trans e) hD
  · rw [upd_same, List.range_succ, List.map_append] <;> rfl
end
theorem map_range {α : Type} (l : List Nat) (f : Nat → α) : (List.range l.length).map (fun i => f (l.getD i 0)) = l.map f := by
  apply List.ext_getElem (by simp)
  intro i h1 h2
  have h3 : i < l.length := by simpa using h2
  simp [List.getD, h3]
/-- all([.. for c in a text]) -/
theorem all_strR {K : PySem.W.Frag} {te : TE} {g : TG} {vs : List Nat} {σ : L2.St} {H : Hp} {Q : VK} {ts : TE} {z : Str} (p : Nat → Bool) (ht : ∀ k : VK, k (.str z) H → ts σ H k) (hz : z.length ≤ 100000)
    (turn : ∀ (c : Nat) (H1 : Hp) (k : VK), Same H H1 → k (.bl (p c)) H1 → g (.str ⟨#[c]⟩) (wipe σ vs) H1 fun σ2 H2 => wipe σ2 vs = wipe σ vs ∧ te σ2 H2 k) (k : ∀ H', Same H H' → Q (.bl (z.cps.toList.all p)) H') :
    tCB (rAll K) (tCons (tLc (iStr ts) g tYes te vs) tNil) σ H Q := by
  have hl : z.length = z.cps.toList.length := by simp [Str.length]
  refine ht _ ⟨z, rfl, fun D hD => lc_same (walk_str (z := z)) (fun i => V.bl (p (z.cps.toList.getD i 0))) hD (by rw [sizeLine_eq]; show z.length < _; omega) (fun _ _ => trivial) (fun i x H1 H2 hi sm y q hq => ?_) (fun H1 sm hD1 => ?_)⟩
  · obtain ⟨rfl, c, hc, rfl⟩ := y
    have ec : z.cps.toList.getD i 0 = c := by
      have h2 : z.cps.toList[i]? = some c := by rw [Array.getElem?_toList]; exact hc
      simp [List.getD, h2]
    rw [ec] at hq
    exact turn c _ q sm (hq _ (Same.refl _))
  · refine ⟨D, (List.range z.cps.toList.length).map fun i => p (z.cps.toList.getD i 0), rfl, ?_, ?_⟩
    · rw [List.map_map]
      exact SqL.of hD1
    · rw [map_range z.cps.toList p, List.all_map]
      exact k H1 sm
/-! ### the same rules with the frame's heap named: inside a block the reading must not name the block's own state -/
section
variable {X : Cx}
theorem pe_fldK (K : PySem.W.Frag) {e : Expr} {f : Str} {ta : TE} {pos : Pos} (he : PE X e ta) (hb : attributeBase e f X.env (eval e X.env) = eval e X.env) (hK : X.K = K := by rfl) : PE X (.Attribute e f pos) (tFld K ta f) := hK ▸ pe_fld he hb
theorem ix_listK (K : PySem.W.Frag) (hK : X.K = K := by rfl) : IxR X (rIxL K) := hK ▸ ix_list
theorem ix_tupK (K : PySem.W.Frag) (hK : X.K = K := by rfl) : IxR X (rIxT K) := hK ▸ ix_tup
theorem op_inK (K : PySem.W.Frag) (hK : X.K = K := by rfl) : OpR X (compareOp .In) (rIn K false) := hK ▸ op_in_seq
theorem op_notInK (K : PySem.W.Frag) (hK : X.K = K := by rfl) : OpR X (compareOp .NotIn) (rIn K true) := hK ▸ op_notIn_seq
def rLenSeq (K : PySem.W.Frag) : List V → Hp → VK → Prop := fun xs H Q => ∃ p ys, xs = [.ref p] ∧ (SqL K H p ys ∨ SqT K H p ys) ∧ Q (.int ys.length) H
theorem call_lenK (K : PySem.W.Frag) (hK : X.K = K := by rfl) : CallR X (.builtin "len") (rLenSeq K) := hK ▸ call_len_seq
theorem cr_allK (K : PySem.W.Frag) (hc : X.calm = true) (hK : X.K = K := by rfl) : CallR X (.builtin "all") (rAll K) := hK ▸ cr_all hc
theorem cr_anyK (K : PySem.W.Frag) (hc : X.calm = true) (hK : X.K = K := by rfl) : CallR X (.builtin "any") (rAny K) := hK ▸ cr_any hc
theorem cr_sumK (K : PySem.W.Frag) (hc : X.calm = true) (hK : X.K = K := by rfl) : CallR X (.builtin "sum") (rSum K) := hK ▸ cr_sum hc
theorem cr_maxK (K : PySem.W.Frag) (hc : X.calm = true) (hK : X.K = K := by rfl) : CallR X (.builtin "max") (rMax K) := hK ▸ cr_max hc
theorem cr_minK (K : PySem.W.Frag) (hc : X.calm = true) (hK : X.K = K := by rfl) : CallR X (.builtin "min") (rMin K) := hK ▸ cr_min hc
theorem pi_listK (K : PySem.W.Frag) {tg l : Expr} {tl : TE} (hl : PE X l tl) (hK : X.K = K := by rfl) : PI X tg l (iList K tl) := hK ▸ pi_list hl
theorem pi_tupK (K : PySem.W.Frag) {tg l : Expr} {tl : TE} (hl : PE X l tl) (hK : X.K = K := by rfl) : PI X tg l (iTup K tl) := hK ▸ pi_tup hl
theorem call_isiK (K : PySem.W.Frag) (hK : X.K = K := by rfl) : CallR X (.builtin "isinstance") (rIsi K) := hK ▸ call_isi
theorem sl_listK (K : PySem.W.Frag) (hK : X.K = K := by rfl) : SlR X (rSlL K) := hK ▸ sl_list
theorem op_eqDK (K : PySem.W.Frag) (hu : X.A.units + 64 < cLine) (hK : X.K = K := by rfl) : OpR X (compareOp .Eq) (rEqD K) := hK ▸ op_eqD hu
theorem op_neDK (K : PySem.W.Frag) (hu : X.A.units + 64 < cLine) (hK : X.K = K := by rfl) : OpR X (compareOp .NotEq) (rNeD K) := hK ▸ op_neD hu
theorem cr_sortedSK (K : PySem.W.Frag) (hK : X.K = K := by rfl) : CallR X (.builtin "sorted") (rSortedS K) := hK ▸ cr_sortedS
def rListOf (K : PySem.W.Frag) : List V → Hp → VK → Prop := fun xs H Q => ∃ p ys, xs = [.ref p] ∧ (SqL K H p ys ∨ SqT K H p ys) ∧ ∀ l, H l = none → Q (.ref l) (upd H l (.lst ys))
theorem call_listK (K : PySem.W.Frag) (hK : X.K = K := by rfl) : CallR X (.type "list") (rListOf K) := hK ▸ call_list_of
theorem mt_indexK (K : PySem.W.Frag) (hK : X.K = K := by rfl) : MtR X "list.index" (rIndex K) := hK ▸ mt_index
def rJoin (K : PySem.W.Frag) : V → List V → Hp → VK → Prop := fun x xs H Q => ∃ a p, ∃ ys : List Str, x = .str a ∧ xs = [.ref p] ∧ (SqL K H p (ys.map V.str) ∨ SqT K H p (ys.map V.str)) ∧ (ys.map (·.length)).sum + ys.length * a.length ≤ 16777216 ∧ Q (.str (Txt.join a ys)) H
theorem pe_joinK (K : PySem.W.Frag) {o e : Expr} {to te : TE} {apos pos : Pos} (ho : PE X o to) (he : PE X e te) (hs : starEach [e] X.env = [(false, eval e X.env)] := by rfl) (hbase : attributeBase o "join" X.env (eval o X.env) = eval o X.env := by rfl) (hline : (apos.endLine == pos.line) = true := by rfl) (hK : X.K = K := by rfl) :
    PE X (.Call (.Attribute o "join" apos) [e] [] pos) (tM1 (rJoin K) to te) := hK ▸ pe_join ho he hs hbase hline
theorem ps_fldK (K : PySem.W.Frag) {o value : Expr} {f : Str} {ta tv : TE} {pos pos' : Pos} (ha : PE X o ta) (hv : PE X value tv) (hs : swapsWith value (some (.Attribute o f pos')) pos.line X.env = pure false) (hK : X.K = K := by rfl) : PS X (.Assign [.Attribute o f pos'] value pos) (sFld K ta tv f) := hK ▸ ps_fld ha hv hs
end
/-! ### comprehensions of two clauses -/
section
variable {J J1 : It} {n n1 : Nat} {G G1 : Hp → Prop} {Y Y1 : Nat → Hp → V → Hp → Prop}
theorem tyesK {σ : L2.St} {H : Hp} {k : Bool → Hp → Prop} (h : k true H) : tYes σ H k := h
/-- the outer walk: B i Nx tells the body of a turn -/
theorem lc2_out (w : Walk J n G Y) {H0 : Hp} {Qd : Hp → Prop} {B : (Hp → Prop) → V → Hp → Prop} (Pv : Nat → Hp → Prop) (h0 : Pv 0 H0) (hG : ∀ i H, i ≤ n → Pv i H → G H)
    (hs : ∀ i x H H', i < n → Pv i H → Y i H x H' → B (Pv (i + 1)) x H') (hd : ∀ H, Pv n H → Qd H) :
    ∃ W : Nat → Nat → Hp → Prop, (∃ m, W 0 m H0) ∧ ∀ i m H, W i m H →
      (J.stop i H ∧ Qd H) ∨ (J.go i H ∧ ∃ Nx : Hp → Prop, (∀ H', Nx H' → ∃ m', m' < m ∧ W (i + 1) m' H') ∧ ∀ x H', J.yld i H x H' → B Nx x H') := by
  refine ⟨fun i m H => m = n - i ∧ i ≤ n ∧ Pv i H, ⟨n, by simp, Nat.zero_le _, h0⟩, ?_⟩
  rintro i m H ⟨rfl, hi, p⟩
  have q := hG i H hi p
  by_cases hlt : i < n
  · exact .inr ⟨w.goes i H hlt q, Pv (i + 1), fun H' p' => ⟨n - (i + 1), by omega, rfl, hlt, p'⟩, fun x H' y => hs i x H H' hlt p (w.yields i H x H' hlt q y)⟩
  · have e : i = n := by omega
    subst e
    exact .inl ⟨w.stops H q, hd H p⟩
end
end Sk

set_option maxHeartbeats 4000000
/-! == and != by a class's own __eq__ -/
namespace Sk
open PySem PySem.Spec PyProof.Rows L2 PySem.W
section
variable {prog : Program} {w : World} {A : Around} {E : Value → Shared → Prop} {s : Shared} {K : Frag} {x C L f : Addr} {h₀ : Heap} {m : Str → Option Value} {ox : Obj} {od : Option Obj} {b tb : Value}
theorem neNonly {op : CmpOp} {Q : Value → Shared → Prop} (hu : A.units < cLine) (X : K.In s.heap) (I : InstAt s.heap x ox C od) (hb : Looks (model prog w) s.heap (typeOf b) tb) (hn : notFirst K C tb = true)
    (one : wpAny (model prog w) A (tryCompare (.ref x) (cmpInfo op).2.1 b) (fun r s' => ∃ v, r = some v ∧ Q v s') E s) : wpAny (model prog w) A (richCompare op (.ref x) b) Q E s := by
  unfold richCompare
  simp only [oneThing_ref]
  refine wpAny_holding (wpAny_bind (wpAny_cRoomFor hu ?_))
  refine wpAny_bind (I.type.here (wpAny_bind (hb.here ?_)))
  split
  · rename_i q
    have e : subIn K tb (.ref C) = some false := by
      rcases Bool.or_eq_true_iff.mp hn with e | e
      · rw [beq_iff_eq.mp e] at q; simp at q
      · exact beq_iff_eq.mp e
    refine wpAny_bind ((looks_subIn X e).here ?_)
    simp only [Bool.false_eq_true, if_false]
    refine wpAny_bind (wpAny_mono one (fun r s' z => ?_) fun _ _ e => e)
    obtain ⟨v, rfl, hq⟩ := z
    exact wpAny_pure hq
  · refine wpAny_bind (wpAny_pure ?_)
    simp only [Bool.false_eq_true, if_false]
    refine wpAny_bind (wpAny_mono one (fun r s' z => ?_) fun _ _ e => e)
    obtain ⟨v, rfl, hq⟩ := z
    exact wpAny_pure hq
theorem isInst_K {M : Model} {owner : Value} {Q : Bool → Shared → Prop} (X : K.In s.heap) (I : InstAt s.heap x ox C od) (hm : mroIn K C owner = some true) (h : Q true s) : wpAny M A (isInstance (.ref x) owner) Q E s := by
  unfold isInstance
  exact wpAny_bind (I.type.here ((looks_mroIn X hm).here h))
theorem objNe_K {Q : Fin → Shared → Prop} (hu : A.units < cLine) (X : K.In s.heap) (I : InstAt s.heap x ox C od) (hs : findIn K (.ref C) "__eq__" = some (some (.ref f))) (hf : isFn K (.ref f) = true)
    (h : wpAny (model prog w) A (call (.ref f) [.ref x, b]) (fun v s' => ∃ r, v = .bool r ∧ Q (.done (.ret (.bool (!r)))) s') E s) : wpAny (model prog w) A (Builtin.«object.__ne__» ⟨[.ref x, b], []⟩) Q E s := by
  obtain ⟨hp, g, d, t, os⟩ := s
  unfold Builtin.«object.__ne__»
  repeat (first
    | with_reducible refine wpAny_cRoomFor hu ?_
    | (refine wpAny_bind (m := callSpecialIfBound? (.ref x) (Str.ofString "__eq__") [b])
        (ifBound_K X I hs hf (wpAny_mono h (fun r s' hr => by
          obtain ⟨b, rfl, hq⟩ := hr
          repeat (first | exact hq | exact wpAny_pure hq | exact wpAny_truthy_bool hq | (refine wpAny_bind (m := truthy (.bool _)) (wpAny_truthy_bool ?_)) | wp_step)) fun _ _ e => e)))
    | wp_step)
theorem check_K {M : Model} {id owner n : String} {rest : List Value} {Q : Unit → Shared → Prop} (hk : builtinKind id = some .slot) (hs : splitId id = some (owner, n)) (ha : argsOk id ⟨.ref x :: rest, []⟩) (X : K.In s.heap) (I : InstAt s.heap x ox C od)
    (hm : mroIn K C (.type owner) = some true) (hq : Q () s) : wpAny M A (checkBuiltinCall id ⟨.ref x :: rest, []⟩) Q E s := by
  obtain ⟨h, g, d, t, os⟩ := s
  simp only [checkBuiltinCall, hk, hs]
  refine wpAny_bind ?_
  · refine isInst_K X I hm ?_
    repeat wp_step
    cases hsig : Manifest.signature? id with
    | none => exact wpAny_pure hq
    | some sig =>
      simp only [argsOk, hsig] at ha
      have h2 : Bind.checkArgs id sig ⟨.ref x :: rest, []⟩ = pure () := ha
      show wpAny M A (Bind.checkArgs id sig ⟨.ref x :: rest, []⟩) Q E _
      rw [h2]; exact wpAny_pure hq
theorem tryNe_K {Q : Option Value → Shared → Prop} (hu : A.units + 1 < cLine) (X : K.In s.heap) (I : InstAt s.heap x ox C od) (hs : findIn K (.ref C) "__eq__" = some (some (.ref f))) (hf : isFn K (.ref f) = true)
    (hne : findIn K (.ref C) "__ne__" = some (some (.builtin "object.__ne__"))) (hm : mroIn K C (.type "object") = some true)
    (h : wpAny (model prog w) A.in1 (call (.ref f) [.ref x, b]) (fun v s' => ∃ r, v = .bool r ∧ Q (some (.bool (!r))) s') E s) : wpAny (model prog w) A (tryCompare (.ref x) "__ne__" b) Q E s := by
  have S := F.cmp_object.ne
  have main : wpAny (model prog w) A (call (.builtin "object.__ne__") [.ref x, b]) (fun v s' => ∃ r : Bool, v = .bool r ∧ Q (some (.bool r)) s') E s := by
    refine wpAny_call (codeAny_call_builtin S.plain F.cmpEntry_ne (check_K F.cmpKind_ne F.cmpSplit_ne (F.cmpArgs_ne _ _) X I hm (objNe_K (A := A.in1) hu X I hs hf (wpAny_mono h (fun v s' hv => ?_) fun _ _ e => e))))
    obtain ⟨r, rfl, q⟩ := hv
    exact ⟨r, rfl, _, rfl, q⟩
  unfold tryCompare
  refine wpAny_bind (m := callSpecialIfBound? (.ref x) "__ne__" [b]) ?_
  simp only [callSpecialIfBound?, bindSpecialIfBound?]
  refine wpAny_holding (wpAny_bind (wpAny_bind (wpAny_bind (I.type.here ((looks_findIn X hne).here ?_)))))
  simp only [S.bind]
  have fin : wpAny (model prog w) A (call (.builtin "object.__ne__") ([.ref x] ++ [b]) >>= fun v => pure (some v)) (fun r s' => ∃ v : Bool, r = some (Value.bool v) ∧ Q (some (.bool v)) s') E s :=
    wpAny_bind (wpAny_mono main (fun v s' h' => wpAny_pure (by obtain ⟨r, rfl, q⟩ := h'; exact ⟨r, rfl, q⟩)) fun _ _ h' => h')
  refine wpAny_bind (wpAny_askSetting (wpAny_ite ?_))
  split
  · refine wpAny_bind (wpAny_pure (wpAny_pure (wpAny_mono fin (fun v s' h' => ?_) fun _ _ e => e)))
    obtain ⟨r, rfl, q⟩ := h'
    exact wpAny_pure q
  · refine wpAny_tryCatch (wpAny_bind (wpAny_pure (wpAny_pure (wpAny_mono fin (fun v s' h' => ?_) fun _ _ e => e))))
    obtain ⟨r, rfl, q⟩ := h'
    exact wpAny_pure q
end
section
variable {X : Cx} {sp : Sp} {C : Addr}
theorem looks_ty {pins : List (Addr × Obj)} {s : Shared} {σ : L2.St} {H : Hp} {y : V} {u t : Value} (I : Inv X pins σ H s) (ry : RelV y u) (ty : TyX X.K H y t) : Looks (model X.prog X.w) s.heap (typeOf u) t := by
  obtain ⟨P, Z, p, _⟩ := kit_of I ry ty
  exact Z.ty _ _ I.kIn p
/-- x == y by x's own __eq__; what stands right is of no class below x's -/
def rEqOwn (K : Frag) (C : Addr) (sp : Sp) (neg : Bool) : R2 := fun x y H Q => ∃ a dx fs t, x = .ref a ∧ H a = some (.ins C dx fs) ∧ TyX K H y t ∧ notFirst K C t = true ∧ sp [.ref a, y] H (fun v H' => ∃ b, v = .bl b ∧ Q (.bl (if neg then !b else b)) H') C8.E0
theorem op_eqOwn (K : Frag) {n : Nat} (c : C8.Met X.prog X.w X.K X.mg X.base n C "__eq__" sp []) (hr : Room (n + 1) X.A) (hK : X.K = K := by rfl) : OpR X (compareOp .Eq) (rEqOwn K C sp false) := by
  subst hK
  intro pins s σ H x y v u Q I rx ry h
  obtain ⟨a, dx, fs, t, rfl, ha, ty, nf, h⟩ := h
  cases rx
  obtain ⟨mA, O, _⟩ := ins_get I.hok ha
  obtain ⟨od, J, _⟩ := O.look
  obtain ⟨m, hF⟩ := I.fr
  obtain ⟨f, hm, q⟩ := run_met c ⟨hr.mono (Nat.le_succ _), rfl⟩ I (.cons (show RelV (V.ref a) (Value.ref a) from rfl) (.cons ry .nil)) h
  refine PySem.W.cmp_K (op := .Eq) hr.units0 hF I.ok.mod.kin J (looks_ty I ry ty) nf hm.at_ hm.fn (thn q fun v s1 hv => ?_)
  obtain ⟨z, H', I', rz, b, rfl, hq⟩ := hv
  cases rz
  exact ⟨.bl b, H', I', rfl, hq⟩
theorem op_neOwn (K : Frag) {n : Nat} (c : C8.Met X.prog X.w X.K X.mg X.base n C "__eq__" sp []) (i : IsiC K C) (hr : Room (n + 1) X.A) (hK : X.K = K := by rfl) : OpR X (compareOp .NotEq) (rEqOwn K C sp true) := by
  subst hK
  intro pins s σ H x y v u Q I rx ry h
  obtain ⟨a, dx, fs, t, rfl, ha, ty, nf, h⟩ := h
  cases rx
  obtain ⟨mA, O, _⟩ := ins_get I.hok ha
  obtain ⟨od, J, _⟩ := O.look
  obtain ⟨f, hm, q⟩ := run_met c (sub_in1 hr) I (.cons (show RelV (V.ref a) (Value.ref a) from rfl) (.cons ry .nil)) h
  refine neNonly (op := .NotEq) hr.units0 I.kIn J (looks_ty I ry ty) nf (tryNe_K (by have := hr.units; omega) I.kIn J hm.at_ hm.fn i.ne i.hm (thn q fun v s1 hv => ?_))
  obtain ⟨z, H', I', rz, b, rfl, hq⟩ := hv
  cases rz
  exact ⟨b, rfl, .bool (!b), rfl, .bl (!b), H', I', rfl, hq⟩
end
end Sk

set_option maxHeartbeats 4000000
/-! sum(d.values()); a new instance by a call with keywords alone; more rules with the heap named -/
namespace Sk
open PySem PySem.Spec PyProof.Rows L2
section
variable {X : Cx} {o : Expr} {p pos apos mpos : Pos} {td : TE}
/-- sum(o.values()), a dict of ints by texts -/
def tSumVals (td : TE) : TE := fun σ H Q => td σ H fun x H1 => ∃ a cs, x = V.ref a ∧ H1 a = some (.dK (kvS cs)) ∧ Q (.int (cs.map (·.2)).sum) H1
theorem preSum_getD (is : List Int) : ∀ n, n ≤ is.length → preSum (fun i => is.getD i 0) n = (is.take n).sum
  | 0, _ => rfl
  | n + 1, h => by
    have hn : n < is.length := h
    rw [List.take_succ_eq_append_getElem hn, List.sum_append, preSum, preSum_getD is n (Nat.le_of_succ_le h)]
    simp [List.getD, hn]
theorem pe_sumVals (hc : X.calm = true) (hg : Gl X "sum") (hm : X.mg "sum" = none) (hd : PE X o td) (hbase : attributeBase o "values" X.env (eval o X.env) = eval o X.env := by rfl) (hline : (apos.endLine == mpos.line) = true := by rfl)
    (hse : starEach [Expr.Call (.Attribute o "values" apos) [] [] mpos] X.env = [(false, eval (Expr.Call (.Attribute o "values" apos) [] [] mpos) X.env)] := by rfl) :
    PE X (.Call (.Name "sum" p) [.Call (.Attribute o "values" apos) [] [] mpos] [] pos) (tSumVals td) := by
  refine ⟨fun pins s σ H Q I h => ?_⟩
  refine wpAny_Call_Name_kw (ld_blt I hg hm (u := .builtin "sum") (by first | rfl | decide +kernel) ?_ (by first | decide +kernel | decide) (by first | decide +kernel | decide))
  rw [hse]
  refine PySem.callWith_builtin1 (wpAny_Call_method0_late hbase hline (thn (hd.run pins s σ H _ I h) fun v s1 ⟨x, H1, I1, r1, a, cs, ex, ha, q⟩ => ?_))
  subst ex
  obtain rfl : v = Value.ref a := r1
  obtain ⟨_, hsys, vs, rel, dof⟩ := dk_of I1.hok ha
  obtain ⟨ep, dat⟩ := dof.dictAt
  have dat' := dat
  obtain ⟨ob, es, ho, ex, hdat, hko, hpr, hnd⟩ := dat'
  refine ⟨"dict", "dict.values", F.plainAttrs_dict, F.slot_dict_values, F.type_dict_values, ⟨ob, ho, ex.1⟩, fun b e => ?_, Calls.callWith_builtin rfl (PySem.evalArgs_none ?_)⟩
  · cases e
    exact ⟨ob, ho, ex.2.1⟩
  refine call_meetsIn F.slot_dict_values ⟨ob, ho, ex.1⟩ F.entry_dict_values (F.args_dict_values_1 _) (meets_dict_values (mixKind X.prog X.w) a hsys) ⟨⟨vs, dof⟩, ?_⟩
  have k1 : ∀ b u, s1.heap.get? b = some u → (s1.heap.push { cls := .type "dict_values", data := .fields #[.ref a] }).get? b = some u := fun b u e => Heap.get?_push_of_some _ e
  have dat1 : (s1.heap.push { cls := .type "dict_values", data := .fields #[.ref a] }).DictAt (mixKind X.prog X.w) a vs ep := dat.keep k1
  have hv : (kvS cs).map (·.2) = (cs.map (·.2)).map V.int := by simp [kvS]
  have hlv : vs.length = (cs.map (·.2)).length := by
    have e1 := congrArg List.length hv
    rw [List.length_map, List.length_map] at e1
    rw [← e1]
    exact (KV.length rel).symm
  have hval : ∀ (i : Nat) (v : Value), (∃ k, vs[i]? = some (k, v)) → ∃ t, v = Value.int ((cs.map (·.2)).getD i 0) t := fun i v ⟨k, hk⟩ => by
    obtain ⟨x, h1, h2⟩ := KV.at' rel hk
    have e1 : ((kvS cs).map (·.2))[i]? = some x := by rw [List.getElem?_map, h1] <;> rfl
    rw [hv, List.getElem?_map] at e1
    obtain ⟨j, hj, e2⟩ := Option.map_eq_some_iff.mp e1
    subst e2
    obtain ⟨t, e3⟩ := h2
    refine ⟨t, ?_⟩
    rw [e3, List.getD_eq_getElem?_getD, hj] <;> rfl
  refine call_sum_walkG (wpAny_pyIter_values (v := s1.heap.objs.size) (d := a) ⟨_, Heap.get?_push_size _ rfl, rfl, rfl⟩ dat1 ?_)
  have hlt : a < s1.heap.objs.size := Heap.lt_size ho
  have hsz : (s1.heap.push { cls := .type "dict_values", data := .fields #[.ref a] }).objs.size = s1.heap.objs.size + 1 := Heap.size_push _ _
  refine ⟨_, _, _, _, _, _, _, rfl, Walks.dictValues (knd := mixKind X.prog X.w) (A := X.A.in1) (I.ok.hd hc) (s1.heap.push { cls := .type "dict_values", data := .fields #[.ref a] }).objs.size a (by rw [hsz]; exact Nat.ne_of_lt (Nat.lt_succ_of_lt hlt)) vs ep,
    ⟨⟨_, Heap.get?_push_size _ rfl, rfl, rfl⟩, dat1.keep fun b u e => Heap.get?_push_of_some _ e⟩, fun b hb => ?_, hval, fun h' tk t' hk => ?_⟩
  · show b < ((s1.heap.push _).push _).objs.size
    rw [Heap.size_push, Heap.size_push]
    rw [hsz] at hb
    rcases List.mem_cons.mp hb with e | hb
    · rw [e]
      exact Nat.lt_succ_self _
    · have e : b = a := List.mem_singleton.mp hb
      rw [e]
      exact Nat.lt_succ_of_lt (Nat.lt_succ_of_lt hlt)
  · have es : preSum (fun i => (cs.map (·.2)).getD i 0) vs.length = (cs.map (·.2)).sum := by
      rw [preSum_getD _ _ (Nat.le_of_eq hlv), hlv, List.take_length]
    rw [es]
    refine ⟨.int _, H1, I1.kept (t' := tk) fun b u e => hk b u (fun hmem => ?_) (Heap.get?_push_of_some _ (k1 b u e)), ⟨t', rfl⟩, q⟩
    have e1 : b = (s1.heap.push { cls := .type "dict_values", data := .fields #[.ref a] }).objs.size := List.mem_singleton.mp hmem
    have e2 := Heap.lt_size e
    rw [hsz] at e1
    rw [e1] at e2
    exact absurd e2 (Nat.not_lt.mpr (Nat.le_succ _))
end
/-! ### C(k = v) -/
structure MakK (P : Program) (w : World) (K : PySem.W.Frag) (mg : Str → Option Value) (base : Heap) (k : Nat) (x : Str) (C : Addr) (sp : Sp) (ks : List Str) (gV : List V → List V → List V) : Prop where
  ex : ∃ (f : Addr) (fd : FuncData) (ps : List Str) (g : List Value → List Value → List Value), Mk K C f ∧ FnOk P w K mg base C8.CX0 k f fd ps sp ∧ mg x = some (.ref C) ∧ KBn K fd ps 1 ks g gV
section
variable {X : Cx} {k j : Nat} {C : Addr} {x m : Str} {sp : Sp} {ks : List Str} {gV : List V → List V → List V} {p pos apos : Pos} {kws : List Keyword} {tk : TA}
theorem pe_mkK0 (c : MakK X.prog X.w X.K X.mg X.base k x C sp ks gV) (hr : Room j X.A) (hk : k + 1 ≤ j) (hg : Gl X x) (hkw : PK X kws tk)
    (hall : (backToKw pos (keywordEach kws X.env)).all (·.1.isSome) = true := by rfl) (hks : (backToKw pos (keywordEach kws X.env)).filterMap (·.1) = ks := by rfl) (hdb : (x == ("__debug__" : Str)) = false := by decide)
    (hpl : ((backTo pos (starEach [] X.env)).any (·.1) || (backToKw pos (keywordEach kws X.env)).any (·.1.isNone)) = false := by rfl) :
    PE X (.Call (.Name x p) [] kws pos) (tMakeK C 0 ks.length sp gV C8.E0 tNil tk) := by
  obtain ⟨f, fd, ps, g, M, F, hm, b⟩ := c.ex
  exact pe_makeK0 M F (hr.mono hk) hg hm b C8.pass0 hkw hall hks hdb hpl
end
/-! ### methods of lists, the heap named -/
section
variable {X : Cx} {o e : Expr} {es : List Expr} {to : TE} {t : TA} {name : Str} {apos cpos : Pos} {T id : String} {r : V → List V → Hp → VK → Prop}
theorem pe_bm0K (K : PySem.W.Frag) (pa : PlainAttrs T) (slot : Slot T name id) (hty : typeOf (.builtin id) = pure (.type "method_descriptor")) (hm : MtR X id r) (ho : PE X o to)
    (hbase : attributeBase o name X.env (eval o X.env) = eval o X.env := by rfl) (hline : (apos.endLine == cpos.line) = true := by rfl) (hK : X.K = K := by rfl) : PE X (.Call (.Attribute o name apos) [] [] cpos) (tBM0 K T r to) := hK ▸ pe_bm0 pa slot hty hm ho hbase hline
theorem pe_bmK (K : PySem.W.Frag) (pa : PlainAttrs T) (slot : Slot T name id) (hty : typeOf (.builtin id) = pure (.type "method_descriptor")) (hm : MtR X id r) (ho : PE X o to) (ha : PA X (e :: es) t)
    (hbase : attributeBase o name X.env (eval o X.env) = eval o X.env := by rfl)
    (hfew : ((backTo cpos (starEach (e :: es) X.env)).all (fun x => !x.1) && (backToKw cpos (keywordEach [] X.env)).all (fun x => x.1.isSome)
      && decide ((e :: es).length + ([] : List Keyword).length + (if ([] : List Keyword).isEmpty then 0 else 1) < 30)) = true := by rfl)
    (hline : (apos.endLine == cpos.line) = true := by rfl) (hs : starEach (e :: es) X.env = (false, eval e X.env) :: starEach es X.env := by rfl) (hplain : (backTo cpos (starEach es X.env)).any (·.1) = false := by rfl) (hK : X.K = K := by rfl) :
    PE X (.Call (.Attribute o name apos) (e :: es) [] cpos) (tBM K T r to t) := hK ▸ pe_bm pa slot hty hm ho ha hbase hfew hline hs hplain
end
end Sk

set_option maxHeartbeats 4000000
/-! x in a list, in a tuple, where == is an own method: heaps grow on the way -/
namespace SkW
open PySem PySem.SeqAt PySem.W
open AutoSeq1 (wpAny_loadPart')
open MeetsSeq MeetsSeq2 MeetsSeq3 SeqRoads2
section
variable {prog : Program} {w : World} {A : Around} {R : Result → Shared → Prop}
/-- at turn i the list at l has N items, the i-th is asked: bs i -/
def AskI (prog : Program) (w : World) (A : Around) (E : Value → Shared → Prop) (l : Addr) (x : Value) (N : Nat) (bs : Nat → Bool) (I : Nat → Shared → Prop) : Prop :=
  ∀ i s, I i s → ∃ (items : Array Value) (n : Nat), s.heap.get? l = some { cls := .type "list", data := .seq items n } ∧ items.size = N ∧
    ∀ (h1 : i < items.size), wpAny (model prog w) A.in1 (eqBool items[i] x) (fun r s' => r = bs i ∧ I (i + 1) s') E s
theorem has_loop (l : Addr) (x : Value) (N : Nat) (bs : Nat → Bool) (I : Nat → Shared → Prop) (hl : AskI prog w A (fun e s' => R (.error e) s') l x N bs I)
    (hit : ∀ i s, i < N → I (i + 1) s → bs i = true → R (.ok (.ret (.bool true))) s) (fin : ∀ s, I N s → (∀ i, i < N → bs i = false) → R (.ok (.ret (.bool false))) s) (k : Nat) :
    ∀ i : Nat, N - i = k → i ≤ N → (∀ j, j < i → bs j = false) → ∀ s, I i s →
      wpAny (model prog w) A.in1 (Builtin.«list.__contains__.loop» ⟨[.ref l, x, rawInt i], []⟩) (GQ.FinOf prog w A R) (fun e s' => R (.error e) s') s := by
  induction k with
  | zero =>
    intro i hk hi no s h
    obtain ⟨items, n, hl1, hs1, _⟩ := hl _ _ h
    have hi' : i = N := by omega
    subst hi'
    have hR : R (.ok (.ret (.bool false))) s := fin s h no
    obtain ⟨hp, g, d, tk, os⟩ := s
    wp_walk using wpAny_loadPart' hl1
    have hi1 : items[((i : Nat) : Int).toNat]? = none := by simp; omega
    rw [hi1]
    wp_walk
    exact hR
  | succ k ih =>
    intro i hk hi no s h
    obtain ⟨items, n, hl1, hs1, turn⟩ := hl _ _ h
    have hlt : i < items.size := by omega
    have ht := turn hlt
    obtain ⟨hp, g, d, tk, os⟩ := s
    wp_walk using wpAny_loadPart' hl1
    have hi1 : items[((i : Nat) : Int).toNat]? = some items[i] := by simp [hlt]
    have hc : ((i : Int) + 1) = ((i + 1 : Nat) : Int) := by omega
    rw [hi1]
    refine wpAny_bind (wpAny_mono ht (fun r s2 h2 => ?_) fun _ _ x => x)
    obtain ⟨hr, h2⟩ := h2
    cases hb : bs i with
    | true =>
      rw [hb] at hr
      subst hr
      have := hit i s2 (by omega) h2 hb
      obtain ⟨hp2, g2, d2, tk2, os2⟩ := s2
      wp_walk
      exact this
    | false =>
      rw [hb] at hr
      subst hr
      have hrec := ih (i + 1) (by omega) (by omega) (fun j hj => by
        rcases Nat.lt_succ_iff_lt_or_eq.mp hj with h | h
        · exact no j h
        · rw [h]; exact hb) s2 h2
      obtain ⟨hp2, g2, d2, tk2, os2⟩ := s2
      wp_walk
      rw [hc]
      exact ⟨plainId_quiet plain_contains_loop _, codeAny_builtin entry_contains_loop (by
        rw [Around.under_plainId plain_contains_loop _]
        exact hrec)⟩
theorem has_list (l : Addr) (x : Value) (N : Nat) (bs : Nat → Bool) (I : Nat → Shared → Prop) (hl : AskI prog w A (fun e s' => R (.error e) s') l x N bs I)
    (hit : ∀ i s, i < N → I (i + 1) s → bs i = true → R (.ok (.ret (.bool true))) s) (fin : ∀ s, I N s → (∀ i, i < N → bs i = false) → R (.ok (.ret (.bool false))) s) {s : Shared} (h : I 0 s) :
    wpAny (model prog w) A.in1 (Builtin.«list.__contains__» ⟨[.ref l, x], []⟩) (GQ.FinOf prog w A R) (fun e s' => R (.error e) s') s := by
  obtain ⟨items, n, hl1, hs1, _⟩ := hl _ _ h
  have hrec := has_loop (A := A) (R := R) l x N bs I hl hit fin _ 0 rfl (Nat.zero_le _) (fun j hj => absurd hj (Nat.not_lt_zero _)) s h
  obtain ⟨hp, g, d, tk, os⟩ := s
  wp_walk using wpAny_loadPart' hl1
  exact ⟨plainId_quiet plain_contains_loop _, codeAny_builtin entry_contains_loop (by
    rw [Around.under_plainId plain_contains_loop _]
    exact hrec)⟩
theorem has_tuple (l : Addr) (x : Value) (items : Array Value) (n : Nat) (dd : Option Addr) (sl : Array (Option Value)) (bs : Nat → Bool) (I : Nat → Shared → Prop)
    (turn : ∀ i (h1 : i < items.size) s, I i s → wpAny (model prog w) A.in1 (eqBool items[i] x) (fun r s' => r = bs i ∧ I (i + 1) s') (fun e s' => R (.error e) s') s)
    (hit : ∀ i s, i < items.size → I (i + 1) s → bs i = true → R (.ok (.ret (.bool true))) s) (fin : ∀ s, I items.size s → (∀ i, i < items.size → bs i = false) → R (.ok (.ret (.bool false))) s) {s : Shared}
    (hl1 : s.heap.get? l = some { cls := .type "tuple", dict := dd, data := .seq items n, slots := sl }) (h : I 0 s) :
    wpAny (model prog w) A.in1 (Builtin.«tuple.__contains__» ⟨[.ref l, x], []⟩) (GQ.FinOf prog w A R) (fun e s' => R (.error e) s') s := by
  have h0 := h
  obtain ⟨hp, g, d, tk, os⟩ := s
  wp_walk using wpAny_loadPart' hl1, wpAny_forIn_array _ (fun rest b s' => b.1 = none ∧ ∃ i, rest = items.toList.drop i ∧ i ≤ items.size ∧ I i s' ∧ ∀ j, j < i → bs j = false) _
  case turn =>
    rintro y rest b s' ⟨hb', i, hz, hi, hI, no⟩
    have hlt : i < items.toList.length := by
      rcases Nat.lt_or_ge i items.toList.length with h' | h'
      · exact h'
      · rw [List.drop_of_length_le h'] at hz; cases hz
    have h1 : i < items.size := by simpa using hlt
    rw [List.drop_eq_getElem_cons hlt] at hz
    injection hz with hy hrest
    have hy : y = items[i] := by simpa using hy
    subst hy
    refine wpAny_bind (wpAny_mono (turn i h1 s' hI) (fun r s2 q2 => ?_) fun _ _ x => x)
    obtain ⟨hr, q2⟩ := q2
    cases hb : bs i with
    | true =>
      rw [hb] at hr
      subst hr
      have := hit i s2 h1 q2 hb
      wp_walk
      exact this
    | false =>
      rw [hb] at hr
      subst hr
      wp_walk
      exact ⟨rfl, i + 1, hrest, h1, q2, fun j hj => by
        rcases Nat.lt_succ_iff_lt_or_eq.mp hj with h | h
        · exact no j h
        · rw [h]; exact hb⟩
  case fin =>
    rintro ⟨b1, b2⟩ s' ⟨hb', i, hz, hi, hI, no⟩
    simp only at hb'
    subst hb'
    have hge : items.size ≤ i := by
      rcases Nat.lt_or_ge i items.toList.length with h' | h'
      · rw [List.drop_eq_getElem_cons h'] at hz; cases hz
      · simpa using h'
    have hi' : i = items.size := by omega
    have hR : R (.ok (.ret (.bool false))) s' := fin s' (hi' ▸ hI) fun j hj => no j (by omega)
    wp_walk
    exact hR
  case h =>
    exact ⟨rfl, 0, rfl, Nat.zero_le _, h0, fun j hj => absurd hj (Nat.not_lt_zero _)⟩
/-- two tuples, item by item equal: != tells False -/
theorem tuple_neG (l b : Addr) (items items2 : Array Value) (n n2 : Nat) (dd dd2 : Option Addr) (sl sl2 : Array (Option Value)) (hsz : items.size = items2.size) (I : Nat → Shared → Prop)
    (turn : ∀ i (h1 : i < items.size) (h2 : i < items2.size) s, I i s → wpAny (model prog w) A.in1 (eqBool items[i] items2[i]) (fun r s' => r = true ∧ I (i + 1) s') (fun e s' => R (.error e) s') s)
    (fin : ∀ s, I items.size s → R (.ok (.ret (.bool false))) s) {s : Shared} (hl1 : s.heap.get? l = some { cls := .type "tuple", dict := dd, data := .seq items n, slots := sl }) (hb1 : s.heap.get? b = some { cls := .type "tuple", dict := dd2, data := .seq items2 n2, slots := sl2 }) (h : I 0 s) :
    wpAny (model prog w) A.in1 (Builtin.«tuple.__ne__» ⟨[.ref l, .ref b], []⟩) (GQ.FinOf prog w A R) (fun e s' => R (.error e) s') s := by
  have f2 := AutoSeq1.sub_tuple_tuple
  have hZ : (items.toList.zip items2.toList).length = items.size := by simp [hsz]
  have h0 := h
  obtain ⟨hp, g, d, tk, os⟩ := s
  wp_walk using wpAny_loadPart' hl1, wpAny_loadPart' hb1, wpAny_forIn_list _ (fun rest b s' => b.1 = none ∧ ∃ i, rest = (items.toList.zip items2.toList).drop i ∧ i ≤ items.size ∧ I i s') _
  case turn =>
    rintro ⟨y, x⟩ rest b s' ⟨hb', i, hz, hi, hI⟩
    have hlt : i < (items.toList.zip items2.toList).length := by
      rcases Nat.lt_or_ge i (items.toList.zip items2.toList).length with h' | h'
      · exact h'
      · rw [List.drop_of_length_le h'] at hz; cases hz
    have h1 : i < items.size := hZ ▸ hlt
    have h2 : i < items2.size := hsz ▸ h1
    rw [List.drop_eq_getElem_cons hlt] at hz
    injection hz with hyx hrest
    have hy : y = items[i] := by have := congrArg Prod.fst hyx; simpa using this
    have hx : x = items2[i] := by have := congrArg Prod.snd hyx; simpa using this
    subst hy hx
    refine wpAny_bind (wpAny_mono (turn i h1 h2 s' hI) (fun r s2 q2 => ?_) fun _ _ x => x)
    obtain ⟨hr, q2⟩ := q2
    subst hr
    wp_walk
    exact ⟨rfl, i + 1, hrest, h1, q2⟩
  case fin =>
    rintro ⟨b1, b2⟩ s' ⟨hb', i, hz, hi, hI⟩
    simp only at hb'
    subst hb'
    have hge : items.size ≤ i := by
      rcases Nat.lt_or_ge i (items.toList.zip items2.toList).length with h' | h'
      · rw [List.drop_eq_getElem_cons h'] at hz; cases hz
      · exact hZ ▸ h'
    have hi' : i = items.size := by omega
    have hR : R (.ok (.ret (.bool false))) s' := fin s' (hi' ▸ hI)
    wp_walk
    simpa [Builtin.Tuple.tupleCompareSizes, hsz] using hR
  case h =>
    exact ⟨rfl, 0, rfl, Nat.zero_le _, h0⟩
end
section
variable {prog : Program} {w : World} {A : Around} {E : Value → Shared → Prop} {s : Shared}
theorem rc_tupN {l b : Addr} {items items2 : Array Value} {Q : Value → Shared → Prop} (hsz : items.size = items2.size) (hu : A.units < cLine) (I : Nat → Shared → Prop)
    (hl : s.heap.IsTuple l items) (hb : s.heap.IsTuple b items2)
    (turn : ∀ i (h1 : i < items.size) (h2 : i < items2.size) s, I i s → wpAny (model prog w) A.in1 (eqBool items[i] items2[i]) (fun r s' => r = true ∧ I (i + 1) s') E s)
    (fin : ∀ s, I items.size s → Q (.bool false) s) (h : I 0 s) : wpAny (model prog w) A (richCompare .NotEq (.ref l) (.ref b)) Q E s := by
  obtain ⟨⟨cls, dd, data, sl⟩, ho, hc, n, hd⟩ := id hl
  obtain ⟨⟨cls2, dd2, data2, sl2⟩, ho2, hc2, n2, hd2⟩ := id hb
  simp only at hc hd hc2 hd2
  subst hc hd hc2 hd2
  refine wpAny_richCompare_same_room (op := .NotEq) ⟨_, ho, rfl⟩ ⟨_, ho2, rfl⟩ F.slot_tuple_ne (GQ.call_here F.slot_tuple_ne ⟨_, ho, rfl⟩ F.entry_tuple_ne (F.args_tuple_ne_2 _ _) ?_) hu
  exact tuple_neG (R := wants (fun v s' => v ≠ .notImplemented ∧ Q v s') E) l b items items2 n n2 dd dd2 sl sl2 hsz I turn (fun s' q => ⟨(fun x => nomatch x), fin s' q⟩) ho ho2 h
theorem in_list {l : Addr} {x : Value} {N : Nat} {bs : Nat → Bool} {I : Nat → Shared → Prop} {Q : Bool → Shared → Prop} (hT : s.TypeIs (.ref l) "list") (hl : AskI prog w A E l x N bs I)
    (hit : ∀ i s, i < N → I (i + 1) s → bs i = true → Q true s) (fin : ∀ s, I N s → (∀ i, i < N → bs i = false) → Q false s) (h : I 0 s) : wpAny (model prog w) A (contains (.ref l) x) Q E s :=
  wpAny_contains_slot hT F.slot_list_contains (GQ.call_here F.slot_list_contains hT F.entry_list_contains (F.args_list_contains_2 _ _)
    (has_list (R := wants (fun v s' => wpAny (model prog w) A (truthy v) Q E s') E) l x N bs I hl (fun i s hi q e => wpAny_truthy_bool (hit i s hi q e)) (fun s q e => wpAny_truthy_bool (fin s q e)) h))
theorem in_tuple {l : Addr} {x : Value} {items : Array Value} {bs : Nat → Bool} {I : Nat → Shared → Prop} {Q : Bool → Shared → Prop} (ht : s.heap.IsTuple l items)
    (turn : ∀ i (h1 : i < items.size) s, I i s → wpAny (model prog w) A.in1 (eqBool items[i] x) (fun r s' => r = bs i ∧ I (i + 1) s') E s)
    (hit : ∀ i s, i < items.size → I (i + 1) s → bs i = true → Q true s) (fin : ∀ s, I items.size s → (∀ i, i < items.size → bs i = false) → Q false s) (h : I 0 s) : wpAny (model prog w) A (contains (.ref l) x) Q E s := by
  obtain ⟨⟨cls, dd, data, sl⟩, ho, hc, n, hd⟩ := id ht
  simp only at hc hd
  subst hc hd
  exact wpAny_contains_slot ⟨_, ho, rfl⟩ F.slot_tuple_contains (GQ.call_here F.slot_tuple_contains ⟨_, ho, rfl⟩ F.entry_tuple_contains (F.args_tuple_contains_2 _ _)
    (has_tuple (R := wants (fun v s' => wpAny (model prog w) A (truthy v) Q E s') E) l x items n dd sl bs I turn (fun i s hi q e => wpAny_truthy_bool (hit i s hi q e)) (fun s q e => wpAny_truthy_bool (fin s q e)) ho h))
end
section
variable {prog : Program} {w : World} {A : Around} {E : Value → Shared → Prop} {s : Shared} {K : Frag} {x C f : Addr} {ox : Obj} {od : Option Obj} {u : Value} {T id : String} {B : Builtin}
/-- left a value of a built-in type whose own == declines: the right one's own == is asked -/
theorem rc_back {Q : Value → Shared → Prop} (hu : A.units < cLine) (X : K.In s.heap) (I : InstAt s.heap x ox C od) (hT : s.TypeIs u T) (hsub : mroIn K C (.type T) = some false) (S : Slot T "__eq__" id) (entry : entryFor table id = some B)
    (args : argsOk id ⟨[u, .ref x], []⟩) (dec : ∀ R : Result → Shared → Prop, R (.ok (.ret .notImplemented)) s → wpAny (model prog w) A.in1 (B ⟨[u, .ref x], []⟩) (GQ.FinOf prog w A R) (fun e s' => R (.error e) s') s)
    (hs : findIn K (.ref C) "__eq__" = some (some (.ref f))) (hf : isFn K (.ref f) = true) (h : wpAny (model prog w) A (call (.ref f) [.ref x, u]) (CmpBack Q) E s) : wpAny (model prog w) A (richCompare .Eq u (.ref x)) Q E s := by
  unfold richCompare
  simp only [hT.oneThing_none]
  refine wpAny_holding (wpAny_bind (wpAny_cRoomFor hu ?_))
  rw [cmpInfo_Eq]
  dsimp only
  refine wpAny_bind (wpAny_typeOf hT (wpAny_bind (I.type.here ?_)))
  rw [show (Value.type T != Value.ref C) = true from by simp]
  simp only [if_true]
  refine wpAny_bind ((looks_mroIn X hsub).here ?_)
  simp only [Bool.false_eq_true, if_false, Bool.not_false, if_true]
  refine wpAny_bind (m := tryCompare u _ (.ref x)) (wpAny_tryCompare_declines hT S (GQ.call_here S hT entry args (dec _ ⟨rfl, ?_⟩)))
  refine wpAny_bind (m := tryCompare (.ref x) _ u) ?_
  unfold tryCompare
  refine wpAny_bind (ifBound_K X I hs hf (wpAny_mono h (fun v s' hv => ?_) fun _ _ e => e))
  cases v <;> first | exact hv.elim | exact wpAny_pure (wpAny_pure hv)
variable {R : Result → Shared → Prop}
theorem dec_str {z : Str} {t : Tok} {dx : Addr} (hx : s.heap.get? x = some (W.instObj C dx)) (h : R (.ok (.ret .notImplemented)) s) : wpAny (model prog w) A.in1 (Builtin.«str.__eq__» ⟨[.str z t, .ref x], []⟩) (GQ.FinOf prog w A R) (fun e s' => R (.error e) s') s := by
  obtain ⟨hp, g, d, tk, os⟩ := s
  wp_walk using wpAny_loadPart' hx
  exact h
theorem dec_int {z : Int} {t : Tok} {dx : Addr} (hx : s.heap.get? x = some (W.instObj C dx)) (h : R (.ok (.ret .notImplemented)) s) : wpAny (model prog w) A.in1 (Builtin.«int.__eq__» ⟨[.int z t, .ref x], []⟩) (GQ.FinOf prog w A R) (fun e s' => R (.error e) s') s := by
  obtain ⟨hp, g, d, tk, os⟩ := s
  wp_walk using wpAny_loadPart' hx
  exact h
theorem isInst_no {M : Model} {owner : Value} {Q : Bool → Shared → Prop} (X : K.In s.heap) (I : InstAt s.heap x ox C od) (hm : mroIn K C owner = some false) (h : Q false s) : wpAny M A (isInstance (.ref x) owner) Q E s := by
  unfold isInstance
  exact wpAny_bind (I.type.here ((looks_mroIn X hm).here h))
theorem dec_list {l : Addr} (X : K.In s.heap) (I : InstAt s.heap x ox C od) (hm : mroIn K C (.type "list") = some false) (h : R (.ok (.ret .notImplemented)) s) : wpAny (model prog w) A.in1 (Builtin.«list.__eq__» ⟨[.ref l, .ref x], []⟩) (GQ.FinOf prog w A R) (fun e s' => R (.error e) s') s := by
  obtain ⟨hp, g, d, tk, os⟩ := s
  wp_walk using isInst_no X I hm
  exact h
theorem dec_tuple {l : Addr} (X : K.In s.heap) (I : InstAt s.heap x ox C od) (hm : mroIn K C (.type "tuple") = some false) (h : R (.ok (.ret .notImplemented)) s) : wpAny (model prog w) A.in1 (Builtin.«tuple.__eq__» ⟨[.ref l, .ref x], []⟩) (GQ.FinOf prog w A R) (fun e s' => R (.error e) s') s := by
  obtain ⟨hp, g, d, tk, os⟩ := s
  wp_walk using isInst_no X I hm
  exact h
theorem dec_dict {l : Addr} (X : K.In s.heap) (I : InstAt s.heap x ox C od) (hm : mroIn K C (.type "dict") = some false) (h : R (.ok (.ret .notImplemented)) s) : wpAny (model prog w) A.in1 (Builtin.«dict.__eq__» ⟨[.ref l, .ref x], []⟩) (GQ.FinOf prog w A R) (fun e s' => R (.error e) s') s := by
  obtain ⟨hp, g, d, tk, os⟩ := s
  wp_walk using isInst_no X I hm
  exact h
theorem dec_none (h : R (.ok (.ret .notImplemented)) s) : wpAny (model prog w) A.in1 (Builtin.«NoneType.__eq__» ⟨[.none, .ref x], []⟩) (GQ.FinOf prog w A R) (fun e s' => R (.error e) s') s := by
  obtain ⟨hp, g, d, tk, os⟩ := s
  wp_walk
  exact h
end
section
variable {prog : Program} {w : World} {A : Around} {E : Value → Shared → Prop} {s : Shared}
theorem eqBool_nf {u v : Value} {Q : Bool → Shared → Prop} (hf : ∀ x t, u ≠ .float x t) (hne : u ≠ v) (h : wpAny (model prog w) A (richCompare .Eq u v) (fun r s' => ∃ b, r = .bool b ∧ Q b s') E s) : wpAny (model prog w) A (eqBool u v) Q E s := by
  unfold eqBool
  refine wpAny_holding ?_
  refine wpAny_ite_split (fun hab => absurd (eq_of_beq hab) hne) (fun _ => ?_)
  split
  · rename_i e
    injection e with e1 e2
    exact absurd e1 (hf _ _)
  · refine wpAny_bind (wpAny_mono h (fun v s' hv => ?_) fun _ _ x => x)
    obtain ⟨r, rfl, q⟩ := hv
    exact wpAny_truthy_bool q
end
end SkW
namespace Sk
open PySem PySem.Spec PyProof.Rows L2 PySem.W
/-- x == y gives b, from H on -/
def EqS (X : Cx) (n : Nat) (H : Hp) (x y : V) (b : Bool) : Prop := ∀ (A : Around) (pins : List (Addr × Obj)) (s : Shared) (σ : L2.St) (H1 : Hp) (u v : Value), Sub X n A → Same H H1 → Inv X pins σ H1 s → RelV x u → RelV y v →
  wpAny (model X.prog X.w) A (eqBool u v) (fun r s' => r = b ∧ ∃ H', Inv X pins σ H' s' ∧ Same H1 H') X.xe s
section
variable {X : Cx} {n : Nat} {H : Hp} {C : Addr} {sp : Sp} {b : Bool}
theorem EqS.later {x y : V} {H1 : Hp} (h : EqS X n H x y b) (s : Same H H1) : EqS X n H1 x y b := fun A pins s' σ H2 u v sb sm I rx ry => h A pins s' σ H2 u v sb (s.trans sm) I rx ry
theorem eqS_flat {x y : V} (fx : flatV x = true) (fy : flatV y = true) : EqS X n H x y (eqV x y) := fun A pins s σ H1 u v sb sm I rx ry => eqAt_V (A := A) (s := s) rx ry fx fy X.prog X.w X.xe _ ⟨rfl, H1, I, Same.refl _⟩
theorem eqS_own (c : C8.Met X.prog X.w X.K X.mg X.base n C "__eq__" sp []) {a dx : Addr} {fs : List (Str × V)} {y : V} {t : Value} (ha : H a = some (.ins C dx fs)) (ty : ∀ H1, Same H H1 → TyX X.K H1 y t) (nf : notFirst X.K C t = true) (hs : y = .ref a → b = true)
    (hsp : ∀ H1, Same H H1 → sp [.ref a, y] H1 (fun v H' => v = .bl b ∧ Same H1 H') C8.E0) : EqS X n H (.ref a) y b := by
  intro A pins s σ H1 u v sb sm I rx ry
  cases rx
  by_cases hv : Value.ref a = v
  · subst hv
    have ey : y = .ref a := RelV.inj ry rfl
    exact SeqAt.EqAt.same (A := A) (s := s) (.ref a) X.prog X.w X.xe _ ⟨(hs ey).symm, H1, I, Same.refl _⟩
  · refine SkW.eqBool_nf (fun _ _ z => nomatch z) hv ?_
    obtain ⟨mA, O, _⟩ := ins_get I.hok (sm _ _ ha)
    obtain ⟨od, J, _⟩ := O.look
    obtain ⟨m, hF⟩ := I.fr
    obtain ⟨f, hm, q⟩ := run_met c sb I (.cons (show RelV (V.ref a) (Value.ref a) from rfl) (.cons ry .nil)) (hsp H1 sm)
    refine PySem.W.cmp_K (op := .Eq) sb.room.units0 hF I.ok.mod.kin J (looks_ty I ry (ty H1 sm)) nf hm.at_ hm.fn (thn q fun v s1 hv => ?_)
    obtain ⟨z, H', I', rz, rfl, sm'⟩ := hv
    cases rz
    exact ⟨b, rfl, rfl, H', I', sm'⟩
/-- left a value of a built-in type -/
inductive KdV (H : Hp) : V → Prop where
  | non : KdV H .non
  | int (i : Int) : KdV H (.int i)
  | str (z : Str) : KdV H (.str z)
  | lst {l : Addr} {xs : List V} (h : H l = some (.lst xs)) : KdV H (.ref l)
  | tup {l : Addr} {xs : List V} (h : H l = some (.tup xs)) : KdV H (.ref l)
  | dK {l : Addr} {kvs : List (Key × V)} (h : H l = some (.dK kvs)) : KdV H (.ref l)
theorem eqS_back (c : C8.Met X.prog X.w X.K X.mg X.base n C "__eq__" sp []) (i : IsiC X.K C) {a dx : Addr} {fs : List (Str × V)} {x : V} (ha : H a = some (.ins C dx fs)) (k : KdV H x)
    (hsp : ∀ H1, Same H H1 → sp [.ref a, x] H1 (fun v H' => v = .bl b ∧ Same H1 H') C8.E0) : EqS X n H x (.ref a) b := by
  intro A pins s σ H1 u v sb sm I rx ry
  cases ry
  obtain ⟨mA, O, _⟩ := ins_get I.hok (sm _ _ ha)
  obtain ⟨od, J, _⟩ := O.look
  obtain ⟨f, hm, q⟩ := run_met c sb I (.cons (show RelV (V.ref a) (Value.ref a) from rfl) (.cons rx .nil)) (hsp H1 sm)
  have back : wpAny (model X.prog X.w) A (call (.ref f) [.ref a, u]) (PySem.W.CmpBack fun v s' => ∃ r, v = .bool r ∧ r = b ∧ ∃ H', Inv X pins σ H' s' ∧ Same H1 H') X.xe s := thn q fun v s1 hv => by
    obtain ⟨z, H', I', rz, rfl, sm'⟩ := hv
    cases rz
    exact ⟨b, rfl, rfl, H', I', sm'⟩
  have hu := sb.room.units0
  cases k with
  | non =>
    cases rx
    exact SkW.eqBool_nf (fun _ _ z => nomatch z) (fun z => nomatch z) (SkW.rc_back hu I.kIn J rfl (i.sub _ (by simp)) F.slot_NoneType_eq F.entry_NoneType_eq (F.args_NoneType_eq_2 _ _) (fun R h => SkW.dec_none h) hm.at_ hm.fn back)
  | int z =>
    obtain ⟨t, rfl⟩ := rx
    exact SkW.eqBool_nf (fun _ _ z => nomatch z) (fun z => nomatch z) (SkW.rc_back hu I.kIn J (typeIs_int s z t) (i.sub _ (by simp)) F.slot_int_eq F.entry_int_eq (F.args_int_eq_2 _ _) (fun R h => SkW.dec_int O.obj h) hm.at_ hm.fn back)
  | str z =>
    obtain ⟨t, rfl⟩ := rx
    exact SkW.eqBool_nf (fun _ _ z => nomatch z) (fun z => nomatch z) (SkW.rc_back hu I.kIn J (typeIs_str s z t) (i.sub _ (by simp)) F.slot_str_eq F.entry_str_eq (F.args_str_eq_2 _ _) (fun R h => SkW.dec_str O.obj h) hm.at_ hm.fn back)
  | @lst l xs hl =>
    cases rx
    obtain ⟨_, _, k, _, e⟩ := I.hok l _ (sm _ _ hl)
    exact SkW.eqBool_nf (fun _ _ z => nomatch z) (fun z => by injection z with z; rw [z] at hl; rw [ha] at hl; cases hl) (SkW.rc_back hu I.kIn J ⟨_, e, rfl⟩ (i.sub _ (by simp)) F.slot_list_eq F.entry_list_eq (F.args_list_eq_2 _ _) (fun R h => SkW.dec_list I.kIn J (i.sub _ (by simp)) h) hm.at_ hm.fn back)
  | @tup l xs hl =>
    cases rx
    obtain ⟨_, _, _, o, e, ec, _⟩ := (show ObjOk X.prog X.w H1 s.heap l (.tup xs) from I.hok l _ (sm _ _ hl))
    exact SkW.eqBool_nf (fun _ _ z => nomatch z) (fun z => by injection z with z; rw [z] at hl; rw [ha] at hl; cases hl) (SkW.rc_back hu I.kIn J ⟨_, e, ec⟩ (i.sub _ (by simp)) F.slot_tuple_eq F.entry_tuple_eq (F.args_tuple_eq_2 _ _) (fun R h => SkW.dec_tuple I.kIn J (i.sub _ (by simp)) h) hm.at_ hm.fn back)
  | @dK l kvs hl =>
    cases rx
    obtain ⟨_, _, vs, _, o, es, ep, e, ec, _⟩ := (show ObjOk X.prog X.w H1 s.heap l (.dK kvs) from I.hok l _ (sm _ _ hl))
    exact SkW.eqBool_nf (fun _ _ z => nomatch z) (fun z => by injection z with z; rw [z] at hl; rw [ha] at hl; cases hl) (SkW.rc_back hu I.kIn J ⟨_, e, ec.1⟩ (i.sub _ (by simp)) F.slot_dict_eq F.entry_dict_eq (F.args_dict_eq_2 _ _) (fun R h => SkW.dec_dict I.kIn J (i.sub _ (by simp)) h) hm.at_ hm.fn back)
end
end Sk

set_option maxHeartbeats 4000000
/-! the truth of an own object by its __len__; rules for in and tuples -/
namespace SkW
open PySem PySem.W PySem.Calls PyProof.Rows Builtin
section
variable {prog : Program} {w : World} {A : Around} {E : Value → Shared → Prop} {s : Shared} {K : Frag} {x C L f : Addr} {h₀ : Heap} {m : Str → Option Value} {ox : Obj} {od : Option Obj}
def TruBack (Q : Bool → Shared → Prop) (v : Value) (s' : Shared) : Prop := match v with
  | .int n _ => (0 ≤ n ∧ n < 2 ^ 63) ∧ Q (n != 0) { s' with toks := s'.toks + 1 }
  | _ => False
theorem truth_len {Q : Bool → Shared → Prop} (X : K.In s.heap) (I : InstAt s.heap x ox C od) (hb : findIn K (.ref C) "__bool__" = some none) (hs : findIn K (.ref C) "__len__" = some (some (.ref f))) (hf : isFn K (.ref f) = true)
    (h : wpAny (model prog w) A.in1 (call (.ref f) [.ref x]) (TruBack Q) E s) : wpAny (model prog w) A (truthy (.ref x)) Q E s := by
  have key : wpAny (model prog w) A (runValue (.builtin "len" ⟨[.ref x], []⟩)) (fun r s' => ∃ n t, r = .int n t ∧ Q (n != 0) s') E s := by
    refine wpAny_runValue (codeAny_builtin entry_len ?_)
    rw [Around.under_plainId plain_len _]
    unfold Builtin.«len»
    refine wpAny_bind (m := oneArg "len" _) (wpAny_pure ?_)
    refine wpAny_bind (m := callSpecial? (.ref x) (Str.ofString "__len__")) (special_fn X I hs (beq_iff_eq.mp hf) (wpAny_mono h (fun r s' hr => ?_) fun _ _ y => y))
    cases r <;> first | exact hr.elim | skip
    rename_i n u
    obtain ⟨⟨h0, h1⟩, hq⟩ := hr
    refine wpAny_bind (wpAny_holding (wpAny_pure ?_))
    refine wpAny_bind (wpAny_letGo ?_)
    show wpAny _ _ (if n < 0 then _ else _) _ _ _
    rw [if_neg (by omega)]
    show wpAny _ _ (if n ≥ 2 ^ 63 then _ else _) _ _ _
    rw [if_neg (by omega)]
    exact wpAny_bind (wpAny_mkInt (wpAny_pure ⟨_, _, rfl, hq⟩))
  unfold truthy
  refine wpAny_bind (m := callSpecial? (.ref x) (Str.ofString "__bool__")) (wpAny_bind (wpAny_bind (I.type.here ((looks_findIn X hb).here (wpAny_pure ?_)))))
  refine wpAny_bind (wpAny_bind (I.type.here ((looks_findIn X hs).here ?_)))
  refine wpAny_bind (wpAny_mono key (fun r s' h' => ?_) fun _ _ e => e)
  obtain ⟨n, t, rfl, hq⟩ := h'
  exact wpAny_pure hq
theorem meets_bool_own (x : Addr) : MeetsIn prog w (Builtin.«bool.__new__» ⟨[.type "bool", .ref x], []⟩) (fun A R s => wpAny (model prog w) A.in1 (truthy (.ref x)) (fun b s' => R (.ok (.ret (.bool b))) s') (fun e s' => R (.error e) s') s) :=
  .of_wp fun A R s h => by
    obtain ⟨hp, g, d, tk, os⟩ := s
    have f1 := PySem.F.conv_sub_bool
    unfold Builtin.«bool.__new__»
    repeat (first
      | (refine wpAny_bind (m := truthy (.ref x)) (wpAny_mono h (fun b s' hb => ?_) fun _ _ e => e))
      | wp_step)
    all_goals first | exact ⟨_, rfl, hb⟩ | exact wpAny_pure ⟨_, rfl, hb⟩ | exact hb
theorem call_boolK {Q : Value → Shared → Prop} (X : K.In s.heap) (I : InstAt s.heap x ox C od) (hb : findIn K (.ref C) "__bool__" = some none) (hs : findIn K (.ref C) "__len__" = some (some (.ref f))) (hf : isFn K (.ref f) = true)
    (h : wpAny (model prog w) A.in1.in1.in1 (call (.ref f) [.ref x]) (TruBack fun b s' => Q (.bool b) s') E s) : wpAny (model prog w) A (call (.type "bool") [.ref x]) Q E s :=
  callType_newIn PySem.F.called_bool PySem.F.newNe_bool (PySem.F.typeCall_bool_1 _) (PySem.F.newCall_bool_1 _) (fun obj => PySem.F.args_object_init_2 obj _) PySem.F.entry_bool_new (meets_bool_own x)
    (truth_len X I hb hs hf (wpAny_mono h (fun r s' hr => by
      cases r <;> first | exact hr.elim | exact ⟨hr.1, rfl, hr.2⟩) fun _ _ e => e))
end
end SkW
namespace Sk
open PySem PySem.Spec PyProof.Rows L2 PySem.W
section
variable {X : Cx} {n : Nat} {C : Addr} {sp : Sp}
/-- bool(o) by the class's own __len__ -/
def rBoolOwn (C : Addr) (sp : Sp) : List V → Hp → VK → Prop := fun xs H Q => ∃ a dx fs, xs = [.ref a] ∧ H a = some (.ins C dx fs) ∧ sp [.ref a] H (fun v H' => ∃ n : Int, v = .int n ∧ 0 ≤ n ∧ n < 2 ^ 63 ∧ Q (.bl (n != 0)) H') C8.E0
theorem call_boolOwn (c : C8.Met X.prog X.w X.K X.mg X.base n C "__len__" sp []) (i : IsiC X.K C) (hr : Room (n + 3) X.A) : CallR X (.type "bool") (rBoolOwn C sp) := by
  intro pins s σ H xs us Q I r h
  obtain ⟨a, dx, fs, rfl, ha, h⟩ := h
  obtain ⟨u, rfl, ru⟩ := vals1 r
  cases ru
  obtain ⟨mA, O, _⟩ := ins_get I.hok ha
  obtain ⟨od, J, _⟩ := O.look
  have sb : Sub X n X.A.in1.in1.in1 := Sub.in1 (Sub.in1 (Sub.in1 ⟨hr, rfl⟩))
  obtain ⟨f, hm, q⟩ := run_met c sb I (vals_ref a) h
  refine SkW.call_boolK I.kIn J i.bl hm.at_ hm.fn (thn q fun v s1 hv => ?_)
  obtain ⟨z, H', I', rz, k, rfl, h0, h1, hq⟩ := hv
  obtain ⟨t, rfl⟩ := rz
  exact ⟨⟨h0, h1⟩, .bl (k != 0), H', I'.tok _, rfl, hq⟩
/-- x in xs, the items' answers bs -/
def rInS (X : Cx) (n : Nat) (neg : Bool) : R2 := fun x y H Q => ∃ (p : Addr) (xs : List V) (bs : Nat → Bool), y = .ref p ∧ (H p = some (.lst xs) ∨ SqT X.K H p xs) ∧ (∀ (i : Nat) (z : V), xs[i]? = some z → EqS X n H z x (bs i)) ∧
  ((∃ i, i < xs.length ∧ bs i = true) → ∀ H', Same H H' → Q (.bl (!neg)) H') ∧ ((∀ i, i < xs.length → bs i = false) → ∀ H', Same H H' → Q (.bl neg) H')
theorem has_S {x : V} {v : Value} {pins : List (Addr × Obj)} {s : Shared} {σ : L2.St} {H : Hp} {Q : Bool → Shared → Prop} (hr : Room (n + 1) X.A) (I : Inv X pins σ H s) (rx : RelV x v) {p : Addr} {xs : List V} {bs : Nat → Bool} (hq : H p = some (.lst xs) ∨ SqT X.K H p xs)
    (he : ∀ (i : Nat) (z : V), xs[i]? = some z → EqS X n H z x (bs i)) (h1 : (∃ i, i < xs.length ∧ bs i = true) → ∀ s' H', Inv X pins σ H' s' → Same H H' → Q true s') (h2 : (∀ i, i < xs.length → bs i = false) → ∀ s' H', Inv X pins σ H' s' → Same H H' → Q false s') :
    wpAny (model X.prog X.w) X.A (contains (.ref p) v) Q X.xe s := by
  have sb : Sub X n X.A.in1 := sub_in1 hr
  have step : ∀ (its : List Value) (H' : Hp) (s' : Shared) (i : Nat) (h : i < its.toArray.size), Vals xs its → Inv X pins σ H' s' → Same H H' → wpAny (model X.prog X.w) X.A.in1 (eqBool its.toArray[i] v) (fun r s' => r = bs i ∧ ∃ H', Inv X pins σ H' s' ∧ Same H H') X.xe s' := by
    intro its H' s' i h r I' sm
    have hi : i < xs.length := by rw [r.length]; simpa using h
    obtain ⟨u, hu, ru⟩ := r.get (List.getElem?_eq_getElem hi)
    have h1' : i < its.length := by simpa using h
    have eu : its.toArray[i] = u := by
      rw [List.getElem?_eq_getElem h1'] at hu
      simpa using hu
    rw [eu]
    refine wpAny_mono (he i _ (List.getElem?_eq_getElem hi) X.A.in1 pins s' σ H' u v sb sm I' ru rx) (fun r s2 q => ?_) fun _ _ e => e
    obtain ⟨e, H2, I2, sm2⟩ := q
    exact ⟨e, H2, I2, sm.trans sm2⟩
  rcases hq with hq | hq
  · obtain ⟨_, _, _, _, e0⟩ := I.hok p _ hq
    refine SkW.in_list (N := xs.length) (bs := bs) (I := fun _ s' => ∃ H', Inv X pins σ H' s' ∧ Same H H') ⟨_, e0, rfl⟩ (fun i s' ⟨H', I', sm⟩ => ?_) (fun i s' hi ⟨H', I', sm⟩ e => h1 ⟨i, hi, e⟩ s' H' I' sm) (fun s' ⟨H', I', sm⟩ e => h2 e s' H' I' sm) ⟨H, I, Same.refl _⟩
    obtain ⟨z, its, k, r, e⟩ := I'.hok p _ (sm _ _ hq)
    exact ⟨its.toArray, k, e, by rw [List.size_toArray, ← r.length], fun h => step its H' s' i h r I' sm⟩
  · obtain ⟨its, r, e, z⟩ := I.tuple hq
    have hN : its.toArray.size = xs.length := by rw [List.size_toArray, ← r.length]
    refine SkW.in_tuple (bs := bs) (I := fun _ s' => ∃ H', Inv X pins σ H' s' ∧ Same H H') e (fun i h s' ⟨H', I', sm⟩ => step its H' s' i h r I' sm) (fun i s' hi ⟨H', I', sm⟩ e => h1 ⟨i, by omega, e⟩ s' H' I' sm) (fun s' ⟨H', I', sm⟩ e => h2 (fun i hi => e i (by omega)) s' H' I' sm) ⟨H, I, Same.refl _⟩
theorem op_inS (hr : Room (n + 1) X.A) : OpR X (compareOp .In) (rInS X n false) := by
  intro pins s σ H x y v u Q I rx ry h
  obtain ⟨p, xs, bs, rfl, hq, he, h1, h2⟩ := h
  cases ry
  exact wpAny_bind (has_S hr I rx hq he (fun e s' H' I' sm => wpAny_pure ⟨.bl true, H', I', rfl, h1 e H' sm⟩) (fun e s' H' I' sm => wpAny_pure ⟨.bl false, H', I', rfl, h2 e H' sm⟩))
theorem op_notInS (hr : Room (n + 1) X.A) : OpR X (compareOp .NotIn) (rInS X n true) := by
  intro pins s σ H x y v u Q I rx ry h
  obtain ⟨p, xs, bs, rfl, hq, he, h1, h2⟩ := h
  cases ry
  exact wpAny_bind (has_S hr I rx hq he (fun e s' H' I' sm => wpAny_pure ⟨.bl false, H', I', rfl, h1 e H' sm⟩) (fun e s' H' I' sm => wpAny_pure ⟨.bl true, H', I', rfl, h2 e H' sm⟩))
/-- two tuples, item by item equal -/
def rTupS (X : Cx) (n : Nat) (b : Bool) : R2 := fun x y H Q => ∃ (p q : Addr) (xs ys : List V), x = .ref p ∧ y = .ref q ∧ SqT X.K H p xs ∧ SqT X.K H q ys ∧ xs.length = ys.length ∧ (∀ (i : Nat) (z w : V), xs[i]? = some z → ys[i]? = some w → EqS X n H z w true) ∧ ∀ H', Same H H' → Q (.bl b) H'
theorem tup_step {pins : List (Addr × Obj)} {σ : L2.St} {H : Hp} (hr : Room (n + 1) X.A) {xs ys : List V} {its its2 : List Value} (r : Vals xs its) (r2 : Vals ys its2) (hl : xs.length = ys.length)
    (he : ∀ (i : Nat) (z w : V), xs[i]? = some z → ys[i]? = some w → EqS X n H z w true) (i : Nat) (h1 : i < its.toArray.size) (h2 : i < its2.toArray.size) (s' : Shared) (q : ∃ H', Inv X pins σ H' s' ∧ Same H H') :
    wpAny (model X.prog X.w) X.A.in1 (eqBool its.toArray[i] its2.toArray[i]) (fun r s' => r = true ∧ ∃ H', Inv X pins σ H' s' ∧ Same H H') X.xe s' := by
  obtain ⟨H', I', sm⟩ := q
  have hi : i < xs.length := by rw [r.length]; simpa using h1
  have hi2 : i < ys.length := by rw [r2.length]; simpa using h2
  obtain ⟨u, hu, ru⟩ := r.get (List.getElem?_eq_getElem hi)
  obtain ⟨v, hv, rv⟩ := r2.get (List.getElem?_eq_getElem hi2)
  have k1 : i < its.length := by simpa using h1
  have k2 : i < its2.length := by simpa using h2
  have eu : its.toArray[i] = u := by
    rw [List.getElem?_eq_getElem k1] at hu
    simpa using hu
  have ev : its2.toArray[i] = v := by
    rw [List.getElem?_eq_getElem k2] at hv
    simpa using hv
  rw [eu, ev]
  refine wpAny_mono (he i _ _ (List.getElem?_eq_getElem hi) (List.getElem?_eq_getElem hi2) X.A.in1 pins s' σ H' u v (sub_in1 hr) sm I' ru rv) (fun r s2 q => ?_) fun _ _ e => e
  obtain ⟨e, H2, I2, sm2⟩ := q
  exact ⟨e, H2, I2, sm.trans sm2⟩
theorem op_neTupS (hr : Room (n + 1) X.A) : OpR X (compareOp .NotEq) (rTupS X n false) := by
  intro pins s σ H x y v u Q I rx ry h
  obtain ⟨p, q, xs, ys, rfl, rfl, hp, hq, hl, he, k⟩ := h
  cases rx
  cases ry
  obtain ⟨its, r, e, _⟩ := I.tuple hp
  obtain ⟨its2, r2, e2, _⟩ := I.tuple hq
  exact SkW.rc_tupN (by rw [List.size_toArray, List.size_toArray, ← r.length, ← r2.length, hl]) hr.units0 (fun _ s' => ∃ H', Inv X pins σ H' s' ∧ Same H H') e e2 (fun i h1 h2 s' q => tup_step hr r r2 hl he i h1 h2 s' q) (fun s' ⟨H', I', sm⟩ => ⟨.bl false, H', I', rfl, k H' sm⟩) ⟨H, I, Same.refl _⟩
theorem op_eqTupS (hr : Room (n + 1) X.A) : OpR X (compareOp .Eq) (rTupS X n true) := by
  intro pins s σ H x y v u Q I rx ry h
  obtain ⟨p, q, xs, ys, rfl, rfl, hp, hq, hl, he, k⟩ := h
  cases rx
  cases ry
  obtain ⟨its, r, e, _⟩ := I.tuple hp
  obtain ⟨its2, r2, e2, _⟩ := I.tuple hq
  exact GQ.rc_tupG (by rw [List.size_toArray, List.size_toArray, ← r.length, ← r2.length, hl]) hr.units0 (fun _ s' => ∃ H', Inv X pins σ H' s' ∧ Same H H') e e2 (fun i h1 h2 s' q => tup_step hr r r2 hl he i h1 h2 s' q) (fun s' ⟨H', I', sm⟩ => ⟨.bl true, H', I', rfl, k H' sm⟩) ⟨H, I, Same.refl _⟩
theorem call_repr_str : CallR X (.builtin "repr") (fun xs H Q => ∃ a, xs = [.str a] ∧ (reprText a).length ≤ sizeLine ∧ Q (.str (reprText a)) H) := by
  intro pins s σ H xs us Q I r h
  obtain ⟨a, rfl, hz, q⟩ := h
  obtain ⟨u, rfl, t, rfl⟩ := vals1 r
  exact PySem.P.repr_of_str ⟨.str _, H, I.tok _, ⟨_, rfl⟩, q⟩ hz
end
end Sk

set_option maxHeartbeats 4000000
/-! Names, words of bags, their counts: the mathematics. -/
namespace Sk
open PySem PySem.Spec PyProof.Rows L2
abbrev tl (z : Str) : List Nat := z.cps.toList
def isLet (c : Nat) : Bool := decide (97 ≤ c) && decide (c ≤ 122)
def isFig (c : Nat) : Bool := decide (48 ≤ c) && decide (c ≤ 57)
def headLet : List Nat → Bool
  | [] => false
  | c :: _ => isLet c
def isNm (l : List Nat) : Bool := decide (1 ≤ l.length) && (decide (l.length ≤ 8) && (headLet l && l.all fun c => isLet c || isFig c))
def isName (z : Str) : Bool := isNm (tl z)
theorem letters_tl : tl (Str.ofString "abcdefghijklmnopqrstuvwxyz") = (List.range 26).map (97 + ·) := by decide +kernel
theorem figures_tl : tl (Str.ofString "0123456789") = (List.range 10).map (48 + ·) := by decide +kernel
theorem in_letters (c : Nat) : decide (c ∈ tl (Str.ofString "abcdefghijklmnopqrstuvwxyz")) = isLet c := by
  rw [letters_tl]
  unfold isLet
  rw [← Bool.decide_and]
  refine decide_eq_decide.mpr ⟨fun h => ?_, fun h => ?_⟩
  · obtain ⟨k, hk, e⟩ := List.mem_map.mp h
    have := List.mem_range.mp hk
    omega
  · exact List.mem_map.mpr ⟨c - 97, List.mem_range.mpr (by omega), by omega⟩
theorem in_figures (c : Nat) : decide (c ∈ tl (Str.ofString "0123456789")) = isFig c := by
  rw [figures_tl]
  unfold isFig
  rw [← Bool.decide_and]
  refine decide_eq_decide.mpr ⟨fun h => ?_, fun h => ?_⟩
  · obtain ⟨k, hk, e⟩ := List.mem_map.mp h
    have := List.mem_range.mp hk
    omega
  · exact List.mem_map.mpr ⟨c - 48, List.mem_range.mpr (by omega), by omega⟩
/-- the truths of a text's signs, as a list of the walk's -/
theorem all_range (l : List Nat) (p : Nat → Bool) : ((List.range l.length).map fun i => p (l.getD i 0)).all id = l.all p := by
  have e : (List.range l.length).map (fun i => p (l.getD i 0)) = l.map p := by
    apply List.ext_getElem (by simp)
    intro i h1 h2
    have h3 : i < l.length := by simpa using h2
    simp [List.getD, h3]
  rw [e, List.all_map]
  rfl

/-! ### a text cut at a sign -/
theorem spl1 (s : Nat) : ∀ (l acc : List Nat), TL.spl [s] 0 acc l ≠ [] ∧ (TL.spl [s] 0 acc l).length ≤ l.length + 1 ∧ ∀ p ∈ TL.spl [s] 0 acc l, p.length ≤ acc.length + l.length
  | [], acc => by
    rw [TL.spl_nil]
    refine ⟨by simp, by simp, fun p hp => ?_⟩
    rw [List.mem_singleton.mp hp]
    simp
  | c :: r, acc => by
    cases h : TL.pre [s] (c :: r) with
    | true =>
      rw [TL.spl_hit h]
      obtain ⟨h1, h2, h3⟩ := spl1 s r []
      refine ⟨by simp, by simp only [List.length_cons, List.length_nil] at *; exact Nat.succ_le_succ h2, fun p hp => ?_⟩
      rcases List.mem_cons.mp hp with e | hp
      · rw [e]
        omega
      · have := h3 p hp
        simp only [List.length_cons, List.length_nil] at *
        omega
    | false =>
      rw [TL.spl_miss h]
      obtain ⟨h1, h2, h3⟩ := spl1 s r (acc ++ [c])
      refine ⟨h1, by simp only [List.length_cons] at *; omega, fun p hp => ?_⟩
      have := h3 p hp
      simp only [List.length_append, List.length_cons, List.length_nil] at *
      omega
theorem tl_star : tl (Str.ofString "*") = [42] := by decide +kernel
theorem tl_blank : tl (Str.ofString " ") = [32] := by decide +kernel
theorem split_one {y : Str} {s : Nat} (e : tl y = [s]) (hk : y.cps.all (· < 256) = true) (w : Str) : Txt.split w y ≠ [] ∧ (Txt.split w y).length ≤ w.length + 1 ∧ ∀ p ∈ Txt.split w y, p.length ≤ w.length := by
  have q := TL.split_spl w y (by rw [show TL.tl y = [s] from e]; simp) (TL.kind_ok hk)
  rw [show TL.tl y = [s] from e] at q
  obtain ⟨h1, h2, h3⟩ := spl1 s (TL.tl w) []
  rw [← q] at h1 h2 h3
  rw [← TL.len_tl w] at h2
  refine ⟨fun z => h1 (by rw [z]; rfl), by simpa using h2, fun p hp => ?_⟩
  have := h3 (TL.tl p) (List.mem_map.mpr ⟨p, hp, rfl⟩)
  rw [← TL.len_tl, ← TL.len_tl] at this
  simpa using this
theorem star256 : (Str.ofString "*").cps.all (· < 256) = true := by decide +kernel
theorem blank256 : (Str.ofString " ").cps.all (· < 256) = true := by decide +kernel
/-! ### a word of a bag -/
def figsOk (f : Str) : Bool := decide (1 ≤ f.length) && (decide (f.length ≤ 3) && (!decide ((tl f).head? = some 48) && (tl f).all isFig))
def figV (f : Str) : Int := ((NumText.digitsVal (tl f) : Nat) : Int)
def parseP : List Str → Option (Str × Int)
  | [n] => if isName n = true then some (n, 1) else none
  | [n, f] => if (isName n && figsOk f) = true then some (n, figV f) else none
  | _ => none
def parseW (w : Str) : Option (Str × Int) := parseP (Txt.split w (Str.ofString "*"))
theorem figsOk_int {f : Str} (h : figsOk f = true) : intText? f = some (figV f) := by
  unfold figsOk at h
  simp only [Bool.and_eq_true, decide_eq_true_eq] at h
  obtain ⟨h1, h2, _, h4⟩ := h
  refine intText_digits (x := f) (fun c hc => ?_) (fun e => ?_) (by omega)
  · have := List.all_eq_true.mp h4 c hc
    unfold isFig at this
    simpa using this
  · have : f.length = (tl f).length := by simp [Str.length]
    rw [show tl f = [] from e] at this
    simp at this
    omega
theorem one_sign (c d : Nat) (z : Str) (e : tl z = [d]) : decide (V.str ⟨#[c]⟩ = V.str z) = decide (c = d) := by
  refine decide_eq_decide.mpr ⟨fun h => ?_, fun h => ?_⟩
  · injection h with h
    have : tl (⟨#[c]⟩ : Str) = tl z := by rw [h]
    rw [e] at this
    exact List.head_eq_of_cons_eq (show [c] = [d] from this)
  · rw [h]
    have : (⟨#[d]⟩ : Str) = z := TL.ext_tl (by rw [show TL.tl z = [d] from e])
    rw [this]
theorem one_zero (c : Nat) : decide (V.str ⟨#[c]⟩ = V.str (Str.ofString "0")) = decide (c = 48) := one_sign c 48 _ (by decide +kernel)
/-! ### the words of a bag -/
def addC (cs : List (Str × Int)) (n : Str) (c : Int) : List (Str × Int) := put cs n ((look cs n).getD 0 + c)
def countsL : Nat → List Str → List (Str × Int) → Int → Except Nat (List (Str × Int))
  | _, [], cs, _ => .ok cs
  | i, w :: r, cs, t => match parseW w with
    | none => .error i
    | some (n, c) => if 400 < t + c then .error i else countsL (i + 1) r (addC cs n c) (t + c)
theorem countsL_ok {i : Nat} {w : Str} {r : List Str} {cs fin : List (Str × Int)} {t : Int} (h : countsL i (w :: r) cs t = .ok fin) : ∃ n c, parseW w = some (n, c) ∧ ¬ 400 < t + c ∧ countsL (i + 1) r (addC cs n c) (t + c) = .ok fin := by
  unfold countsL at h
  cases e : parseW w with
  | none => rw [e] at h; cases h
  | some p =>
    obtain ⟨n, c⟩ := p
    rw [e] at h
    by_cases q : 400 < t + c
    · simp only [if_pos q] at h
      cases h
    · simp only [if_neg q] at h
      exact ⟨n, c, rfl, q, h⟩
/-! ### texts put in order -/
def leB (a b : Str) : Bool := !decide (tl b < tl a)
def srt (ks : List Str) : List Str := ks.mergeSort leB
theorem leB_iff (a b : Str) : leB a b = true ↔ tl a ≤ tl b := by
  unfold leB
  simp
theorem leB_trans (a b c : Str) (h1 : leB a b = true) (h2 : leB b c = true) : leB a c = true := (leB_iff a c).mpr (List.le_trans ((leB_iff a b).mp h1) ((leB_iff b c).mp h2))
theorem leB_total (a b : Str) : (leB a b || leB b a) = true := by
  rcases List.le_total (tl a) (tl b) with h | h
  · rw [(leB_iff a b).mpr h, Bool.true_or]
  · rw [(leB_iff b a).mpr h, Bool.or_true]
theorem leB_anti {a b : Str} (h1 : leB a b = true) (h2 : leB b a = true) : a = b := TL.ext_tl (List.le_antisymm ((leB_iff a b).mp h1) ((leB_iff b a).mp h2))
theorem rising_pw : ∀ (l : List Str) (p : Str), risingS p l = true → (∀ x ∈ l, leB p x = true) ∧ l.Pairwise (fun a b => leB a b = true)
  | [], _, _ => ⟨fun _ h => (nomatch h), .nil⟩
  | y :: r, p, h => by
    have h2 : (!ltCps (tl y) (tl p) && risingS y r) = true := h
    obtain ⟨h3, h4⟩ := He.ba h2
    have h5 : leB p y = true := by
      unfold leB
      rw [ltCps_eq] at h3
      exact h3
    obtain ⟨i1, i2⟩ := rising_pw r y h4
    refine ⟨fun x hx => ?_, List.pairwise_cons.mpr ⟨i1, i2⟩⟩
    rcases List.mem_cons.mp hx with e | hx
    · rw [e]
      exact h5
    · exact leB_trans _ _ _ h5 (i1 x hx)
theorem sorted_pw {l : List Str} (h : sortedS l = true) : l.Pairwise (fun a b => leB a b = true) := by
  cases l with
  | nil => exact .nil
  | cons p r =>
    obtain ⟨h1, h2⟩ := rising_pw r p h
    exact List.pairwise_cons.mpr ⟨h1, h2⟩
theorem srt_pw (ks : List Str) : (srt ks).Pairwise (fun a b => leB a b = true) := List.pairwise_mergeSort leB_trans leB_total ks
theorem srt_perm (ks : List Str) : (srt ks).Perm ks := List.mergeSort_perm ks leB
theorem srt_of {ys ks : List Str} (hp : ys.Perm ks) (hs : sortedS ys = true) : ys = srt ks :=
  List.Perm.eq_of_pairwise (le := fun a b => leB a b = true) (fun _ _ _ _ h1 h2 => leB_anti h1 h2) (sorted_pw hs) (srt_pw ks) (hp.trans (srt_perm ks).symm)
theorem srt_eq {ks ls : List Str} (hp : ks.Perm ls) : srt ks = srt ls :=
  List.Perm.eq_of_pairwise (le := fun a b => leB a b = true) (fun _ _ _ _ h1 h2 => leB_anti h1 h2) (srt_pw ks) (srt_pw ls) ((srt_perm ks).trans (hp.trans (srt_perm ls).symm))
theorem mem_srt {ks : List Str} {x : Str} : x ∈ srt ks ↔ x ∈ ks := (srt_perm ks).mem_iff
theorem length_srt (ks : List Str) : (srt ks).length = ks.length := (srt_perm ks).length_eq
/-! ### bags -/
def keysOf (cs : List (Str × Int)) : List Str := cs.map (·.1)
def sumC (cs : List (Str × Int)) : Int := (cs.map (·.2)).sum
def numT (c : Int) : Str := Str.ofString (toString c)
def wordOf (n : Str) (c : Int) : Str := if c = 1 then n else n ++ Str.ofString "*" ++ numT c
def textOf (cs : List (Str × Int)) : Str := Txt.join (Str.ofString " ") ((srt (keysOf cs)).map fun n => wordOf n ((look cs n).getD 0))
structure GoodC (cs : List (Str × Int)) : Prop where
  few : cs.length < 64
  nd : (keysOf cs).Nodup
  nm : ∀ p ∈ cs, isName p.1 = true
  pos : ∀ p ∈ cs, 1 ≤ p.2
  sum : sumC cs ≤ 100000
theorem look_mem {cs : List (Str × Int)} {n : Str} {c : Int} (h : look cs n = some c) : (n, c) ∈ cs := by
  induction cs with
  | nil => cases h
  | cons p r ih =>
    rw [look_cons] at h
    by_cases e : p.1 = n
    · rw [if_pos e] at h
      have : p = (n, c) := Prod.ext e (Option.some.inj h)
      rw [this]
      exact List.mem_cons_self
    · rw [if_neg e] at h
      exact List.mem_cons_of_mem _ (ih h)
theorem look_of {cs : List (Str × Int)} (nd : (keysOf cs).Nodup) {n : Str} {c : Int} (h : (n, c) ∈ cs) : look cs n = some c := by
  induction cs with
  | nil => cases h
  | cons p r ih =>
    have nd2 : p.1 ∉ keysOf r ∧ (keysOf r).Nodup := List.nodup_cons.mp nd
    rw [look_cons]
    rcases List.mem_cons.mp h with e | h
    · rw [← e, if_pos rfl]
    · rw [if_neg, ih nd2.2 h]
      intro e
      exact nd2.1 (by rw [e]; exact List.mem_map.mpr ⟨_, h, rfl⟩)
theorem look_none {cs : List (Str × Int)} {n : Str} : look cs n = none ↔ n ∉ keysOf cs := by
  induction cs with
  | nil => simp [look, keysOf]
  | cons p r ih =>
    rw [look_cons]
    by_cases e : p.1 = n
    · rw [if_pos e]
      simp [keysOf, e]
    · rw [if_neg e, ih]
      simp [keysOf, Ne.symm e]
theorem isName_len {n : Str} (h : isName n = true) : 1 ≤ n.length ∧ n.length ≤ 8 := by
  unfold isName isNm at h
  obtain ⟨h1, h⟩ := He.ba h
  obtain ⟨h2, _⟩ := He.ba h
  rw [show n.length = (tl n).length by simp [Str.length]]
  exact ⟨of_decide_eq_true h1, of_decide_eq_true h2⟩
theorem sumC_le {cs : List (Str × Int)} (pos : ∀ p ∈ cs, 1 ≤ p.2) : ∀ p ∈ cs, p.2 ≤ sumC cs := by
  induction cs with
  | nil => intro p hp; cases hp
  | cons q r ih =>
    intro p hp
    have h1 := pos q List.mem_cons_self
    have h2 : 0 ≤ sumC r := by
      have pr : ∀ p ∈ r, 1 ≤ p.2 := fun p hp => pos p (List.mem_cons_of_mem _ hp)
      clear ih hp h1 pos
      induction r with
      | nil => exact Int.le_refl 0
      | cons a r ih =>
        have h1 := pr a List.mem_cons_self
        have h2 := ih fun p hp => pr p (List.mem_cons_of_mem _ hp)
        show 0 ≤ a.2 + sumC r
        omega
    show p.2 ≤ q.2 + sumC r
    rcases List.mem_cons.mp hp with e | hp
    · rw [e]
      omega
    · have := ih (fun p hp => pos p (List.mem_cons_of_mem _ hp)) p hp
      omega
theorem GoodC.le {cs : List (Str × Int)} (g : GoodC cs) : ∀ p ∈ cs, p.2 ≤ 100000 := fun p hp => Int.le_trans (sumC_le g.pos p hp) g.sum
end Sk

set_option maxHeartbeats 4000000
/-! texts of bags: words, their lengths, split and join again -/
namespace Sk
open PySem PySem.Spec PyProof.Rows L2
theorem append_len (a b : Str) : (a ++ b).length = a.length + b.length := Str.length_append a b
theorem empty_app (n : Str) : Str.empty ++ n = n := by
  cases n
  show (⟨#[] ++ _⟩ : Str) = _
  simp
theorem app_empty (n : Str) : n ++ Str.ofString "" = n := by
  cases n
  show (⟨_ ++ #[]⟩ : Str) = _
  simp
theorem app_assoc (a b c : Str) : a ++ b ++ c = a ++ (b ++ c) := by
  cases a; cases b; cases c
  show (⟨(_ ++ _) ++ _⟩ : Str) = ⟨_ ++ (_ ++ _)⟩
  simp
theorem tl_app (a b : Str) : tl (a ++ b) = tl a ++ tl b := by
  cases a; cases b
  show ((_ ++ _ : Array Nat)).toList = _
  simp [tl]
theorem log_small {c : Int} (h0 : 0 ≤ c) (h : c ≤ 1000000) : c.natAbs.log2 < 1920 := by
  have h1 : c.natAbs < 2 ^ 1920 := Nat.lt_of_le_of_lt (show c.natAbs ≤ 1000000 by omega) (by decide +kernel)
  exact PySem.Flt.log2_lt_of (by omega) h1
theorem numT_len {c : Int} (h0 : 0 ≤ c) (h : c < 1000000) : (numT c).length ≤ 6 := toString_length_le h0 (by omega) (by omega)
theorem wordOf_len {n : Str} {c : Int} (hn : n.length ≤ 8) (h0 : 0 ≤ c) (h : c < 1000000) : (wordOf n c).length ≤ 15 := by
  unfold wordOf
  split
  · omega
  · rw [append_len, append_len]
    have := numT_len h0 h
    have : (Str.ofString "*").length = 1 := by decide +kernel
    omega
theorem sum_le {α : Type} {m : Nat} (f : α → Nat) : ∀ (l : List α), (∀ x ∈ l, f x ≤ m) → (l.map f).sum ≤ l.length * m
  | [], _ => Nat.zero_le _
  | x :: r, h => by
    have h1 := h x List.mem_cons_self
    have h2 := sum_le f r fun y hy => h y (List.mem_cons_of_mem _ hy)
    rw [List.map_cons, List.sum_cons, List.length_cons, Nat.add_mul]
    omega
theorem words_size {ws : List Str} {a : Str} (ha : a.length ≤ 1) (hn : ws.length ≤ 1000) (h : ∀ x ∈ ws, x.length ≤ 15) : (ws.map (·.length)).sum + ws.length * a.length ≤ 16000 := by
  have h1 := sum_le (m := 15) (fun x : Str => x.length) ws h
  have h2 : ws.length * a.length ≤ ws.length * 1 := Nat.mul_le_mul_left _ ha
  omega
end Sk

set_option maxHeartbeats 4000000
/-! names that a law makes: letters, cuts, lists of unlike names; heaps but for one object -/
namespace Sk
open PySem PySem.Spec PyProof.Rows L2
theorem But.mut {d p : Addr} {H H1 : Hp} {o : HO} (a : But d H H1) (h : H p = Option.none) : But d H (L2.upd H1 p o) := fun c u n e => by
  have := a c u n e
  rw [upd_ne (ne_of_none e h)]
  exact this
theorem But.free {d p : Addr} {H H1 : Hp} (a : But d H H1) (n : p ≠ d) (h : H1 p = Option.none) : H p = Option.none := by
  cases e : H p with
  | none => rfl
  | some o =>
    rw [a p o n e] at h
    cases h
theorem But.at {d p : Addr} {H H1 : Hp} {o : HO} (a : But d H H1) (n : p ≠ d) (h : H p = some o) : H1 p = some o := a p o n h
theorem But.seqL {K : PySem.W.Frag} {d a : Addr} {H H1 : Hp} {xs : List V} (b : But d H H1) (n : a ≠ d) (h : SqL K H a xs) : SqL K H1 a xs :=
  h.elim (fun h => .inl (h.elim (fun h => .inl (b _ _ n h)) fun ⟨o, h⟩ => .inr ⟨o, b _ _ n h⟩)) fun h => .inr h
def okC (c : Nat) : Bool := isLet c || isFig c
def chk (z : Str) : Bool := (tl z).all okC
def letters : Str := Str.ofString "abcdefghijklmnopqrstuvwxyz"
def signs : Str := Str.ofString "abcdefghijklmnopqrstuvwxyz" ++ Str.ofString "0123456789"
theorem at_letter {v : Int} (h0 : 0 ≤ v) (h1 : v < 26) : ∃ c, atI (Str.ofString "abcdefghijklmnopqrstuvwxyz").cps.toList v = some c ∧ isLet c = true := by
  obtain ⟨k, rfl⟩ := Int.eq_ofNat_of_zero_le h0
  have hk : k < 26 := by omega
  refine ⟨97 + k, atI_nat (show (tl (Str.ofString "abcdefghijklmnopqrstuvwxyz"))[k]? = _ from ?_), ?_⟩
  · rw [letters_tl]
    simp [hk]
  · unfold isLet
    simp
    omega
theorem signs_tl : tl signs = (List.range 26).map (97 + ·) ++ (List.range 10).map (48 + ·) := by
  unfold signs
  rw [tl_app, letters_tl, figures_tl]
theorem at_sign {v : Int} (h0 : 0 ≤ v) (h1 : v < 36) : ∃ c, atI (Str.ofString "abcdefghijklmnopqrstuvwxyz" ++ Str.ofString "0123456789").cps.toList v = some c ∧ okC c = true := by
  obtain ⟨k, rfl⟩ := Int.eq_ofNat_of_zero_le h0
  have hk : k < 36 := by omega
  by_cases h : k < 26
  · refine ⟨97 + k, atI_nat (show (tl signs)[k]? = _ from ?_), ?_⟩
    · rw [signs_tl, List.getElem?_append_left (by simpa using h)]
      simp [h]
    · unfold okC isLet
      simp
      omega
  · refine ⟨48 + (k - 26), atI_nat (show (tl signs)[k]? = _ from ?_), ?_⟩
    · rw [signs_tl, List.getElem?_append_right (by simpa using h)]
      have : k - 26 < 10 := by omega
      simp [this]
    · unfold okC isFig
      simp
      omega
theorem joinL_nil_mem {c : Nat} : ∀ {ps : List (List Nat)}, c ∈ TL.joinL [] ps → ∃ p ∈ ps, c ∈ p
  | [], h => by cases h
  | [p], h => ⟨p, List.mem_cons_self, h⟩
  | p :: q :: r, h => by
    rcases List.mem_append.mp (show c ∈ p ++ ([] ++ TL.joinL [] (q :: r)) from h) with h | h
    · exact ⟨p, List.mem_cons_self, h⟩
    · obtain ⟨x, hx, e⟩ := joinL_nil_mem (ps := q :: r) h
      exact ⟨x, List.mem_cons_of_mem _ hx, e⟩
theorem joinL_nil_len : ∀ {ps : List (List Nat)}, (∀ p ∈ ps, p.length ≤ 1) → (TL.joinL [] ps).length ≤ ps.length
  | [], _ => Nat.zero_le _
  | [p], h => h p List.mem_cons_self
  | p :: q :: r, h => by
    have h1 := h p List.mem_cons_self
    have h2 := joinL_nil_len (ps := q :: r) fun x hx => h x (List.mem_cons_of_mem _ hx)
    show (p ++ ([] ++ TL.joinL [] (q :: r))).length ≤ _
    rw [List.length_append, List.nil_append, List.length_cons]
    omega
theorem tl_len (z : Str) : (tl z).length = z.length := by simp [Str.length, tl]
theorem join_chk {ps : List Str} (h : ∀ p ∈ ps, p.length ≤ 1 ∧ chk p = true) : chk (Txt.join (Str.ofString "") ps) = true ∧ (Txt.join (Str.ofString "") ps).length ≤ ps.length := by
  rw [TL.join_eq]
  have e : tl (Str.join (Str.ofString "") ps) = TL.joinL [] (ps.map tl) := TL.tl_join (Str.ofString "") ps
  refine ⟨?_, ?_⟩
  · unfold chk
    rw [e, List.all_eq_true]
    intro c hc
    obtain ⟨p, hp, hcp⟩ := joinL_nil_mem hc
    obtain ⟨q, hq, rfl⟩ := List.mem_map.mp hp
    exact List.all_eq_true.mp (h q hq).2 c hcp
  · rw [← tl_len, e]
    have := joinL_nil_len (ps := ps.map tl) fun p hp => by
      obtain ⟨q, hq, rfl⟩ := List.mem_map.mp hp
      rw [tl_len]
      exact (h q hq).1
    rw [List.length_map] at this
    exact this
theorem tl_cut (z : Str) (lo hi : Option Int) : tl (cutS z lo hi) = ((tl z).drop (HT.sIx z.length 0 lo)).take (HT.sIx z.length z.length hi - HT.sIx z.length 0 lo) := rfl
theorem made_name {h l : Nat} {b : Str} {k : Nat} (hh : isLet h = true) (hl : isLet l = true) (hb : chk b = true) (n : b.length ≤ 6) : isName (⟨#[h]⟩ ++ cutS b none (some (k : Int)) ++ ⟨#[l]⟩ ++ cutS b (some (k : Int)) none) = true := by
  have e : tl (⟨#[h]⟩ ++ cutS b none (some (k : Int)) ++ ⟨#[l]⟩ ++ cutS b (some (k : Int)) none : Str) = h :: ((tl b).take (min k b.length) ++ [l] ++ (tl b).drop (min k b.length)) := by
    rw [tl_app, tl_app, tl_app, tl_cut, tl_cut, HT.sIx_nat, HT.sIx_nat, HT.sIx_none, HT.sIx_none]
    have e1 : ((tl b).drop (min k b.length)).take (b.length - min k b.length) = (tl b).drop (min k b.length) := List.take_of_length_le (by rw [List.length_drop, tl_len]; omega)
    rw [e1]
    simp [tl]
  have len : (h :: ((tl b).take (min k b.length) ++ [l] ++ (tl b).drop (min k b.length))).length ≤ 8 := by
    simp only [List.length_cons, List.length_append, List.length_take, List.length_drop, tl_len, List.length_nil]
    omega
  unfold isName isNm
  rw [e]
  have hb' := List.all_eq_true.mp hb
  have a1 : ((h :: ((tl b).take (min k b.length) ++ [l] ++ (tl b).drop (min k b.length))).all fun c => isLet c || isFig c) = true := by
    rw [List.all_eq_true]
    intro c hc
    rcases List.mem_cons.mp hc with rfl | hc
    · rw [hh]; rfl
    · rcases List.mem_append.mp hc with hc | hc
      · rcases List.mem_append.mp hc with hc | hc
        · exact hb' c (List.mem_of_mem_take hc)
        · rw [List.mem_singleton.mp hc, hl]; rfl
      · exact hb' c (List.mem_of_mem_drop hc)
  rw [a1, decide_eq_true (show 1 ≤ (h :: ((tl b).take (min k b.length) ++ [l] ++ (tl b).drop (min k b.length))).length by simp), decide_eq_true len]
  show (true && (true && (isLet h && true))) = true
  rw [hh]
  rfl
structure GoodN (ns : List Str) : Prop where
  nm : ∀ z ∈ ns, isName z = true
  nd : ns.Nodup
theorem GoodN.one {z : Str} (h : isName z = true) : GoodN [z] := ⟨fun x hx => by rw [List.mem_singleton.mp hx]; exact h, by simp⟩
theorem GoodN.snoc {ns : List Str} {z : Str} (g : GoodN ns) (h : isName z = true) (hn : z ∉ ns) : GoodN (ns ++ [z]) := by
  refine ⟨fun x hx => ?_, ?_⟩
  · rcases List.mem_append.mp hx with hx | hx
    · exact g.nm x hx
    · rw [List.mem_singleton.mp hx]; exact h
  · rw [List.nodup_append]
    refine ⟨g.nd, by simp, fun a ha b hb e => ?_⟩
    rw [List.mem_singleton.mp hb] at e
    rw [e] at ha
    exact hn ha
theorem GoodN.take {ns : List Str} (g : GoodN ns) (k : Nat) : GoodN (ns.take k) := ⟨fun x hx => g.nm x (List.mem_of_mem_take hx), g.nd.sublist (List.take_sublist _ _)⟩
theorem inV_str (z : Str) (ns : List Str) : inV (.str z) (ns.map V.str) = decide (z ∈ ns) := by
  induction ns with
  | nil => rfl
  | cons a r ih =>
    show (eqV (.str a) (.str z) || inV (.str z) (r.map V.str)) = _
    rw [ih]
    show ((a == z) || decide (z ∈ r)) = _
    by_cases e : a = z
    · subst e
      simp
    · have e2 : (a == z) = false := by simp [e]
      rw [e2, Bool.false_or]
      have : z ∈ a :: r ↔ z ∈ r := by simp [Ne.symm e]
      simp [this]
theorem flat_strs (ns : List Str) : (ns.map V.str).all flatV = true := by
  rw [List.all_eq_true]
  intro x hx
  obtain ⟨z, _, rfl⟩ := List.mem_map.mp hx
  rfl
end Sk

set_option maxHeartbeats 4000000
/-! words of bags: what they tell together -/
namespace Sk
open PySem PySem.Spec PyProof.Rows L2
def tot (ps : List (Str × Int)) (n : Str) : Int := (ps.map fun p => if p.1 = n then p.2 else 0).sum
theorem tot_nil (n : Str) : tot [] n = 0 := rfl
theorem tot_cons (p : Str × Int) (ps : List (Str × Int)) (n : Str) : tot (p :: ps) n = (if p.1 = n then p.2 else 0) + tot ps n := by
  unfold tot
  rw [List.map_cons, List.sum_cons]
theorem tot_app (a b : List (Str × Int)) (n : Str) : tot (a ++ b) n = tot a n + tot b n := by
  unfold tot
  rw [List.map_append, List.sum_append]
theorem sumC_cons (p : Str × Int) (ps : List (Str × Int)) : sumC (p :: ps) = p.2 + sumC ps := by
  unfold sumC
  rw [List.map_cons, List.sum_cons]
theorem sumC_app (a b : List (Str × Int)) : sumC (a ++ b) = sumC a + sumC b := by
  unfold sumC
  rw [List.map_append, List.sum_append]
theorem keysOf_app (a b : List (Str × Int)) : keysOf (a ++ b) = keysOf a ++ keysOf b := by
  unfold keysOf
  rw [List.map_append]
theorem put_new {cs : List (Str × Int)} {n : Str} {c : Int} (h : n ∉ keysOf cs) : put cs n c = cs ++ [(n, c)] := by
  unfold put
  rw [if_neg]
  intro e
  obtain ⟨p, hp, q⟩ := List.any_eq_true.mp e
  exact h (List.mem_map.mpr ⟨p, hp, of_decide_eq_true q⟩)
theorem keys_put {cs : List (Str × Int)} {n : Str} {c : Int} (h : n ∈ keysOf cs) : keysOf (put cs n c) = keysOf cs := by
  unfold put
  have e : (cs.any fun p => decide (p.1 = n)) = true := by
    obtain ⟨p, hp, q⟩ := List.mem_map.mp h
    exact List.any_eq_true.mpr ⟨p, hp, decide_eq_true q⟩
  rw [if_pos e]
  unfold keysOf
  rw [List.map_map]
  refine List.map_congr_left fun p _ => ?_
  show (if p.1 = n then (p.1, c) else p).1 = p.1
  split <;> rfl
theorem nodup_put {cs : List (Str × Int)} {n : Str} {c : Int} (h : (keysOf cs).Nodup) : (keysOf (put cs n c)).Nodup := by
  by_cases hn : n ∈ keysOf cs
  · rw [keys_put hn]
    exact h
  · rw [put_new hn, keysOf_app, List.nodup_append]
    refine ⟨h, by simp [keysOf], fun a ha b hb e => ?_⟩
    rw [show b = n from List.mem_singleton.mp hb] at e
    rw [e] at ha
    exact hn ha
theorem mem_put {cs : List (Str × Int)} {n : Str} {c : Int} {p : Str × Int} (h : p ∈ put cs n c) : p ∈ cs ∨ p = (n, c) := by
  unfold put at h
  split at h
  · obtain ⟨q, hq, e⟩ := List.mem_map.mp h
    by_cases z : q.1 = n
    · rw [if_pos z] at e
      exact .inr (by rw [← e, z])
    · rw [if_neg z] at e
      exact .inl (by rw [← e]; exact hq)
  · rcases List.mem_append.mp h with h | h
    · exact .inl h
    · exact .inr (List.mem_singleton.mp h)
/-- all of ps put to acc -/
def accAll (acc ps : List (Str × Int)) : List (Str × Int) := ps.foldl (fun a p => addC a p.1 p.2) acc
theorem accAll_cons (acc : List (Str × Int)) (p : Str × Int) (ps : List (Str × Int)) : accAll acc (p :: ps) = accAll (addC acc p.1 p.2) ps := rfl
theorem look_addC (cs : List (Str × Int)) (n m : Str) (c : Int) : (look (addC cs n c) m).getD 0 = (look cs m).getD 0 + if n = m then c else 0 := by
  unfold addC
  rw [look_put]
  by_cases e : m = n
  · subst e
    rw [if_pos rfl, if_pos rfl]
    rfl
  · rw [if_neg e, if_neg fun z => e z.symm]
    omega
theorem look_accAll (ps : List (Str × Int)) : ∀ (acc : List (Str × Int)) (n : Str), (look (accAll acc ps) n).getD 0 = (look acc n).getD 0 + tot ps n := by
  induction ps with
  | nil => intro acc n; rw [tot_nil]; show (look acc n).getD 0 = _; omega
  | cons p r ih =>
    intro acc n
    rw [accAll_cons, ih, look_addC, tot_cons]
    omega
theorem nodup_accAll (ps : List (Str × Int)) : ∀ (acc : List (Str × Int)), (keysOf acc).Nodup → (keysOf (accAll acc ps)).Nodup := by
  induction ps with
  | nil => intro acc h; exact h
  | cons p r ih =>
    intro acc h
    rw [accAll_cons]
    exact ih _ (nodup_put h)
theorem look_pos {cs : List (Str × Int)} (h : ∀ p ∈ cs, 1 ≤ p.2) (n : Str) : 0 ≤ (look cs n).getD 0 := by
  cases e : look cs n with
  | none => exact Int.le_refl 0
  | some c =>
    have h1 : (1 : Int) ≤ c := h _ (look_mem e)
    show 0 ≤ c
    omega
theorem pos_accAll (ps : List (Str × Int)) : ∀ (acc : List (Str × Int)), (∀ p ∈ ps, 1 ≤ p.2) → (∀ p ∈ acc, 1 ≤ p.2) → ∀ p ∈ accAll acc ps, 1 ≤ p.2 := by
  induction ps with
  | nil => intro acc _ h; exact h
  | cons p r ih =>
    intro acc h ha
    rw [accAll_cons]
    refine ih _ (fun q hq => h q (List.mem_cons_of_mem _ hq)) fun q hq => ?_
    rcases mem_put hq with hq | hq
    · exact ha q hq
    · rw [hq]
      have h1 := h p List.mem_cons_self
      have h2 := look_pos ha p.1
      show 1 ≤ (look acc p.1).getD 0 + p.2
      omega
theorem countsL_acc : ∀ (ws : List Str) (ps : List (Str × Int)) (i : Nat) (acc : List (Str × Int)) (t : Int), ws.map parseW = ps.map some → (∀ p ∈ ps, 1 ≤ p.2) → t + sumC ps ≤ 400 → countsL i ws acc t = .ok (accAll acc ps)
  | [], [], i, acc, t, _, _, _ => rfl
  | [], _ :: _, _, _, _, h, _, _ => by cases h
  | _ :: _, [], _, _, _, h, _, _ => by cases h
  | w :: ws, p :: ps, i, acc, t, h, pos, le => by
    rw [List.map_cons, List.map_cons] at h
    injection h with h1 h2
    have hs : 0 ≤ sumC ps := by
      have pr : ∀ q ∈ ps, 1 ≤ q.2 := fun q hq => pos q (List.mem_cons_of_mem _ hq)
      clear h2 le pos h1
      induction ps with
      | nil => exact Int.le_refl 0
      | cons a r ih =>
        rw [sumC_cons]
        have h1 := pr a List.mem_cons_self
        have h2 := ih fun q hq => pr q (List.mem_cons_of_mem _ hq)
        omega
    rw [sumC_cons] at le
    obtain ⟨n, c⟩ := p
    unfold countsL
    rw [h1]
    show (if 400 < t + c then _ else _) = _
    rw [if_neg (by simp only at le; omega)]
    exact countsL_acc ws ps (i + 1) (addC acc n c) (t + c) h2 (fun q hq => pos q (List.mem_cons_of_mem _ hq)) (by simp only at le; omega)
/-! ### the same counts in another order -/
theorem nodup_of_keys {cs : List (Str × Int)} (h : (keysOf cs).Nodup) : cs.Nodup := by
  induction cs with
  | nil => simp
  | cons p r ih =>
    have h2 : p.1 ∉ keysOf r ∧ (keysOf r).Nodup := List.nodup_cons.mp h
    exact List.nodup_cons.mpr ⟨fun hp => h2.1 (List.mem_map.mpr ⟨p, hp, rfl⟩), ih h2.2⟩
theorem perm_of_look {a b : List (Str × Int)} (na : (keysOf a).Nodup) (nb : (keysOf b).Nodup) (pa : ∀ p ∈ a, 1 ≤ p.2) (pb : ∀ p ∈ b, 1 ≤ p.2) (h : ∀ n, (look a n).getD 0 = (look b n).getD 0) : a.Perm b := by
  have key : ∀ {a b : List (Str × Int)}, (keysOf a).Nodup → (∀ p ∈ a, 1 ≤ p.2) → (∀ n, (look a n).getD 0 = (look b n).getD 0) → ∀ p, p ∈ a → p ∈ b := by
    intro a b na pa h p hp
    obtain ⟨n, c⟩ := p
    have e := look_of na hp
    have q := h n
    have c1 : (1 : Int) ≤ c := pa _ hp
    rw [e] at q
    cases e2 : look b n with
    | none =>
      rw [e2] at q
      have q : c = 0 := q
      omega
    | some c2 =>
      rw [e2] at q
      have q : c = c2 := q
      rw [q]
      exact look_mem e2
  exact (List.perm_ext_iff_of_nodup (nodup_of_keys na) (nodup_of_keys nb)).mpr fun p => ⟨key na pa h p, key nb pb (fun n => (h n).symm) p⟩
theorem perm_keys {a b : List (Str × Int)} (h : a.Perm b) : (keysOf a).Perm (keysOf b) := h.map _
theorem perm_sumC {a b : List (Str × Int)} (h : a.Perm b) : sumC a = sumC b := by
  induction h with
  | nil => rfl
  | cons p _ ih => rw [sumC_cons, sumC_cons, ih]
  | swap p q r => rw [sumC_cons, sumC_cons, sumC_cons, sumC_cons]; omega
  | trans _ _ i1 i2 => rw [i1, i2]
theorem perm_look {a b : List (Str × Int)} (h : a.Perm b) (na : (keysOf a).Nodup) (n : Str) : look a n = look b n := by
  have nb : (keysOf b).Nodup := (perm_keys h).nodup_iff.mp na
  cases e : look a n with
  | none =>
    have h1 := look_none.mp e
    exact (look_none.mpr fun z => h1 ((perm_keys h).mem_iff.mpr z)).symm
  | some c => exact (look_of nb (h.mem_iff.mp (look_mem e))).symm
theorem perm_text {a b : List (Str × Int)} (h : a.Perm b) (na : (keysOf a).Nodup) : textOf a = textOf b := by
  unfold textOf
  rw [srt_eq (perm_keys h)]
  congr 1
  refine List.map_congr_left fun n _ => ?_
  rw [perm_look h na]
theorem perm_good {a b : List (Str × Int)} (h : a.Perm b) (g : GoodC a) : GoodC b :=
  ⟨by rw [← h.length_eq]; exact g.few, (perm_keys h).nodup_iff.mp g.nd, fun p hp => g.nm p (h.mem_iff.mpr hp), fun p hp => g.pos p (h.mem_iff.mpr hp), by rw [← perm_sumC h]; exact g.sum⟩
theorem perm_same {a b : List (Str × Int)} (h : a.Perm b) (na : (keysOf a).Nodup) : sameC a b = true := by
  unfold sameC
  rw [h.length_eq, beq_self_eq_true, Bool.true_and, List.all_eq_true]
  intro p hp
  refine decide_eq_true ?_
  rw [← perm_look h na]
  exact look_of na hp
theorem keys_kvS (cs : List (Str × Int)) : (kvS cs).map (·.1) = (keysOf cs).map Sum.inr := by simp [kvS, keysOf]
/-! ### words -/
theorem name_signs {n : Str} (h : isName n = true) : ∀ c ∈ tl n, okC c = true := by
  unfold isName isNm at h
  obtain ⟨_, h⟩ := He.ba h
  obtain ⟨_, h⟩ := He.ba h
  obtain ⟨_, h⟩ := He.ba h
  exact fun c hc => List.all_eq_true.mp h c hc
theorem okC_ne {c : Nat} (h : okC c = true) : c ≠ 42 ∧ c ≠ 32 := by
  refine ⟨fun e => ?_, fun e => ?_⟩ <;> (subst e; revert h; decide)
theorem num_all : ((List.range 1000).all fun k => decide (k = 0) || (figsOk (numT (k : Int)) && (decide (figV (numT (k : Int)) = (k : Int)) && (tl (numT (k : Int))).all okC))) = true := by decide +kernel
theorem num_fig {c : Int} (h0 : 1 ≤ c) (h1 : c ≤ 999) : figsOk (numT c) = true ∧ figV (numT c) = c ∧ (tl (numT c)).all okC = true := by
  obtain ⟨k, rfl⟩ := Int.eq_ofNat_of_zero_le (show 0 ≤ c by omega)
  have q := List.all_eq_true.mp num_all k (List.mem_range.mpr (by omega))
  rw [decide_eq_false (by omega), Bool.false_or] at q
  obtain ⟨q1, q⟩ := He.ba q
  obtain ⟨q2, q3⟩ := He.ba q
  exact ⟨q1, of_decide_eq_true q2, q3⟩
theorem parse_name {n : Str} (h : isName n = true) : parseW n = some (n, 1) := by
  have e : Txt.join (Str.ofString "*") [n] = n := by rw [TL.join_eq]; rfl
  have s := TL.split_join (y := Str.ofString "*") (s := 42) (S := []) tl_star star256 (parts := [n]) (by simp) fun p hp => by
    rw [List.mem_singleton.mp hp]
    exact fun z => (okC_ne (name_signs h 42 z)).1 rfl
  rw [e] at s
  unfold parseW
  rw [s]
  show (if isName n = true then some (n, (1 : Int)) else none) = _
  rw [if_pos h]
theorem parse_two {n : Str} {c : Int} (h : isName n = true) (h0 : 1 ≤ c) (h1 : c ≤ 999) : parseW (n ++ Str.ofString "*" ++ numT c) = some (n, c) := by
  obtain ⟨f1, f2, f3⟩ := num_fig h0 h1
  have e : Txt.join (Str.ofString "*") [n, numT c] = n ++ Str.ofString "*" ++ numT c := by rw [TL.join_eq]; rfl
  have s := TL.split_join (y := Str.ofString "*") (s := 42) (S := []) tl_star star256 (parts := [n, numT c]) (by simp) fun p hp => by
    rcases List.mem_cons.mp hp with rfl | hp
    · exact fun z => (okC_ne (name_signs h 42 z)).1 rfl
    · rw [List.mem_singleton.mp hp]
      exact fun z => (okC_ne (List.all_eq_true.mp f3 42 z)).1 rfl
  rw [e] at s
  unfold parseW
  rw [s]
  show (if (isName n && figsOk (numT c)) = true then some (n, figV (numT c)) else none) = _
  rw [h, f1, f2]
  rfl
/-- a word that tells of n c things, by its text -/
structure WordIs (w : Str) (p : Str × Int) : Prop where
  parse : parseW w = some p
  blank : 32 ∉ tl w
  ne : w ≠ Str.ofString ""
  len : w.length ≤ 12
theorem name_ne {n r : Str} (h : isName n = true) : n ++ r ≠ Str.ofString "" := fun e => by
  have h1 := (isName_len h).1
  have h2 : (n ++ r).length = 0 := by rw [e]; decide +kernel
  rw [append_len] at h2
  omega
theorem word_name {n : Str} (h : isName n = true) : WordIs n (n, 1) :=
  ⟨parse_name h, fun z => (okC_ne (name_signs h 32 z)).2 rfl, fun e => by have := name_ne (r := Str.ofString "") h; rw [app_empty] at this; exact this e, Nat.le_trans (isName_len h).2 (by omega)⟩
theorem word_two {n : Str} {c : Int} (h : isName n = true) (h0 : 1 ≤ c) (h1 : c ≤ 999) : WordIs (n ++ Str.ofString "*" ++ numT c) (n, c) := by
  obtain ⟨f1, f2, f3⟩ := num_fig h0 h1
  refine ⟨parse_two h h0 h1, fun z => ?_, by rw [app_assoc]; exact name_ne h, ?_⟩
  · rw [tl_app, tl_app, tl_star] at z
    rcases List.mem_append.mp z with z | z
    · rcases List.mem_append.mp z with z | z
      · exact (okC_ne (name_signs h 32 z)).2 rfl
      · have := List.mem_singleton.mp z
        omega
    · exact (okC_ne (List.all_eq_true.mp f3 32 z)).2 rfl
  · rw [append_len, append_len]
    have l1 := (isName_len h).2
    have l2 : (numT c).length ≤ 3 := by
      unfold figsOk at f1
      obtain ⟨_, f1⟩ := He.ba f1
      obtain ⟨f1, _⟩ := He.ba f1
      exact of_decide_eq_true f1
    have l3 : (Str.ofString "*").length = 1 := by decide +kernel
    omega
theorem word_of {n : Str} {c : Int} (h : isName n = true) (h0 : 1 ≤ c) (h1 : c ≤ 999) : WordIs (wordOf n c) (n, c) := by
  unfold wordOf
  split
  · rename_i e
    rw [e]
    exact word_name h
  · exact word_two h h0 h1
theorem joinL_len (S : List Nat) : ∀ (ps : List (List Nat)) (m : Nat), (∀ p ∈ ps, p.length ≤ m) → (TL.joinL S ps).length ≤ ps.length * (m + S.length)
  | [], _, _ => Nat.zero_le _
  | [p], m, h => by
    have := h p List.mem_cons_self
    show p.length ≤ 1 * _
    omega
  | p :: q :: r, m, h => by
    have h1 := h p List.mem_cons_self
    have h2 := joinL_len S (q :: r) m fun x hx => h x (List.mem_cons_of_mem _ hx)
    show (p ++ (S ++ TL.joinL S (q :: r))).length ≤ (r.length + 1 + 1) * _
    rw [List.length_append, List.length_append, Nat.add_mul]
    have h2 : (TL.joinL S (q :: r)).length ≤ (r.length + 1) * (m + S.length) := h2
    omega
theorem join_len {ws : List Str} {m : Nat} (h : ∀ x ∈ ws, x.length ≤ m) : (Txt.join (Str.ofString " ") ws).length ≤ ws.length * (m + 1) := by
  rw [TL.join_eq, ← tl_len, show tl (Str.join (Str.ofString " ") ws) = TL.joinL (tl (Str.ofString " ")) (ws.map tl) from TL.tl_join _ _, tl_blank]
  have := joinL_len [32] (ws.map tl) m fun p hp => by
    obtain ⟨z, hz, rfl⟩ := List.mem_map.mp hp
    rw [tl_len]
    exact h z hz
  rw [List.length_map] at this
  exact this
def wordsOf (z : Str) : List Str := if z = Str.ofString "" then [] else Txt.split z (Str.ofString " ")
def bagOf (z : Str) : Except Nat (List (Str × Int)) := countsL 0 (wordsOf z) [] 0
/-- words ws that tell ps -/
structure WordsAre (ws : List Str) (ps : List (Str × Int)) : Prop where
  len : ws.length = ps.length
  at_ : ∀ (i : Nat) (w : Str) (p : Str × Int), ws[i]? = some w → ps[i]? = some p → WordIs w p
theorem WordsAre.nil : WordsAre [] [] := ⟨rfl, fun _ _ _ h => by simp at h⟩
theorem WordsAre.snoc {ws : List Str} {ps : List (Str × Int)} {w : Str} {p : Str × Int} (h : WordsAre ws ps) (q : WordIs w p) : WordsAre (ws ++ [w]) (ps ++ [p]) := by
  refine ⟨by rw [List.length_append, List.length_append, h.len]; rfl, fun i x y e1 e2 => ?_⟩
  by_cases hi : i < ws.length
  · rw [List.getElem?_append_left hi] at e1
    rw [List.getElem?_append_left (by rw [← h.len]; exact hi)] at e2
    exact h.at_ i x y e1 e2
  · rw [List.getElem?_append_right (by omega)] at e1
    rw [List.getElem?_append_right (by rw [← h.len]; omega), ← h.len] at e2
    cases e : i - ws.length with
    | zero =>
      rw [e] at e1 e2
      cases e1
      cases e2
      exact q
    | succ k =>
      rw [e] at e1
      simp at e1
theorem WordsAre.each {ws : List Str} {ps : List (Str × Int)} (h : WordsAre ws ps) {w : Str} (hw : w ∈ ws) : ∃ p ∈ ps, WordIs w p := by
  obtain ⟨i, hi, e⟩ := List.mem_iff_getElem.mp hw
  have h2 : i < ps.length := by rw [← h.len]; exact hi
  exact ⟨ps[i], List.getElem_mem h2, h.at_ i w ps[i] (by rw [List.getElem?_eq_getElem hi, e]) (List.getElem?_eq_getElem h2)⟩
theorem WordsAre.parse {ws : List Str} {ps : List (Str × Int)} (h : WordsAre ws ps) : ws.map parseW = ps.map some := by
  refine List.ext_getElem? fun i => ?_
  rw [List.getElem?_map, List.getElem?_map]
  by_cases hi : i < ws.length
  · have h2 : i < ps.length := by rw [← h.len]; exact hi
    have q := h.at_ i ws[i] ps[i] (List.getElem?_eq_getElem hi) (List.getElem?_eq_getElem h2)
    rw [List.getElem?_eq_getElem hi, List.getElem?_eq_getElem h2]
    show some (parseW ws[i]) = some (some ps[i])
    rw [q.parse]
  · rw [List.getElem?_eq_none (by omega), List.getElem?_eq_none (by rw [← h.len]; omega)]
    rfl
theorem WordsAre.split {ws : List Str} {ps : List (Str × Int)} (h : WordsAre ws ps) : wordsOf (Txt.join (Str.ofString " ") ws) = ws := by
  unfold wordsOf
  cases ws with
  | nil =>
    rw [if_pos]
    rw [TL.join_eq]
    rfl
  | cons w r =>
    rw [if_neg]
    · refine TL.split_join tl_blank blank256 (by simp) fun p hp => ?_
      obtain ⟨q, _, hq⟩ := h.each hp
      exact hq.blank
    · intro e
      obtain ⟨q, _, hq⟩ := h.each (w := w) List.mem_cons_self
      have h1 : tl (Txt.join (Str.ofString " ") (w :: r)) = [] := by rw [e]; decide +kernel
      rw [TL.join_eq, show tl (Str.join (Str.ofString " ") (w :: r)) = TL.joinL (tl (Str.ofString " ")) ((w :: r).map tl) from TL.tl_join _ _] at h1
      have h2 : tl w = [] := by
        cases r with
        | nil => exact h1
        | cons x r => exact (List.append_eq_nil_iff.mp (show tl w ++ _ = [] from h1)).1
      have h3 : w.length = 0 := by rw [← tl_len, h2]; rfl
      refine hq.ne ?_
      cases w with
      | mk cps =>
        have : cps = #[] := by
          apply Array.eq_empty_of_size_eq_zero
          exact h3
        rw [this]
        rfl
/-- the words tell the counts cs, in some order -/
structure WordsFor (cs : List (Str × Int)) (ws : List Str) (ps : List (Str × Int)) : Prop where
  are : WordsAre ws ps
  pos : ∀ p ∈ ps, 1 ≤ p.2
  tot : ∀ n, tot ps n = (look cs n).getD 0
  sum : sumC ps = sumC cs
  few : ws.length ≤ 60
theorem WordsFor.bag {cs : List (Str × Int)} {ws : List Str} {ps : List (Str × Int)} (h : WordsFor cs ws ps) (g : GoodC cs) (m : sumC cs ≤ 400) : ∃ ds, bagOf (Txt.join (Str.ofString " ") ws) = .ok ds ∧ cs.Perm ds := by
  refine ⟨accAll [] ps, ?_, ?_⟩
  · unfold bagOf
    rw [h.are.split]
    exact countsL_acc ws ps 0 [] 0 h.are.parse h.pos (by rw [h.sum]; omega)
  · refine perm_of_look g.nd (nodup_accAll ps [] (by simp [keysOf])) g.pos (pos_accAll ps [] h.pos fun _ z => nomatch z) fun n => ?_
    rw [look_accAll, h.tot]
    show _ = 0 + _
    omega
theorem WordsFor.size {cs : List (Str × Int)} {ws : List Str} {ps : List (Str × Int)} (h : WordsFor cs ws ps) : (Txt.join (Str.ofString " ") ws).length ≤ 800 := by
  have h1 := join_len (ws := ws) (m := 12) fun x hx => by
    obtain ⟨p, _, q⟩ := h.are.each hx
    exact q.len
  have h2 := h.few
  omega
end Sk

set_option maxHeartbeats 4000000
/-! lists of texts and of pairs, compared -/
namespace Sk
open PySem PySem.Spec PyProof.Rows L2
theorem depth_all_le {m : Nat} : ∀ {ds : List PyData}, (∀ d ∈ ds, d.depth ≤ m) → PyData.depthAll ds ≤ m
  | [], _ => by simp [PyData.depthAll]
  | d :: r, h => by
    have h1 := h d List.mem_cons_self
    have h2 := depth_all_le (ds := r) fun x hx => h x (List.mem_cons_of_mem _ hx)
    simp only [PyData.depthAll]
    omega
theorem lay_all : ∀ {ds : List PyData}, (∀ d ∈ ds, d.canLay0 = true) → PyData.canLayAll0 ds = true
  | [], _ => by simp [PyData.canLayAll0]
  | d :: r, h => by
    have h1 := h d List.mem_cons_self
    have h2 := lay_all (ds := r) fun x hx => h x (List.mem_cons_of_mem _ hx)
    simp only [PyData.canLayAll0]
    rw [h1, h2]
    rfl
theorem shaped_list {ds : List PyData} (h1 : ∀ d ∈ ds, d.canLay0 = true) (h2 : ∀ d ∈ ds, d.depth ≤ 63) : SeqAt.shaped (.list ds) = true := by
  unfold SeqAt.shaped
  have a : (PyData.list ds).canLay0 = true := by simp only [PyData.canLay0]; exact lay_all h1
  have b : (PyData.list ds).depth ≤ 64 := by
    simp only [PyData.depth]
    have := depth_all_le h2
    omega
  rw [a, decide_eq_true b]
  rfl
def dPair (p : Str × Int) : PyData := .tuple [.str p.1, .int p.2]
theorem strOk_of {z : Str} (h : ∀ c ∈ tl z, okC c = true) : PyData.strOk z = true := by
  unfold PyData.strOk
  rw [← Array.all_toList, List.all_eq_true]
  intro c hc
  have := h c hc
  unfold okC isLet isFig at this
  simp at this
  exact decide_eq_true (by omega)
theorem strOk_name {n : Str} (h : isName n = true) : PyData.strOk n = true := strOk_of (name_signs h)
theorem lay_pair {p : Str × Int} (h : isName p.1 = true) : (dPair p).canLay0 = true ∧ (dPair p).depth ≤ 63 := by
  unfold dPair
  simp [PyData.canLay0, PyData.canLayAll0, PyData.depth, PyData.depthAll, strOk_name h]
theorem shaped_pairs {ps : List (Str × Int)} (h : ∀ p ∈ ps, isName p.1 = true) : SeqAt.shaped (.list (ps.map dPair)) = true :=
  shaped_list (fun d hd => by obtain ⟨p, hp, rfl⟩ := List.mem_map.mp hd; exact (lay_pair (h p hp)).1) fun d hd => by obtain ⟨p, hp, rfl⟩ := List.mem_map.mp hd; exact (lay_pair (h p hp)).2
theorem shaped_nil : SeqAt.shaped (.list []) = true := by decide +kernel
theorem eqv_nil (ds : List PyData) : PyData.eqv (.list ds) (.list []) = ds.isEmpty := by
  cases ds <;> simp [PyData.eqv, PyData.eqvAll]
theorem shaped_strs {zs : List Str} (h : ∀ z ∈ zs, PyData.strOk z = true) : SeqAt.shaped (.list (zs.map .str)) = true :=
  shaped_list (fun d hd => by obtain ⟨z, hz, rfl⟩ := List.mem_map.mp hd; simp [PyData.canLay0, h z hz]) fun d hd => by obtain ⟨z, hz, rfl⟩ := List.mem_map.mp hd; simp [PyData.depth]
theorem eqv_strs : ∀ (a b : List Str), PyData.eqvAll (a.map .str) (b.map .str) = decide (a = b)
  | [], [] => by simp [PyData.eqvAll]
  | [], _ :: _ => by simp [PyData.eqvAll]
  | _ :: _, [] => by simp [PyData.eqvAll]
  | x :: r, y :: s => by
    show (PyData.eqv (.str x) (.str y) && PyData.eqvAll (r.map .str) (s.map .str)) = _
    rw [eqv_strs r s]
    show ((x == y) && decide (r = s)) = _
    by_cases e : x = y
    · subst e
      simp
    · simp [e]
theorem dp_strs {K : PySem.W.Frag} {H : Hp} {a : Addr} {zs : List Str} (h : SqL K H a (zs.map V.str)) : Dp K H (.ref a) (.list (zs.map .str)) := by
  refine .lst h ?_
  clear h
  induction zs with
  | nil => exact .nil
  | cons z r ih => exact .cons (.str z) ih
/-- tuples of a text and a number, at ts -/
def TupsAt (H : Hp) (ts : List Addr) (ps : List (Str × Int)) : Prop := ts.length = ps.length ∧ ∀ (i : Nat) (t : Addr) (p : Str × Int), ts[i]? = some t → ps[i]? = some p → H t = some (.tup [.str p.1, .int p.2])
theorem TupsAt.nil {H : Hp} : TupsAt H [] [] := ⟨rfl, fun _ _ _ h => by simp at h⟩
theorem TupsAt.snoc {H : Hp} {ts : List Addr} {ps : List (Str × Int)} {t : Addr} {p : Str × Int} (h : TupsAt H ts ps) (q : H t = some (.tup [.str p.1, .int p.2])) : TupsAt H (ts ++ [t]) (ps ++ [p]) := by
  refine ⟨by rw [List.length_append, List.length_append, h.1]; rfl, fun i x y e1 e2 => ?_⟩
  by_cases hi : i < ts.length
  · rw [List.getElem?_append_left hi] at e1
    rw [List.getElem?_append_left (by rw [← h.1]; exact hi)] at e2
    exact h.2 i x y e1 e2
  · rw [List.getElem?_append_right (by omega)] at e1
    rw [List.getElem?_append_right (by rw [← h.1]; omega), ← h.1] at e2
    cases e : i - ts.length with
    | zero =>
      rw [e] at e1 e2
      cases e1
      cases e2
      exact q
    | succ k =>
      rw [e] at e1
      simp at e1
theorem TupsAt.keep {H H' : Hp} {ts : List Addr} {ps : List (Str × Int)} (h : TupsAt H ts ps) (k : ∀ t a b, H t = some (.tup [.str a, .int b]) → H' t = some (.tup [.str a, .int b])) : TupsAt H' ts ps :=
  ⟨h.1, fun i t p e1 e2 => k t _ _ (h.2 i t p e1 e2)⟩
theorem TupsAt.erase {H : Hp} {ts : List Addr} {ps : List (Str × Int)} (h : TupsAt H ts ps) (k : Nat) : TupsAt H (ts.eraseIdx k) (ps.eraseIdx k) := by
  refine ⟨by rw [List.length_eraseIdx, List.length_eraseIdx, h.1], fun i t p e1 e2 => ?_⟩
  rw [List.getElem?_eraseIdx] at e1 e2
  by_cases hi : i < k
  · rw [if_pos hi] at e1 e2
    exact h.2 i t p e1 e2
  · rw [if_neg hi] at e1 e2
    exact h.2 (i + 1) t p e1 e2
theorem TupsAt.dp {K : PySem.W.Frag} {H : Hp} : ∀ {ts : List Addr} {ps : List (Str × Int)}, TupsAt H ts ps → DpAll K H (ts.map V.ref) (ps.map dPair)
  | [], [], _ => .nil
  | [], _ :: _, h => by cases h.1
  | _ :: _, [], h => by cases h.1
  | t :: ts, p :: ps, h => by
    refine .cons ?_ (TupsAt.dp ⟨Nat.succ.inj h.1, fun i x y e1 e2 => h.2 (i + 1) x y e1 e2⟩)
    exact .tup (SqT.of (h.2 0 t p rfl rfl)) (.cons (.str _) (.cons (.int _) .nil))
theorem TupsAt.setL {H : Hp} {ts : List Addr} {ps : List (Str × Int)} {l : Addr} {xs : List V} {o : HO} (h : TupsAt H ts ps) (e : H l = some (.lst xs)) : TupsAt (upd H l o) ts ps :=
  h.keep fun t a b q => by
    rw [upd_ne (ne_of q e (by intro z; cases z))]
    exact q
theorem TupsAt.but {H H' : Hp} {ts : List Addr} {ps : List (Str × Int)} {d : Addr} {xs : List V} (h : TupsAt H ts ps) (e : H d = some (.lst xs)) (b : But d H H') : TupsAt H' ts ps :=
  h.keep fun t x y q => b.at (ne_of q e (by intro z; cases z)) q
theorem TupsAt.same {H H' : Hp} {ts : List Addr} {ps : List (Str × Int)} (h : TupsAt H ts ps) (s : Same H H') : TupsAt H' ts ps := h.keep fun _ _ _ q => s _ _ q
def pairsOf (cs : List (Str × Int)) : List (Str × Int) := (srt (keysOf cs)).map fun m => (m, (look cs m).getD 0)
theorem pairs_perm {cs : List (Str × Int)} (nd : (keysOf cs).Nodup) : (pairsOf cs).Perm cs := by
  have h1 : (pairsOf cs).Perm ((keysOf cs).map fun m => (m, (look cs m).getD 0)) := (srt_perm (keysOf cs)).map _
  have h2 : ((keysOf cs).map fun m => (m, (look cs m).getD 0)) = cs := by
    unfold keysOf
    rw [List.map_map]
    refine (List.map_congr_left fun p hp => ?_).trans (List.map_id cs)
    obtain ⟨n, c⟩ := p
    show (n, (look cs n).getD 0) = _
    rw [look_of nd hp]
    rfl
  rw [h2] at h1
  exact h1
theorem perm_tot {a b : List (Str × Int)} (h : a.Perm b) (n : Str) : tot a n = tot b n := by
  induction h with
  | nil => rfl
  | cons p _ ih => rw [tot_cons, tot_cons, ih]
  | swap p q r => rw [tot_cons, tot_cons, tot_cons, tot_cons]; omega
  | trans _ _ i1 i2 => rw [i1, i2]
theorem tot_absent {cs : List (Str × Int)} {n : Str} (h : n ∉ keysOf cs) : tot cs n = 0 := by
  induction cs with
  | nil => rfl
  | cons p r ih =>
    have h2 : ¬ (n = p.1 ∨ n ∈ keysOf r) := fun z => h (List.mem_cons.mpr z)
    rw [tot_cons, if_neg fun e => h2 (.inl e.symm), ih fun z => h2 (.inr z)]
    rfl
theorem tot_look {cs : List (Str × Int)} (nd : (keysOf cs).Nodup) (n : Str) : tot cs n = (look cs n).getD 0 := by
  induction cs with
  | nil => rfl
  | cons p r ih =>
    have nd2 : p.1 ∉ keysOf r ∧ (keysOf r).Nodup := List.nodup_cons.mp nd
    rw [tot_cons, look_cons]
    by_cases e : p.1 = n
    · rw [if_pos e, if_pos e, tot_absent (by rw [← e]; exact nd2.1)]
      show p.2 + 0 = p.2
      omega
    · rw [if_neg e, if_neg e, ih nd2.2]
      omega
theorem tot_erase : ∀ (ps : List (Str × Int)) (k : Nat) (p : Str × Int) (n : Str), ps[k]? = some p → tot ps n = (if p.1 = n then p.2 else 0) + tot (ps.eraseIdx k) n
  | [], _, _, _, h => by simp at h
  | q :: r, 0, p, n, h => by
    cases h
    rw [tot_cons]
    rfl
  | q :: r, k + 1, p, n, h => by
    rw [tot_cons, tot_erase r k p n h, List.eraseIdx_cons_succ, tot_cons]
    omega
theorem sumC_erase : ∀ (ps : List (Str × Int)) (k : Nat) (p : Str × Int), ps[k]? = some p → sumC ps = p.2 + sumC (ps.eraseIdx k)
  | [], _, _, h => by simp at h
  | q :: r, 0, p, h => by
    cases h
    rw [sumC_cons]
    rfl
  | q :: r, k + 1, p, h => by
    rw [sumC_cons, sumC_erase r k p h, List.eraseIdx_cons_succ, sumC_cons]
    omega
end Sk

set_option maxHeartbeats 4000000
/-! counts that are not the same; a key dropped; names of which one is new -/
namespace Sk
open PySem PySem.Spec PyProof.Rows L2
theorem nodup_sub_len {α : Type} [BEq α] [LawfulBEq α] : ∀ {a b : List α}, a.Nodup → (∀ x ∈ a, x ∈ b) → a.length ≤ b.length
  | [], _, _, _ => Nat.zero_le _
  | x :: r, b, nd, h => by
    have nd2 := List.nodup_cons.mp nd
    have hx : x ∈ b := h x List.mem_cons_self
    have ih := nodup_sub_len (a := r) (b := b.erase x) nd2.2 fun y hy => (List.mem_erase_of_ne (fun e => nd2.1 (by rw [← e]; exact hy))).mpr (h y (List.mem_cons_of_mem _ hy))
    rw [List.length_erase_of_mem hx] at ih
    have : 0 < b.length := List.length_pos_of_mem hx
    rw [List.length_cons]
    omega
theorem sub_all {α : Type} [BEq α] [LawfulBEq α] {a b : List α} (nd : a.Nodup) (h : ∀ x ∈ a, x ∈ b) (hl : a.length = b.length) : ∀ y ∈ b, y ∈ a := by
  intro y hy
  cases e : a.contains y with
  | true => exact List.contains_iff_mem.mp e
  | false =>
    have hn : y ∉ a := fun z => by rw [List.contains_iff_mem.mpr z] at e; cases e
    have := nodup_sub_len (a := y :: a) (b := b) (List.nodup_cons.mpr ⟨hn, nd⟩) fun x hx => by
      rcases List.mem_cons.mp hx with rfl | hx
      · exact hy
      · exact h x hx
    rw [List.length_cons] at this
    omega
theorem sameC_look {a b : List (Str × Int)} (na : (keysOf a).Nodup) (h : sameC a b = true) (n : Str) : look a n = look b n := by
  unfold sameC at h
  obtain ⟨h1, h2⟩ := He.ba h
  have hl : a.length = b.length := by simpa using h1
  have h2 : ∀ p ∈ a, look b p.1 = some p.2 := fun p hp => of_decide_eq_true (List.all_eq_true.mp h2 p hp)
  have sub : ∀ p ∈ a, p ∈ b := fun p hp => look_mem (h2 p hp)
  have sup := sub_all (nodup_of_keys na) sub hl
  cases e : look b n with
  | some c => exact look_of na (sup _ (look_mem e))
  | none =>
    cases e2 : look a n with
    | none => rfl
    | some c =>
      have := h2 _ (look_mem e2)
      rw [e] at this
      cases this
theorem sameC_no {a b : List (Str × Int)} (na : (keysOf a).Nodup) {n : Str} (h : look a n ≠ look b n) : sameC a b = false := by
  cases e : sameC a b with
  | false => rfl
  | true => exact absurd (sameC_look na e n) h
def dropN (cs : List (Str × Int)) (n : Str) : List (Str × Int) := cs.filter fun p => !decide (p.1 = n)
theorem keys_len {cs : List (Str × Int)} {ns : List Str} (nd : (keysOf cs).Nodup) (h : ∀ p ∈ cs, p.1 ∈ ns) : cs.length ≤ ns.length := by
  have := nodup_sub_len (a := keysOf cs) (b := ns) nd fun x hx => by
    obtain ⟨p, hp, rfl⟩ := List.mem_map.mp hx
    exact h p hp
  unfold keysOf at this
  rw [List.length_map] at this
  exact this
theorem look_drop (cs : List (Str × Int)) (n m : Str) : look (dropN cs n) m = if m = n then none else look cs m := by
  induction cs with
  | nil => simp [dropN, look]
  | cons p r ih =>
    by_cases e : p.1 = n
    · have e1 : dropN (p :: r) n = dropN r n := by simp [dropN, e]
      rw [e1, ih, look_cons]
      by_cases e2 : m = n
      · rw [if_pos e2, if_pos e2]
      · rw [if_neg e2, if_neg e2, if_neg (by rw [e]; exact Ne.symm e2)]
    · have e1 : dropN (p :: r) n = p :: dropN r n := by simp [dropN, e]
      rw [e1, look_cons, ih, look_cons]
      by_cases e2 : p.1 = m
      · rw [if_pos e2, if_pos e2, if_neg (by rw [← e2]; exact e)]
      · rw [if_neg e2, if_neg e2]
theorem mem_drop {cs : List (Str × Int)} {n : Str} {p : Str × Int} (h : p ∈ dropN cs n) : p ∈ cs := (List.mem_filter.mp h).1
theorem nodup_drop {cs : List (Str × Int)} (h : (keysOf cs).Nodup) (n : Str) : (keysOf (dropN cs n)).Nodup := by
  unfold keysOf dropN
  exact h.sublist ((List.filter_sublist).map _)
theorem drop_absent {cs : List (Str × Int)} {n : Str} (h : n ∉ keysOf cs) : dropN cs n = cs := by
  unfold dropN
  rw [List.filter_eq_self]
  intro p hp
  have : p.1 ≠ n := fun e => h (List.mem_map.mpr ⟨p, hp, e⟩)
  simp [this]
theorem sum_drop {cs : List (Str × Int)} (nd : (keysOf cs).Nodup) (n : Str) : sumC (dropN cs n) + (look cs n).getD 0 = sumC cs := by
  induction cs with
  | nil => rfl
  | cons p r ih =>
    have nd2 : p.1 ∉ keysOf r ∧ (keysOf r).Nodup := List.nodup_cons.mp nd
    rw [look_cons, sumC_cons]
    by_cases e : p.1 = n
    · have e1 : dropN (p :: r) n = r := by
        have : dropN (p :: r) n = dropN r n := by simp [dropN, e]
        rw [this]
        exact drop_absent (by rw [← e]; exact nd2.1)
      rw [e1, if_pos e]
      show sumC r + p.2 = _
      omega
    · have e1 : dropN (p :: r) n = p :: dropN r n := by simp [dropN, e]
      rw [e1, if_neg e, sumC_cons]
      have := ih nd2.2
      omega
theorem drop_kvS (cs : List (Str × Int)) (n : Str) : dropK (kvS cs) (Sum.inr n) = kvS (dropN cs n) := by
  unfold dropK kvS dropN
  rw [List.filter_map]
  congr 1
  refine List.filter_congr fun p _ => ?_
  show _ = !decide (p.1 = n)
  by_cases e : p.1 = n
  · simp [e]
  · simp [e]
theorem sum_put_new {cs : List (Str × Int)} {n : Str} {c : Int} (h : n ∉ keysOf cs) : sumC (put cs n c) = sumC cs + c := by
  rw [put_new h, sumC_app]
  simp [sumC]
theorem map_absent {cs : List (Str × Int)} {n : Str} {c : Int} (h : n ∉ keysOf cs) : (cs.map fun p => if p.1 = n then (p.1, c) else p) = cs := by
  refine (List.map_congr_left fun q hq => ?_).trans (List.map_id cs)
  have : q.1 ≠ n := fun e => h (List.mem_map.mpr ⟨q, hq, e⟩)
  rw [if_neg this]
  rfl
theorem sum_map {cs : List (Str × Int)} {n : Str} {c : Int} (nd : (keysOf cs).Nodup) (h : n ∈ keysOf cs) : sumC (cs.map fun p => if p.1 = n then (p.1, c) else p) = sumC cs - (look cs n).getD 0 + c := by
  induction cs with
  | nil => cases h
  | cons p r ih =>
    have nd2 : p.1 ∉ keysOf r ∧ (keysOf r).Nodup := List.nodup_cons.mp nd
    rw [List.map_cons, look_cons, sumC_cons, sumC_cons]
    by_cases e : p.1 = n
    · rw [map_absent (by rw [← e]; exact nd2.1), if_pos e, if_pos e]
      show c + sumC r = p.2 + sumC r - p.2 + c
      omega
    · rw [if_neg e, if_neg e]
      have hr : n ∈ keysOf r := by
        rcases List.mem_cons.mp (show n ∈ p.1 :: keysOf r from h) with z | z
        · exact absurd z.symm e
        · exact z
      have := ih nd2.2 hr
      omega
theorem sum_put {cs : List (Str × Int)} (nd : (keysOf cs).Nodup) (n : Str) (c : Int) : sumC (put cs n c) = sumC cs - (look cs n).getD 0 + c := by
  by_cases h : n ∈ keysOf cs
  · have e : (cs.any fun p => decide (p.1 = n)) = true := by
      obtain ⟨p, hp, q⟩ := List.mem_map.mp h
      exact List.any_eq_true.mpr ⟨p, hp, decide_eq_true q⟩
    unfold put
    rw [if_pos e]
    exact sum_map nd h
  · rw [sum_put_new h, look_none.mpr h]
    show _ = sumC cs - 0 + c
    omega
/-- the counts with n put to c: still good -/
theorem good_put {cs : List (Str × Int)} {n : Str} {c : Int} (nd : (keysOf cs).Nodup) (nm : ∀ p ∈ cs, isName p.1 = true) (pos : ∀ p ∈ cs, 1 ≤ p.2) (few : cs.length ≤ 50) (hn : isName n = true) (hc : 1 ≤ c) (hs : sumC (put cs n c) ≤ 100000) : GoodC (put cs n c) := by
  refine ⟨Nat.lt_of_le_of_lt (length_put _ _ _) (by omega), nodup_put nd, fun p hp => ?_, fun p hp => ?_, hs⟩
  · rcases mem_put hp with hp | rfl
    · exact nm p hp
    · exact hn
  · rcases mem_put hp with hp | rfl
    · exact pos p hp
    · exact hc
def eights : List Str := ((tl (Str.ofString "abcdefgh")).map fun c => (⟨#[113]⟩ : Str) ++ ⟨#[c]⟩)
theorem eights_all : eights.all isName = true := by decide +kernel
theorem eights_nd : eights.Nodup := by decide +kernel
theorem eight_new {ns : List Str} (h : ns.length ≤ 7) : eights.filter (fun z => !decide (z ∈ ns)) ≠ [] := by
  intro e
  have sub : ∀ z ∈ eights, z ∈ ns := fun z hz => by
    cases q : decide (z ∈ ns) with
    | true => exact of_decide_eq_true q
    | false =>
      have : z ∈ eights.filter (fun z => !decide (z ∈ ns)) := List.mem_filter.mpr ⟨hz, by rw [q]; rfl⟩
      rw [e] at this
      cases this
  have := nodup_sub_len eights_nd sub
  have e8 : eights.length = 8 := by decide +kernel
  omega
end Sk

set_option maxHeartbeats 0
namespace Sk
open PySem PySem.Spec PyProof.Rows L2
abbrev R : PySem.W.OpenRow := PySem.W.OpenLaw.row PySem.Challenge.rw_skinrooms_k03_bags_told
def top (i : Nat) : Stmt := PySem.Challenge.pw_skinrooms_k03_bags_told.main.body.getD i (.Pass ⟨0, 0, 0, 0⟩)
abbrev s_is_name : Stmt := top 8
theorem sc_is_name : FnScope ["thing", "sign"] ["thing"] (defScope s_is_name) := ⟨rfl, rfl, rfl, by decide +kernel, rfl, by decide +kernel, by decide +kernel⟩
def d_is_name : He.DefD := ⟨("is_name", none), "is_name", "is_name", defArgs s_is_name, defBody s_is_name, defScope s_is_name, [], []⟩
abbrev s_word_count : Stmt := top 9
theorem sc_word_count : FnScope ["word", "name", "more", "count", "figures", "sign"] ["word"] (defScope s_word_count) := ⟨rfl, rfl, rfl, by decide +kernel, rfl, by decide +kernel, by decide +kernel⟩
def d_word_count : He.DefD := ⟨("word_count", none), "word_count", "word_count", defArgs s_word_count, defBody s_word_count, defScope s_word_count, [], []⟩
abbrev s_counts_of : Stmt := top 10
theorem sc_counts_of : FnScope ["words", "found", "total", "spot", "word", "told", "name", "count"] ["words"] (defScope s_counts_of) := ⟨rfl, rfl, rfl, by decide +kernel, rfl, by decide +kernel, by decide +kernel⟩
def d_counts_of : He.DefD := ⟨("counts_of", none), "counts_of", "counts_of", defArgs s_counts_of, defBody s_counts_of, defScope s_counts_of, [], []⟩
abbrev s_Bag___init__ : Stmt := inClass (top 11) 0
theorem sc_Bag___init__ : FnScope ["self", "text"] ["self", "text"] (defScope s_Bag___init__) := ⟨rfl, rfl, rfl, by decide +kernel, rfl, by decide +kernel, by decide +kernel⟩
def d_Bag___init__ : He.DefD := ⟨("Bag", some "__init__"), "__init__", "Bag.__init__", defArgs s_Bag___init__, defBody s_Bag___init__, defScope s_Bag___init__, [.str ""], []⟩
abbrev s_Bag___len__ : Stmt := inClass (top 11) 2
theorem sc_Bag___len__ : FnScope ["self", "name", "k"] ["self"] (defScope s_Bag___len__) := ⟨rfl, rfl, rfl, by decide +kernel, rfl, by decide +kernel, by decide +kernel⟩
def d_Bag___len__ : He.DefD := ⟨("Bag", some "__len__"), "__len__", "Bag.__len__", defArgs s_Bag___len__, defBody s_Bag___len__, defScope s_Bag___len__, [], []⟩
abbrev s_Bag___str__ : Stmt := inClass (top 11) 3
theorem sc_Bag___str__ : FnScope ["self", "name"] ["self"] (defScope s_Bag___str__) := ⟨rfl, rfl, rfl, by decide +kernel, rfl, by decide +kernel, by decide +kernel⟩
def d_Bag___str__ : He.DefD := ⟨("Bag", some "__str__"), "__str__", "Bag.__str__", defArgs s_Bag___str__, defBody s_Bag___str__, defScope s_Bag___str__, [], []⟩
abbrev s_Bag___repr__ : Stmt := inClass (top 11) 4
theorem sc_Bag___repr__ : FnScope ["self"] ["self"] (defScope s_Bag___repr__) := ⟨rfl, rfl, rfl, by decide +kernel, rfl, by decide +kernel, by decide +kernel⟩
def d_Bag___repr__ : He.DefD := ⟨("Bag", some "__repr__"), "__repr__", "Bag.__repr__", defArgs s_Bag___repr__, defBody s_Bag___repr__, defScope s_Bag___repr__, [], []⟩
abbrev s_Bag_shown : Stmt := inClass (top 11) 5
theorem sc_Bag_shown : FnScope ["self"] ["self"] (defScope s_Bag_shown) := ⟨rfl, rfl, rfl, by decide +kernel, rfl, by decide +kernel, by decide +kernel⟩
def d_Bag_shown : He.DefD := ⟨("Bag", some "shown"), "shown", "Bag.shown", defArgs s_Bag_shown, defBody s_Bag_shown, defScope s_Bag_shown, [], []⟩
abbrev s_Bag___eq__ : Stmt := inClass (top 11) 1
theorem sc_Bag___eq__ : FnScope ["self", "other"] ["self", "other"] (defScope s_Bag___eq__) := ⟨rfl, rfl, rfl, by decide +kernel, rfl, by decide +kernel, by decide +kernel⟩
def d_Bag___eq__ : He.DefD := ⟨("Bag", some "__eq__"), "__eq__", "Bag.__eq__", defArgs s_Bag___eq__, defBody s_Bag___eq__, defScope s_Bag___eq__, [], []⟩
abbrev s__law_draws : Stmt := top 13
theorem sc__law_draws : FnScope ["_law_script", "_law_at", "_law_cell"] ["_law_script", "_law_at"] (defScope s__law_draws) := ⟨rfl, rfl, rfl, by decide +kernel, rfl, by decide +kernel, by decide +kernel⟩
def d__law_draws : He.DefD := ⟨("_law_draws", none), "_law_draws", "_law_draws", defArgs s__law_draws, defBody s__law_draws, defScope s__law_draws, [], []⟩
abbrev s__law_draw : Stmt := top 14
theorem sc__law_draw : FnScope ["_law_draws_here", "_law_many", "_law_digit", "_law_mixed", "_law_prime"] ["_law_draws_here", "_law_many"] (defScope s__law_draw) := ⟨rfl, rfl, rfl, by decide +kernel, rfl, by decide +kernel, by decide +kernel⟩
def d__law_draw : He.DefD := ⟨("_law_draw", none), "_law_draw", "_law_draw", defArgs s__law_draw, defBody s__law_draw, defScope s__law_draw, [], []⟩
abbrev s__law_names : Stmt := top 15
theorem sc__law_names : FnScope ["_law_draws_here", "_law_many", "_law_letters", "_law_found", "_law_k", "_law_base", "_law_head", "_law_at", "_law_off", "_law_name"] ["_law_draws_here", "_law_many"] (defScope s__law_names) := ⟨rfl, rfl, rfl, by decide +kernel, rfl, by decide +kernel, by decide +kernel⟩
def d__law_names : He.DefD := ⟨("_law_names", none), "_law_names", "_law_names", defArgs s__law_names, defBody s__law_names, defScope s__law_names, [], []⟩
abbrev s__law_counts : Stmt := top 16
theorem sc__law_counts : FnScope ["_law_draws_here", "_law_names_here", "_law_most", "_law_found", "_law_left", "_law_turn", "_law_name", "_law_count"] ["_law_draws_here", "_law_names_here", "_law_most"] (defScope s__law_counts) := ⟨rfl, rfl, rfl, by decide +kernel, rfl, by decide +kernel, by decide +kernel⟩
def d__law_counts : He.DefD := ⟨("_law_counts", none), "_law_counts", "_law_counts", defArgs s__law_counts, defBody s__law_counts, defScope s__law_counts, [], []⟩
abbrev s__law_words : Stmt := top 18
theorem sc__law_words : FnScope ["_law_draws_here", "_law_counts_here", "_law_left", "_law_name", "_law_count", "_law_part", "_law_found"] ["_law_draws_here", "_law_counts_here"] (defScope s__law_words) := ⟨rfl, rfl, rfl, by decide +kernel, rfl, by decide +kernel, by decide +kernel⟩
def d__law_words : He.DefD := ⟨("_law_words", none), "_law_words", "_law_words", defArgs s__law_words, defBody s__law_words, defScope s__law_words, [], []⟩
abbrev s__law_otherwise : Stmt := top 19
theorem sc__law_otherwise : FnScope ["_law_draws_here", "_law_counts_here", "_law_names_here", "_law_found", "_law_name", "_law_way", "_law_word", "_law_sign"] ["_law_draws_here", "_law_counts_here", "_law_names_here"] (defScope s__law_otherwise) := ⟨rfl, rfl, rfl, by decide +kernel, rfl, by decide +kernel, by decide +kernel⟩
def d__law_otherwise : He.DefD := ⟨("_law_otherwise", none), "_law_otherwise", "_law_otherwise", defArgs s__law_otherwise, defBody s__law_otherwise, defScope s__law_otherwise, [], []⟩
abbrev s__law_bag_text : Stmt := top 17
theorem sc__law_bag_text : FnScope ["_law_counts_here", "_law_words_here", "_law_name"] ["_law_counts_here"] (defScope s__law_bag_text) := ⟨rfl, rfl, rfl, by decide +kernel, rfl, by decide +kernel, by decide +kernel⟩
def d__law_bag_text : He.DefD := ⟨("_law_bag_text", none), "_law_bag_text", "_law_bag_text", defArgs s__law_bag_text, defBody s__law_bag_text, defScope s__law_bag_text, [], []⟩
abbrev s_law : Stmt := top 20
theorem sc_law : FnScope ["_law_script", "_law_k", "_law_draws_here", "_law_names_here", "_law_counts_here", "_law_one", "_law_again", "_law_other", "_law_text"] ["_law_script"] (defScope s_law) := ⟨rfl, rfl, rfl, by decide +kernel, rfl, by decide +kernel, by decide +kernel⟩
def d_law : He.DefD := ⟨("law", none), "law", "law", defArgs s_law, defBody s_law, defScope s_law, [], []⟩
def fa : List He.Fa := [.free "enumerate", .free "isinstance", .free "str", .free "len", .free "all", .free "int", .free "range", .free "sorted", .free "max", .free "min", .free "dict", .free "sum", .free "bool", .free "repr", .int "MOST_SIGNS" 8, .str "LETTERS" "abcdefghijklmnopqrstuvwxyz", .str "FIGURES" "0123456789", .int "MOST_READ" 400, .glo "is_name", .glo "word_count", .glo "counts_of", .glo "_law_draws", .glo "_law_draw", .glo "_law_names", .glo "_law_counts", .glo "_law_words", .glo "_law_otherwise", .glo "_law_bag_text", .glo "law", .glo "Bag", .cls "Bag", .noat "Bag" "own", .meth "Bag" "__eq__", .meth "Bag" "__len__", .meth "Bag" "__str__", .meth "Bag" "__repr__", .meth "Bag" "shown", .mkr "Bag"]
def fn : List He.DefD := [d_is_name, d_word_count, d_counts_of, d_Bag___init__, d_Bag___len__, d_Bag___str__, d_Bag___repr__, d_Bag_shown, d_Bag___eq__, d__law_draws, d__law_draw, d__law_names, d__law_counts, d__law_words, d__law_otherwise, d__law_bag_text, d_law]
def ex (K : PySem.W.Frag) : Bool := isiB K (He.ga K "Bag")
structure Yes (K : PySem.W.Frag) (mg : Str → Option Value) : Prop where
  c : He.SaysD fa fn K
  x : ex K = true
  g : ∃ h : Heap, K.In h ∧ h.Ns mainGlobals mg
section
variable {K : PySem.W.Frag} {mg : Str → Option Value}
theorem Yes.n_enumerate (Y : Yes K mg) : mg "enumerate" = none := let ⟨_, X, G⟩ := Y.g; He.free_ok X G (Y.c.fact 0 (f := .free "enumerate") rfl)
theorem Yes.n_isinstance (Y : Yes K mg) : mg "isinstance" = none := let ⟨_, X, G⟩ := Y.g; He.free_ok X G (Y.c.fact 1 (f := .free "isinstance") rfl)
theorem Yes.n_str (Y : Yes K mg) : mg "str" = none := let ⟨_, X, G⟩ := Y.g; He.free_ok X G (Y.c.fact 2 (f := .free "str") rfl)
theorem Yes.n_len (Y : Yes K mg) : mg "len" = none := let ⟨_, X, G⟩ := Y.g; He.free_ok X G (Y.c.fact 3 (f := .free "len") rfl)
theorem Yes.n_all (Y : Yes K mg) : mg "all" = none := let ⟨_, X, G⟩ := Y.g; He.free_ok X G (Y.c.fact 4 (f := .free "all") rfl)
theorem Yes.n_int (Y : Yes K mg) : mg "int" = none := let ⟨_, X, G⟩ := Y.g; He.free_ok X G (Y.c.fact 5 (f := .free "int") rfl)
theorem Yes.n_range (Y : Yes K mg) : mg "range" = none := let ⟨_, X, G⟩ := Y.g; He.free_ok X G (Y.c.fact 6 (f := .free "range") rfl)
theorem Yes.n_sorted (Y : Yes K mg) : mg "sorted" = none := let ⟨_, X, G⟩ := Y.g; He.free_ok X G (Y.c.fact 7 (f := .free "sorted") rfl)
theorem Yes.n_max (Y : Yes K mg) : mg "max" = none := let ⟨_, X, G⟩ := Y.g; He.free_ok X G (Y.c.fact 8 (f := .free "max") rfl)
theorem Yes.n_min (Y : Yes K mg) : mg "min" = none := let ⟨_, X, G⟩ := Y.g; He.free_ok X G (Y.c.fact 9 (f := .free "min") rfl)
theorem Yes.n_dict (Y : Yes K mg) : mg "dict" = none := let ⟨_, X, G⟩ := Y.g; He.free_ok X G (Y.c.fact 10 (f := .free "dict") rfl)
theorem Yes.n_sum (Y : Yes K mg) : mg "sum" = none := let ⟨_, X, G⟩ := Y.g; He.free_ok X G (Y.c.fact 11 (f := .free "sum") rfl)
theorem Yes.n_bool (Y : Yes K mg) : mg "bool" = none := let ⟨_, X, G⟩ := Y.g; He.free_ok X G (Y.c.fact 12 (f := .free "bool") rfl)
theorem Yes.n_repr (Y : Yes K mg) : mg "repr" = none := let ⟨_, X, G⟩ := Y.g; He.free_ok X G (Y.c.fact 13 (f := .free "repr") rfl)
theorem Yes.c_MOST_SIGNS (Y : Yes K mg) : ∃ u, mg "MOST_SIGNS" = some u ∧ RelV (V.int 8) u := let ⟨_, X, G⟩ := Y.g; let ⟨t, e⟩ := He.int_ok X G (Y.c.fact 14 (f := .int "MOST_SIGNS" 8) rfl); ⟨_, e, t, rfl⟩
theorem Yes.c_LETTERS (Y : Yes K mg) : ∃ u, mg "LETTERS" = some u ∧ RelV (V.str "abcdefghijklmnopqrstuvwxyz") u := let ⟨_, X, G⟩ := Y.g; let ⟨t, e⟩ := He.str_ok X G (Y.c.fact 15 (f := .str "LETTERS" "abcdefghijklmnopqrstuvwxyz") rfl); ⟨_, e, t, rfl⟩
theorem Yes.c_FIGURES (Y : Yes K mg) : ∃ u, mg "FIGURES" = some u ∧ RelV (V.str "0123456789") u := let ⟨_, X, G⟩ := Y.g; let ⟨t, e⟩ := He.str_ok X G (Y.c.fact 16 (f := .str "FIGURES" "0123456789") rfl); ⟨_, e, t, rfl⟩
theorem Yes.c_MOST_READ (Y : Yes K mg) : ∃ u, mg "MOST_READ" = some u ∧ RelV (V.int 400) u := let ⟨_, X, G⟩ := Y.g; let ⟨t, e⟩ := He.int_ok X G (Y.c.fact 17 (f := .int "MOST_READ" 400) rfl); ⟨_, e, t, rfl⟩
theorem Yes.g_is_name (Y : Yes K mg) : mg "is_name" = some (.ref (He.ga K "is_name")) := let ⟨_, X, G⟩ := Y.g; He.glo_ok X G (Y.c.fact 18 (f := .glo "is_name") rfl)
theorem Yes.g_word_count (Y : Yes K mg) : mg "word_count" = some (.ref (He.ga K "word_count")) := let ⟨_, X, G⟩ := Y.g; He.glo_ok X G (Y.c.fact 19 (f := .glo "word_count") rfl)
theorem Yes.g_counts_of (Y : Yes K mg) : mg "counts_of" = some (.ref (He.ga K "counts_of")) := let ⟨_, X, G⟩ := Y.g; He.glo_ok X G (Y.c.fact 20 (f := .glo "counts_of") rfl)
theorem Yes.g__law_draws (Y : Yes K mg) : mg "_law_draws" = some (.ref (He.ga K "_law_draws")) := let ⟨_, X, G⟩ := Y.g; He.glo_ok X G (Y.c.fact 21 (f := .glo "_law_draws") rfl)
theorem Yes.g__law_draw (Y : Yes K mg) : mg "_law_draw" = some (.ref (He.ga K "_law_draw")) := let ⟨_, X, G⟩ := Y.g; He.glo_ok X G (Y.c.fact 22 (f := .glo "_law_draw") rfl)
theorem Yes.g__law_names (Y : Yes K mg) : mg "_law_names" = some (.ref (He.ga K "_law_names")) := let ⟨_, X, G⟩ := Y.g; He.glo_ok X G (Y.c.fact 23 (f := .glo "_law_names") rfl)
theorem Yes.g__law_counts (Y : Yes K mg) : mg "_law_counts" = some (.ref (He.ga K "_law_counts")) := let ⟨_, X, G⟩ := Y.g; He.glo_ok X G (Y.c.fact 24 (f := .glo "_law_counts") rfl)
theorem Yes.g__law_words (Y : Yes K mg) : mg "_law_words" = some (.ref (He.ga K "_law_words")) := let ⟨_, X, G⟩ := Y.g; He.glo_ok X G (Y.c.fact 25 (f := .glo "_law_words") rfl)
theorem Yes.g__law_otherwise (Y : Yes K mg) : mg "_law_otherwise" = some (.ref (He.ga K "_law_otherwise")) := let ⟨_, X, G⟩ := Y.g; He.glo_ok X G (Y.c.fact 26 (f := .glo "_law_otherwise") rfl)
theorem Yes.g__law_bag_text (Y : Yes K mg) : mg "_law_bag_text" = some (.ref (He.ga K "_law_bag_text")) := let ⟨_, X, G⟩ := Y.g; He.glo_ok X G (Y.c.fact 27 (f := .glo "_law_bag_text") rfl)
theorem Yes.g_law (Y : Yes K mg) : mg "law" = some (.ref (He.ga K "law")) := let ⟨_, X, G⟩ := Y.g; He.glo_ok X G (Y.c.fact 28 (f := .glo "law") rfl)
theorem Yes.g_Bag (Y : Yes K mg) : mg "Bag" = some (.ref (He.ga K "Bag")) := let ⟨_, X, G⟩ := Y.g; He.glo_ok X G (Y.c.fact 29 (f := .glo "Bag") rfl)
theorem Yes.cl_Bag (Y : Yes K mg) : Cls K (He.ga K "Bag") := He.cls_ok (Y.c.fact 30 (f := .cls "Bag") rfl)
theorem Yes.na_Bag_own (Y : Yes K mg) : NoAttr K (He.ga K "Bag") "own" := He.noat_ok (Y.c.fact 31 (f := .noat "Bag" "own") rfl)
theorem Yes.mm_Bag___eq__ (Y : Yes K mg) : Meth K (He.ga K "Bag") "__eq__" (He.ma K (He.ga K "Bag") "__eq__") := He.meth_ok (Y.c.fact 32 (f := .meth "Bag" "__eq__") rfl)
theorem Yes.mm_Bag___len__ (Y : Yes K mg) : Meth K (He.ga K "Bag") "__len__" (He.ma K (He.ga K "Bag") "__len__") := He.meth_ok (Y.c.fact 33 (f := .meth "Bag" "__len__") rfl)
theorem Yes.mm_Bag___str__ (Y : Yes K mg) : Meth K (He.ga K "Bag") "__str__" (He.ma K (He.ga K "Bag") "__str__") := He.meth_ok (Y.c.fact 34 (f := .meth "Bag" "__str__") rfl)
theorem Yes.mm_Bag___repr__ (Y : Yes K mg) : Meth K (He.ga K "Bag") "__repr__" (He.ma K (He.ga K "Bag") "__repr__") := He.meth_ok (Y.c.fact 35 (f := .meth "Bag" "__repr__") rfl)
theorem Yes.mm_Bag_shown (Y : Yes K mg) : Meth K (He.ga K "Bag") "shown" (He.ma K (He.ga K "Bag") "shown") := He.meth_ok (Y.c.fact 36 (f := .meth "Bag" "shown") rfl)
theorem Yes.mkr_Bag (Y : Yes K mg) : Mk K (He.ga K "Bag") (He.ma K (He.ga K "Bag") "__init__") := He.mkr_ok (Y.c.fact 37 (f := .mkr "Bag") rfl)
theorem Yes.f_is_name (Y : Yes K mg) : ∃ fd, FunD K "is_name" "is_name" (defArgs s_is_name) (defBody s_is_name) (defScope s_is_name) [] [] (He.ga K "is_name") fd := Y.c.def_ 0 (d := d_is_name) rfl
theorem Yes.f_word_count (Y : Yes K mg) : ∃ fd, FunD K "word_count" "word_count" (defArgs s_word_count) (defBody s_word_count) (defScope s_word_count) [] [] (He.ga K "word_count") fd := Y.c.def_ 1 (d := d_word_count) rfl
theorem Yes.f_counts_of (Y : Yes K mg) : ∃ fd, FunD K "counts_of" "counts_of" (defArgs s_counts_of) (defBody s_counts_of) (defScope s_counts_of) [] [] (He.ga K "counts_of") fd := Y.c.def_ 2 (d := d_counts_of) rfl
theorem Yes.f_Bag___init__ (Y : Yes K mg) : ∃ fd, FunD K "__init__" "Bag.__init__" (defArgs s_Bag___init__) (defBody s_Bag___init__) (defScope s_Bag___init__) [V.str ""] [] (He.ma K (He.ga K "Bag") "__init__") fd := Y.c.def_ 3 (d := d_Bag___init__) rfl
theorem Yes.f_Bag___len__ (Y : Yes K mg) : ∃ fd, FunD K "__len__" "Bag.__len__" (defArgs s_Bag___len__) (defBody s_Bag___len__) (defScope s_Bag___len__) [] [] (He.ma K (He.ga K "Bag") "__len__") fd := Y.c.def_ 4 (d := d_Bag___len__) rfl
theorem Yes.f_Bag___str__ (Y : Yes K mg) : ∃ fd, FunD K "__str__" "Bag.__str__" (defArgs s_Bag___str__) (defBody s_Bag___str__) (defScope s_Bag___str__) [] [] (He.ma K (He.ga K "Bag") "__str__") fd := Y.c.def_ 5 (d := d_Bag___str__) rfl
theorem Yes.f_Bag___repr__ (Y : Yes K mg) : ∃ fd, FunD K "__repr__" "Bag.__repr__" (defArgs s_Bag___repr__) (defBody s_Bag___repr__) (defScope s_Bag___repr__) [] [] (He.ma K (He.ga K "Bag") "__repr__") fd := Y.c.def_ 6 (d := d_Bag___repr__) rfl
theorem Yes.f_Bag_shown (Y : Yes K mg) : ∃ fd, FunD K "shown" "Bag.shown" (defArgs s_Bag_shown) (defBody s_Bag_shown) (defScope s_Bag_shown) [] [] (He.ma K (He.ga K "Bag") "shown") fd := Y.c.def_ 7 (d := d_Bag_shown) rfl
theorem Yes.f_Bag___eq__ (Y : Yes K mg) : ∃ fd, FunD K "__eq__" "Bag.__eq__" (defArgs s_Bag___eq__) (defBody s_Bag___eq__) (defScope s_Bag___eq__) [] [] (He.ma K (He.ga K "Bag") "__eq__") fd := Y.c.def_ 8 (d := d_Bag___eq__) rfl
theorem Yes.f__law_draws (Y : Yes K mg) : ∃ fd, FunD K "_law_draws" "_law_draws" (defArgs s__law_draws) (defBody s__law_draws) (defScope s__law_draws) [] [] (He.ga K "_law_draws") fd := Y.c.def_ 9 (d := d__law_draws) rfl
theorem Yes.f__law_draw (Y : Yes K mg) : ∃ fd, FunD K "_law_draw" "_law_draw" (defArgs s__law_draw) (defBody s__law_draw) (defScope s__law_draw) [] [] (He.ga K "_law_draw") fd := Y.c.def_ 10 (d := d__law_draw) rfl
theorem Yes.f__law_names (Y : Yes K mg) : ∃ fd, FunD K "_law_names" "_law_names" (defArgs s__law_names) (defBody s__law_names) (defScope s__law_names) [] [] (He.ga K "_law_names") fd := Y.c.def_ 11 (d := d__law_names) rfl
theorem Yes.f__law_counts (Y : Yes K mg) : ∃ fd, FunD K "_law_counts" "_law_counts" (defArgs s__law_counts) (defBody s__law_counts) (defScope s__law_counts) [] [] (He.ga K "_law_counts") fd := Y.c.def_ 12 (d := d__law_counts) rfl
theorem Yes.f__law_words (Y : Yes K mg) : ∃ fd, FunD K "_law_words" "_law_words" (defArgs s__law_words) (defBody s__law_words) (defScope s__law_words) [] [] (He.ga K "_law_words") fd := Y.c.def_ 13 (d := d__law_words) rfl
theorem Yes.f__law_otherwise (Y : Yes K mg) : ∃ fd, FunD K "_law_otherwise" "_law_otherwise" (defArgs s__law_otherwise) (defBody s__law_otherwise) (defScope s__law_otherwise) [] [] (He.ga K "_law_otherwise") fd := Y.c.def_ 14 (d := d__law_otherwise) rfl
theorem Yes.f__law_bag_text (Y : Yes K mg) : ∃ fd, FunD K "_law_bag_text" "_law_bag_text" (defArgs s__law_bag_text) (defBody s__law_bag_text) (defScope s__law_bag_text) [] [] (He.ga K "_law_bag_text") fd := Y.c.def_ 15 (d := d__law_bag_text) rfl
theorem Yes.f_law (Y : Yes K mg) : ∃ fd, FunD K "law" "law" (defArgs s_law) (defBody s_law) (defScope s_law) [] [] (He.ga K "law") fd := Y.c.def_ 16 (d := d_law) rfl
theorem Yes.is_Bag (Y : Yes K mg) : IsiC K (He.ga K "Bag") := isiB_ok Y.cl_Bag (show isiB K (He.ga K "Bag") = true from Y.x)
end
abbrev hk : PySem.W.Hook := hookS 6 fa fn ex
def ob (s : PySem.W.SharedT) : AlS := obsS 6 fa fn ex (HandSHeadRun.getT s)
theorem ob_eq (s : PySem.W.SharedT) : ob s = hk.obs s.abs := obsS_eq (HandSHeadRun.getT_eq s)
def loose0 : List Str := ["_wall", "NoBag", "LETTERS", "FIGURES", "MOST_SIGNS", "MOST_READ", "is_name", "word_count", "counts_of", "Bag", "_law_draws", "_law_draw", "_law_names", "_law_counts", "_law_bag_text", "_law_words", "_law_otherwise"]
abbrev loose : List Str := loose0
theorem run (w : World) : HandSHeadRun.RunEq R (PySem.W.view R.prog [20]) hk ob 6000 loose w := by
  intro os
  kernel_rfl
end Sk

set_option maxHeartbeats 4000000
namespace Sk
open PySem PySem.Spec PyProof.Rows L2
section
variable {P : Program} {w : World} {K : PySem.W.Frag} {mg : Str → Option Value} {base : Heap}
def sp_is_name (K : PySem.W.Frag) : Sp := fun vs H Q _ => ∃ x, vs = [x] ∧ ((∃ z : Str, x = .str z ∧ z.length ≤ 100000 ∧ ∀ H', Same H H' → Q (.bl (isName z)) H') ∨ (∃ t, TyX K H x (.type t) ∧ kitB t "str" = some false ∧ ∀ H', Same H H' → Q (.bl false) H'))
theorem cal_is_name (Y : Yes K mg) : C8.Cal P w K mg base 1 "is_name" (sp_is_name K) [] := by
  obtain ⟨fd, F⟩ := Y.f_is_name
  refine calD F Y.g_is_name sc_is_name (fun _ _ _ _ _ _ us hl => match us, hl with | [_], _ => rfl) (fun vs H Q E h => ?_) (fun cdv A outer s H vs Q E hr h => ?_)
  · obtain ⟨x, rfl, _⟩ := h
    rfl
  · have hu := hu_of hr
    refine ⟨_, (pss_cons (ps_if (PW.pt (pw_or (pt_not (pt_val (pe_callB (call_isiK K) (by rfl) Y.n_isinstance (by decide +kernel) (pa_cons (pv 0) (pa_cons (pe_bltn (v := .ty "str") rfl Y.n_str (by decide +kernel) rfl) pa_nil))))) (pw_or (pt_not (pt_chain op_le op_le pe_int (pe_callB call_len_str (by rfl) Y.n_len (by decide +kernel) (pa_cons (pv 0) pa_nil)) (C8.pe_gc rfl Y.c_MOST_SIGNS))) (pw_or1 (pt_cmpR op_notIn_sign (pe_ix (ix_str) (pv 0) pe_int (fun _ _ => rfl)) (C8.pe_gc rfl Y.c_LETTERS) rfl))))) (pss_one (ps_ret pe_bl)) pss_nil)
  (pss_one (ps_ret (pe_callB (cr_allK K rfl) (by rfl) Y.n_all (by decide +kernel) (pa_cons (pe_lc (own := [("sign", 1)]) (g := gName 1) (tt := tYes) rfl sc_is_name.nd (pi_str (pv 0)) (blkOk_by (N := ["thing", "sign"]) (own := [("sign", 1)]) (sc := (defScope s_is_name)) (by decide +kernel)) (fun _ _ _ _ _ => (pg_name (i := 1) sc_is_name.nd rfl (.inl rfl))) (fun _ _ _ _ _ => pts_nil) (fun _ _ _ _ _ => (pe_or (pe_cmpR op_in_sign (pv 1) (C8.pe_gc rfl Y.c_LETTERS) rfl) (pe_one (pe_cmpR op_in_sign (pv 1) (C8.pe_gc rfl Y.c_FIGURES) rfl))))) pa_nil))))), ?_⟩
    obtain ⟨x, rfl, ⟨z, rfl, hz, k⟩ | ⟨t, ty, kt, k⟩⟩ := h
    · have hz2 : z.length ≤ sizeLine := by rw [sizeLine_eq]; omega
      have hl : z.length = (tl z).length := by simp [Str.length]
      refine ⟨_, rfl, .str z, .ty "str", .type "str", .type "str", true, rfl, .ty _, .base (.str z), kit_ty (by decide +kernel), _, rfl, iteF ?_⟩
      refine ⟨_, rfl, z, rfl, hz2, _, _, rfl, rfl, _, rfl, ?_⟩
      by_cases c1 : (1 : Int) ≤ (z.length : Int)
      · refine iteDT c1 ⟨_, _, rfl, rfl, _, rfl, ?_⟩
        by_cases c2 : (z.length : Int) ≤ 8
        · refine iteE false (by rw [decide_eq_true c2]; rfl) (iteF ?_)
          cases e : tl z with
          | nil =>
            rw [e] at hl
            simp at hl
            omega
          | cons c r =>
            have h0 : (tl z)[0]? = some c := by rw [e]; rfl
            have e1 : isName z = (isLet c && (tl z).all fun c => isLet c || isFig c) := by
              unfold isName isNm
              rw [← hl, decide_eq_true (show 1 ≤ z.length by omega), decide_eq_true (show z.length ≤ 8 by omega), e]
              rfl
            refine ⟨_, rfl, z, 0, c, rfl, rfl, hz2, atI_nat (j := 0) h0, c, _, rfl, rfl, _, rfl, ?_⟩
            refine iteE (!isLet c) (by rw [in_letters]) ?_
            cases el : isLet c with
            | false =>
              refine iteT ?_
              rw [e1, el] at k
              exact k H (Same.refl H)
            | true =>
              refine iteF ?_
              rw [e1, el] at k
              show tCB (rAll K) (tCons (tLc (iStr (tVar 0)) (gName 1) tYes _ _) tNil) _ H _
              refine all_strR (z := z) (fun c => isLet c || isFig c) (fun q hq => ⟨_, rfl, hq⟩) hz (fun c H1 q sm hq => ?_) k
              refine ⟨rfl, _, rfl, c, _, rfl, rfl, _, rfl, iteE (isLet c) (in_letters c) ?_⟩
              cases el2 : isLet c with
              | true =>
                rw [el2] at hq
                exact iteT hq
              | false =>
                rw [el2] at hq
                refine iteF ⟨_, rfl, c, _, rfl, rfl, ?_⟩
                rw [in_figures]
                exact hq
        · refine iteE true (by rw [decide_eq_false c2]; rfl) (iteT ?_)
          have e1 : isName z = false := by
            unfold isName isNm
            rw [← hl, decide_eq_false (show ¬ z.length ≤ 8 by omega), Bool.false_and, Bool.and_false]
          rw [e1] at k
          exact k H (Same.refl H)
      · refine iteDF c1 ⟨_, rfl, iteT ?_⟩
        have e1 : isName z = false := by
          unfold isName isNm
          rw [← hl, decide_eq_false (show ¬ 1 ≤ z.length by omega), Bool.false_and]
        rw [e1] at k
        exact k H (Same.refl H)
    · refine ⟨_, rfl, x, .ty "str", .type t, .type "str", false, rfl, .ty _, ty, kit_ty kt, _, rfl, iteT ?_⟩
      exact k H (Same.refl H)
def sp_word_count : Sp := fun vs H Q _ => ∃ w : Str, vs = [.str w] ∧ w.length ≤ 10000 ∧ (parseW w = none → ∀ H', Same H H' → Q .non H') ∧ ∀ n c, parseW w = some (n, c) → ∀ H' p, Same H H' → H p = none → H' p = some (.tup [.str n, .int c]) → Q (.ref p) H'
theorem cal_word_count (Y : Yes K mg) : C8.Cal P w K mg base 2 "word_count" sp_word_count [] := by
  obtain ⟨fd, F⟩ := Y.f_word_count
  refine calD F Y.g_word_count sc_word_count (fun _ _ _ _ _ _ us hl => match us, hl with | [_], _ => rfl) (fun vs H Q E h => ?_) (fun cdv A outer s H vs Q E hr h => ?_)
  · obtain ⟨x, rfl, _⟩ := h
    rfl
  · have hu := hu_of hr
    refine ⟨_, (pss_cons (ps_asg (pe_split (pv 0) pe_str) (pg_star2 rfl (pgs_cons (pg_name (i := 1) sc_word_count.nd rfl (.inl rfl)) (pgs_consS (pg_name (i := 2) sc_word_count.nd rfl (.inl rfl)) pgs_nil))))
  (pss_cons (ps_if (PW.pt (pw_or (pt_not (pt_val (C8.pe_c (cal_is_name Y) hr (by decide) rfl (pa_cons (pv 1) pa_nil)))) (pw_or1 (pt_cmpR op_gt (pe_callB (call_lenK K) (by rfl) Y.n_len (by decide +kernel) (pa_cons (pv 2) pa_nil)) pe_int (nomark _))))) (pss_one (ps_ret pe_non)) pss_nil)
  (pss_cons (ps_set (i := 3) sc_word_count.nd rfl (.inl rfl) pe_int)
  (pss_cons (ps_for PassesOwn.never rfl (pi_listK K (pv 2)) (pg_name (i := 4) sc_word_count.nd rfl (.inl rfl))
  (pss_cons (ps_if (PW.pt (pw_or (pt_not (pt_chain op_le op_le pe_int (pe_callB call_len_str (by rfl) Y.n_len (by decide +kernel) (pa_cons (pv 4) pa_nil)) pe_int)) (pw_or (pt_cmpR op_eq (pe_ix (ix_str) (pv 4) pe_int (fun _ _ => rfl)) pe_str (nomark _)) (pw_or1 (pt_not (pt_val (pe_callB (cr_allK K rfl) (by rfl) Y.n_all (by decide +kernel) (pa_cons (pe_lc (own := [("sign", 5)]) (g := gName 5) (tt := tYes) rfl sc_word_count.nd (pi_str (pv 4)) (blkOk_by (N := ["word", "name", "more", "count", "figures", "sign"]) (own := [("sign", 5)]) (sc := (defScope s_word_count)) (by decide +kernel)) (fun _ _ _ _ _ => (pg_name (i := 5) sc_word_count.nd rfl (.inl rfl))) (fun _ _ _ _ _ => pts_nil) (fun _ _ _ _ _ => (pe_cmpR op_in_sign (pv 5) (C8.pe_gc rfl Y.c_FIGURES) rfl))) pa_nil)))))))) (pss_one (ps_ret pe_non)) pss_nil)
  (pss_one (ps_set (i := 3) sc_word_count.nd rfl (.inl rfl) (pe_callTy call_int_str (by rfl) Y.n_int (by decide +kernel) (pa_cons (pv 4) pa_nil))))))
  (pss_one (ps_ret (pe_tup (pa_cons (pv 1) (pa_cons (pv 3) pa_nil))))))))), ?_⟩
    obtain ⟨x, rfl, hz, kn, kS⟩ := h
    obtain ⟨s1, s2, s3⟩ := split_one tl_star star256 x
    refine ⟨_, rfl, ⟨_, rfl⟩, x, _, rfl, rfl, by decide +kernel, by rw [sizeLine_eq]; omega, fun L hL => ?_⟩
    have e0 : parseW x = parseP (Txt.split x (Str.ofString "*")) := rfl
    rw [e0] at kn kS
    cases e : Txt.split x (Str.ofString "*") with
    | nil => exact absurd e s1
    | cons n rest =>
      rw [e] at s2 s3 kn kS
      have s2 : rest.length + 1 ≤ x.length + 1 := s2
      have hn := s3 n List.mem_cons_self
      refine ⟨L, .str n, rest.map V.str, rfl, SqL.of upd_same, by rw [List.length_map]; omega, fun D hD => ?_⟩
      have sm1 : Same H (upd (upd H L (.lst ((n :: rest).map V.str))) D (.lst (rest.map V.str))) := (same_upd hL).trans (same_upd hD)
      have nLD : L ≠ D := ne_of_none upd_same hD
      refine ⟨.str n, [.ref D], rfl, .ref D, [], rfl, rfl, ?_⟩
      refine ⟨_, rfl, .str n, rfl, .inl ⟨n, rfl, by omega, fun H1 sm2 => ⟨_, rfl, ?_⟩⟩⟩
      have hD1 : H1 D = some (.lst (rest.map V.str)) := sm2 _ _ upd_same
      have sm3 := sm1.trans sm2
      have hLn : H L = none := hL
      cases en : isName n with
      | false =>
        refine iteT ?_
        refine kn ?_ H1 sm3
        unfold parseP
        split
        · rw [if_neg]
          rename_i q
          injection q with q1 q2
          rw [← q1, en]
          decide
        · rw [if_neg]
          rename_i q
          injection q with q1 q2
          rw [← q1, en, Bool.false_and]
          decide
        · rfl
      | true =>
        refine iteF ⟨_, rfl, D, _, rfl, .inl (SqL.of hD1), _, _, rfl, rfl, _, rfl, ?_⟩
        rw [List.length_map]
        match rest, kn, kS, hD1 with
        | a :: b :: r, kn, kS, hD1 =>
          refine iteDT (by simp only [List.length_cons]; omega) ?_
          exact kn rfl H1 sm3
        | [], kn, kS, hD1 =>
          refine iteDF (by decide) ?_
          refine ⟨_, rfl, D, rfl, ⟨_, SqL.of hD1⟩, for_list (K := K) (a := D) (xs := []) (fun i σ H2 => σ = [some (.str x), some (.str n), some (.ref D), some (.int 1), none, none] ∧ H2 = H1) ⟨rfl, rfl⟩ (fun i σ H2 _ p => by rw [p.2]; exact SqL.of hD1) (fun i y σ H2 hi _ => by simp at hi) ?_⟩
          rintro σ H2 ⟨rfl, rfl⟩
          refine ⟨_, rfl, _, rfl, by show 2 ≤ sizeLine; decide, fun p hp => ?_⟩
          have ep : parseP [n] = some (n, 1) := by
            show (if isName n = true then some (n, (1 : Int)) else none) = _
            rw [en, if_pos rfl]
          exact kS n 1 ep _ p (Same.upd sm3 hp) (sm3.free hp) upd_same
        | [f], kn, kS, hD1 =>
          refine iteDF (by simp) ?_
          have hf : f.length ≤ x.length := s3 f (by simp)
          have hf2 : f.length ≤ sizeLine := by rw [sizeLine_eq]; omega
          have hfl : f.length = (tl f).length := by simp [Str.length]
          have bad : figsOk f = false → ∀ H2, Same H1 H2 → Q .non H2 := fun q H2 sm => by
            refine kn ?_ H2 (sm3.trans sm)
            show (if (isName n && figsOk f) = true then some (n, figV f) else none) = none
            rw [q, Bool.and_false, if_neg (by decide)]
          refine ⟨_, rfl, D, rfl, ⟨_, SqL.of hD1⟩, for_list (K := K) (a := D) (xs := [V.str f]) (fun i σ H2 => ∃ y z, σ = [some (.str x), some (.str n), some (.ref D), some (.int (if i = 0 then 1 else figV f)), y, z] ∧ Same H1 H2 ∧ (i = 1 → figsOk f = true)) ⟨none, none, rfl, Same.refl _, fun z => by simp at z⟩ (fun i σ H2 _ ⟨_, _, _, p, _⟩ => SqL.of (p _ _ hD1)) (fun i y σ H2 hi hp => ?_) ?_⟩
          · obtain ⟨y0, z0, rfl, sm, _⟩ := hp
            have hi0 : i = 0 := by
              cases i with
              | zero => rfl
              | succ i => simp at hi
            subst hi0
            have ey : V.str f = y := by simpa using hi
            subst ey
            have eok : figsOk f = (decide (1 ≤ f.length) && (decide (f.length ≤ 3) && (!decide ((tl f).head? = some 48) && (tl f).all isFig))) := rfl
            refine ⟨_, rfl, f, rfl, hf2, _, _, rfl, rfl, _, rfl, ?_⟩
            by_cases c1 : (1 : Int) ≤ (f.length : Int)
            · refine iteDT c1 ⟨_, _, rfl, rfl, _, rfl, ?_⟩
              by_cases c2 : (f.length : Int) ≤ 3
              · refine iteE false (by rw [decide_eq_true c2]; rfl) (iteF ?_)
                cases e : tl f with
                | nil =>
                  rw [e] at hfl
                  simp at hfl
                  omega
                | cons c r =>
                  have h0 : (tl f)[0]? = some c := by rw [e]; rfl
                  refine ⟨_, rfl, f, 0, c, rfl, rfl, hf2, atI_nat (j := 0) h0, rfl, _, rfl, iteE _ (one_zero c) ?_⟩
                  have ehd : decide ((tl f).head? = some 48) = decide (c = 48) := by rw [e]; simp
                  rw [decide_eq_true (show 1 ≤ f.length by omega), decide_eq_true (show f.length ≤ 3 by omega), ehd, Bool.true_and, Bool.true_and] at eok
                  by_cases c3 : c = 48
                  · refine iteDT c3 ?_
                    exact bad (by rw [eok, decide_eq_true c3]; rfl) H2 sm
                  · refine iteDF c3 ?_
                    rw [decide_eq_false c3] at eok
                    show tCB (rAll K) (tCons (tLc (iStr (tVar 4)) (gName 5) tYes _ _) tNil) _ H2 _
                    refine all_strR (z := f) isFig (fun q hq => ⟨_, rfl, hq⟩) (by omega) (fun c H1 q sm hq => ?_) (fun H3 sm2 => ⟨_, rfl, ?_⟩)
                    · refine ⟨rfl, _, rfl, c, _, rfl, rfl, ?_⟩
                      rw [in_figures]
                      exact hq
                    · have eok2 : figsOk f = f.cps.toList.all isFig := eok
                      rw [← eok2]
                      cases q : figsOk f with
                      | false => exact iteT (bad q H3 (sm.trans sm2))
                      | true => exact iteF ⟨_, rfl, f, _, rfl, figsOk_int q, by omega, ⟨_, _, rfl, sm.trans sm2, fun _ => rfl⟩⟩
              · refine iteE true (by rw [decide_eq_false c2]; rfl) (iteT ?_)
                exact bad (by rw [eok, decide_eq_false (show ¬ f.length ≤ 3 by omega), Bool.false_and, Bool.and_false]) H2 sm
            · refine iteDF c1 ⟨_, rfl, iteT ?_⟩
              exact bad (by rw [eok, decide_eq_false (show ¬ 1 ≤ f.length by omega), Bool.false_and]) H2 sm
          · rintro σ H2 ⟨y0, z0, rfl, sm, hok⟩
            refine ⟨_, rfl, _, rfl, by show 2 ≤ sizeLine; decide, fun p hp => ?_⟩
            have ep : parseP [n, f] = some (n, figV f) := by
              show (if (isName n && figsOk f) = true then some (n, figV f) else none) = _
              rw [en, hok rfl]
              rfl
            exact kS n _ ep _ p (Same.upd (sm3.trans sm) hp) ((sm3.trans sm).free hp) upd_same
def sp_counts_of (K : PySem.W.Frag) : Sp := fun vs H Q _ => ∃ (a : Addr) (ws : List Str) (cs : List (Str × Int)), vs = [.ref a] ∧ SqL K H a (ws.map V.str) ∧ ws.length ≤ 10000 ∧ (∀ x ∈ ws, x.length ≤ 10000) ∧ countsL 0 ws [] 0 = .ok cs ∧
  ∀ H' p, Same H H' → H p = none → H' p = some (.dK (kvS cs)) → Q (.ref p) H'
theorem cal_counts_of (Y : Yes K mg) : C8.Cal P w K mg base 3 "counts_of" (sp_counts_of K) [] := by
  obtain ⟨fd, F⟩ := Y.f_counts_of
  refine calD F Y.g_counts_of sc_counts_of (fun _ _ _ _ _ _ us hl => match us, hl with | [_], _ => rfl) (fun vs H Q E h => ?_) (fun cdv A outer s H vs Q E hr h => ?_)
  · obtain ⟨x, _, _, rfl, _⟩ := h
    rfl
  · have hu := hu_of hr
    refine ⟨_, (pss_cons (ps_set (i := 1) sc_counts_of.nd rfl (.inl rfl) pe_dnewK)
  (pss_cons (ps_set (i := 2) sc_counts_of.nd rfl (.inl rfl) pe_int)
  (pss_cons (ps_for PassesOwn.never rfl (pi_enum (by rfl) Y.n_enumerate (pa_cons (pv 0) pa_nil)) (pg_tup rfl (pgs_cons (pg_name (i := 3) sc_counts_of.nd rfl (.inl rfl)) (pgs_cons (pg_name (i := 4) sc_counts_of.nd rfl (.inl rfl)) pgs_nil)))
  (pss_cons (ps_set (i := 5) sc_counts_of.nd rfl (.inl rfl) (C8.pe_c (cal_word_count Y) hr (by decide) rfl (pa_cons (pv 4) pa_nil)))
  (pss_cons (ps_if (pt_cmpR op_isN (pv 5) pe_non (nomark _)) (pss_one ps_never) pss_nil)
  (pss_cons (ps_asg (pv 5) (pg_tup rfl (pgs_cons (pg_name (i := 6) sc_counts_of.nd rfl (.inl rfl)) (pgs_cons (pg_name (i := 7) sc_counts_of.nd rfl (.inl rfl)) pgs_nil))))
  (pss_cons (ps_aug (i := 2) sc_counts_of.nd rfl (.inl rfl) (pv 7) ip_add)
  (pss_cons (ps_if (pt_cmpR op_gt (pv 2) (C8.pe_gc rfl Y.c_MOST_READ) (nomark _)) (pss_one ps_never) pss_nil)
  (pss_one (ps_dput hu (pv 1) (pv 6) (pe_op op_add (pe_dget2 hu (pv 1) (pv 6) pe_int ⟨rfl, rfl, rfl, rfl⟩) (pv 7)) rfl))))))))
  (pss_one (ps_ret (pv 1)))))), ?_⟩
    obtain ⟨a, ws, cs, rfl, hS, hl, hw, hok, k⟩ := h
    intro d hd
    have s0 : Same H (upd H d (.dK [])) := same_upd hd
    refine ⟨_, rfl, a, _, rfl, s0.seq hS, for_it (walk_enum (K := K) (a := a) (xs := ws.map V.str)) (fun i σ H2 => ∃ acc tot y3 y4 y5 y6 y7, σ = [some (.ref a), some (.ref d), some (.int tot), y3, y4, y5, y6, y7] ∧ Same H H2 ∧ H2 d = some (.dK (kvS acc)) ∧ acc.length ≤ i ∧ countsL i (ws.drop i) acc tot = .ok cs)
      ⟨[], 0, none, none, none, none, none, rfl, s0, upd_same, Nat.le_refl _, hok⟩ (fun i σ H2 _ ⟨_, _, _, _, _, _, _, _, s1, _⟩ => s1.seq hS) (fun i x σ H1 H2 hi hp hy => ?_) (fun σ H2 hp => ?_)⟩
    · obtain ⟨acc, tot, y3, y4, y5, y6, y7, rfl, s1, hdd, hal, hc⟩ := hp
      obtain ⟨T, x0, x1, rfl, nT, rfl, e0, e1⟩ := hy
      have hi2 : i < ws.length := by simpa using hi
      have ex0 : x0 = .int i := (Option.some.inj e0).symm
      have e1 : (ws.map V.str)[i]? = some x1 := e1
      have ex1 : x1 = .str ws[i] := by
        rw [List.getElem?_map, List.getElem?_eq_getElem hi2] at e1
        exact (Option.some.inj e1).symm
      subst ex0 ex1
      rw [List.drop_eq_getElem_cons hi2] at hc
      obtain ⟨n, c, ep, hle, hc⟩ := countsL_ok hc
      refine ⟨T, _, rfl, SqT.of upd_same, rfl, _, _, rfl, _, _, rfl, rfl, ?_⟩
      refine ⟨_, rfl, ws[i], rfl, hw _ (List.getElem_mem hi2), fun z => (by rw [ep] at z; cases z), fun n2 c2 z H3 p s3 hp ht => ?_⟩
      rw [ep] at z
      cases z
      have s4 : Same H H3 := (Same.upd s1 nT).trans s3
      have hdT : d ≠ T := ne_of_none hdd nT
      have hd3 : H3 d = some (.dK (kvS acc)) := s3 _ _ (by rw [upd_ne hdT]; exact hdd)
      refine ⟨_, rfl, rfl, _, rfl, iteDF (fun z => nomatch z) ?_⟩
      refine ⟨_, rfl, p, _, rfl, SqT.of ht, rfl, _, _, rfl, _, _, rfl, rfl, ?_⟩
      refine ⟨_, rfl, _, rfl, _, _, rfl, rfl, ?_⟩
      refine ⟨_, rfl, _, _, rfl, rfl, _, rfl, iteDF hle ?_⟩
      refine ⟨_, rfl, d, rfl, ?_, _, rfl, _, dget_kv n hd3, _, rfl, _, _, getD_kv _ _, rfl, ?_⟩
      · exact .inl ⟨_, .inl hd3⟩
      refine ⟨_, rfl, _, rfl, d, _, rfl, dput_kv n _ hd3 (by omega), ?_⟩
      refine ⟨addC acc n c, tot + c, _, _, _, _, _, rfl, Same.mut s4 hd, upd_same, Nat.le_trans (length_put _ _ _) (by omega), hc⟩
    · obtain ⟨acc, tot, y3, y4, y5, y6, y7, rfl, s1, hdd, hal, hc⟩ := hp
      have e : ws.drop (ws.map V.str).length = [] := by rw [List.length_map, List.drop_length]
      rw [e] at hc
      have ec : acc = cs := by
        unfold countsL at hc
        exact Except.ok.inj hc
      subst ec
      exact ⟨_, rfl, k H2 d s1 hd hdd⟩
end
end Sk

set_option maxHeartbeats 4000000
namespace Sk
open PySem PySem.Spec PyProof.Rows L2
/-- a bag stands at p -/
def BagAt (K : PySem.W.Frag) (H : Hp) (p : Addr) (cs : List (Str × Int)) : Prop := ∃ d dx, H p = some (.ins (He.ga K "Bag") dx [("own", .ref d)]) ∧ H d = some (.dK (kvS cs))
theorem BagAt.same {K : PySem.W.Frag} {H H' : Hp} {p : Addr} {cs : List (Str × Int)} (b : BagAt K H p cs) (s : Same H H') : BagAt K H' p cs := by
  obtain ⟨d, dx, h1, h2⟩ := b
  exact ⟨d, dx, s _ _ h1, s _ _ h2⟩
section
variable {P : Program} {w : World} {K : PySem.W.Frag} {mg : Str → Option Value} {base : Heap}
def sp_Bag_init (K : PySem.W.Frag) : Sp := fun vs H Q _ => ∃ (p dx : Addr) (z : Str) (cs : List (Str × Int)), vs = [.ref p, .str z] ∧ H p = some (.ins (He.ga K "Bag") dx []) ∧ z.length ≤ 9000 ∧ bagOf z = .ok cs ∧
  ∀ H', But p H H' → BagAt K H' p cs → Q .non H'
theorem fn_Bag_init (Y : Yes K mg) {fd : FuncData} (F : FunD K "__init__" "Bag.__init__" (defArgs s_Bag___init__) (defBody s_Bag___init__) (defScope s_Bag___init__) [V.str ""] [] (He.ma K (He.ga K "Bag") "__init__") fd) :
    FnOk P w K mg base C8.CX0 4 (He.ma K (He.ga K "Bag") "__init__") fd ["self", "text"] (sp_Bag_init K) := by
  refine fnD0 F sc_Bag___init__ (fun vs H Q E h => ?_) (fun cdv A outer s H vs Q E hr h => ?_)
  · obtain ⟨p, dx, z, cs, rfl, _⟩ := h
    rfl
  · have hu := hu_of hr
    refine ⟨_, (pss_one (ps_fldK K (pv 0) (C8.pe_c (cal_counts_of Y) hr (by decide) rfl (pa_cons (pe_ifExp (pt_cmpR op_ne (pv 1) pe_str (nomark _)) (pe_split (pv 1) pe_str) (pe_lst pa_nil)) pa_nil)) rfl)), ?_⟩
    obtain ⟨p, dx, z, cs, rfl, hp, hz, hok, k⟩ := h
    have fin : ∀ H1 q, Same H H1 → H q = none → H1 q = some (.dK (kvS cs)) → Q .non (upd H1 p (.ins (He.ga K "Bag") dx [("own", .ref q)])) := fun H1 q sm nq hq => by
      have npq : q ≠ p := (ne_of_none hp nq).symm
      exact k _ (But.upd (But.of sm)) ⟨q, dx, upd_same, by rw [upd_ne npq]; exact hq⟩
    refine ⟨_, rfl, rfl, _, rfl, ?_⟩
    by_cases e : z = Str.ofString ""
    · refine iteE false (by rw [decide_eq_true (by rw [e])]; rfl) (iteF ⟨Nat.zero_le _, fun L hL => ?_⟩)
      have ew : bagOf z = countsL 0 [] [] 0 := by
        unfold bagOf wordsOf
        rw [if_pos e]
      refine ⟨L, [], cs, rfl, SqL.of upd_same, by decide, fun x hx => (nomatch hx), by rw [← ew]; exact hok, fun H1 q sm nq hq => ?_⟩
      have sm2 : Same H H1 := (same_upd hL).trans sm
      exact ⟨_, rfl, p, He.ga K "Bag", dx, [], rfl, sm2 _ _ hp, Y.cl_Bag, Y.na_Bag_own, by decide, fin H1 q sm2 ((same_upd hL).free nq) hq⟩
    · refine iteE true (by rw [decide_eq_false (by intro q; injection q with q; exact e q)]; rfl) (iteT ⟨_, rfl, ⟨_, rfl⟩, z, _, rfl, rfl, by decide +kernel, by rw [sizeLine_eq]; omega, fun L hL => ?_⟩)
      have ew : bagOf z = countsL 0 (Txt.split z (Str.ofString " ")) [] 0 := by
        unfold bagOf wordsOf
        rw [if_neg e]
      obtain ⟨s1, s2, s3⟩ := split_one tl_blank blank256 z
      refine ⟨L, _, cs, rfl, SqL.of upd_same, by omega, fun x hx => Nat.le_trans (s3 x hx) (by omega), by rw [← ew]; exact hok, fun H1 q sm nq hq => ?_⟩
      have sm2 : Same H H1 := (same_upd hL).trans sm
      exact ⟨_, rfl, p, He.ga K "Bag", dx, [], rfl, sm2 _ _ hp, Y.cl_Bag, Y.na_Bag_own, by decide, fin H1 q sm2 ((same_upd hL).free nq) hq⟩
theorem mk1_Bag (Y : Yes K mg) : C8.Mak P w K mg base 4 "Bag" (He.ga K "Bag") (sp_Bag_init K) [] := by
  obtain ⟨fd, F⟩ := Y.f_Bag___init__
  obtain ⟨ds, hd, hb⟩ := F.binds1 (ps := ["self", "text"]) 2 1 (by simp) rfl (fun T kV doc pm an cdv ct us its h1 h2 => match us, its, h1, h2 with | [_, _], [_], _, _ => ⟨_, rfl, rfl⟩)
  exact ⟨_, fd, ["self", "text"], ds, Y.mkr_Bag, fn_Bag_init Y F, Y.g_Bag, hb, hd⟩
theorem mk0_Bag (Y : Yes K mg) : C8.Mak P w K mg base 4 "Bag" (He.ga K "Bag") (sp_Bag_init K) [V.str ""] := by
  obtain ⟨fd, F⟩ := Y.f_Bag___init__
  obtain ⟨ds, hd, hb⟩ := F.binds1 (ps := ["self", "text"]) 1 0 (by simp) rfl (fun T kV doc pm an cdv ct us its h1 h2 => match us, its, h1, h2 with | [_], [_], _, _ => ⟨_, rfl, rfl⟩)
  exact ⟨_, fd, ["self", "text"], ds, Y.mkr_Bag, fn_Bag_init Y F, Y.g_Bag, hb, hd⟩
theorem mkK_Bag_text (Y : Yes K mg) : MakK P w K mg base 4 "Bag" (He.ga K "Bag") (sp_Bag_init K) ["text"] (fun vs zs => vs ++ zs) := by
  obtain ⟨fd, F⟩ := Y.f_Bag___init__
  obtain ⟨its, kb⟩ := F.kbindsD (ps := ["self", "text"]) 1 ["text"] (fun us _ ws => us ++ ws) (by simp) (fun r1 _ r3 => r1.append r3) (fun T kV doc pm an cdv ct us its ws h1 h2 h3 => match us, its, ws, h1, h2, h3 with | [_], [_], [_], _, _, _ => ⟨_, rfl, rfl⟩)
  exact ⟨_, fd, ["self", "text"], _, Y.mkr_Bag, fn_Bag_init Y F, Y.g_Bag, kb⟩
/-- a new instance, made: nothing else was changed -/
theorem made_same {H H' : Hp} {x dx : Addr} {o1 o2 : HO} (hx : H x = Option.none) (hd : H dx = Option.none) (b : But x (upd (upd H dx o1) x o2) H') : Same H H' := fun a o e => by
  have n1 := ne_of_none e hx
  have n2 := ne_of_none e hd
  exact b.at n1 (by rw [upd_ne n1, upd_ne n2]; exact e)
theorem But.toSame {d : Addr} {H H' : Hp} (b : But d H H') (h : H d = Option.none) : Same H H' := fun a o e => b.at (ne_of_none e h) e
/-! ### names, count_of -/
/-! ### == -/
def sp_Bag_eq (K : PySem.W.Frag) : Sp := fun vs H Q _ => ∃ (p : Addr) (x : V) (cs : List (Str × Int)), vs = [.ref p, x] ∧ BagAt K H p cs ∧ ((∃ q ds, x = .ref q ∧ BagAt K H q ds ∧ Q (.bl (sameC cs ds)) H) ∨ (∃ t, TyX K H x t ∧ PySem.W.kitOne K t (.ref (He.ga K "Bag")) = some false ∧ Q (.bl false) H))
theorem met_Bag_eq (Y : Yes K mg) : C8.Met P w K mg base 1 (He.ga K "Bag") "__eq__" (sp_Bag_eq K) [] := by
  obtain ⟨fd, F⟩ := Y.f_Bag___eq__
  refine metD Y.cl_Bag Y.mm_Bag___eq__ F sc_Bag___eq__ (fun _ _ _ _ _ _ us hl => match us, hl with | [_, _], _ => rfl) (fun vs H Q E h => ?_) (fun cdv A outer s H vs Q E hr h => ?_)
  · obtain ⟨x, _, _, rfl, _⟩ := h
    rfl
  · have hu := hu_of hr
    refine ⟨_, (pss_cons (ps_if (pt_not (pt_val (pe_callB (call_isiK K) (by rfl) Y.n_isinstance (by decide +kernel) (pa_cons (pv 1) (pa_cons (C8.pe_gc (v := .ref (He.ga K "Bag")) rfl ⟨_, Y.g_Bag, rfl⟩) pa_nil))))) (pss_one (ps_ret pe_bl)) pss_nil)
  (pss_one (ps_ret (pe_cmpR (op_eqDict hr.units0) (pe_fldK K (pv 0) rfl) (pe_fldK K (pv 1) rfl) (nomark _))))), ?_⟩
    obtain ⟨p, x, cs, rfl, ⟨d, dx, hp, hd⟩, ⟨q, ds, rfl, ⟨d2, dx2, hq, hd2⟩, k⟩ | ⟨t, ty, kt, k⟩⟩ := h
    · refine ⟨_, rfl, .ref q, .ref (He.ga K "Bag"), .ref (He.ga K "Bag"), .ref (He.ga K "Bag"), true, rfl, .own _, Y.is_Bag.ty hq, Y.is_Bag.me, _, rfl, iteF ?_⟩
      refine ⟨_, rfl, p, He.ga K "Bag", dx, _, _, rfl, hp, Y.cl_Bag, Y.na_Bag_own, rfl, _, rfl, q, He.ga K "Bag", dx2, _, _, rfl, hq, Y.cl_Bag, Y.na_Bag_own, rfl, d, d2, cs, ds, rfl, rfl, hd, hd2, k⟩
    · refine ⟨_, rfl, x, .ref (He.ga K "Bag"), t, .ref (He.ga K "Bag"), false, rfl, .own _, ty, kt, _, rfl, iteT ?_⟩
      exact k
/-! ### len -/
def sp_Bag_len (K : PySem.W.Frag) : Sp := fun vs H Q _ => ∃ (p : Addr) (cs : List (Str × Int)), vs = [.ref p] ∧ BagAt K H p cs ∧ GoodC cs ∧ ∀ H', Same H H' → Q (.int (sumC cs)) H'
theorem sum_take (cs : List (Str × Int)) (i : Nat) (n : Str) (c : Int) (h : cs[i]? = some (n, c)) : sumC (cs.take (i + 1)) = sumC (cs.take i) + c := by
  have hi := (List.getElem?_eq_some_iff.mp h).1
  have e := (List.getElem?_eq_some_iff.mp h).2
  unfold sumC
  rw [List.take_succ_eq_append_getElem hi, List.map_append, List.sum_append, e]
  simp
theorem sumC_nn {cs : List (Str × Int)} (pos : ∀ p ∈ cs, 1 ≤ p.2) : 0 ≤ sumC cs := by
  induction cs with
  | nil => exact Int.le_refl 0
  | cons a r ih =>
    have h1 := pos a List.mem_cons_self
    have h2 := ih fun p hp => pos p (List.mem_cons_of_mem _ hp)
    show 0 ≤ a.2 + sumC r
    omega
theorem sumC_split (cs : List (Str × Int)) (i : Nat) : sumC cs = sumC (cs.take i) + sumC (cs.drop i) := by
  unfold sumC
  rw [← List.sum_append, ← List.map_append, List.take_append_drop]
theorem met_Bag_len (Y : Yes K mg) : C8.Met P w K mg base 1 (He.ga K "Bag") "__len__" (sp_Bag_len K) [] := by
  obtain ⟨fd, F⟩ := Y.f_Bag___len__
  refine metD Y.cl_Bag Y.mm_Bag___len__ F sc_Bag___len__ (fun _ _ _ _ _ _ us hl => match us, hl with | [_], _ => rfl) (fun vs H Q E h => ?_) (fun cdv A outer s H vs Q E hr h => ?_)
  · obtain ⟨x, _, rfl, _⟩ := h
    rfl
  · have hu := hu_of hr
    refine ⟨_, (pss_one (ps_ret (pe_callB (call_lenK K) (by rfl) Y.n_len (by decide +kernel) (pa_cons (pe_lock (pe_lc2 (own := [("name", 1), ("k", 2)]) (vs1 := [2]) rfl sc_Bag___len__.nd (pi_keys (pe_fldK K (pv 0) rfl)) (blkOk_by (N := ["self", "name", "k"]) (own := [("name", 1), ("k", 2)]) (sc := (defScope s_Bag___len__)) (by decide +kernel)) (by decide) (fun _ _ _ _ _ => (pg_name (i := 1) sc_Bag___len__.nd rfl (.inl rfl))) (fun _ _ _ _ _ => pts_nil) (fun _ _ _ _ _ => (pi_range1 rfl Y.n_range (pa_cons (pe_dget hu (pe_fldK K (pv 0) rfl) (pv 1) (fun _ _ => rfl)) pa_nil))) (fun _ _ _ _ _ => (pg_name (i := 2) sc_Bag___len__.nd rfl (.inl rfl))) (fun _ _ _ _ _ => pts_nil) (fun _ _ _ _ _ => (pv 1)))) pa_nil)))), ?_⟩
    obtain ⟨p, cs, rfl, ⟨d, dx, hp, hd⟩, good, k⟩ := h
    have npd : p ≠ d := ne_of hp hd (by intro z; cases z)
    refine ⟨d, _, hd, trivial, fun od => ?_⟩
    have hp0 : (upd H d (.frz od (.dK (kvS cs)))) p = some (.ins (He.ga K "Bag") dx [("own", .ref d)]) := by rw [upd_ne npd]; exact hp
    refine ⟨_, rfl, p, He.ga K "Bag", dx, _, _, rfl, hp0, Y.cl_Bag, Y.na_Bag_own, rfl, d, od, rfl, .inl ⟨kvS cs, upd_same, fun D hD => ?_⟩⟩
    refine lc2_out (walk_keys (d := d) (o := od) (kvs := kvS cs)) (fun i H' => Same (upd H d (.frz od (.dK (kvS cs)))) H' ∧ ∃ acc : List V, H' D = some (.lst acc) ∧ (acc.length : Int) = sumC (cs.take i)) ⟨same_upd hD, [], upd_same, rfl⟩ (fun i H' _ p => p.1 _ _ upd_same) (fun i x H1 H2 hi hp1 hy => ?_) (fun H1 hp1 => ?_)
    · obtain ⟨s1, acc, hDa, hac⟩ := hp1
      obtain ⟨rfl, kk, v, hkv, rfl⟩ := hy
      have hkv2 : ∃ n c, cs[i]? = some (n, c) ∧ kk = Sum.inr n ∧ v = .int c := by
        unfold kvS at hkv
        rw [List.getElem?_map] at hkv
        cases e : cs[i]? with
        | none => rw [e] at hkv; cases hkv
        | some q =>
          rw [e] at hkv
          cases hkv
          exact ⟨q.1, q.2, rfl, rfl, rfl⟩
      obtain ⟨n, c, hc, rfl, rfl⟩ := hkv2
      have hmem : (n, c) ∈ cs := List.mem_of_getElem? hc
      have hc1 := good.pos _ hmem
      have hc2 := good.le _ hmem
      refine ⟨rfl, ?_⟩
      refine tyesK ?_
      refine iteT ?_
      refine ⟨_, rfl, p, He.ga K "Bag", dx, _, _, rfl, s1 _ _ hp0, Y.cl_Bag, Y.na_Bag_own, rfl, _, rfl, d, .int c, rfl, ?_, c, rfl, by omega, by omega, ?_⟩
      · have := dget_f n (s1 _ _ upd_same)
        rw [look_of good.nd hmem] at this
        exact this
      refine lc2_out (walk_range (lo := 0) (n := c.toNat)) (fun j H' => Same (upd H d (.frz od (.dK (kvS cs)))) H' ∧ ∃ acc : List V, H' D = some (.lst acc) ∧ (acc.length : Int) = sumC (cs.take i) + j) ⟨s1, acc, hDa, by simpa using hac⟩ (fun _ _ _ _ => trivial) (fun j x H3 H4 hj hp3 hy => ?_) (fun H3 hp3 => ?_)
      · obtain ⟨s3, acc3, hD3, ha3⟩ := hp3
        obtain ⟨rfl, rfl⟩ := hy
        have e2 := sum_take cs i n c hc
        have e3 := sumC_split cs (i + 1)
        have e4 : 0 ≤ sumC (cs.drop (i + 1)) := sumC_nn fun q hq => good.pos q (List.mem_of_mem_drop hq)
        have e5 := good.sum
        refine ⟨rfl, tyesK ?_⟩
        refine iteT ?_
        refine ⟨_, rfl, acc3, hD3, by rw [sizeLine_eq]; omega, Same.mut s3 hD, _, upd_same, by rw [List.length_append]; simp; omega⟩
      · obtain ⟨s3, acc3, hD3, ha3⟩ := hp3
        exact ⟨s3, acc3, hD3, by rw [sum_take cs i n c hc]; omega⟩
    · obtain ⟨s1, acc, hDa, hac⟩ := hp1
      have nDd : D ≠ d := by
        intro z
        rw [z, upd_same] at hD
        cases hD
      refine ⟨s1 _ _ upd_same, D, acc, rfl, .inl (SqL.of (by rw [upd_ne nDd]; exact hDa)), ?_⟩
      have e : (kvS cs).length = cs.length := by simp [kvS]
      rw [e, List.take_length] at hac
      rw [hac]
      refine k _ fun b o hb => ?_
      by_cases nb : b = d
      · rw [nb, upd_same]
        rw [nb, hd] at hb
        exact hb
      · rw [upd_ne nb]
        exact s1 _ _ (by rw [upd_ne nb]; exact hb)
end
end Sk

set_option maxHeartbeats 4000000
namespace Sk
open PySem PySem.Spec PyProof.Rows L2
section
variable {P : Program} {w : World} {K : PySem.W.Frag} {mg : Str → Option Value} {base : Heap}
def sp_Bag_str (K : PySem.W.Frag) : Sp := fun vs H Q _ => ∃ (p : Addr) (cs : List (Str × Int)), vs = [.ref p] ∧ BagAt K H p cs ∧ GoodC cs ∧ ∀ H', Same H H' → Q (.str (textOf cs)) H'
theorem getD_map {α β : Type} (l : List α) (f : α → β) (i : Nat) (d : α) (h : i < l.length) : (l.map f)[i]? = some (f (l.getD i d)) := by
  rw [List.getElem?_map, List.getElem?_eq_getElem h]
  simp [List.getD, h]
theorem map_rangeS {β : Type} (l : List Str) (f : Str → β) : (List.range l.length).map (fun i => f (l.getD i ⟨#[]⟩)) = l.map f := by
  apply List.ext_getElem (by simp)
  intro i h1 h2
  have h3 : i < l.length := by simpa using h2
  simp [List.getD, h3]
theorem met_Bag_str (Y : Yes K mg) : C8.Met P w K mg base 1 (He.ga K "Bag") "__str__" (sp_Bag_str K) [] := by
  obtain ⟨fd, F⟩ := Y.f_Bag___str__
  refine metD Y.cl_Bag Y.mm_Bag___str__ F sc_Bag___str__ (fun _ _ _ _ _ _ us hl => match us, hl with | [_], _ => rfl) (fun vs H Q E h => ?_) (fun cdv A outer s H vs Q E hr h => ?_)
  · obtain ⟨x, _, rfl, _⟩ := h
    rfl
  · have hu := hu_of hr
    refine ⟨_, (pss_one (ps_ret (pe_joinK K pe_str (pe_lc (own := [("name", 1)]) (g := gName 1) (tt := tYes) rfl sc_Bag___str__.nd (pi_listK K (pe_callB (call_sortedD rfl) (by rfl) Y.n_sorted (by decide +kernel) (pa_cons (pe_fldK K (pv 0) rfl) pa_nil))) (blkOk_by (N := ["self", "name"]) (own := [("name", 1)]) (sc := (defScope s_Bag___str__)) (by decide +kernel)) (fun _ _ _ _ _ => (pg_name (i := 1) sc_Bag___str__.nd rfl (.inl rfl))) (fun _ _ _ _ _ => pts_nil) (fun _ _ _ _ _ => (pe_ifExp (pt_cmpR op_eq (pe_dget hu (pe_fldK K (pv 0) rfl) (pv 1) (fun _ _ => rfl)) pe_int (nomark _)) (pv 1) (pe_joined (.cons (pe_fmt (pv 1)) (.cons pe_str (.cons (pe_fmt (pe_dget hu (pe_fldK K (pv 0) rfl) (pv 1) (fun _ _ => rfl))) .nil)))))))))), ?_⟩
    obtain ⟨p, cs, rfl, ⟨d, dx, hp, hd⟩, good, k⟩ := h
    refine ⟨⟨_, rfl⟩, _, rfl, p, He.ga K "Bag", dx, _, _, rfl, hp, Y.cl_Bag, Y.na_Bag_own, rfl, d, _, keysOf cs, rfl, .inl hd, keys_kvS cs, by unfold keysOf; rw [List.length_map]; exact good.few, fun ys q hperm hs hq => ?_⟩
    have ey := srt_of hperm hs
    subst ey
    have sq : Same H (upd H q (.lst ((srt (keysOf cs)).map V.str))) := same_upd hq
    refine ⟨q, rfl, ⟨_, SqL.of upd_same⟩, fun D hD => ?_⟩
    refine lc_same (walk_list (xs := (srt (keysOf cs)).map V.str)) (fun i => V.str (wordOf ((srt (keysOf cs)).getD i ⟨#[]⟩) ((look cs ((srt (keysOf cs)).getD i ⟨#[]⟩)).getD 0))) hD (by rw [sizeLine_eq, List.length_map, length_srt]; unfold keysOf; rw [List.length_map]; have := good.few; omega) (fun H1 sm => SqL.of (sm _ _ upd_same)) (fun i x H1 H2 hi sm y kk hk => ?_) (fun H1 sm hD1 => ?_)
    · obtain ⟨e2, hx⟩ := y
      subst e2
      have hi2 : i < (srt (keysOf cs)).length := by simpa using hi
      rw [getD_map _ _ _ ⟨#[]⟩ hi2] at hx
      cases hx
      have hm : (srt (keysOf cs)).getD i ⟨#[]⟩ ∈ keysOf cs := mem_srt.mp (by simp [List.getD, hi2])
      generalize (srt (keysOf cs)).getD i ⟨#[]⟩ = n at hm hk ⊢
      obtain ⟨q, hq1, e⟩ := List.mem_map.mp hm
      obtain ⟨n', c⟩ := q
      cases e
      have lk := look_of good.nd hq1
      have nl := isName_len (good.nm _ hq1)
      have cl := good.le _ hq1
      have c1 := good.pos _ hq1
      have s1 := sq.trans sm
      have hg : DGet H2 d (.str n') (some (.int c)) := by
        have := dget_kv n' (s1 _ _ hd)
        rw [lk] at this
        exact this
      rw [lk] at hk
      have hk := hk H2 (Same.refl _)
      refine ⟨rfl, _, rfl, p, He.ga K "Bag", dx, _, _, rfl, s1 _ _ hp, Y.cl_Bag, Y.na_Bag_own, rfl, _, rfl, d, .int c, rfl, hg, ?_⟩
      by_cases e : c = 1
      · subst e
        refine ⟨rfl, _, rfl, iteDT rfl ⟨_, rfl, ?_⟩⟩
        exact hk
      · refine ⟨rfl, _, rfl, iteE false (decide_eq_false (fun z => e (by injection z))) (iteF ?_)⟩
        have e0 := empty_app n'
        refine ⟨_, rfl, .inl ⟨n', rfl, by rw [sizeLine_eq]; show n'.length ≤ _; have := nl.2; simp only at this; omega, n', rfl, by rw [e0, sizeLine_eq]; have := nl.2; simp only at this; omega, ?_⟩⟩
        rw [e0]
        have l1 : (n' ++ Str.ofString "*").length ≤ 9 := by
          have := nl.2
          simp only at this
          rw [append_len]
          show n'.length + 1 ≤ 9
          omega
        refine ⟨_, rfl, by rw [sizeLine_eq]; omega, ?_⟩
        refine ⟨_, rfl, p, He.ga K "Bag", dx, _, _, rfl, s1 _ _ hp, Y.cl_Bag, Y.na_Bag_own, rfl, _, rfl, d, .int c, rfl, hg, .inr ⟨c, rfl, ?_, _, rfl, ?_, ?_⟩⟩
        · exact log_small (by simp only at c1; omega) (by simp only at cl; omega)
        · rw [append_len, sizeLine_eq]
          have := numT_len (c := c) (by simp only at c1; omega) (by simp only at cl; omega)
          show _ + (numT c).length ≤ _
          omega
        · have ew : wordOf n' c = n' ++ Str.ofString "*" ++ numT c := by
            unfold wordOf
            rw [if_neg e]
          rw [show (some c).getD 0 = c from rfl, ew] at hk
          exact hk
    · refine ⟨Str.ofString " ", D, (srt (keysOf cs)).map fun n => wordOf n ((look cs n).getD 0), rfl, rfl, .inl (SqL.of ?_), ?_, ?_⟩
      · rw [hD1, List.map_map, List.length_map]
        exact congrArg some (congrArg HO.lst (map_rangeS (srt (keysOf cs)) fun n => V.str (wordOf n ((look cs n).getD 0))))
      · refine Nat.le_trans (words_size (by decide +kernel) (by rw [List.length_map, length_srt]; unfold keysOf; rw [List.length_map]; have := good.few; omega) fun x hx => ?_) (by omega)
        obtain ⟨n, hn, rfl⟩ := List.mem_map.mp hx
        obtain ⟨q, hq1, e⟩ := List.mem_map.mp (mem_srt.mp hn)
        obtain ⟨n', c⟩ := q
        cases e
        rw [look_of good.nd hq1]
        have nl := isName_len (good.nm _ hq1)
        have cl := good.le _ hq1
        have c1 := good.pos _ hq1
        exact wordOf_len nl.2 (by simp only at c1; show (0:Int) ≤ c; omega) (by simp only at cl; show c < _; omega)
      · exact k _ (sq.trans sm)
end
end Sk

set_option maxHeartbeats 4000000
namespace Sk
open PySem PySem.Spec PyProof.Rows L2
section
variable {P : Program} {w : World} {K : PySem.W.Frag} {mg : Str → Option Value} {base : Heap}
theorem met_Bag_shown (Y : Yes K mg) : C8.Met P w K mg base 4 (He.ga K "Bag") "shown" (sp_Bag_str K) [] := by
  obtain ⟨fd, F⟩ := Y.f_Bag_shown
  refine metD Y.cl_Bag Y.mm_Bag_shown F sc_Bag_shown (fun _ _ _ _ _ _ us hl => match us, hl with | [_], _ => rfl) (fun vs H Q E h => ?_) (fun cdv A outer s H vs Q E hr h => ?_)
  · obtain ⟨x, _, rfl, _⟩ := h
    rfl
  · have hu := hu_of hr
    refine ⟨_, (pss_one (ps_ret (pe_callTy (call_strOwn (met_Bag_str Y) (hr.mono (by decide))) (by rfl) Y.n_str (by decide +kernel) (pa_cons (pv 0) pa_nil)))), ?_⟩
    obtain ⟨p, cs, rfl, hb, good, k⟩ := h
    obtain ⟨d, dx, hp, hd⟩ := id hb
    exact ⟨_, rfl, p, dx, _, rfl, hp, p, cs, rfl, hb, good, fun H1 s1 => ⟨_, rfl, k H1 s1⟩⟩
def sp_Bag_repr (K : PySem.W.Frag) : Sp := fun vs H Q _ => ∃ (p : Addr) (cs : List (Str × Int)), vs = [.ref p] ∧ BagAt K H p cs ∧ GoodC cs ∧ (reprText (textOf cs)).length ≤ 100000 ∧ ∀ H', Same H H' → Q (.str (Str.ofString "Bag(" ++ reprText (textOf cs) ++ Str.ofString ")")) H'
theorem met_Bag_repr (Y : Yes K mg) : C8.Met P w K mg base 5 (He.ga K "Bag") "__repr__" (sp_Bag_repr K) [] := by
  obtain ⟨fd, F⟩ := Y.f_Bag___repr__
  refine metD Y.cl_Bag Y.mm_Bag___repr__ F sc_Bag___repr__ (fun _ _ _ _ _ _ us hl => match us, hl with | [_], _ => rfl) (fun vs H Q E h => ?_) (fun cdv A outer s H vs Q E hr h => ?_)
  · obtain ⟨x, _, rfl, _⟩ := h
    rfl
  · have hu := hu_of hr
    refine ⟨_, (pss_one (ps_ret (pe_joined (.cons pe_str (.cons (pe_fmtR (C8.pe_mt0 (met_Bag_shown Y) hr (by decide) (pv 0))) (.cons pe_str .nil)))))), ?_⟩
    obtain ⟨p, cs, rfl, hb, good, hlen, k⟩ := h
    obtain ⟨d, dx, hp, hd⟩ := id hb
    have sz : sizeLine = 16777216 := sizeLine_eq
    have l4 : (Str.ofString "Bag(").length = 4 := by decide +kernel
    have l1 : (Str.ofString ")").length = 1 := by decide +kernel
    refine ⟨_, rfl, by rw [empty_app, sz]; omega, ?_⟩
    refine ⟨_, rfl, p, dx, _, rfl, hp, rfl, p, cs, rfl, hb, good, fun H1 s1 => .inl ⟨_, rfl, by omega, _, rfl, by rw [empty_app, append_len]; omega, _, rfl, by rw [empty_app, append_len, append_len]; omega, ?_⟩⟩
    rw [empty_app]
    exact k H1 s1
end
end Sk

set_option maxHeartbeats 4000000
namespace Sk
open PySem PySem.Spec PyProof.Rows L2
/-- a state of draws: at most n mixed ones so far -/
def Dr (H : Hp) (d : Addr) (n : Nat) : Prop := ∃ a b c : Int, H d = some (.lst [.int a, .int b, .int c]) ∧ 0 ≤ a ∧ 0 ≤ b ∧ b < 2 ^ 33 ∧ 0 ≤ c ∧ c ≤ n
theorem Dr.same {H H' : Hp} {d : Addr} {n : Nat} (h : Dr H d n) (s : Same H H') : Dr H' d n := by
  obtain ⟨a, b, c, h1, h⟩ := h
  exact ⟨a, b, c, s _ _ h1, h⟩
theorem Dr.mono {H : Hp} {d : Addr} {n m : Nat} (h : Dr H d n) (l : n ≤ m) : Dr H d m := by
  obtain ⟨a, b, c, h1, h2, h3, h4, h5, h6⟩ := h
  exact ⟨a, b, c, h1, h2, h3, h4, h5, by omega⟩
theorem small_mul {i j : Int} (hi : i.natAbs < 2 ^ 200) (hj : j.natAbs < 2 ^ 200) : CMulW i j := wide_mul hi hj (by omega) (by omega) (by omega)
theorem nat_small {i : Int} (h0 : 0 ≤ i) (h : i ≤ 1267650600228229401496703205376) : i.natAbs < 2 ^ 200 := by
  have e : (1267650600228229401496703205376 : Nat) < 2 ^ 200 := by decide +kernel
  omega
theorem mul2 {i j : Int} (h0 : 0 ≤ i) (h1 : i ≤ 1267650600228229401496703205376) (h2 : 0 ≤ j) (h3 : j ≤ 1267650600228229401496703205376) : CMulW i j := small_mul (nat_small h0 h1) (nat_small h2 h3)
theorem mul_bd {i j a b : Int} (h0 : 0 ≤ i) (h1 : i ≤ a) (h2 : 0 ≤ j) (h3 : j ≤ b) : 0 ≤ i * j ∧ i * j ≤ a * b := ⟨Int.mul_nonneg h0 h2, Int.mul_le_mul h1 h3 h2 (Int.le_trans h0 h1)⟩
theorem hp_at {F : Hp → Prop} {H0 : Hp} (R : Hp → Prop) (r : R H0) (h : ∀ H1, R H1 → F H1) : F H0 := h _ r
theorem small_div {i j : Int} (h : 0 < j) (hj : j < 2 ^ 60) : CDivW i j := wide_div (b := 60) h (by omega) (by omega) (by omega)
section
variable {P : Program} {w : World} {K : PySem.W.Frag} {mg : Str → Option Value} {base : Heap}
def sp_draws (K : PySem.W.Frag) : Sp := fun vs H Q _ => ∃ (a : Addr) (ns : List Int) (i : Nat), vs = [.ref a, .int i] ∧ SqL K H a (ns.map V.int) ∧ ns.length ≤ 1000 ∧ i ≤ 1000 ∧
  ∀ q H', H q = none → But q H H' → Dr H' q 0 → Q (.ref q) H'
theorem cal__law_draws (Y : Yes K mg) : C8.Cal P w K mg base 1 "_law_draws" (sp_draws K) [] := by
  obtain ⟨fd, F⟩ := Y.f__law_draws
  refine calD F Y.g__law_draws sc__law_draws (fun _ _ _ _ _ _ us hl => match us, hl with | [_, _], _ => rfl) (fun vs H Q E h => ?_) (fun cdv A outer s H vs Q E hr h => ?_)
  · obtain ⟨a, ns, i, rfl, _⟩ := h
    rfl
  · have hu := hu_of hr
    refine ⟨_, (pss_cons (ps_set (i := 2) sc__law_draws.nd rfl (.inl rfl) (pe_ifExp (pt_cmpR op_lt (pv 1) (pe_callB (call_lenK K) (by rfl) Y.n_len (by decide +kernel) (pa_cons (pv 0) pa_nil)) (nomark _)) (pe_ix (ix_listK K) (pv 0) (pv 1) (fun _ _ => rfl)) pe_int))
  (pss_one (ps_ret (pe_lst (pa_cons (pe_ifExp (pt_cmpR op_ge (pv 2) (pe_op op_pow pe_int pe_int) (nomark _)) (pv 2) pe_int) (pa_cons (pe_op op_add (pe_op op_add (pe_op op_mod (pv 2) pe_int) (pe_op op_mulW pe_int (pv 1))) pe_int) (pa_cons pe_int pa_nil))))))), ?_⟩
    obtain ⟨a, ns, i, rfl, hS, hl, hi, k⟩ := h
    have fin : ∀ c : Int, ∀ q, H q = none → Q (.ref q) (upd H q (.lst [.int (if 1000000000000000000 ≤ c then c else 0), .int (c % 2147483399 + 6007 * (i : Int) + 3), .int 0])) := fun c q hq => by
      refine k q _ hq ((But.refl q H).upd) ⟨_, _, _, upd_same, ?_, ?_, ?_, Int.le_refl _, Int.le_refl _⟩
      · split <;> omega
      · omega
      · omega
    have tail : ∀ c : Int, tRet
      (tLst
        (tCons
          (tIf
            (tTest
              (tOp (rI0 fun i j => V.bl (decide (j ≤ i))) (tVar 2)
                (tOp (rI CPow fun i j => V.int (i ^ j.toNat)) (tC (V.int 10)) (tC (V.int 18)))))
            (tVar 2) (tC (V.int 0)))
          (tCons
            (tOp (rI0 fun i j => V.int (i + j))
              (tOp (rI0 fun i j => V.int (i + j))
                (tOp (rI (fun x j => 0 < j) fun i j => V.int (i % j)) (tVar 2) (tC (V.int 2147483399)))
                (tOp (rI CMulW fun i j => V.int (i * j)) (tC (V.int 6007)) (tVar 1)))
              (tC (V.int 3)))
            (tCons (tC (V.int 0)) tNil)))) { nx := fun x H' => Q V.non H', rt := Q } [some (.ref a), some (.int i), some (.int c)] H := fun c => by
      refine ⟨_, rfl, _, _, rfl, rfl, ⟨by omega, by omega, by decide⟩, _, _, rfl, rfl, _, rfl, ?_⟩
      have rest : ∀ x : Int, x = (if 1000000000000000000 ≤ c then c else 0) → (tCons
            (tOp (rI0 fun i j => V.int (i + j))
              (tOp (rI0 fun i j => V.int (i + j))
                (tOp (rI (fun x j => 0 < j) fun i j => V.int (i % j)) (tVar 2) (tC (V.int 2147483399)))
                (tOp (rI CMulW fun i j => V.int (i * j)) (tC (V.int 6007)) (tVar 1)))
              (tC (V.int 3)))
            (tCons (tC (V.int 0)) tNil)) [some (.ref a), some (.int i), some (.int c)] H (fun xs H1 => (V.int x :: xs).length ≤ sizeLine ∧ ∀ p, H1 p = none → Q (.ref p) (upd H1 p (.lst (V.int x :: xs)))) := fun x ex => by
        refine ⟨_, rfl, _, _, rfl, rfl, by omega, _, rfl, _, _, rfl, rfl, mul2 (by omega) (by omega) (by omega) (by omega), _, _, rfl, rfl, _, _, rfl, rfl, by rw [sizeLine_eq]; show (3 : Nat) ≤ 16777216; omega, fun q hq => ?_⟩
        rw [ex]
        exact fin c q hq
      by_cases hc : (1000000000000000000 : Int) ≤ c
      · exact iteDT hc ⟨_, rfl, rest c (by rw [if_pos hc])⟩
      · exact iteDF hc (rest 0 (by rw [if_neg hc]))
    refine ⟨_, rfl, _, rfl, a, _, rfl, .inl hS, _, _, rfl, rfl, _, rfl, ?_⟩
    by_cases hlt : ((i : Int) < ((ns.map V.int).length : Int))
    · refine iteDT hlt ⟨_, rfl, _, rfl, a, _, _, _, rfl, rfl, hS, atI_cell (j := i) (by rw [List.length_map] at hlt; omega), ?_⟩
      exact tail _
    · refine iteDF hlt ?_
      exact tail 0
def sp_draw (K : PySem.W.Frag) : Sp := fun vs H Q _ => ∃ (d : Addr) (m : Int) (n : Nat), vs = [.ref d, .int m] ∧ Dr H d n ∧ n ≤ 1000000000 ∧ 1 ≤ m ∧ m ≤ 1000000000 ∧ ∀ H' v, But d H H' → Dr H' d (n + 1) → 0 ≤ v → v < m → Q (.int v) H'
theorem cal__law_draw (Y : Yes K mg) : C8.Cal P w K mg base 1 "_law_draw" (sp_draw K) [] := by
  obtain ⟨fd, F⟩ := Y.f__law_draw
  refine calD F Y.g__law_draw sc__law_draw (fun _ _ _ _ _ _ us hl => match us, hl with | [_, _], _ => rfl) (fun vs H Q E h => ?_) (fun cdv A outer s H vs Q E hr h => ?_)
  · obtain ⟨a, ns, i, rfl, _⟩ := h
    rfl
  · have hu := hu_of hr
    refine ⟨_, (pss_cons (ps_if (pt_cmpR op_gt (pe_ix (ix_listK K) (pv 0) pe_int (fun _ _ => rfl)) pe_int (nomark _)) (pss_cons (ps_set (i := 2) sc__law_draw.nd rfl (.inl rfl) (pe_op op_mod (pe_ix (ix_listK K) (pv 0) pe_int (fun _ _ => rfl)) (pv 1)))
  (pss_cons (ps_asg (pe_op op_fdivW (pe_ix (ix_listK K) (pv 0) pe_int (fun _ _ => rfl)) (pv 1)) (pg_sub (pv 0) pe_int set_list))
  (pss_one (ps_ret (pv 2))))) pss_nil)
  (pss_cons (ps_asg (pe_op op_add (pe_ix (ix_listK K) (pv 0) pe_int (fun _ _ => rfl)) pe_int) (pg_sub (pv 0) pe_int set_list))
  (pss_cons (ps_set (i := 3) sc__law_draw.nd rfl (.inl rfl) (pe_op op_add (pe_op op_mulW (pe_ix (ix_listK K) (pv 0) pe_int (fun _ _ => rfl)) (pe_op op_add (pe_op op_mulW pe_int (pe_ix (ix_listK K) (pv 0) pe_int (fun _ _ => rfl))) pe_int)) (pe_op op_mulW pe_int (pe_ix (ix_listK K) (pv 0) pe_int (fun _ _ => rfl)))))
  (pss_cons (ps_for PassesOwn.never rfl (pi_listK K (pe_lst (pa_cons pe_int (pa_cons pe_int (pa_cons pe_int (pa_cons pe_int pa_nil)))))) (pg_name (i := 4) sc__law_draw.nd rfl (.inl rfl))
  (pss_one (ps_set (i := 3) sc__law_draw.nd rfl (.inl rfl) (pe_op op_mod (pe_op op_add (pe_op op_add (pe_op op_mulW (pv 3) (pv 3)) (pe_op op_mulW pe_int (pe_ix (ix_listK K) (pv 0) pe_int (fun _ _ => rfl)))) pe_int) (pv 4)))))
  (pss_one (ps_ret (pe_op op_mod (pe_op op_fdivW (pv 3) pe_int) (pv 1)))))))), ?_⟩
    obtain ⟨d, m, n, rfl, ⟨a, b, c, hd, ha, hb0, hb1, hc0, hc1⟩, hn, hm0, hm1, k⟩ := h
    have at0 : atI [V.int a, V.int b, V.int c] 0 = some (V.int a) := rfl
    have at2 : atI [V.int a, V.int b, V.int c] 2 = some (V.int c) := rfl
    refine ⟨_, rfl, d, _, 0, _, rfl, rfl, SqL.of hd, at0, _, _, rfl, rfl, _, rfl, ?_⟩
    by_cases ha0 : 0 < a
    · refine iteDT ha0 ?_
      refine ⟨_, rfl, d, _, 0, _, rfl, rfl, SqL.of hd, at0, _, rfl, _, _, rfl, rfl, by omega, ?_⟩
      refine ⟨_, rfl, d, _, 0, _, rfl, rfl, SqL.of hd, at0, _, rfl, _, _, rfl, rfl, small_div (by omega) (by omega), ?_⟩
      refine ⟨_, rfl, d, _, 0, 0, rfl, rfl, hd, rfl, ?_⟩
      refine ⟨_, rfl, ?_⟩
      exact k _ _ ((But.refl d H).upd) ⟨_, _, _, upd_same, Int.ediv_nonneg ha (by omega), hb0, hb1, hc0, by omega⟩ (Int.emod_nonneg _ (by omega)) (Int.emod_lt_of_pos _ (by omega))
    · refine iteDF ha0 ?_
      refine ⟨_, rfl, d, _, 2, _, rfl, rfl, SqL.of hd, at2, _, _, rfl, rfl, ?_⟩
      refine ⟨_, rfl, d, _, 2, 2, rfl, rfl, hd, rfl, ?_⟩
      have bt : But d H (upd H d (.lst ([V.int a, V.int b, V.int c].set 2 (.int (c + 1))))) := (But.refl d H).upd
      have hd1 : (upd H d (.lst ([V.int a, V.int b, V.int c].set 2 (.int (c + 1))))) d = some (.lst [.int a, .int b, .int (c + 1)]) := upd_same
      have a1 : atI [V.int a, V.int b, V.int (c + 1)] 1 = some (V.int b) := rfl
      have a2 : atI [V.int a, V.int b, V.int (c + 1)] 2 = some (V.int (c + 1)) := rfl
      have dr : Dr (upd H d (.lst ([V.int a, V.int b, V.int c].set 2 (.int (c + 1))))) d (n + 1) := ⟨a, b, c + 1, hd1, ha, hb0, hb1, by omega, by omega⟩
      refine hp_at (fun H1 => But d H H1 ∧ H1 d = some (.lst [.int a, .int b, .int (c + 1)]) ∧ Dr H1 d (n + 1)) ⟨bt, hd1, dr⟩ (fun H1 ⟨bt, hd1, dr⟩ => ?_)
      obtain ⟨m1, m2⟩ := mul_bd (i := b) (a := 2 ^ 33) (j := 2 * (c + 1) + 5) (b := 4000000000) hb0 (by omega) (by omega) (by omega)
      refine ⟨_, rfl, d, _, 1, _, rfl, rfl, SqL.of hd1, a1, _, rfl, d, _, 2, _, rfl, rfl, SqL.of hd1, a2, _, _, rfl, rfl, mul2 (by omega) (by omega) (by omega) (by omega), _, _, rfl, rfl, _, _, rfl, rfl, mul2 (by omega) (by omega) (by omega) (by omega), ?_⟩
      refine ⟨_, rfl, d, _, 2, _, rfl, rfl, SqL.of hd1, a2, _, _, rfl, rfl, mul2 (by omega) (by omega) (by omega) (by omega), _, _, rfl, rfl, ?_⟩
      refine ⟨by rw [sizeLine_eq]; show (4 : Nat) ≤ 16777216; omega, fun pl hpl => ?_⟩
      have dpl : d ≠ pl := ne_of_none hd1 hpl
      have sm : Same H1 (upd H1 pl (.lst [.int 2147483647, .int 2147483629, .int 2147483587, .int 2147483579])) := same_upd hpl
      refine ⟨pl, rfl, ⟨_, SqL.of upd_same⟩, for_it (walk_list (K := K) (a := pl) (xs := [.int 2147483647, .int 2147483629, .int 2147483587, .int 2147483579])) (fun i σ H2 => ∃ x y2 y4, σ = [some (.ref d), some (.int m), y2, some (.int x), y4] ∧ H2 = (upd H1 pl (.lst [.int 2147483647, .int 2147483629, .int 2147483587, .int 2147483579])) ∧ 0 ≤ x ∧ x ≤ 1000000000000000000000000)
        ⟨_, none, none, rfl, rfl, by omega, by omega⟩ (fun i σ H2 _ ⟨_, _, _, _, e, _⟩ => by rw [e]; exact SqL.of upd_same) (fun i x σ H2 H3 hi hp hy => ?_) (fun σ H2 hp => ?_)⟩
      · obtain ⟨y, y2, y4, rfl, rfl, hx0, hx1⟩ := hp
        obtain ⟨e3, hx⟩ := hy
        subst e3
        have pr : ∃ q : Int, x = .int q ∧ 0 < q ∧ q ≤ 2147483647 := by
          match i, hx with
          | 0, h => exact ⟨_, (Option.some.inj h).symm, by omega, by omega⟩
          | 1, h => exact ⟨_, (Option.some.inj h).symm, by omega, by omega⟩
          | 2, h => exact ⟨_, (Option.some.inj h).symm, by omega, by omega⟩
          | 3, h => exact ⟨_, (Option.some.inj h).symm, by omega, by omega⟩
        obtain ⟨q, rfl, q0, q1⟩ := pr
        have hd2 := sm _ _ hd1
        obtain ⟨p1, p2⟩ := mul_bd hx0 hx1 hx0 hx1
        refine ⟨_, rfl, _, rfl, _, _, rfl, rfl, mul2 hx0 (by omega) hx0 (by omega), ?_⟩
        refine ⟨_, rfl, d, _, 2, _, rfl, rfl, SqL.of hd2, a2, _, _, rfl, rfl, mul2 (by omega) (by omega) (by omega) (by omega), _, _, rfl, rfl, _, _, rfl, rfl, _, rfl, _, _, rfl, rfl, q0, ?_⟩
        refine ⟨_, _, _, rfl, rfl, Int.emod_nonneg _ (by omega), ?_⟩
        exact Int.le_trans (Int.le_of_lt (Int.emod_lt_of_pos _ q0)) (by omega)
      · obtain ⟨y, y2, y4, rfl, rfl, hx0, hx1⟩ := hp
        refine ⟨_, rfl, _, _, rfl, rfl, small_div (by omega) (by omega), _, rfl, _, _, rfl, rfl, by omega, ?_⟩
        exact k _ _ (bt.trans (But.of sm)) (dr.same sm) (Int.emod_nonneg _ (by omega)) (Int.emod_lt_of_pos _ (by omega))
end
end Sk

set_option maxHeartbeats 4000000
namespace Sk
open PySem PySem.Spec PyProof.Rows L2
theorem Dr.ne {H : Hp} {d p : Addr} {n : Nat} (h : Dr H d n) (e : H p = Option.none) : p ≠ d := by
  obtain ⟨_, _, _, h, _⟩ := h
  exact (ne_of_none h e).symm
section
variable {P : Program} {w : World} {K : PySem.W.Frag} {mg : Str → Option Value} {base : Heap}
def firstWords : List Str := ["out", "to", "if", "open", "rank", "a", "divide", "enter", "unless", "z9"].map Str.ofString
theorem first_word {v : Int} (h0 : 0 ≤ v) (h1 : v < 10) : ∃ z, atI (firstWords.map V.str) v = some (.str z) ∧ isName z = true := by
  obtain ⟨k, rfl⟩ := Int.eq_ofNat_of_zero_le h0
  have hk : k < firstWords.length := by have : firstWords.length = 10 := rfl; omega
  refine ⟨firstWords[k], atI_nat (by rw [List.getElem?_map, List.getElem?_eq_getElem hk]; rfl), ?_⟩
  have all : firstWords.all isName = true := by decide +kernel
  exact List.all_eq_true.mp all _ (List.getElem_mem hk)
def sp_names (K : PySem.W.Frag) : Sp := fun vs H Q _ => ∃ (d : Addr) (m n : Nat), vs = [.ref d, .int m] ∧ Dr H d n ∧ n ≤ 900000000 ∧ 1 ≤ m ∧ m ≤ 26 ∧
  ∀ H' q ns, But d H H' → Dr H' d (n + 20) → H q = none → H' q = some (.lst (ns.map V.str)) → GoodN ns → 1 ≤ ns.length → ns.length ≤ m → Q (.ref q) H'
theorem cal__law_names (Y : Yes K mg) : C8.Cal P w K mg base 2 "_law_names" (sp_names K) [] := by
  obtain ⟨fd, F⟩ := Y.f__law_names
  refine calD F Y.g__law_names sc__law_names (fun _ _ _ _ _ _ us hl => match us, hl with | [_, _], _ => rfl) (fun vs H Q E h => ?_) (fun cdv A outer s H vs Q E hr h => ?_)
  · obtain ⟨a, ns, i, rfl, _⟩ := h
    rfl
  · have hu := hu_of hr
    refine ⟨_, (pss_cons (ps_set (i := 2) sc__law_names.nd rfl (.inr rfl) pe_str)
  (pss_cons (ps_set (i := 3) sc__law_names.nd rfl (.inl rfl) (pe_lst (pa_cons (pe_ix (ix_listK K) (pe_lst (pa_cons pe_str (pa_cons pe_str (pa_cons pe_str (pa_cons pe_str (pa_cons pe_str (pa_cons pe_str (pa_cons pe_str (pa_cons pe_str (pa_cons pe_str (pa_cons pe_str pa_nil))))))))))) (C8.pe_c (cal__law_draw Y) hr (by decide) rfl (pa_cons (pv 0) (pa_cons pe_int pa_nil))) (fun _ _ => rfl)) pa_nil)))
  (pss_cons (ps_set (i := 5) sc__law_names.nd rfl (.inl rfl) (pe_joinK K pe_str (pe_lc (own := [("_law_k", 4)]) (g := gName 4) (tt := tYes) rfl sc__law_names.nd (pi_range1 rfl Y.n_range (pa_cons (C8.pe_c (cal__law_draw Y) hr (by decide) rfl (pa_cons (pv 0) (pa_cons pe_int pa_nil))) pa_nil)) (blkOk_by (N := ["_law_draws_here", "_law_many", "_law_letters", "_law_found", "_law_k", "_law_base", "_law_head", "_law_at", "_law_off", "_law_name"]) (own := [("_law_k", 4)]) (sc := (defScope s__law_names)) (by decide +kernel)) (fun _ _ _ _ _ => (pg_name (i := 4) sc__law_names.nd rfl (.inl rfl))) (fun _ _ _ _ _ => pts_nil) (fun _ _ _ _ _ => (pe_ix (ix_str) (pe_op op_add_str (pv 2) pe_str) (C8.pe_c (cal__law_draw Y) hr (by decide) rfl (pa_cons (pv 0) (pa_cons pe_int pa_nil))) (fun _ _ => rfl))))))
  (pss_cons (ps_par3 (i := 6) (j := 7) (l := 8) rfl sc__law_names.nd rfl rfl rfl (by decide) (by decide) (by decide) rfl rfl rfl (pa_cons (pe_ix (ix_str) (pv 2) (C8.pe_c (cal__law_draw Y) hr (by decide) rfl (pa_cons (pv 0) (pa_cons pe_int pa_nil))) (fun _ _ => rfl)) (pa_cons (C8.pe_c (cal__law_draw Y) hr (by decide) rfl (pa_cons (pv 0) (pa_cons (pe_op op_add (pe_callB call_len_str (by rfl) Y.n_len (by decide +kernel) (pa_cons (pv 5) pa_nil)) pe_int) pa_nil))) (pa_cons (C8.pe_c (cal__law_draw Y) hr (by decide) rfl (pa_cons (pv 0) (pa_cons pe_int pa_nil))) pa_nil))) (by rfl))
  (pss_cons (ps_for PassesOwn.never rfl (pi_range1 rfl Y.n_range (pa_cons (pv 1) pa_nil)) (pg_name (i := 4) sc__law_names.nd rfl (.inl rfl))
  (pss_cons (ps_set (i := 9) sc__law_names.nd rfl (.inl rfl) (pe_op op_add_str (pe_op op_add_str (pe_op op_add_str (pv 6) (pe_slice (sl_str) (pv 5) po_none (po_some (pv 7)))) (pe_ix (ix_str) (pv 2) (pe_op op_mod (pe_op op_add (pv 8) (pv 4)) pe_int) (fun _ _ => rfl))) (pe_slice (sl_str) (pv 5) (po_some (pv 7)) po_none)))
  (pss_one (ps_if (pt_cmpR (op_notInK K) (pv 9) (pv 3) rfl) (pss_one (ps_expr (pe_bmK K PySem.F.plainAttrs_list PySem.F.slot_list_append PySem.F.type_list_append mt_append (pv 3) (pa_cons (pv 9) pa_nil)))) pss_nil))))
  (pss_one (ps_ret (pe_slice (sl_listK K) (pv 3) po_none (po_some (pv 1)))))))))), ?_⟩
    obtain ⟨d, m, n, rfl, hdr, hn, hm0, hm1, k⟩ := h
    have sz : sizeLine = 16777216 := sizeLine_eq
    refine ⟨by rw [sz]; show (10 : Nat) ≤ _; omega, fun p1 hp1 => ?_⟩
    have dr1 : Dr (upd H p1 (.lst (firstWords.map V.str))) d n := hdr.same (same_upd hp1)
    have b1 : But d H (upd H p1 (.lst (firstWords.map V.str))) := But.of (same_upd hp1)
    refine ⟨_, rfl, d, 10, n, rfl, dr1, by omega, by omega, by omega, fun H2 v b2 dr2 v0 v1 => ?_⟩
    obtain ⟨z0, hz0, nz0⟩ := first_word v0 v1
    have e1 : H2 p1 = some (.lst (firstWords.map V.str)) := b2.at (hdr.ne hp1) upd_same
    refine ⟨p1, _, v, _, rfl, rfl, SqL.of e1, hz0, by rw [sz]; show (1 : Nat) ≤ _; omega, fun f hf => ?_⟩
    have b2' := b1.trans b2
    have nfd : f ≠ d := dr2.ne hf
    have Hf : H f = Option.none := b2'.free nfd hf
    have b3 : But d H (upd H2 f (.lst [.str z0])) := b2'.mut Hf
    have dr3 : Dr (upd H2 f (.lst [.str z0])) d (n + 1) := dr2.same (same_upd hf)
    have f3 : (upd H2 f (.lst [.str z0])) f = some (.lst ([z0].map V.str)) := upd_same
    refine hp_at (fun H3 => But d H H3 ∧ Dr H3 d (n + 1) ∧ H3 f = some (.lst ([z0].map V.str))) ⟨b3, dr3, f3⟩ (fun H3 ⟨b3, dr3, f3⟩ => ?_)
    refine ⟨⟨_, rfl⟩, _, rfl, d, 7, n + 1, rfl, dr3, by omega, by omega, by omega, fun H4 v7 b4 dr4 h70 h71 => ⟨v7, rfl, by omega, by omega, fun D hD => ?_⟩⟩
    have nDd : D ≠ d := dr4.ne hD
    have D3 : H3 D = Option.none := b4.free nDd hD
    have fD : f ≠ D := ne_of_none f3 D3
    refine lc_it (walk_range (lo := 0) (n := v7.toNat)) (fun i Hx => ∃ acc : List Str, Hx D = some (.lst (acc.map V.str)) ∧ acc.length = i ∧ (∀ p ∈ acc, p.length ≤ 1 ∧ chk p = true) ∧ Dr Hx d (n + 2 + i) ∧ But d H3 Hx)
      ⟨[], upd_same, rfl, (fun _ h => nomatch h), dr4.same (same_upd hD), b4.trans (But.of (same_upd hD))⟩ (fun _ _ _ _ => trivial) (fun i x H5 H6 hi hp hy => ?_) (fun H5 hp => ?_)
    · obtain ⟨acc, a1, a2, a3, a4, a5⟩ := hp
      obtain ⟨rfl, rfl⟩ := hy
      refine ⟨rfl, tyesK ?_⟩
      refine iteT ?_
      refine ⟨_, rfl, _, _, rfl, rfl, by rw [sz]; decide +kernel, _, rfl, d, 36, n + 2 + i, rfl, a4, by omega, by omega, by omega, fun H7 v b7 dr7 w0 w1 => ?_⟩
      obtain ⟨c, hc, oc⟩ := at_sign w0 w1
      refine ⟨_, v, c, rfl, rfl, by rw [sz]; decide +kernel, hc, acc.map V.str, b7.at nDd a1, by rw [sz, List.length_map]; omega, acc ++ [⟨#[c]⟩], by rw [upd_same, List.map_append]; rfl, by rw [List.length_append]; simp [a2], fun p hp => ?_, ?_, ?_⟩
      · rcases List.mem_append.mp hp with hp | hp
        · exact a3 p hp
        · rw [List.mem_singleton.mp hp]
          exact ⟨Nat.le_refl 1, by unfold chk; simp [tl, oc]⟩
      · have := dr7.same (H' := upd H7 D (.lst (acc.map V.str ++ [.str ⟨#[c]⟩])))
        obtain ⟨q1, q2, q3, q4, q5⟩ := dr7
        exact ⟨q1, q2, q3, by rw [upd_ne nDd.symm]; exact q4, by omega⟩
      · exact (a5.trans b7).mut D3
    · obtain ⟨acc, a1, a2, a3, a4, a5⟩ := hp
      have jc := join_chk a3
      have jl : (Txt.join (Str.ofString "") acc).length ≤ 6 := by omega
      refine ⟨_, D, acc, rfl, rfl, .inl (SqL.of a1), ?_, ?_⟩
      · have := words_size (a := Str.ofString "") (ws := acc) (by decide +kernel) (by omega) fun x hx => Nat.le_trans (a3 x hx).1 (by omega)
        omega
      have f5 := a5.at nfd f3
      have b5 := b3.trans a5
      generalize Txt.join (Str.ofString "") acc = bs at jc jl ⊢
      refine ⟨_, rfl, _, rfl, d, 26, _, rfl, a4, by omega, by omega, by omega, fun H6 v b6 dr6 w0 w1 => ?_⟩
      obtain ⟨c, hc, lc⟩ := at_letter w0 w1
      refine ⟨_, v, c, rfl, rfl, by rw [sz]; decide +kernel, hc, ?_⟩
      refine ⟨_, rfl, _, rfl, bs, rfl, by omega, _, _, rfl, rfl, d, _, _, rfl, dr6, by omega, by omega, by omega, fun H7 at7 b7 dr7 x0 x1 => ?_⟩
      refine ⟨_, rfl, d, 26, _, rfl, dr7, by omega, by omega, by omega, fun H8 off b8 dr8 y0 y1 => ?_⟩
      refine ⟨_, _, _, rfl, ?_⟩
      obtain ⟨kk, rfl⟩ := Int.eq_ofNat_of_zero_le x0
      have f8 := b8.at nfd (b7.at nfd (b6.at nfd f5))
      have bb8 := b5.trans (b6.trans (b7.trans b8))
      refine ⟨_, rfl, m, rfl, by omega, by omega, for_it (walk_range (lo := 0) (n := (m : Int).toNat)) (fun i σ Hx => ∃ ns y4 y9, σ = [some (.ref d), some (.int m), some (.str letters), some (.ref f), y4, some (.str bs), some (.str ⟨#[c]⟩), some (.int kk), some (.int off), y9] ∧ Hx f = some (.lst (ns.map V.str)) ∧ GoodN ns ∧ 1 ≤ ns.length ∧ ns.length ≤ i + 1 ∧ But d H Hx ∧ Dr Hx d (n + 20))
        ⟨[z0], none, none, rfl, f8, GoodN.one nz0, Nat.le_refl _, Nat.le_refl _, bb8, dr8.mono (by omega)⟩ (fun _ _ _ _ _ => trivial) (fun i x σ H9 H10 hi hp hy => ?_) (fun σ H9 hp => ?_)⟩
      · obtain ⟨ns, y4, y9, rfl, g1, g2, g3, g4, g5, g6⟩ := hp
        obtain ⟨rfl, rfl⟩ := hy
        have em := Int.emod_nonneg (off + (0 + (i : Int))) (show (26 : Int) ≠ 0 by omega)
        have el := Int.emod_lt_of_pos (off + (0 + (i : Int))) (show (0 : Int) < 26 by omega)
        obtain ⟨l, hl, ll⟩ := at_letter em el
        have nm := made_name (k := kk) lc ll jc.1 jl
        have c1 := cutS_length bs none (some (kk : Int))
        have c2 := cutS_length bs (some (kk : Int)) none
        have z1 : (⟨#[c]⟩ : Str).length = 1 := rfl
        have z2 : (⟨#[l]⟩ : Str).length = 1 := rfl
        refine ⟨_, rfl, _, rfl, _, rfl, _, rfl, bs, rfl, by omega, _, _, rfl, rfl, by omega, ?_⟩
        refine ⟨_, rfl, _, rfl, _, rfl, _, _, rfl, rfl, _, _, rfl, rfl, by omega, _, _, l, rfl, rfl, by rw [sz]; decide +kernel, hl, _, _, rfl, rfl, by rw [append_len]; omega, ?_⟩
        refine ⟨_, rfl, _, rfl, _, rfl, bs, rfl, by omega, _, _, rfl, rfl, by rw [append_len, append_len]; omega, ?_⟩
        generalize (⟨#[c]⟩ ++ cutS bs none (some (kk : Int)) ++ ⟨#[l]⟩ ++ cutS bs (some (kk : Int)) none : Str) = nw at nm ⊢
        refine ⟨_, rfl, _, rfl, f, _, rfl, .inl (SqL.of g1), rfl, flat_strs ns, _, rfl, ?_⟩
        rw [inV_str]
        by_cases hin : nw ∈ ns
        · rw [decide_eq_true hin]
          exact iteF ⟨ns, _, _, rfl, g1, g2, g3, by omega, g5, g6⟩
        · rw [decide_eq_false hin]
          refine iteT ⟨_, rfl, .inl ⟨rfl, _, SqL.of g1⟩, _, rfl, f, _, _, rfl, rfl, g1, by rw [sz, List.length_map]; omega, ?_⟩
          refine ⟨ns ++ [nw], _, _, rfl, by rw [upd_same, List.map_append]; rfl, g2.snoc nm hin, by rw [List.length_append]; omega, by rw [List.length_append]; simp; omega, g5.mut Hf, ?_⟩
          obtain ⟨q1, q2, q3, q4, q5⟩ := g6
          exact ⟨q1, q2, q3, by rw [upd_ne nfd.symm]; exact q4, q5⟩
      · obtain ⟨ns, y4, y9, rfl, g1, g2, g3, g4, g5, g6⟩ := hp
        refine ⟨_, rfl, _, rfl, _, rfl, f, _, rfl, SqL.of g1, fun q hq => ?_⟩
        have e : cutV (ns.map V.str) none (some (m : Int)) = (ns.take m).map V.str := by
          unfold cutV
          rw [HT.sIx_nat, HT.sIx_none, List.length_map, List.drop_zero, Nat.sub_zero, ← List.map_take]
          congr 1
          by_cases h : m ≤ ns.length
          · rw [Nat.min_eq_left h]
          · rw [Nat.min_eq_right (by omega), List.take_of_length_le (Nat.le_refl _), List.take_of_length_le (by omega)]
        rw [e]
        exact k _ q _ (g5.trans (But.of (same_upd hq))) (g6.same (same_upd hq)) (g5.free (g6.ne hq) hq) upd_same (g2.take m) (by rw [List.length_take]; omega) (by rw [List.length_take]; omega)
end
end Sk

set_option maxHeartbeats 4000000
namespace Sk
open PySem PySem.Spec PyProof.Rows L2
theorem Dr.mut {H : Hp} {d p : Addr} {n : Nat} {o : HO} (h : Dr H d n) (e : d ≠ p) : Dr (upd H p o) d n := by
  obtain ⟨q1, q2, q3, q4, q5⟩ := h
  exact ⟨q1, q2, q3, by rw [upd_ne e]; exact q4, q5⟩
theorem at_mem {xs : List V} {v : Int} (h0 : 0 ≤ v) (h1 : v < xs.length) : ∃ x, atI xs v = some x ∧ x ∈ xs := by
  obtain ⟨k, rfl⟩ := Int.eq_ofNat_of_zero_le h0
  have hk : k < xs.length := by omega
  exact ⟨xs[k], atI_nat (List.getElem?_eq_getElem hk), List.getElem_mem hk⟩
theorem hp_gn {i : Nat} {v : V} {σ : L2.St} {H0 : Hp} {Q : L2.St → Hp → Prop} (R : Hp → Prop) (r : R H0) (h : ∀ H1, R H1 → gName i v σ H1 Q) : gName i v σ H0 Q := h _ r
/-- counts of some of the names ns, at most m things -/
structure GoodD (ns : List Str) (m : Int) (cs : List (Str × Int)) : Prop where
  sub : ∀ p ∈ cs, p.1 ∈ ns
  nd : (keysOf cs).Nodup
  pos : ∀ p ∈ cs, 1 ≤ p.2
  sum : sumC cs ≤ m
  few : cs.length ≤ 26
theorem GoodD.nil {ns : List Str} {m : Int} (h : 0 ≤ m) : GoodD ns m [] := ⟨fun _ h => (nomatch h), by simp [keysOf], fun _ h => (nomatch h), h, by simp⟩
theorem GoodD.good {ns : List Str} {m : Int} {cs : List (Str × Int)} (g : GoodD ns m cs) (n : GoodN ns) (hm : m ≤ 400) : GoodC cs :=
  ⟨Nat.lt_of_le_of_lt g.few (by omega), g.nd, fun p hp => n.nm _ (g.sub p hp), g.pos, Int.le_trans g.sum (by omega)⟩
section
variable {P : Program} {w : World} {K : PySem.W.Frag} {mg : Str → Option Value} {base : Heap}
def sp_counts (K : PySem.W.Frag) : Sp := fun vs H Q _ => ∃ (d nl : Addr) (most : Int) (ns : List Str) (n : Nat), vs = [.ref d, .ref nl, .int most] ∧ Dr H d n ∧ n ≤ 800000000 ∧ nl ≠ d ∧ H nl = some (.lst (ns.map V.str)) ∧ 1 ≤ ns.length ∧ ns.length ≤ 26 ∧ 1 ≤ most ∧ most ≤ 400 ∧
  ∀ H' q cs, But d H H' → Dr H' d (n + 100) → H q = none → H' q = some (.dK (kvS cs)) → GoodD ns most cs → Q (.ref q) H'
theorem cal__law_counts (Y : Yes K mg) : C8.Cal P w K mg base 2 "_law_counts" (sp_counts K) [] := by
  obtain ⟨fd, F⟩ := Y.f__law_counts
  refine calD F Y.g__law_counts sc__law_counts (fun _ _ _ _ _ _ us hl => match us, hl with | [_, _, _], _ => rfl) (fun vs H Q E h => ?_) (fun cdv A outer s H vs Q E hr h => ?_)
  · obtain ⟨a, ns, i, _, _, rfl, _⟩ := h
    rfl
  · have hu := hu_of hr
    refine ⟨_, (pss_cons (ps_set (i := 3) sc__law_counts.nd rfl (.inl rfl) pe_dnewK)
  (pss_cons (ps_set (i := 4) sc__law_counts.nd rfl (.inl rfl) (pe_ix (ix_listK K) (pe_lst (pa_cons (pv 2) (pa_cons (C8.pe_c (cal__law_draw Y) hr (by decide) rfl (pa_cons (pv 0) (pa_cons (pe_op op_add (pv 2) pe_int) pa_nil))) (pa_cons (pe_callB (call_min2 rfl) (by rfl) Y.n_min (by decide +kernel) (pa_cons pe_int (pa_cons (pv 2) pa_nil))) (pa_cons pe_int pa_nil))))) (C8.pe_c (cal__law_draw Y) hr (by decide) rfl (pa_cons (pv 0) (pa_cons pe_int pa_nil))) (fun _ _ => rfl)))
  (pss_cons (ps_for PassesOwn.never rfl (pi_range1 rfl Y.n_range (pa_cons (C8.pe_c (cal__law_draw Y) hr (by decide) rfl (pa_cons (pv 0) (pa_cons (pe_op op_add (pe_callB (call_lenK K) (by rfl) Y.n_len (by decide +kernel) (pa_cons (pv 1) pa_nil)) pe_int) pa_nil))) pa_nil)) (pg_name (i := 5) sc__law_counts.nd rfl (.inl rfl))
  (pss_cons (ps_set (i := 6) sc__law_counts.nd rfl (.inl rfl) (pe_ix (ix_listK K) (pv 1) (C8.pe_c (cal__law_draw Y) hr (by decide) rfl (pa_cons (pv 0) (pa_cons (pe_callB (call_lenK K) (by rfl) Y.n_len (by decide +kernel) (pa_cons (pv 1) pa_nil)) pa_nil))) (fun _ _ => rfl)))
  (pss_cons (ps_set (i := 7) sc__law_counts.nd rfl (.inl rfl) (pe_op op_add pe_int (C8.pe_c (cal__law_draw Y) hr (by decide) rfl (pa_cons (pv 0) (pa_cons (pe_ix (ix_listK K) (pe_lst (pa_cons pe_int (pa_cons pe_int pa_nil))) (pe_callTy call_int1 (by rfl) Y.n_int (by decide +kernel) (pa_cons (pe_cmpR op_eq (C8.pe_c (cal__law_draw Y) hr (by decide) rfl (pa_cons (pv 0) (pa_cons pe_int pa_nil))) pe_int (nomark _)) pa_nil)) (fun _ _ => rfl)) pa_nil)))))
  (pss_one (ps_if (PW.pt (pw_and (pt_cmp (pc_dnotin hu (pv 6) (pv 3))) (pw_and1 (pt_cmpR op_le (pv 7) (pv 4) (nomark _))))) (pss_cons (ps_dput hu (pv 3) (pv 6) (pv 7) rfl)
  (pss_one (ps_set (i := 4) sc__law_counts.nd rfl (.inl rfl) (pe_op op_sub (pv 4) (pv 7))))) pss_nil)))))
  (pss_one (ps_ret (pv 3)))))), ?_⟩
    obtain ⟨d, nl, most, ns, n, rfl, hdr, hn, nnd, hnl, hl0, hl1, hm0, hm1, k⟩ := h
    have sz : sizeLine = 16777216 := sizeLine_eq
    intro f hf
    have nfd : f ≠ d := hdr.ne hf
    have nnf : nl ≠ f := ne_of_none hnl hf
    refine hp_gn (fun H1 => But d H H1 ∧ Dr H1 d n ∧ H1 f = some (.dK (kvS []))) ⟨But.of (same_upd hf), hdr.same (same_upd hf), upd_same⟩ (fun H1 ⟨b1, dr1, f1⟩ => ?_)
    refine ⟨_, rfl, _, rfl, _, rfl, _, _, rfl, rfl, d, _, _, rfl, dr1, by omega, by omega, by omega, fun H2 v1 b2 dr2 x0 x1 => ?_⟩
    refine ⟨_, rfl, 3, most, rfl, by rw [sz]; show (4 : Nat) ≤ _; omega, fun p2 hp2 => ?_⟩
    have b3 : But d H (upd H2 p2 (.lst [.int most, .int v1, .int (if most < 3 then most else 3), .int 0])) := (b1.trans b2).trans (But.of (same_upd hp2))
    refine ⟨_, rfl, d, 4, _, rfl, dr2.same (same_upd hp2), by omega, by omega, by omega, fun H4 v2 b4 dr4 y0 y1 => ?_⟩
    have p4 : H4 p2 = some (.lst [.int most, .int v1, .int (if most < 3 then most else 3), .int 0]) := b4.at (dr2.ne hp2) upd_same
    obtain ⟨x, hx, mx⟩ := at_mem (xs := [.int most, .int v1, .int (if most < 3 then most else 3), .int 0]) y0 (by show v2 < 4; omega)
    have left : ∃ l : Int, x = .int l ∧ 0 ≤ l ∧ l ≤ most := by
      simp only [List.mem_cons, List.not_mem_nil, or_false] at mx
      rcases mx with e | e | e | e
      · exact ⟨_, e, by omega, by omega⟩
      · exact ⟨_, e, x0, by omega⟩
      · exact ⟨_, e, by split <;> omega, by split <;> omega⟩
      · exact ⟨_, e, by omega, by omega⟩
    obtain ⟨l, rfl, l0, l1⟩ := left
    refine ⟨p2, _, v2, _, rfl, rfl, SqL.of p4, hx, ?_⟩
    have f4 : H4 f = some (.dK (kvS [])) := b4.at nfd ((same_upd hp2) _ _ (b2.at nfd f1))
    have b4' := b3.trans b4
    have nl4 := b4'.at nnd hnl
    refine ⟨_, rfl, _, rfl, nl, _, rfl, .inl (SqL.of nl4), _, _, rfl, rfl, d, _, _, rfl, dr4, by omega, by rw [List.length_map]; omega, by rw [List.length_map]; omega, fun H5 v3 b5 dr5 z0 z1 => ?_⟩
    rw [List.length_map] at z1
    refine ⟨v3, rfl, by omega, by omega, for_it (walk_range (lo := 0) (n := v3.toNat)) (fun i σ Hx => ∃ cs y5 y6 y7, ∃ lf : Int, σ = [some (.ref d), some (.ref nl), some (.int most), some (.ref f), some (.int lf), y5, y6, y7] ∧ Hx f = some (.dK (kvS cs)) ∧ GoodD ns (most - lf) cs ∧ 0 ≤ lf ∧ lf ≤ most ∧ cs.length ≤ i ∧ But d H Hx ∧ Dr Hx d (n + 3 + 3 * i))
      ⟨[], none, none, none, l, rfl, b5.at nfd f4, GoodD.nil (by omega), l0, l1, Nat.le_refl _, b4'.trans b5, dr5⟩ (fun _ _ _ _ _ => trivial) (fun i x σ H6 H7 hi hp hy => ?_) (fun σ H6 hp => ?_)⟩
    · obtain ⟨cs, y5, y6, y7, lf, rfl, g1, g2, g3, g4, g5, g6, g7⟩ := hp
      obtain ⟨rfl, rfl⟩ := hy
      have nl7 := g6.at nnd hnl
      refine ⟨_, rfl, _, rfl, _, rfl, nl, _, rfl, .inl (SqL.of nl7), d, _, _, rfl, g7, by omega, by rw [List.length_map]; omega, by rw [List.length_map]; omega, fun H8 v4 b8 dr8 w0 w1 => ?_⟩
      obtain ⟨x, hx, mx⟩ := at_mem w0 w1
      obtain ⟨z, zn, rfl⟩ := List.mem_map.mp mx
      refine ⟨nl, _, v4, _, rfl, rfl, SqL.of (b8.at nnd nl7), hx, ?_⟩
      refine ⟨_, rfl, by rw [sz]; show (2 : Nat) ≤ _; omega, fun p9 hp9 => ?_⟩
      refine ⟨_, rfl, d, 5, _, rfl, dr8.same (same_upd hp9), by omega, by omega, by omega, fun H10 v5 b10 dr10 u0 u1 => ?_⟩
      refine ⟨rfl, .inr ⟨_, rfl, ?_⟩⟩
      have p10 : H10 p9 = some (.lst [.int 3, .int 400]) := b10.at (dr8.ne hp9) upd_same
      have pick : ∃ q : Int, atI [V.int 3, V.int 400] (if decide (V.int v5 = V.int 0) = true then 1 else 0) = some (.int q) ∧ 1 ≤ q ∧ q ≤ 400 := by
        cases decide (V.int v5 = V.int 0) with
        | true => exact ⟨400, rfl, by omega, by omega⟩
        | false => exact ⟨3, rfl, by omega, by omega⟩
      obtain ⟨q, hq, q0, q1⟩ := pick
      refine ⟨p9, _, _, _, rfl, rfl, SqL.of p10, hq, d, q, _, rfl, dr10, by omega, by omega, by omega, fun H11 v6 b11 dr11 t0 t1 => ?_⟩
      refine ⟨_, _, rfl, rfl, ?_⟩
      have bb : But d H H11 := (g6.trans b8).trans ((But.of (same_upd hp9)).trans (b10.trans b11))
      have f11 : H11 f = some (.dK (kvS cs)) := b11.at nfd (b10.at nfd ((same_upd hp9) _ _ (b8.at nfd g1)))
      have keep : ∃ cs y5 y6 y7, ∃ lf' : Int, [some (.ref d), some (.ref nl), some (.int most), some (.ref f), some (.int lf), some (V.int (0 + (i : Int))), some (V.str z), some (V.int (1 + v6))] = [some (V.ref d), some (.ref nl), some (.int most), some (.ref f), some (.int lf'), y5, y6, y7] ∧ H11 f = some (.dK (kvS cs)) ∧ GoodD ns (most - lf') cs ∧ 0 ≤ lf' ∧ lf' ≤ most ∧ cs.length ≤ i + 1 ∧ But d H H11 ∧ Dr H11 d (n + 3 + 3 * (i + 1)) :=
        ⟨cs, _, _, _, lf, rfl, f11, g2, g3, g4, by omega, bb, dr11.mono (by omega)⟩
      refine ⟨_, rfl, _, rfl, f, _, rfl, dget_kv z f11, _, rfl, ?_⟩
      cases hl : look cs z with
      | some c =>
        refine iteF ?_
        show (if (false : Bool) = true then _ else _)
        exact iteF keep
      | none =>
        refine iteT ⟨_, rfl, _, rfl, _, _, rfl, rfl, _, rfl, ?_⟩
        by_cases hle : 1 + v6 ≤ lf
        · refine iteDT hle ⟨_, rfl, _, rfl, _, rfl, f, _, rfl, dput_kv z _ f11 (by omega), _, rfl, _, rfl, _, _, rfl, rfl, ?_⟩
          have nk := look_none.mp hl
          refine ⟨cs ++ [(z, 1 + v6)], _, _, _, lf - (1 + v6), rfl, by rw [upd_same, put_new nk], ⟨?_, ?_, ?_, ?_, ?_⟩, by omega, by omega, by rw [List.length_append]; simp; omega, bb.mut hf, dr11.mut nfd.symm |>.mono (by omega)⟩
          · intro p hp
            rcases List.mem_append.mp hp with hp | hp
            · exact g2.sub p hp
            · rw [List.mem_singleton.mp hp]; exact zn
          · rw [keysOf_app, List.nodup_append]
            refine ⟨g2.nd, by simp [keysOf], fun a ha b hb e => ?_⟩
            rw [show b = z from List.mem_singleton.mp hb] at e
            rw [e] at ha
            exact nk ha
          · intro p hp
            rcases List.mem_append.mp hp with hp | hp
            · exact g2.pos p hp
            · rw [List.mem_singleton.mp hp]
              show (1 : Int) ≤ 1 + v6
              omega
          · rw [sumC_app]
            have := g2.sum
            show sumC cs + sumC [(z, 1 + v6)] ≤ _
            have e : sumC [(z, 1 + v6)] = 1 + v6 := by simp [sumC]
            omega
          · rw [List.length_append]
            simp
            omega
        · exact iteDF hle keep
    · obtain ⟨cs, y5, y6, y7, lf, rfl, g1, g2, g3, g4, g5, g6, g7⟩ := hp
      exact ⟨_, rfl, k H6 f cs g6 (g7.mono (by omega)) hf g1 ⟨g2.sub, g2.nd, g2.pos, by have := g2.sum; omega, g2.few⟩⟩
end
end Sk

set_option maxHeartbeats 4000000
namespace Sk
open PySem PySem.Spec PyProof.Rows L2
theorem mul_zero (z : Str) : Txt.mul z 0 = Str.ofString "" := by
  unfold Txt.mul
  rw [if_pos (by omega)]
  rfl
theorem mul_one (z : Str) : Txt.mul z 1 = z := by
  unfold Txt.mul
  rw [if_neg (by omega), if_pos (by simp)]
section
variable {P : Program} {w : World} {K : PySem.W.Frag} {mg : Str → Option Value} {base : Heap}
def sp_bag_text (K : PySem.W.Frag) : Sp := fun vs H Q _ => ∃ (c : Addr) (cs : List (Str × Int)), vs = [.ref c] ∧ H c = some (.dK (kvS cs)) ∧ GoodC cs ∧ ∀ H', Same H H' → Q (.str (textOf cs)) H'
theorem cal__law_bag_text (Y : Yes K mg) : C8.Cal P w K mg base 1 "_law_bag_text" (sp_bag_text K) [] := by
  obtain ⟨fd, F⟩ := Y.f__law_bag_text
  refine calD F Y.g__law_bag_text sc__law_bag_text (fun _ _ _ _ _ _ us hl => match us, hl with | [_], _ => rfl) (fun vs H Q E h => ?_) (fun cdv A outer s H vs Q E hr h => ?_)
  · obtain ⟨a, ns, rfl, _⟩ := h
    rfl
  · have hu := hu_of hr
    refine ⟨_, (pss_cons (ps_set (i := 1) sc__law_bag_text.nd rfl (.inl rfl) (pe_lst pa_nil))
  (pss_cons (ps_for PassesOwn.never rfl (pi_listK K (pe_callB (call_sortedD rfl) (by rfl) Y.n_sorted (by decide +kernel) (pa_cons (pv 0) pa_nil))) (pg_name (i := 2) sc__law_bag_text.nd rfl (.inl rfl))
  (pss_one (ps_expr (pe_bmK K PySem.F.plainAttrs_list PySem.F.slot_list_append PySem.F.type_list_append mt_append (pv 1) (pa_cons (pe_op op_add_str (pv 2) (pe_op op_mul_str (pe_op op_add_str pe_str (pe_callTy call_str_int (by rfl) Y.n_str (by decide +kernel) (pa_cons (pe_dget hu (pv 0) (pv 2) (fun _ _ => rfl)) pa_nil))) (pe_callTy call_int1 (by rfl) Y.n_int (by decide +kernel) (pa_cons (pe_cmpR op_ne (pe_dget hu (pv 0) (pv 2) (fun _ _ => rfl)) pe_int (nomark _)) pa_nil)))) pa_nil)))))
  (pss_one (ps_ret (pe_joinK K pe_str (pv 1)))))), ?_⟩
    obtain ⟨c, cs, rfl, hc, good, k⟩ := h
    have sz : sizeLine = 16777216 := sizeLine_eq
    refine ⟨Nat.zero_le _, fun f hf => ?_⟩
    have ncf : c ≠ f := ne_of_none hc hf
    refine hp_gn (fun H1 => Same H H1 ∧ H1 f = some (.lst [])) ⟨same_upd hf, upd_same⟩ (fun H1 ⟨s1, f1⟩ => ?_)
    have klen : (keysOf cs).length = cs.length := by unfold keysOf; rw [List.length_map]
    have few := good.few
    refine ⟨_, rfl, c, _, keysOf cs, rfl, .inl (s1 _ _ hc), keys_kvS cs, by rw [klen]; exact few, fun ys q hperm hs hq => ?_⟩
    have ey := srt_of hperm hs
    subst ey
    have slen : (srt (keysOf cs)).length = cs.length := by rw [length_srt, klen]
    have nfq : f ≠ q := ne_of_none f1 hq
    refine ⟨q, rfl, ⟨_, SqL.of upd_same⟩, for_it (walk_list (K := K) (a := q) (xs := (srt (keysOf cs)).map V.str)) (fun i σ Hx => ∃ y2, σ = [some (.ref c), some (.ref f), y2] ∧ Same H Hx ∧ Hx q = some (.lst ((srt (keysOf cs)).map V.str)) ∧ Hx f = some (.lst ((((srt (keysOf cs)).map fun n => wordOf n ((look cs n).getD 0)).take i).map V.str)))
      ⟨none, rfl, s1.trans (same_upd hq), upd_same, by rw [upd_ne nfq]; exact f1⟩ (fun i σ Hx _ ⟨_, _, _, h, _⟩ => SqL.of h) (fun i x σ H2 H3 hi hp hy => ?_) (fun σ H2 hp => ?_)⟩
    · obtain ⟨y2, rfl, s2, q2, f2⟩ := hp
      obtain ⟨e3, hx⟩ := hy
      subst e3
      have hi2 : i < (srt (keysOf cs)).length := by simpa using hi
      rw [List.getElem?_map, List.getElem?_eq_getElem hi2] at hx
      cases hx
      have hm : (srt (keysOf cs))[i] ∈ keysOf cs := mem_srt.mp (List.getElem_mem hi2)
      have et : ((srt (keysOf cs)).map fun n => wordOf n ((look cs n).getD 0)).take (i + 1) = (((srt (keysOf cs)).map fun n => wordOf n ((look cs n).getD 0)).take i) ++ [wordOf (srt (keysOf cs))[i] ((look cs (srt (keysOf cs))[i]).getD 0)] := by
        rw [List.take_succ_eq_append_getElem (by rw [List.length_map]; exact hi2), List.getElem_map]
      rw [et]
      have lt : (((srt (keysOf cs)).map fun n => wordOf n ((look cs n).getD 0)).take i).length < 100 := by
        rw [List.length_take, List.length_map]
        omega
      generalize (((srt (keysOf cs)).map fun n => wordOf n ((look cs n).getD 0)).take i) = done at f2 lt ⊢
      generalize (srt (keysOf cs))[i] = n at hm ⊢
      obtain ⟨⟨n', v⟩, hq1, e⟩ := List.mem_map.mp hm
      cases e
      have lk := look_of good.nd hq1
      have nl : n'.length ≤ 8 := (isName_len (good.nm _ hq1)).2
      have v1 : v ≤ 100000 := good.le _ hq1
      have v0 : 1 ≤ v := good.pos _ hq1
      have c2 := s2 _ _ hc
      have hg : DGet H3 c (.str n') (some (.int v)) := by
        have := dget_kv n' c2
        rw [lk] at this
        exact this
      have lnum := numT_len (c := v) (by omega) (by omega)
      have lst : (Str.ofString "*").length = 1 := by decide +kernel
      show tBM K "list" rAppend (tVar 1) _ _ _ _
      refine ⟨_, rfl, .inl ⟨rfl, _, SqL.of f2⟩, _, rfl, _, rfl, _, rfl, c, .int v, rfl, hg, v, rfl, log_small (by omega) (by omega), _, _, rfl, rfl, by show _ + (numT v).length ≤ _; omega, ?_⟩
      refine ⟨_, rfl, _, rfl, c, .int v, rfl, hg, rfl, .inr ⟨_, rfl, ?_⟩⟩
      have el : (Str.ofString "*" ++ numT v).length ≤ 7 := by rw [append_len]; omega
      have ew : ∃ z, Txt.mul (Str.ofString "*" ++ numT v) (if (!decide (V.int v = V.int 1)) = true then 1 else 0) = z ∧ n' ++ z = wordOf n' v ∧ z.length ≤ 7 := by
        unfold wordOf
        by_cases e : v = 1
        · subst e
          refine ⟨Str.ofString "", mul_zero _, ?_, by decide +kernel⟩
          rw [if_pos rfl]
          exact app_empty n'
        · refine ⟨Str.ofString "*" ++ numT v, ?_, ?_, el⟩
          · rw [decide_eq_false (fun z => e (by injection z))]
            exact mul_one _
          · rw [if_neg e, app_assoc]
      obtain ⟨z, ez, en, lz⟩ := ew
      refine ⟨_, _, rfl, rfl, by split <;> omega, by split <;> omega, by show (Str.ofString "*" ++ numT v).length ≤ _; omega, ?_⟩
      rw [show Txt.mul (Str.ofString "*" ++ Str.ofString (toString v)) (if (!decide (V.int v = V.int 1)) = true then 1 else 0) = z from ez]
      refine ⟨_, _, rfl, rfl, by show n'.length + z.length ≤ _; omega, ?_⟩
      rw [en]
      refine ⟨f, _, _, rfl, rfl, f2, by rw [List.length_map, sz]; omega, ?_⟩
      rw [lk]
      refine ⟨_, rfl, Same.mut s2 hf, by rw [upd_ne nfq.symm]; exact q2, by rw [upd_same, List.map_append]; rfl⟩
    · obtain ⟨y2, rfl, s2, q2, f2⟩ := hp
      rw [List.take_of_length_le (by simp)] at f2
      refine ⟨⟨_, rfl⟩, _, rfl, Str.ofString " ", f, (srt (keysOf cs)).map fun n => wordOf n ((look cs n).getD 0), rfl, rfl, .inl (SqL.of f2), ?_, k _ s2⟩
      refine Nat.le_trans (words_size (by decide +kernel) (by rw [List.length_map]; omega) fun x hx => ?_) (by omega)
      obtain ⟨n, hn, rfl⟩ := List.mem_map.mp hx
      obtain ⟨⟨n', v⟩, hq1, e⟩ := List.mem_map.mp (mem_srt.mp hn)
      cases e
      rw [look_of good.nd hq1]
      have v1 : v ≤ 100000 := good.le _ hq1
      have v0 : 1 ≤ v := good.pos _ hq1
      exact wordOf_len (isName_len (good.nm _ hq1)).2 (by show (0 : Int) ≤ v; omega) (by show v < _; omega)
end
end Sk

set_option maxHeartbeats 4000000
namespace Sk
open PySem PySem.Spec PyProof.Rows L2
theorem ixNn {n j : Nat} (hj : j < n) : ixN n (j : Int) = some j := by
  unfold ixN
  rw [if_pos (by omega), if_pos (by omega)]
  rfl
theorem map_erase {α β : Type} (f : α → β) : ∀ (l : List α) (k : Nat), (l.map f).eraseIdx k = (l.eraseIdx k).map f
  | [], _ => rfl
  | _ :: _, 0 => rfl
  | x :: r, k + 1 => by
    rw [List.map_cons, List.eraseIdx_cons_succ, List.eraseIdx_cons_succ, List.map_cons, map_erase f r k]
section
variable {P : Program} {w : World} {K : PySem.W.Frag} {mg : Str → Option Value} {base : Heap}
def sp_words (K : PySem.W.Frag) : Sp := fun vs H Q _ => ∃ (d c : Addr) (cs : List (Str × Int)) (n : Nat), vs = [.ref d, .ref c] ∧ Dr H d n ∧ n ≤ 700000000 ∧ c ≠ d ∧ H c = some (.dK (kvS cs)) ∧ GoodC cs ∧ cs.length ≤ 26 ∧ sumC cs ≤ 500 ∧
  ∀ H' q ws ps, But d H H' → Dr H' d (n + 200) → H q = none → H' q = some (.lst (ws.map V.str)) → WordsFor cs ws ps → Q (.ref q) H'
theorem cal__law_words (Y : Yes K mg) : C8.Cal P w K mg base 2 "_law_words" (sp_words K) [] := by
  obtain ⟨fd, F⟩ := Y.f__law_words
  refine calD F Y.g__law_words sc__law_words (fun _ _ _ _ _ _ us hl => match us, hl with | [_, _], _ => rfl) (fun vs H Q E h => ?_) (fun cdv A outer s H vs Q E hr h => ?_)
  · obtain ⟨a, ns, i, _, rfl, _⟩ := h
    rfl
  · have hu := hu_of hr
    refine ⟨_, (pss_cons (ps_set (i := 2) sc__law_words.nd rfl (.inl rfl) (pe_lst pa_nil))
  (pss_cons (ps_for PassesOwn.never rfl (pi_listK K (pe_callB (call_sortedD rfl) (by rfl) Y.n_sorted (by decide +kernel) (pa_cons (pv 1) pa_nil))) (pg_name (i := 3) sc__law_words.nd rfl (.inl rfl))
  (pss_cons (ps_set (i := 4) sc__law_words.nd rfl (.inl rfl) (pe_dget hu (pv 1) (pv 3) (fun _ _ => rfl)))
  (pss_cons (ps_if (PW.pt (pw_and (pt_cmpR op_gt (pv 4) pe_int (nomark _)) (pw_and1 (pt_cmpR op_eq (C8.pe_c (cal__law_draw Y) hr (by decide) rfl (pa_cons (pv 0) (pa_cons pe_int pa_nil))) pe_int (nomark _))))) (pss_cons (ps_set (i := 5) sc__law_words.nd rfl (.inl rfl) (pe_op op_add pe_int (C8.pe_c (cal__law_draw Y) hr (by decide) rfl (pa_cons (pv 0) (pa_cons (pe_op op_sub (pv 4) pe_int) pa_nil)))))
  (pss_cons (ps_expr (pe_bmK K PySem.F.plainAttrs_list PySem.F.slot_list_append PySem.F.type_list_append mt_append (pv 2) (pa_cons (pe_tup (pa_cons (pv 3) (pa_cons (pv 5) pa_nil))) pa_nil)))
  (pss_one (ps_set (i := 4) sc__law_words.nd rfl (.inl rfl) (pe_op op_sub (pv 4) (pv 5)))))) pss_nil)
  (pss_one (ps_expr (pe_bmK K PySem.F.plainAttrs_list PySem.F.slot_list_append PySem.F.type_list_append mt_append (pv 2) (pa_cons (pe_tup (pa_cons (pv 3) (pa_cons (pv 4) pa_nil))) pa_nil)))))))
  (pss_cons (ps_set (i := 6) sc__law_words.nd rfl (.inl rfl) (pe_lst pa_nil))
  (pss_cons (ps_while PassesOwn.never (pt_cmpR (op_neDK K hr.units) (pv 2) (pe_lst pa_nil) (nomark _))
  (pss_cons (ps_asg (pe_bmK K PySem.F.plainAttrs_list PySem.F.slot_list_pop PySem.F.type_list_pop mt_popAt (pv 2) (pa_cons (C8.pe_c (cal__law_draw Y) hr (by decide) rfl (pa_cons (pv 0) (pa_cons (pe_callB (call_lenK K) (by rfl) Y.n_len (by decide +kernel) (pa_cons (pv 2) pa_nil)) pa_nil))) pa_nil)) (pg_tup rfl (pgs_cons (pg_name (i := 3) sc__law_words.nd rfl (.inl rfl)) (pgs_cons (pg_name (i := 4) sc__law_words.nd rfl (.inl rfl)) pgs_nil))))
  (pss_one (ps_expr (pe_bmK K PySem.F.plainAttrs_list PySem.F.slot_list_append PySem.F.type_list_append mt_append (pv 6) (pa_cons (pe_ifExp (PW.pt (pw_and (pt_cmpR op_eq (pv 4) pe_int (nomark _)) (pw_and1 (pt_cmpR op_eq (C8.pe_c (cal__law_draw Y) hr (by decide) rfl (pa_cons (pv 0) (pa_cons pe_int pa_nil))) pe_int (nomark _))))) (pv 3) (pe_op op_add_str (pe_op op_add_str (pv 3) pe_str) (pe_callTy call_str_int (by rfl) Y.n_str (by decide +kernel) (pa_cons (pv 4) pa_nil)))) pa_nil))))))
  (pss_one (ps_ret (pv 6))))))), ?_⟩
    obtain ⟨d, c, cs, n, rfl, hdr, hn, ncd, hc, good, few, le, k⟩ := h
    have sz : sizeLine = 16777216 := sizeLine_eq
    refine ⟨Nat.zero_le _, fun l hl => ?_⟩
    have ncl : c ≠ l := ne_of_none hc hl
    have nld : l ≠ d := hdr.ne hl
    refine hp_gn (fun H1 => But d H H1 ∧ Dr H1 d n ∧ H1 l = some (.lst [])) ⟨But.of (same_upd hl), hdr.same (same_upd hl), upd_same⟩ (fun H1 ⟨b1, dr1, l1⟩ => ?_)
    have klen : (keysOf cs).length = cs.length := by unfold keysOf; rw [List.length_map]
    refine ⟨_, rfl, c, _, keysOf cs, rfl, .inl (b1.at ncd hc), keys_kvS cs, by rw [klen]; omega, fun ys q hperm hs hq => ?_⟩
    have ey := srt_of hperm hs
    subst ey
    have slen : (srt (keysOf cs)).length = cs.length := by rw [length_srt, klen]
    have nlq : l ≠ q := ne_of_none l1 hq
    have nqd : q ≠ d := dr1.ne hq
    have Hq : H q = Option.none := b1.free nqd hq
    have plen : (pairsOf cs).length = cs.length := by unfold pairsOf; rw [List.length_map, slen]
    refine ⟨q, rfl, ⟨_, SqL.of upd_same⟩, for_it (walk_list (K := K) (a := q) (xs := (srt (keysOf cs)).map V.str)) (fun i σ Hx => ∃ y3 y4 y5 y6 ts ps, σ = [some (.ref d), some (.ref c), some (.ref l), y3, y4, y5, y6] ∧ But d H Hx ∧ Dr Hx d (n + 2 * i) ∧ Hx q = some (.lst ((srt (keysOf cs)).map V.str)) ∧ Hx l = some (.lst (ts.map V.ref)) ∧ TupsAt Hx ts ps ∧
        (∀ p ∈ ps, isName p.1 = true ∧ 1 ≤ p.2 ∧ p.2 ≤ 500) ∧ ps.length ≤ 2 * i ∧ (∀ m, tot ps m = tot ((pairsOf cs).take i) m) ∧ sumC ps = sumC ((pairsOf cs).take i))
      ⟨none, none, none, none, [], [], rfl, b1.trans (But.of (same_upd hq)), dr1.same (same_upd hq), upd_same, by rw [upd_ne nlq]; exact l1, TupsAt.nil, (fun _ h => nomatch h), Nat.le_refl _, fun _ => rfl, rfl⟩ (fun i σ Hx _ ⟨_, _, _, _, _, _, _, _, _, h, _⟩ => SqL.of h) (fun i x σ H2 H3 hi hp hy => ?_) (fun σ H2 hp => ?_)⟩
    · obtain ⟨y3, y4, y5, y6, ts, ps, rfl, b2, dr2, q2, l2, t2, nm, pl, pt, psum⟩ := hp
      obtain ⟨e3, hx⟩ := hy
      subst e3
      have hi2 : i < (srt (keysOf cs)).length := by simpa using hi
      rw [List.getElem?_map, List.getElem?_eq_getElem hi2] at hx
      cases hx
      have hm : (srt (keysOf cs))[i] ∈ keysOf cs := mem_srt.mp (List.getElem_mem hi2)
      have et : (pairsOf cs).take (i + 1) = (pairsOf cs).take i ++ [((srt (keysOf cs))[i], (look cs (srt (keysOf cs))[i]).getD 0)] := by
        rw [List.take_succ_eq_append_getElem (by rw [plen]; omega)]
        unfold pairsOf
        rw [List.getElem_map]
      generalize (srt (keysOf cs))[i] = nn at hm et ⊢
      obtain ⟨⟨n', v⟩, hq1, e⟩ := List.mem_map.mp hm
      cases e
      have lk := look_of good.nd hq1
      have isn : isName n' = true := good.nm _ hq1
      have v1 : v ≤ 500 := Int.le_trans (sumC_le good.pos _ hq1) le
      have v0 : 1 ≤ v := good.pos _ hq1
      rw [lk] at et
      have et : (pairsOf cs).take (i + 1) = (pairsOf cs).take i ++ [(n', v)] := et
      have c2 := b2.at ncd hc
      have hg : DGet H3 c (.str n') (some (.int v)) := by
        have := dget_kv n' c2
        rw [lk] at this
        exact this
      have tlen : ts.length ≤ 52 := by rw [t2.1]; omega
      have last : ∀ (Hx : Hp) (ts' : List Addr) (ps' : List (Str × Int)) (y5' : Option V) (v' : Int), But d H Hx → Dr Hx d (n + 2 * (i + 1)) → Hx q = some (.lst ((srt (keysOf cs)).map V.str)) → Hx l = some (.lst (ts'.map V.ref)) → TupsAt Hx ts' ps' →
          (∀ p ∈ ps', isName p.1 = true ∧ 1 ≤ p.2 ∧ p.2 ≤ 500) → ps'.length ≤ 2 * i + 1 → (∀ m, tot ps' m + (if n' = m then v' else 0) = tot ((pairsOf cs).take (i + 1)) m) → sumC ps' + v' = sumC ((pairsOf cs).take (i + 1)) → 1 ≤ v' → v' ≤ 500 →
          ∀ t, Hx t = Option.none → ∃ z3 z4 z5 z6 ts ps, [some (V.ref d), some (V.ref c), some (V.ref l), some (V.str n'), some (V.int v'), y5', y6] = [some (V.ref d), some (V.ref c), some (V.ref l), z3, z4, z5, z6] ∧ But d H (upd (upd Hx t (.tup [.str n', .int v'])) l (.lst (ts'.map V.ref ++ [.ref t]))) ∧ Dr (upd (upd Hx t (.tup [.str n', .int v'])) l (.lst (ts'.map V.ref ++ [.ref t]))) d (n + 2 * (i + 1)) ∧ (upd (upd Hx t (.tup [.str n', .int v'])) l (.lst (ts'.map V.ref ++ [.ref t]))) q = some (.lst ((srt (keysOf cs)).map V.str)) ∧ (upd (upd Hx t (.tup [.str n', .int v'])) l (.lst (ts'.map V.ref ++ [.ref t]))) l = some (.lst (ts.map V.ref)) ∧ TupsAt (upd (upd Hx t (.tup [.str n', .int v'])) l (.lst (ts'.map V.ref ++ [.ref t]))) ts ps ∧
            (∀ p ∈ ps, isName p.1 = true ∧ 1 ≤ p.2 ∧ p.2 ≤ 500) ∧ ps.length ≤ 2 * (i + 1) ∧ (∀ m, tot ps m = tot ((pairsOf cs).take (i + 1)) m) ∧ sumC ps = sumC ((pairsOf cs).take (i + 1)) := by
        intro Hx ts' ps' y5' v' bx drx qx lx tx nmx plx ptx psx v0x v1x t ht
        have nlt : l ≠ t := ne_of_none lx ht
        have nqt : q ≠ t := ne_of_none qx ht
        refine ⟨_, _, _, y6, ts' ++ [t], ps' ++ [(n', v')], rfl, (bx.mut (bx.free (drx.ne ht) ht)).mut hl, (drx.mut (drx.ne ht).symm).mut nld.symm, ?_, ?_, ?_, ?_, ?_, fun m => ?_, ?_⟩
        · rw [upd_ne nlq.symm, upd_ne nqt]
          exact qx
        · rw [upd_same, List.map_append]
          rfl
        · refine TupsAt.snoc ((tx.same (same_upd ht)).setL (xs := ts'.map V.ref) (by rw [upd_ne nlt]; exact lx)) ?_
          rw [upd_ne nlt.symm, upd_same]
        · intro p hp
          rcases List.mem_append.mp hp with hp | hp
          · exact nmx p hp
          · rw [List.mem_singleton.mp hp]
            exact ⟨isn, v0x, v1x⟩
        · rw [List.length_append]
          simp
          omega
        · rw [tot_app, tot_cons, tot_nil, ← ptx m]
          simp
        · rw [sumC_app, sumC_cons, ← psx]
          simp [sumC]
      refine ⟨_, rfl, _, rfl, c, .int v, rfl, hg, ?_⟩
      refine ⟨_, rfl, _, _, rfl, rfl, _, rfl, ?_⟩
      by_cases h1 : 1 < v
      · refine iteDT h1 ⟨_, rfl, d, 3, _, rfl, dr2, by omega, by omega, by omega, fun H4 w4 b4 dr4 z0 z1 => ?_⟩
        have b4' := b2.trans b4
        have q4 := b4.at nqd q2
        have l4 := b4.at nld l2
        have t4 : TupsAt H4 ts ps := by
          obtain ⟨_, _, _, e, _⟩ := dr2
          exact t2.but e b4
        refine ⟨rfl, _, rfl, ?_⟩
        by_cases h2 : V.int w4 = V.int 0
        · refine iteDT h2 ⟨_, rfl, _, rfl, _, _, rfl, rfl, d, _, _, rfl, dr4, by omega, by omega, by omega, fun H5 w5 b5 dr5 u0 u1 => ?_⟩
          have b5' := b4'.trans b5
          have q5 := b5.at nqd q4
          have l5 := b5.at nld l4
          have t5 : TupsAt H5 ts ps := by
            obtain ⟨_, _, _, e, _⟩ := dr4
            exact t4.but e b5
          refine ⟨_, _, rfl, rfl, ?_⟩
          refine ⟨_, rfl, .inl ⟨rfl, _, SqL.of l5⟩, _, rfl, _, rfl, by rw [sz]; show (2 : Nat) ≤ _; omega, fun t ht => ?_⟩
          have nlt : l ≠ t := ne_of_none l5 ht
          have nqt : q ≠ t := ne_of_none q5 ht
          refine ⟨l, _, _, rfl, rfl, by rw [upd_ne nlt]; exact l5, by rw [sz, List.length_map]; omega, ?_⟩
          refine ⟨_, rfl, _, rfl, _, _, rfl, rfl, ?_⟩
          refine ⟨_, rfl, .inl ⟨rfl, _, SqL.of upd_same⟩, _, rfl, _, rfl, by rw [sz]; show (2 : Nat) ≤ _; omega, fun t2 ht2 => ?_⟩
          refine ⟨l, _, _, rfl, rfl, by rw [upd_ne (ne_of_none upd_same ht2)]; exact upd_same, by rw [sz, List.length_append, List.length_map]; simp; omega, ?_⟩
          have key := last (upd (upd H5 t (.tup [.str n', .int (1 + w5)])) l (.lst (ts.map V.ref ++ [.ref t]))) (ts ++ [t]) (ps ++ [(n', 1 + w5)]) (some (.int (1 + w5))) (v - (1 + w5)) ((b5'.mut (b5'.free (dr5.ne ht) ht)).mut hl) (((dr5.mut (dr5.ne ht).symm).mut nld.symm).mono (by omega))
            (by rw [upd_ne nlq.symm, upd_ne nqt]; exact q5) (by rw [upd_same, List.map_append]; rfl)
            (TupsAt.snoc ((t5.same (same_upd ht)).setL (xs := ts.map V.ref) (by rw [upd_ne nlt]; exact l5)) (by rw [upd_ne nlt.symm, upd_same]))
            (fun p hp => by
              rcases List.mem_append.mp hp with hp | hp
              · exact nm p hp
              · rw [List.mem_singleton.mp hp]
                exact ⟨isn, by show 1 ≤ 1 + w5; omega, by show 1 + w5 ≤ 500; omega⟩)
            (by rw [List.length_append]; simp; omega)
            (fun m => by
              rw [et, tot_app, tot_app, pt m, tot_cons, tot_cons, tot_nil]
              by_cases e : n' = m
              · simp [e]; omega
              · simp [e])
            (by rw [et, sumC_app, sumC_app, psum, sumC_cons, sumC_cons]; simp [sumC]; omega) (by omega) (by omega) t2 ht2
          rw [List.map_append] at key
          exact key
        · refine iteDF h2 ?_
          refine ⟨_, rfl, .inl ⟨rfl, _, SqL.of l4⟩, _, rfl, _, rfl, by rw [sz]; show (2 : Nat) ≤ _; omega, fun t ht => ?_⟩
          refine ⟨l, _, _, rfl, rfl, by rw [upd_ne (ne_of_none l4 ht)]; exact l4, by rw [sz, List.length_map]; omega, ?_⟩
          exact last H4 ts ps y5 v b4' (dr4.mono (by omega)) q4 l4 t4 nm (by omega) (fun m => by rw [et, tot_app, pt m, tot_cons, tot_nil]; simp) (by rw [et, sumC_app, psum]; simp [sumC]) v0 v1 t ht
      · refine iteDF h1 ?_
        show (if (false : Bool) = true then _ else _)
        refine iteF ?_
        refine ⟨_, rfl, .inl ⟨rfl, _, SqL.of l2⟩, _, rfl, _, rfl, by rw [sz]; show (2 : Nat) ≤ _; omega, fun t ht => ?_⟩
        refine ⟨l, _, _, rfl, rfl, by rw [upd_ne (ne_of_none l2 ht)]; exact l2, by rw [sz, List.length_map]; omega, ?_⟩
        exact last H3 ts ps y5 v b2 (dr2.mono (by omega)) q2 l2 t2 nm (by omega) (fun m => by rw [et, tot_app, pt m, tot_cons, tot_nil]; simp) (by rw [et, sumC_app, psum]; simp [sumC]) v0 v1 t ht
    · obtain ⟨y3, y4, y5, y6, ts, ps, rfl, b2, dr2, q2, l2, t2, nm, pl, pt, psum⟩ := hp
      have fin : (pairsOf cs).take ((srt (keysOf cs)).map V.str).length = pairsOf cs := List.take_of_length_le (by rw [List.length_map, plen, slen]; exact Nat.le_refl _)
      rw [fin] at pt psum
      have pp := pairs_perm good.nd
      have pt' : ∀ m, tot ps m = (look cs m).getD 0 := fun m => by rw [pt m, perm_tot pp, tot_look good.nd]
      rw [perm_sumC pp] at psum
      have pl' : ps.length ≤ 52 := by rw [List.length_map, slen] at pl; have := few; omega
      refine ⟨Nat.zero_le _, fun g hg => ?_⟩
      have ngd : g ≠ d := dr2.ne hg
      have nlg : l ≠ g := ne_of_none l2 hg
      have Hg : H g = Option.none := b2.free ngd hg
      rw [List.length_map, slen] at dr2
      refine ⟨fun mm σ Hx => ∃ y3 y4 y5 ts ps ws qs, σ = [some (.ref d), some (.ref c), some (.ref l), y3, y4, y5, some (.ref g)] ∧ But d H Hx ∧ Dr Hx d (n + 52 + 2 * qs.length) ∧ Hx l = some (.lst (ts.map V.ref)) ∧ TupsAt Hx ts ps ∧ (∀ p ∈ ps, isName p.1 = true ∧ 1 ≤ p.2 ∧ p.2 ≤ 500) ∧
          Hx g = some (.lst (ws.map V.str)) ∧ WordsAre ws qs ∧ (∀ p ∈ qs, 1 ≤ p.2) ∧ (∀ m, tot qs m + tot ps m = (look cs m).getD 0) ∧ sumC qs + sumC ps = sumC cs ∧ ps.length = mm ∧ qs.length + ps.length ≤ 52,
        ⟨_, y3, y4, y5, ts, ps, [], [], rfl, b2.trans (But.of (same_upd hg)), (dr2.same (same_upd hg)).mono (by have := few; simp; omega), by rw [upd_ne nlg]; exact l2, t2.same (same_upd hg), nm, upd_same, WordsAre.nil, (fun _ h => nomatch h), fun m => by rw [tot_nil, pt' m]; omega, by rw [psum]; simp [sumC], rfl, by simpa using pl'⟩, fun mm σ Hx hp => ?_⟩
      obtain ⟨y3, y4, y5, ts, ps, ws, qs, rfl, b3, dr3, l3, t3, nm, g3, wa, qpos, qt, qsum, hlen, hcap⟩ := hp
      refine ⟨_, rfl, Nat.zero_le _, fun e1 he1 => ?_⟩
      have nle : l ≠ e1 := ne_of_none l3 he1
      have nge : g ≠ e1 := ne_of_none g3 he1
      have l4 : (upd Hx e1 (.lst [])) l = some (.lst (ts.map V.ref)) := by rw [upd_ne nle]; exact l3
      have t4 : TupsAt (upd Hx e1 (.lst [])) ts ps := t3.same (same_upd he1)
      refine ⟨.list (ps.map dPair), .list [], .lst (SqL.of l4) t4.dp, .lst (SqL.of upd_same) .nil, shaped_pairs fun p hp => (nm p hp).1, shaped_nil, _, rfl, ?_⟩
      rw [eqv_nil]
      have b4 : But d H (upd Hx e1 (.lst [])) := b3.trans (But.of (same_upd he1))
      have dr4 : Dr (upd Hx e1 (.lst [])) d (n + 52 + 2 * qs.length) := dr3.same (same_upd he1)
      have g4 : (upd Hx e1 (.lst [])) g = some (.lst (ws.map V.str)) := by rw [upd_ne nge]; exact g3
      generalize (upd Hx e1 (.lst [])) = Hy at l4 t4 b4 dr4 g4 ⊢
      by_cases hps : ps = []
      · refine iteE false (by rw [hps]; rfl) (iteF ⟨_, rfl, ?_⟩)
        subst hps
        have wl : ws.length = qs.length := wa.len
        refine k Hy g ws qs b4 (dr4.mono (by omega)) Hg g4 ⟨wa, qpos, fun m => by rw [← qt m, tot_nil]; omega, by rw [← qsum]; simp [sumC], ?_⟩
        simp at hcap
        omega
      · have hpos : 0 < ps.length := List.length_pos_iff.mpr hps
        refine iteE true (by cases hq : ps with | nil => exact absurd hq hps | cons a b => rfl) ?_
        refine iteT ⟨fun σ' H' => ∃ y3 y4 y5 ts ps' ws qs, σ' = [some (.ref d), some (.ref c), some (.ref l), y3, y4, y5, some (.ref g)] ∧ But d H H' ∧ Dr H' d (n + 52 + 2 * qs.length) ∧ H' l = some (.lst (ts.map V.ref)) ∧ TupsAt H' ts ps' ∧ (∀ p ∈ ps', isName p.1 = true ∧ 1 ≤ p.2 ∧ p.2 ≤ 500) ∧
          H' g = some (.lst (ws.map V.str)) ∧ WordsAre ws qs ∧ (∀ p ∈ qs, 1 ≤ p.2) ∧ (∀ m, tot qs m + tot ps' m = (look cs m).getD 0) ∧ sumC qs + sumC ps' = sumC cs ∧ ps'.length < mm ∧ qs.length + ps'.length ≤ 52, fun σ' H' h => ?_, ?_⟩
        · obtain ⟨y3, y4, y5, ts, ps', ws, qs, h1, h2, h3, h4, h5, h6, h7, h8, h9, h10, h11, h12, h13⟩ := h
          exact ⟨ps'.length, h12, y3, y4, y5, ts, ps', ws, qs, h1, h2, h3, h4, h5, h6, h7, h8, h9, h10, h11, rfl, h13⟩
        have tl' : ts.length = ps.length := t4.1
        refine ⟨_, rfl, .inl ⟨rfl, _, SqL.of l4⟩, _, rfl, _, rfl, l, _, rfl, .inl (SqL.of l4), d, _, _, rfl, dr4, by omega, by rw [List.length_map]; omega, by rw [List.length_map]; omega, fun H5 v b5 dr5 v0 v1 => ?_⟩
        obtain ⟨kk, rfl⟩ := Int.eq_ofNat_of_zero_le v0
        rw [List.length_map] at v1
        have hk : kk < ts.length := by omega
        have hk2 : kk < ps.length := by omega
        have l5 := b5.at nld l4
        have g5 := b5.at ngd g4
        have t5 : TupsAt H5 ts ps := by
          obtain ⟨_, _, _, e, _⟩ := dr4
          exact t4.but e b5
        have b5' := b4.trans b5
        have tk : H5 ts[kk] = some (.tup [.str ps[kk].1, .int ps[kk].2]) := t5.2 kk _ _ (List.getElem?_eq_getElem hk) (List.getElem?_eq_getElem hk2)
        have sx : seqIndex? (kk : Int) (ts.map V.ref).length = some kk := by
          rw [List.length_map]
          exact (ixN_seq (ixNn hk)).1
        refine ⟨l, _, _, kk, _, rfl, rfl, l5, by omega, by omega, sx, by rw [List.getElem?_map, List.getElem?_eq_getElem hk]; rfl, ?_⟩
        obtain ⟨isn, c1, c2⟩ := nm _ (List.getElem_mem hk2)
        have te := fun m => tot_erase ps kk ps[kk] m (List.getElem?_eq_getElem hk2)
        have se := sumC_erase ps kk ps[kk] (List.getElem?_eq_getElem hk2)
        have le' : (ps.eraseIdx kk).length + 1 = ps.length := by rw [List.length_eraseIdx, if_pos hk2]; omega
        have ntl : ts[kk] ≠ l := ne_of tk l5 (by intro z; cases z)
        have nme : ∀ p ∈ ps.eraseIdx kk, isName p.1 = true ∧ 1 ≤ p.2 ∧ p.2 ≤ 500 := fun p hp => nm p (List.mem_of_mem_eraseIdx hp)
        have b6 : But d H (upd H5 l (.lst ((ts.map V.ref).eraseIdx kk))) := b5'.mut hl
        have dr6 : Dr (upd H5 l (.lst ((ts.map V.ref).eraseIdx kk))) d (n + 52 + 2 * qs.length + 1) := dr5.mut nld.symm
        have l6 : (upd H5 l (.lst ((ts.map V.ref).eraseIdx kk))) l = some (.lst ((ts.eraseIdx kk).map V.ref)) := by rw [upd_same, map_erase]
        have t6 : TupsAt (upd H5 l (.lst ((ts.map V.ref).eraseIdx kk))) (ts.eraseIdx kk) (ps.eraseIdx kk) := (t5.setL l5).erase kk
        have g6 : (upd H5 l (.lst ((ts.map V.ref).eraseIdx kk))) g = some (.lst (ws.map V.str)) := by rw [upd_ne nlg.symm]; exact g5
        have k6 : (upd H5 l (.lst ((ts.map V.ref).eraseIdx kk))) ts[kk] = some (.tup [.str ps[kk].1, .int ps[kk].2]) := by rw [upd_ne ntl]; exact tk
        refine ⟨ts[kk], _, rfl, SqT.of k6, rfl, _, _, rfl, _, _, rfl, rfl, ?_⟩
        have wl : ws.length = qs.length := wa.len
        have done : ∀ (w : Str) (H7 : Hp), WordIs w ps[kk] → But d H H7 → Dr H7 d (n + 52 + 2 * (qs.length + 1)) → H7 l = some (.lst ((ts.eraseIdx kk).map V.ref)) → TupsAt H7 (ts.eraseIdx kk) (ps.eraseIdx kk) → H7 g = some (.lst (ws.map V.str)) →
            ∃ z3 z4 z5 ts ps' ws' qs, [some (V.ref d), some (V.ref c), some (V.ref l), some (V.str ps[kk].1), some (V.int ps[kk].2), y5, some (V.ref g)] = [some (.ref d), some (.ref c), some (.ref l), z3, z4, z5, some (.ref g)] ∧ But d H (upd H7 g (.lst (ws.map V.str ++ [.str w]))) ∧ Dr (upd H7 g (.lst (ws.map V.str ++ [.str w]))) d (n + 52 + 2 * qs.length) ∧ (upd H7 g (.lst (ws.map V.str ++ [.str w]))) l = some (.lst (ts.map V.ref)) ∧ TupsAt (upd H7 g (.lst (ws.map V.str ++ [.str w]))) ts ps' ∧ (∀ p ∈ ps', isName p.1 = true ∧ 1 ≤ p.2 ∧ p.2 ≤ 500) ∧
            (upd H7 g (.lst (ws.map V.str ++ [.str w]))) g = some (.lst (ws'.map V.str)) ∧ WordsAre ws' qs ∧ (∀ p ∈ qs, 1 ≤ p.2) ∧ (∀ m, tot qs m + tot ps' m = (look cs m).getD 0) ∧ sumC qs + sumC ps' = sumC cs ∧ ps'.length < mm ∧ qs.length + ps'.length ≤ 52 := by
          intro w H7 hw b7 dr7 l7 t7 g7
          refine ⟨_, _, _, ts.eraseIdx kk, ps.eraseIdx kk, ws ++ [w], qs ++ [ps[kk]], rfl, b7.mut Hg, (dr7.mut ngd.symm).mono (by rw [List.length_append]; simp), by rw [upd_ne nlg]; exact l7, t7.setL g7, nme, by rw [upd_same, List.map_append]; rfl, wa.snoc hw, fun p hp => ?_, fun m => ?_, ?_, by omega, by rw [List.length_append]; simp; omega⟩
          · rcases List.mem_append.mp hp with hp | hp
            · exact qpos p hp
            · rw [List.mem_singleton.mp hp]; exact c1
          · rw [tot_app, tot_cons, tot_nil]
            have := qt m
            have := te m
            omega
          · rw [sumC_app]
            have e : sumC [ps[kk]] = ps[kk].2 := by simp [sumC]
            omega
        generalize (upd H5 l (.lst ((ts.map V.ref).eraseIdx kk))) = H6 at b6 dr6 l6 t6 g6 k6 ⊢
        refine ⟨_, rfl, .inl ⟨rfl, _, SqL.of g6⟩, _, rfl, rfl, _, rfl, ?_⟩
        have nl : ps[kk].1.length ≤ 8 := (isName_len isn).2
        have lst : (Str.ofString "*").length = 1 := by decide +kernel
        have ln := numT_len (c := ps[kk].2) (by omega) (by omega)
        by_cases h1 : V.int ps[kk].2 = V.int 1
        · refine iteDT h1 ⟨_, rfl, d, 2, _, rfl, dr6, by omega, by omega, by omega, fun H7 v7 b7 dr7 s0 s1 => ⟨rfl, _, rfl, ?_⟩⟩
          have b7' := b6.trans b7
          have l7 := b7.at nld l6
          have g7 := b7.at ngd g6
          have t7 : TupsAt H7 (ts.eraseIdx kk) (ps.eraseIdx kk) := by
            obtain ⟨_, _, _, e, _⟩ := dr6
            exact t6.but e b7
          have dr7 : Dr H7 d (n + 52 + 2 * (qs.length + 1)) := dr7.mono (by omega)
          by_cases h2 : V.int v7 = V.int 0
          · refine iteDT h2 ⟨_, rfl, g, _, _, rfl, rfl, g7, by rw [sz, List.length_map]; omega, ?_⟩
            refine done ps[kk].1 H7 ?_ b7' dr7 l7 t7 g7
            have e : ps[kk].2 = 1 := by injection h1
            have := word_name isn
            rw [← e] at this
            exact this
          · refine iteDF h2 ⟨_, rfl, _, _, rfl, rfl, by omega, _, rfl, _, rfl, log_small (by omega) (by omega), _, _, rfl, rfl, ?_, g, _, _, rfl, rfl, g7, by rw [sz, List.length_map]; omega, ?_⟩
            · rw [append_len]
              show _ + (numT ps[kk].2).length ≤ _
              omega
            · exact done (ps[kk].1 ++ Str.ofString "*" ++ numT ps[kk].2) H7 (word_two isn c1 (by omega)) b7' dr7 l7 t7 g7
        · refine iteDF h1 ?_
          show (if (false : Bool) = true then _ else _)
          refine iteF ?_
          refine ⟨_, rfl, _, _, rfl, rfl, by omega, _, rfl, _, rfl, log_small (by omega) (by omega), _, _, rfl, rfl, ?_, g, _, _, rfl, rfl, g6, by rw [sz, List.length_map]; omega, ?_⟩
          · rw [append_len]
            show _ + (numT ps[kk].2).length ≤ _
            omega
          · exact done (ps[kk].1 ++ Str.ofString "*" ++ numT ps[kk].2) H6 (word_two isn c1 (by omega)) b6 (dr6.mono (by omega)) l6 t6 g6
end
end Sk

set_option maxHeartbeats 4000000
namespace Sk
open PySem PySem.Spec PyProof.Rows L2
section
variable {P : Program} {w : World} {K : PySem.W.Frag} {mg : Str → Option Value} {base : Heap}
def sp_otherwise (K : PySem.W.Frag) : Sp := fun vs H Q _ => ∃ (d c nl : Addr) (cs : List (Str × Int)) (ns : List Str) (n : Nat) (m : Int), vs = [.ref d, .ref c, .ref nl] ∧ Dr H d n ∧ n ≤ 600000000 ∧ c ≠ d ∧ nl ≠ d ∧ H c = some (.dK (kvS cs)) ∧ H nl = some (.lst (ns.map V.str)) ∧ GoodN ns ∧ 1 ≤ ns.length ∧ ns.length ≤ 7 ∧ GoodD ns m cs ∧ m ≤ 399 ∧
  ∀ H' q ds, But d H H' → Dr H' d (n + 10) → H q = none → H' q = some (.dK (kvS ds)) → GoodC ds → ds.length ≤ 26 → sumC ds ≤ 400 → sameC cs ds = false → sameC ds cs = false → Q (.ref q) H'
theorem cal__law_otherwise (Y : Yes K mg) : C8.Cal P w K mg base 2 "_law_otherwise" (sp_otherwise K) [] := by
  obtain ⟨fd, F⟩ := Y.f__law_otherwise
  refine calD F Y.g__law_otherwise sc__law_otherwise (fun _ _ _ _ _ _ us hl => match us, hl with | [_, _, _], _ => rfl) (fun vs H Q E h => ?_) (fun cdv A outer s H vs Q E hr h => ?_)
  · obtain ⟨a, ns, i, _, _, _, _, rfl, _⟩ := h
    rfl
  · have hu := hu_of hr
    refine ⟨_, (pss_cons (ps_set (i := 3) sc__law_otherwise.nd rfl (.inl rfl) (pe_callTy call_dictD (by rfl) Y.n_dict (by decide +kernel) (pa_cons (pv 1) pa_nil)))
  (pss_cons (ps_set (i := 4) sc__law_otherwise.nd rfl (.inl rfl) (pe_ix (ix_listK K) (pv 2) (C8.pe_c (cal__law_draw Y) hr (by decide) rfl (pa_cons (pv 0) (pa_cons (pe_callB (call_lenK K) (by rfl) Y.n_len (by decide +kernel) (pa_cons (pv 2) pa_nil)) pa_nil))) (fun _ _ => rfl)))
  (pss_cons (ps_set (i := 5) sc__law_otherwise.nd rfl (.inl rfl) (C8.pe_c (cal__law_draw Y) hr (by decide) rfl (pa_cons (pv 0) (pa_cons pe_int pa_nil))))
  (pss_cons (ps_if (PW.pt (pw_or (pt_cmpR op_eq (pv 5) pe_int (nomark _)) (pw_or1 (pt_cmp (pc_dnotin hu (pv 4) (pv 3)))))) (pss_one (ps_dput hu (pv 3) (pv 4) (pe_op op_add (pe_dget2 hu (pv 3) (pv 4) pe_int ⟨rfl, rfl, rfl, rfl⟩) pe_int) rfl)) (pss_one (ps_if (pt_cmpR op_eq (pv 5) pe_int (nomark _)) (pss_one (ps_expr (pe_dpop1 (pv 3) (pv 4) ⟨rfl, rfl, rfl, rfl⟩))) (pss_one (ps_dput hu (pv 3) (pe_ix (ix_listK K) (pe_lc (own := [("_law_word", 6)]) (g := gName 6)  rfl sc__law_otherwise.nd (pi_listK K (pe_lc (own := [("_law_sign", 7)]) (g := gName 7) (tt := tYes) rfl sc__law_otherwise.nd (pi_str pe_str) (blkOk_by (N := ["_law_draws_here", "_law_counts_here", "_law_names_here", "_law_found", "_law_name", "_law_way", "_law_word", "_law_sign"]) (own := [("_law_sign", 7)]) (sc := (defScope s__law_otherwise)) (by decide +kernel)) (fun _ _ _ _ _ => (pg_name (i := 7) sc__law_otherwise.nd rfl (.inl rfl))) (fun _ _ _ _ _ => pts_nil) (fun _ _ _ _ _ => (pe_op op_add_str pe_str (pv 7))))) (blkOk_by (N := ["_law_draws_here", "_law_counts_here", "_law_names_here", "_law_found", "_law_name", "_law_way", "_law_word", "_law_sign"]) (own := [("_law_word", 6)]) (sc := (defScope s__law_otherwise)) (by decide +kernel)) (fun _ _ _ _ _ => (pg_name (i := 6) sc__law_otherwise.nd rfl (.inl rfl))) (fun _ _ _ _ _ => (pts_one (pt_cmpR (op_notInK K) (pv 6) (pv 2) rfl))) (fun _ _ _ _ _ => (pv 6))) pe_int (fun _ _ => rfl)) (pe_dpop1 (pv 3) (pv 4) ⟨rfl, rfl, rfl, rfl⟩) rfl)))))
  (pss_one (ps_ret (pv 3))))))), ?_⟩
    obtain ⟨d, c, nl, cs, ns, n, m, rfl, hdr, hn, ncd, nnd, hc, hnl, gn, hl0, hl1, gd, hm, k⟩ := h
    have sz : sizeLine = 16777216 := sizeLine_eq
    have nm : ∀ p ∈ cs, isName p.1 = true := fun p hp => gn.nm _ (gd.sub p hp)
    have cl := keys_len gd.nd gd.sub
    have gsum := gd.sum
    refine ⟨_, rfl, c, _, rfl, .inl hc, fun f hf => ?_⟩
    have nfd : f ≠ d := hdr.ne hf
    have ncf : c ≠ f := ne_of_none hc hf
    have nnf : nl ≠ f := ne_of_none hnl hf
    refine hp_gn (fun H1 => But d H H1 ∧ Dr H1 d n ∧ H1 f = some (.dK (kvS cs)) ∧ H1 nl = some (.lst (ns.map V.str))) ⟨But.of (same_upd hf), hdr.same (same_upd hf), upd_same, (same_upd hf) _ _ hnl⟩ (fun H1 ⟨b1, dr1, f1, n1⟩ => ?_)
    refine ⟨_, rfl, _, rfl, _, rfl, nl, _, rfl, .inl (SqL.of n1), d, _, _, rfl, dr1, by omega, by rw [List.length_map]; omega, by rw [List.length_map]; omega, fun H2 v b2 dr2 v0 v1 => ?_⟩
    obtain ⟨x, hx, mx⟩ := at_mem v0 v1
    obtain ⟨z, zn, rfl⟩ := List.mem_map.mp mx
    refine ⟨nl, _, v, _, rfl, rfl, SqL.of (b2.at nnd n1), hx, ?_⟩
    refine ⟨_, rfl, d, 3, _, rfl, dr2, by omega, by omega, by omega, fun H3 way b3 dr3 w0 w1 => ?_⟩
    have bb : But d H H3 := (b1.trans b2).trans b3
    have f3 : H3 f = some (.dK (kvS cs)) := b3.at nfd (b2.at nfd f1)
    have n3 : H3 nl = some (.lst (ns.map V.str)) := b3.at nnd (b2.at nnd n1)
    have dr3' : Dr H3 d (n + 10) := dr3.mono (by omega)
    have zname : isName z = true := gn.nm z zn
    have pA : GoodC (put cs z ((look cs z).getD 0 + 1)) ∧ (put cs z ((look cs z).getD 0 + 1)).length ≤ 26 ∧ sumC (put cs z ((look cs z).getD 0 + 1)) ≤ 400 ∧ sameC cs (put cs z ((look cs z).getD 0 + 1)) = false ∧ sameC (put cs z ((look cs z).getD 0 + 1)) cs = false := by
      have hs : sumC (put cs z ((look cs z).getD 0 + 1)) = sumC cs + 1 := by rw [sum_put gd.nd]; omega
      have hp := look_pos gd.pos z
      have g : GoodC (put cs z ((look cs z).getD 0 + 1)) := good_put gd.nd nm gd.pos (by omega) zname (by omega) (by omega)
      have ne : look cs z ≠ look (put cs z ((look cs z).getD 0 + 1)) z := fun e => by
        rw [look_put, if_pos rfl] at e
        rw [e] at hp
        have : (look cs z).getD 0 = (look cs z).getD 0 + 1 := by
          conv => lhs; rw [e]
          rfl
        omega
      exact ⟨g, Nat.le_trans (length_put _ _ _) (by omega), by omega, sameC_no gd.nd ne, sameC_no g.nd ne.symm⟩
    have endA : ∀ σ : L2.St, σ[3]? = some (some (.ref f)) → σ[4]? = some (some (.str z)) → (sDPut (tVar 3) (tVar 4) (tOp (rI0 fun i j => V.int (i + j)) (tDGet2 (tVar 3) (tVar 4) (tC (V.int 0))) (tC (V.int 1)))) { nx := tRet (tVar 3) { nx := fun x H' => Q V.non H', rt := Q }, rt := Q } σ H3 := by
      intro σ h3 h4
      refine ⟨_, h3, f, rfl, .inl ⟨_, .inl f3⟩, _, h4, _, dget_kv z f3, _, _, getD_kv _ _, rfl, _, h3, _, h4, f, _, rfl, dput_kv z _ f3 (by omega), _, h3, ?_⟩
      exact k _ f _ (bb.mut hf) (dr3'.mut nfd.symm) hf upd_same pA.1 pA.2.1 pA.2.2.1 pA.2.2.2.1 pA.2.2.2.2
    refine ⟨_, rfl, rfl, _, rfl, ?_⟩
    by_cases hw : V.int way = V.int 0
    · refine iteDT hw ?_
      refine iteT ?_
      exact endA _ rfl rfl
    · refine iteDF hw ?_
      refine ⟨_, rfl, _, rfl, f, _, rfl, dget_kv z f3, _, rfl, ?_⟩
      cases hl : look cs z with
      | none =>
        refine iteT ?_
        exact endA _ rfl rfl
      | some q =>
        refine iteF ?_
        have qpos : 1 ≤ q := gd.pos _ (look_mem hl)
        have hd := sum_drop gd.nd z
        rw [hl] at hd
        have hd : sumC (dropN cs z) + q = sumC cs := hd
        have ld : (dropN cs z).length ≤ cs.length := List.length_filter_le _ _
        have hval : valV (kvS cs) (Sum.inr z) = some (.int q) := by rw [valV_kvS, hl]; rfl
        refine ⟨_, rfl, rfl, _, rfl, ?_⟩
        by_cases hw1 : V.int way = V.int 1
        · refine iteDT hw1 ?_
          refine ⟨_, rfl, f, rfl, .inl ⟨_, .inl f3⟩, _, rfl, kvS cs, Sum.inr z, _, f3, rfl, hval, ?_⟩
          rw [drop_kvS]
          refine ⟨_, rfl, ?_⟩
          have ne : look cs z ≠ look (dropN cs z) z := by rw [look_drop, if_pos rfl, hl]; exact fun e => nomatch e
          refine k _ f (dropN cs z) (bb.mut hf) (dr3'.mut nfd.symm) hf upd_same ⟨by omega, nodup_drop gd.nd z, fun p hp => nm p (mem_drop hp), fun p hp => gd.pos p (mem_drop hp), by omega⟩ (by omega) (by omega) (sameC_no gd.nd ne) (sameC_no (nodup_drop gd.nd z) ne.symm)
        · refine iteDF hw1 ?_
          refine ⟨_, rfl, f, rfl, .inl ⟨_, .inl f3⟩, _, rfl, kvS cs, Sum.inr z, _, f3, rfl, hval, ?_⟩
          rw [drop_kvS]
          have b4 : But d H (upd H3 f (.dK (kvS (dropN cs z)))) := bb.mut hf
          have dr4 : Dr (upd H3 f (.dK (kvS (dropN cs z)))) d (n + 10) := dr3'.mut nfd.symm
          have f4 : (upd H3 f (.dK (kvS (dropN cs z)))) f = some (.dK (kvS (dropN cs z))) := upd_same
          have n4 : (upd H3 f (.dK (kvS (dropN cs z)))) nl = some (.lst (ns.map V.str)) := by rw [upd_ne nnf]; exact n3
          generalize (upd H3 f (.dK (kvS (dropN cs z)))) = H4 at b4 dr4 f4 n4 ⊢
          refine ⟨_, rfl, _, rfl, fun D hD => ?_⟩
          have e8 : (tl (Str.ofString "abcdefgh")).length = 8 := by decide +kernel
          refine lc_same (walk_str (z := Str.ofString "abcdefgh")) (fun i => V.str ((⟨#[113]⟩ : Str) ++ ⟨#[(tl (Str.ofString "abcdefgh")).getD i 0]⟩)) hD (by decide +kernel) (fun _ _ => trivial) (fun i x H5 H6 hi sm y kk hk => ?_) (fun H5 sm hD5 => ?_)
          · obtain ⟨e2, cc, hcc, rfl⟩ := y
            subst e2
            have ec : (tl (Str.ofString "abcdefgh")).getD i 0 = cc := by
              have h2 : (tl (Str.ofString "abcdefgh"))[i]? = some cc := by show (Array.toList _)[i]? = _; rw [Array.getElem?_toList]; exact hcc
              simp [List.getD, h2]
            rw [ec] at hk
            refine ⟨rfl, _, rfl, _, _, rfl, rfl, by rw [sz]; show 1 + 1 ≤ _; omega, ?_⟩
            exact hk _ (Same.refl _)
          · have el : (List.range (Str.ofString "abcdefgh").cps.size).map (fun i => V.str ((⟨#[113]⟩ : Str) ++ ⟨#[(tl (Str.ofString "abcdefgh")).getD i 0]⟩)) = eights.map V.str := by decide +kernel
            rw [el] at hD5
            have dr5 := dr4.same sm
            have f5 := sm _ _ f4
            have n5 := sm _ _ n4
            have b5 := b4.trans (But.of sm)
            refine ⟨D, rfl, ⟨_, SqL.of hD5⟩, fun D2 hD2 => ?_⟩
            have nDD : D ≠ D2 := ne_of_none hD5 hD2
            refine lc_it (walk_list (K := K) (a := D) (xs := eights.map V.str)) (fun i Hx => Same H5 Hx ∧ Hx D2 = some (.lst (((eights.take i).filter fun z => !decide (z ∈ ns)).map V.str))) ⟨same_upd hD2, upd_same⟩ (fun i Hx _ h => SqL.of (h.1 _ _ hD5)) (fun i x H6 H7 hi hp hy => ?_) (fun H6 hp => ?_)
            · obtain ⟨p1, p2⟩ := hp
              obtain ⟨e2, hx2⟩ := hy
              subst e2
              have hi2 : i < eights.length := by simpa using hi
              rw [List.getElem?_map, List.getElem?_eq_getElem hi2] at hx2
              cases hx2
              have et : (eights.take (i + 1)).filter (fun z => !decide (z ∈ ns)) = (eights.take i).filter (fun z => !decide (z ∈ ns)) ++ [eights[i]].filter (fun z => !decide (z ∈ ns)) := by
                rw [List.take_succ_eq_append_getElem hi2, List.filter_append]
              rw [et]
              have lt : ((eights.take i).filter fun z => !decide (z ∈ ns)).length ≤ 8 := by
                refine Nat.le_trans (List.length_filter_le _ _) ?_
                rw [List.length_take]
                have : eights.length = 8 := by decide +kernel
                omega
              refine ⟨rfl, _, rfl, _, rfl, nl, _, rfl, .inl (SqL.of (p1 _ _ n5)), rfl, flat_strs ns, _, rfl, ?_⟩
              rw [inV_str]
              generalize eights[i] = e8' at et ⊢
              by_cases hin : e8' ∈ ns
              · rw [decide_eq_true hin]
                refine iteF ⟨p1, ?_⟩
                rw [p2]
                simp [hin]
              · rw [decide_eq_false hin]
                refine iteT ⟨_, rfl, _, p2, by rw [sz, List.length_map]; omega, Same.mut p1 hD2, ?_⟩
                rw [upd_same]
                simp [hin]
            · obtain ⟨p1, p2⟩ := hp
              rw [List.take_of_length_le (by simp)] at p2
              have hne := eight_new hl1
              cases hF : eights.filter (fun z => !decide (z ∈ ns)) with
              | nil => exact absurd hF hne
              | cons w r =>
                rw [hF] at p2
                have wm := List.mem_filter.mp (show w ∈ eights.filter (fun z => !decide (z ∈ ns)) by rw [hF]; exact List.mem_cons_self)
                have wname : isName w = true := List.all_eq_true.mp eights_all w wm.1
                have wnot : w ∉ ns := fun h => by have := wm.2; simp [h] at this
                have wk : w ∉ keysOf cs := fun h => by
                  obtain ⟨p, hp, e⟩ := List.mem_map.mp h
                  exact wnot (by rw [← e]; exact gd.sub p hp)
                have wk2 : w ∉ keysOf (dropN cs z) := fun h => by
                  obtain ⟨p, hp, e⟩ := List.mem_map.mp h
                  exact wk (List.mem_map.mpr ⟨p, mem_drop hp, e⟩)
                refine ⟨D2, _, 0, _, rfl, rfl, SqL.of p2, atI_nat (j := 0) rfl, f, _, rfl, dput_kv w _ (p1 _ _ f5) (by omega), _, rfl, ?_⟩
                have hs : sumC (put (dropN cs z) w q) = sumC cs := by rw [sum_put_new wk2]; omega
                have g : GoodC (put (dropN cs z) w q) := good_put (nodup_drop gd.nd z) (fun p hp => nm p (mem_drop hp)) (fun p hp => gd.pos p (mem_drop hp)) (by omega) wname qpos (by omega)
                have ne : look cs w ≠ look (put (dropN cs z) w q) w := by rw [look_put, if_pos rfl, look_none.mpr wk]; exact fun e => nomatch e
                exact k _ f _ ((b5.trans (But.of p1)).mut hf) ((dr5.same p1).mut nfd.symm) hf upd_same g (Nat.le_trans (length_put _ _ _) (by omega)) (by omega) (sameC_no gd.nd ne) (sameC_no g.nd ne.symm)
end
end Sk

set_option maxHeartbeats 4000000
namespace Sk
open PySem PySem.Spec PyProof.Rows L2
section
variable {K : PySem.W.Frag}
theorem nf_self (K : PySem.W.Frag) (C : Addr) : PySem.W.notFirst K C (.ref C) = true := by simp [PySem.W.notFirst]
theorem bag_made {H1 : Hp} {x dx : Addr} {z : Str} {ds : List (Str × Int)} {R : VK} {E : XK} (hx : H1 x = Option.none) (hd : H1 dx = Option.none) (hz : z.length ≤ 9000) (hok : bagOf z = .ok ds) (h : ∀ H3, Same H1 H3 → BagAt K H3 x ds → R .non H3) :
    sp_Bag_init K [.ref x, .str z] (upd (upd H1 dx (.own x)) x (.ins (He.ga K "Bag") dx [])) R E :=
  ⟨x, dx, z, ds, rfl, upd_same, hz, hok, fun H3 b ba => h H3 (made_same hx hd b) ba⟩
theorem text_words {cs : List (Str × Int)} (g : GoodC cs) (m : sumC cs ≤ 400) (few : cs.length ≤ 60) : WordsFor cs ((srt (keysOf cs)).map fun n => wordOf n ((look cs n).getD 0)) (pairsOf cs) := by
  have pp := pairs_perm g.nd
  refine ⟨⟨by unfold pairsOf; rw [List.length_map, List.length_map], fun i w p h1 h2 => ?_⟩, fun p hp => g.pos p (pp.mem_iff.mp hp), fun n => by rw [perm_tot pp, tot_look g.nd], perm_sumC pp, by rw [List.length_map, length_srt]; unfold keysOf; rw [List.length_map]; exact few⟩
  have hp : p ∈ cs := pp.mem_iff.mp (List.mem_of_getElem? h2)
  unfold pairsOf at h2
  rw [List.getElem?_map] at h1 h2
  cases e : (srt (keysOf cs))[i]? with
  | none => rw [e] at h1; cases h1
  | some n =>
    rw [e] at h1 h2
    cases h1
    cases h2
    exact word_of (g.nm _ hp) (g.pos _ hp) (by have := sumC_le g.pos _ hp; simp only at this ⊢; omega)
theorem text_bag {cs : List (Str × Int)} (g : GoodC cs) (m : sumC cs ≤ 400) (few : cs.length ≤ 60) : ∃ es, bagOf (textOf cs) = .ok es ∧ cs.Perm es ∧ (textOf cs).length ≤ 9000 := by
  have wf := text_words g m few
  obtain ⟨es, h1, h2⟩ := wf.bag g m
  exact ⟨es, h1, h2, Nat.le_trans wf.size (by omega)⟩
theorem But.toSame2 {d : Addr} {H H1 H2 : Hp} (b : But d H1 H2) (h : H d = Option.none) (s : Same H H1) : Same H H2 := fun a o e => b.at (ne_of_none e h) (s a o e)
end
end Sk

set_option maxHeartbeats 4000000
namespace Sk
open PySem PySem.Spec PyProof.Rows L2
section
variable {K : PySem.W.Frag}
theorem kd_ty {H : Hp} {x : V} (k : KdV H x) : ∃ T, T ∈ ["NoneType", "int", "str", "list", "tuple", "dict"] ∧ ∀ H1, Same H H1 → TyX K H1 x (.type T) := by
  cases k with
  | non => exact ⟨"NoneType", by simp, fun _ _ => .base .non⟩
  | int i => exact ⟨"int", by simp, fun _ _ => .base (.int i)⟩
  | str z => exact ⟨"str", by simp, fun _ _ => .base (.str z)⟩
  | lst h => exact ⟨"list", by simp, fun _ s => .base (.lst (s _ _ h))⟩
  | tup h => exact ⟨"tuple", by simp, fun _ s => .base (.tup (s _ _ h))⟩
  | dK h => exact ⟨"dict", by simp, fun _ s => .base (.dK (s _ _ h))⟩
theorem IsiC.no2 {C : Addr} (i : IsiC K C) {T : String} (h : T ∈ ["NoneType", "int", "str", "list", "tuple", "dict"]) : PySem.W.kitOne K (.type T) (.ref C) = some false := by
  refine i.no T ?_
  simp only [List.mem_cons, List.not_mem_nil, or_false] at h ⊢
  rcases h with h | h | h | h | h | h <;> simp [h]
theorem nf_str (C : Addr) : PySem.W.notFirst K C (.type "str") = true := by
  have e : fastBuiltinMro "str" = some [.type "str", .type "object"] := by decide +kernel
  simp [PySem.W.notFirst, PySem.W.subIn, e]
theorem notsame_perm {cs ds os es : List (Str × Int)} (h1 : cs.Perm ds) (h2 : os.Perm es) (g1 : GoodC cs) (g2 : GoodC os) (h : sameC cs os = false) : sameC ds es = false := by
  cases e : sameC ds es with
  | false => rfl
  | true =>
    have gd := perm_good h1 g1
    have p : cs.Perm os := perm_of_look g1.nd g2.nd g1.pos g2.pos fun n => by rw [perm_look h1 g1.nd, perm_look h2 g2.nd, sameC_look gd.nd e n]
    rw [perm_same p g1.nd] at h
    cases h
theorem joinL_mem {S : List Nat} {c : Nat} : ∀ {ps : List (List Nat)}, c ∈ TL.joinL S ps → c ∈ S ∨ ∃ p ∈ ps, c ∈ p
  | [], h => by cases h
  | [p], h => .inr ⟨p, List.mem_cons_self, h⟩
  | p :: q :: r, h => by
    rcases List.mem_append.mp (show c ∈ p ++ (S ++ TL.joinL S (q :: r)) from h) with h | h
    · exact .inr ⟨p, List.mem_cons_self, h⟩
    · rcases List.mem_append.mp h with h | h
      · exact .inl h
      · rcases joinL_mem (ps := q :: r) h with h | ⟨x, hx, e⟩
        · exact .inl h
        · exact .inr ⟨x, List.mem_cons_of_mem _ hx, e⟩
theorem okC_lt {c : Nat} (h : okC c = true) : c < 16 ^ 8 := by
  unfold okC isLet isFig at h
  simp at h
  omega
theorem text_signs {cs : List (Str × Int)} (g : GoodC cs) (m : sumC cs ≤ 400) (few : cs.length ≤ 60) : ∀ c ∈ (textOf cs).cps.toList, c < 16 ^ 8 := by
  intro c hc
  have hc : c ∈ tl (Txt.join (Str.ofString " ") ((srt (keysOf cs)).map fun n => wordOf n ((look cs n).getD 0))) := hc
  rw [TL.join_eq, show tl (Str.join (Str.ofString " ") ((srt (keysOf cs)).map fun n => wordOf n ((look cs n).getD 0))) = TL.joinL (tl (Str.ofString " ")) (((srt (keysOf cs)).map fun n => wordOf n ((look cs n).getD 0)).map tl) from TL.tl_join _ _, tl_blank] at hc
  rcases joinL_mem hc with hc | ⟨p, hp, hcp⟩
  · have := List.mem_singleton.mp hc
    omega
  · obtain ⟨z, hz, rfl⟩ := List.mem_map.mp hp
    obtain ⟨n, hn, rfl⟩ := List.mem_map.mp hz
    obtain ⟨⟨n', v⟩, hq, e⟩ := List.mem_map.mp (mem_srt.mp hn)
    cases e
    rw [look_of g.nd hq] at hcp
    have isn := g.nm _ hq
    have c1 : 1 ≤ v := g.pos _ hq
    have c2 : v ≤ 400 := Int.le_trans (sumC_le g.pos _ hq) m
    unfold wordOf at hcp
    split at hcp
    · exact okC_lt (name_signs isn c hcp)
    · rw [tl_app, tl_app, tl_star] at hcp
      rcases List.mem_append.mp hcp with h | h
      · rcases List.mem_append.mp h with h | h
        · exact okC_lt (name_signs isn c h)
        · have := List.mem_singleton.mp h
          omega
      · exact okC_lt (List.all_eq_true.mp (num_fig (c := v) c1 (by omega)).2.2 c h)
theorem empty_iff {cs ds : List (Str × Int)} (h : cs.Perm ds) (g : GoodC cs) : (sumC ds != 0) = !sameC cs [] := by
  have e := perm_sumC h
  cases cs with
  | nil =>
    have : ds = [] := List.nil_perm.mp h
    subst this
    rfl
  | cons p r =>
    have h1 : 1 ≤ p.2 := g.pos p List.mem_cons_self
    have h2 := sumC_nn (cs := r) fun q hq => g.pos q (List.mem_cons_of_mem _ hq)
    rw [sumC_cons] at e
    have h3 : sumC ds ≠ 0 := by omega
    have h4 : sameC (p :: r) [] = false := by simp [sameC]
    rw [h4]
    simp [h3]
section
variable {X : Cx} {H : Hp} {p q : Addr} {cs ds : List (Str × Int)}
theorem EqS.to {n : Nat} {x y : V} {b b' : Bool} (h : EqS X n H x y b) (e : b = b') : EqS X n H x y b' := e ▸ h
theorem eqS_bag (c : C8.Met X.prog X.w X.K X.mg X.base 1 (He.ga K "Bag") "__eq__" (sp_Bag_eq K) []) (i : IsiC X.K (He.ga K "Bag")) (hK : X.K = K) (bp : BagAt K H p cs) (bq : BagAt K H q ds) (ne : q ≠ p) : EqS X 1 H (.ref p) (.ref q) (sameC cs ds) := by
  obtain ⟨d1, dx1, hp, _⟩ := id bp
  obtain ⟨d2, dx2, hq, _⟩ := id bq
  exact eqS_own c hp (fun H1 s => i.ty (s _ _ hq)) (by simp [PySem.W.notFirst]) (fun e => absurd (by injection e) ne) fun H1 s => ⟨p, .ref q, cs, rfl, bp.same s, .inl ⟨q, ds, rfl, bq.same s, rfl, Same.refl _⟩⟩
theorem eqS_kind (c : C8.Met X.prog X.w X.K X.mg X.base 1 (He.ga K "Bag") "__eq__" (sp_Bag_eq K) []) (i : IsiC X.K (He.ga K "Bag")) (hK : X.K = K) {x : V} (kd : KdV H x) (bq : BagAt K H q ds) : EqS X 1 H x (.ref q) false := by
  obtain ⟨d2, dx2, hq, _⟩ := id bq
  obtain ⟨T, hT, ty⟩ := kd_ty (K := K) kd
  subst hK
  exact eqS_back c i hq kd fun H1 s => ⟨q, x, ds, rfl, bq.same s, .inr ⟨.type T, ty H1 s, i.no2 hT, rfl, Same.refl _⟩⟩
end
end
end Sk

set_option maxHeartbeats 4000000
namespace Sk
open PySem PySem.Spec PyProof.Rows L2
section
variable {P : Program} {w : World} {K : PySem.W.Frag} {mg : Str → Option Value} {base : Heap}
def spLaw (K : PySem.W.Frag) : Sp := fun vs H Q _ => ∃ (a : Addr) (ns : List Int), vs = [.ref a] ∧ SqL K H a (ns.map V.int) ∧ ns.length ≤ 63 ∧ ∀ H', Q (.bl true) H'
theorem ok_law {f : Addr} {fd : FuncData} (Y : Yes K mg) (F : FunD K "law" "law" (defArgs s_law) (defBody s_law) (defScope s_law) [] [] f fd) : FnOk P w K mg base C8.CX0 12 f fd ["_law_script"] (spLaw K) := by
  refine fnD0 F sc_law (fun vs H Q E h => ?_) (fun cdv A outer s H vs Q E hr h => ?_)
  · obtain ⟨_, _, rfl, _⟩ := h
    rfl
  · have hu := hu_of hr
    refine ⟨_, (pss_cons (ps_for PassesOwn.never rfl (pi_range1 rfl Y.n_range (pa_cons (pe_callB (call_max2 rfl) (by rfl) Y.n_max (by decide +kernel) (pa_cons pe_int (pa_cons (pe_callB (call_min2 rfl) (by rfl) Y.n_min (by decide +kernel) (pa_cons pe_int (pa_cons (pe_callB (call_lenK K) (by rfl) Y.n_len (by decide +kernel) (pa_cons (pv 0) pa_nil)) pa_nil))) pa_nil))) pa_nil)) (pg_name (i := 1) sc_law.nd rfl (.inl rfl))
  (pss_cons (ps_set (i := 2) sc_law.nd rfl (.inl rfl) (C8.pe_c (cal__law_draws Y) hr (by decide) rfl (pa_cons (pv 0) (pa_cons (pv 1) pa_nil))))
  (pss_cons (ps_set (i := 3) sc_law.nd rfl (.inl rfl) (C8.pe_c (cal__law_names Y) hr (by decide) rfl (pa_cons (pv 2) (pa_cons (pe_op op_add pe_int (C8.pe_c (cal__law_draw Y) hr (by decide) rfl (pa_cons (pv 2) (pa_cons pe_int pa_nil)))) pa_nil))))
  (pss_cons (ps_set (i := 4) sc_law.nd rfl (.inl rfl) (C8.pe_c (cal__law_counts Y) hr (by decide) rfl (pa_cons (pv 2) (pa_cons (pv 3) (pa_cons (pe_ix (ix_listK K) (pe_lst (pa_cons pe_int (pa_cons pe_int pa_nil))) (C8.pe_c (cal__law_draw Y) hr (by decide) rfl (pa_cons (pv 2) (pa_cons pe_int pa_nil))) (fun _ _ => rfl)) pa_nil)))))
  (pss_cons (ps_par (i := 5) (j := 6) rfl sc_law.nd rfl rfl (by decide) rfl rfl (pa_cons (C8.pe_mk (mk1_Bag Y) hr (by decide) rfl (pa_cons (pe_joinK K pe_str (C8.pe_c (cal__law_words Y) hr (by decide) rfl (pa_cons (pv 2) (pa_cons (pv 4) pa_nil)))) pa_nil)) (pa_cons (C8.pe_mk (mk1_Bag Y) hr (by decide) rfl (pa_cons (pe_joinK K pe_str (C8.pe_c (cal__law_words Y) hr (by decide) rfl (pa_cons (pv 2) (pa_cons (pv 4) pa_nil)))) pa_nil)) pa_nil)) (by rfl))
  (pss_cons (ps_set (i := 7) sc_law.nd rfl (.inl rfl) (C8.pe_mk (mk1_Bag Y) hr (by decide) rfl (pa_cons (pe_joinK K pe_str (C8.pe_c (cal__law_words Y) hr (by decide) rfl (pa_cons (pv 2) (pa_cons (C8.pe_c (cal__law_otherwise Y) hr (by decide) rfl (pa_cons (pv 2) (pa_cons (pv 4) (pa_cons (pv 3) pa_nil)))) pa_nil)))) pa_nil)))
  (pss_cons (ps_set (i := 8) sc_law.nd rfl (.inl rfl) (C8.pe_c (cal__law_bag_text Y) hr (by decide) rfl (pa_cons (pv 4) pa_nil)))
  (pss_cons (ps_if (PW.pt (pw_or (pt_cmpR op_ne (pe_callB (call_lenOwn (met_Bag_len Y) (hr.mono (by decide))) (by rfl) Y.n_len (by decide +kernel) (pa_cons (pv 5) pa_nil)) (pe_sumVals rfl (by rfl) Y.n_sum (pv 4)) (nomark _)) (pw_or (pt_cmpR op_ne (pe_callTy (call_boolOwn (met_Bag_len Y) Y.is_Bag (hr.mono (by decide))) (by rfl) Y.n_bool (by decide +kernel) (pa_cons (pv 5) pa_nil)) (pe_cmpR (op_neDict hr.units0) (pv 4) pe_dnewK (nomark _)) (nomark _)) (pw_or1 (pt_cmpR op_ne (pe_callTy (call_strOwn (met_Bag_str Y) (hr.mono (by decide))) (by rfl) Y.n_str (by decide +kernel) (pa_cons (pv 5) pa_nil)) (pv 8) (nomark _)))))) (pss_one (ps_ret pe_bl)) pss_nil)
  (pss_cons (ps_if (PW.pt (pw_or (pt_cmpR op_ne (pe_callB (call_reprOwn (met_Bag_repr Y) (hr.mono (by decide))) (by rfl) Y.n_repr (by decide +kernel) (pa_cons (pv 5) pa_nil)) (pe_op op_add_str (pe_op op_add_str pe_str (pe_callB call_repr_str (by rfl) Y.n_repr (by decide +kernel) (pa_cons (pv 8) pa_nil))) pe_str) (nomark _)) (pw_or (pt_not (pt_cmpR (op_eqOwn K (met_Bag_eq Y) (hr.mono (by decide))) (pv 5) (pv 6) (nomark _))) (pw_or (pt_cmpR (op_neOwn K (met_Bag_eq Y) Y.is_Bag (hr.mono (by decide))) (pv 5) (pv 6) (nomark _)) (pw_or1 (pt_cmpR (op_notInS (n := 1) (hr.mono (by decide))) (pv 5) (pe_lst (pa_cons (pv 7) (pa_cons (pv 6) pa_nil))) rfl)))))) (pss_one (ps_ret pe_bl)) pss_nil)
  (pss_cons (ps_if (PW.pt (pw_or (pt_cmpR (op_eqOwn K (met_Bag_eq Y) (hr.mono (by decide))) (pv 5) (pv 7) (nomark _)) (pw_or (pt_not (pt_cmpR (op_neOwn K (met_Bag_eq Y) Y.is_Bag (hr.mono (by decide))) (pv 5) (pv 7) (nomark _))) (pw_or (pt_cmpR (op_inS (n := 1) (hr.mono (by decide))) (pv 5) (pe_lst (pa_cons (pv 7) pa_nil)) rfl) (pw_or (pt_cmpR (op_inS (n := 1) (hr.mono (by decide))) (pv 7) (pe_tup (pa_cons (pv 5) (pa_cons (pv 6) pa_nil))) rfl) (pw_or1 (pt_cmpR (op_neTupS (n := 1) (hr.mono (by decide))) (pe_tup (pa_cons (pv 5) (pa_cons pe_int pa_nil))) (pe_tup (pa_cons (pv 6) (pa_cons pe_int pa_nil))) (nomark _)))))))) (pss_one (ps_ret pe_bl)) pss_nil)
  (pss_one (ps_if (PW.pt (pw_or (pt_cmpR (op_inS (n := 1) (hr.mono (by decide))) (pv 5) (pe_lst (pa_cons (pv 8) (pa_cons (pv 4) (pa_cons (pe_callB (call_lenOwn (met_Bag_len Y) (hr.mono (by decide))) (by rfl) Y.n_len (by decide +kernel) (pa_cons (pv 5) pa_nil)) (pa_cons (pe_callB (call_sortedD rfl) (by rfl) Y.n_sorted (by decide +kernel) (pa_cons (pv 4) pa_nil)) (pa_cons pe_non (pa_cons (pe_tup (pa_cons (pv 8) pa_nil)) pa_nil))))))) rfl) (pw_or1 (pt_cmpR (op_eqOwn K (met_Bag_eq Y) (hr.mono (by decide))) (pv 5) (pv 8) (nomark _))))) (pss_one (ps_ret pe_bl)) pss_nil))))))))))))
  (pss_one (ps_ret (pe_and (pe_cmpR (op_eqOwn K (met_Bag_eq Y) (hr.mono (by decide))) (pe_mk0 (mk0_Bag Y) hr (by decide) rfl) (C8.pe_mk (mk1_Bag Y) hr (by decide) rfl (pa_cons pe_str pa_nil)) (nomark _)) (pe_and (pe_not (pe_callTy (call_boolOwn (met_Bag_len Y) Y.is_Bag (hr.mono (by decide))) (by rfl) Y.n_bool (by decide +kernel) (pa_cons (pe_mk0 (mk0_Bag Y) hr (by decide) rfl) pa_nil))) (pe_one (pe_cmpR op_eq (pe_callB (call_reprOwn (met_Bag_repr Y) (hr.mono (by decide))) (by rfl) Y.n_repr (by decide +kernel) (pa_cons (pe_mk0 (mk0_Bag Y) hr (by decide) rfl) pa_nil)) pe_str (nomark _)))))))), ?_⟩
    obtain ⟨a, ns, rfl, hS, hl, k⟩ := h
    have sz : sizeLine = 16777216 := sizeLine_eq
    have eE : bagOf (Str.ofString "") = .ok [] := by rfl
    have nm : (if (6 : Int) > 1 then (6 : Int) else 1) = 6 := by decide
    have bd : ∀ len : Int, 0 ≤ len → 1 ≤ (if (if len < 6 then len else 6) > 1 then (if len < 6 then len else 6) else 1) ∧ (if (if len < 6 then len else 6) > 1 then (if len < 6 then len else 6) else 1) ≤ 6 := by
      intro len h0
      by_cases h1 : len < 6
      · rw [if_pos h1]
        by_cases h2 : len > 1
        · rw [if_pos h2]; omega
        · rw [if_neg h2]; omega
      · rw [if_neg h1, if_pos (by omega)]; omega
    obtain ⟨m0, m1⟩ := bd ((ns.map V.int).length : Int) (by omega)
    refine ⟨_, rfl, a, _, rfl, .inl hS, _, _, rfl, _, _, rfl, _, rfl, by omega, by omega, for_it walk_range (fun i σ Hx => ∃ y1 y2 y3 y4 y5 y6 y7 y8, σ = [some (.ref a), y1, y2, y3, y4, y5, y6, y7, y8] ∧ Same H Hx)
      ⟨none, none, none, none, none, none, none, none, rfl, Same.refl _⟩ (fun _ _ _ _ _ => trivial) (fun i x σ H1 H2 hi hp hy => ?_) (fun σ H1 hp => ?_)⟩
    · obtain ⟨y1, y2, y3, y4, y5, y6, y7, y8, rfl, s0⟩ := hp
      obtain ⟨rfl, rfl⟩ := hy
      refine ⟨_, rfl, _, rfl, a, ns, i, by show [V.ref a, V.int (0 + (i : Int))] = _; rw [Int.zero_add], s0.seq hS, by omega, by omega, fun d H3 hd b3 dr3 => ?_⟩
      have s3 : Same H H3 := s0.trans (b3.toSame hd)
      have Hd : H d = Option.none := s0.free hd
      refine ⟨_, rfl, _, rfl, d, 6, 0, rfl, dr3, by omega, by omega, by omega, fun H4 v b4 dr4 v0 v1 => ?_⟩
      obtain ⟨kv, rfl⟩ := Int.eq_ofNat_of_zero_le v0
      refine ⟨_, _, rfl, rfl, d, 1 + kv, 1, rfl, dr4, by omega, by omega, by omega, fun H5 q names b5 dr5 hq hnames gn l0 l1 => ?_⟩
      have nqd : q ≠ d := dr4.ne hq
      refine ⟨_, rfl, _, rfl, by rw [sz]; show (2 : Nat) ≤ _; omega, fun p6 hp6 => ?_⟩
      have nqp : q ≠ p6 := ne_of_none hnames hp6
      refine ⟨_, rfl, d, 2, _, rfl, dr5.same (same_upd hp6), by omega, by omega, by omega, fun H6 v2 b6 dr6 w0 w1 => ?_⟩
      have ndp : p6 ≠ d := dr5.ne hp6
      have p6' : H6 p6 = some (.lst [.int 30, .int 399]) := b6.at ndp upd_same
      obtain ⟨x, hx, mx⟩ := at_mem (xs := [.int 30, .int 399]) w0 (by show v2 < 2; omega)
      have hmost : ∃ most : Int, x = .int most ∧ 1 ≤ most ∧ most ≤ 399 := by
        simp only [List.mem_cons, List.not_mem_nil, or_false] at mx
        rcases mx with e | e
        · exact ⟨30, e, by omega, by omega⟩
        · exact ⟨399, e, by omega, by omega⟩
      obtain ⟨most, rfl, ms0, ms1⟩ := hmost
      have hn6 : H6 q = some (.lst (names.map V.str)) := b6.at nqd (by rw [upd_ne nqp]; exact hnames)
      refine ⟨p6, _, v2, _, rfl, rfl, SqL.of p6', hx, d, q, most, names, _, rfl, dr6, by omega, nqd, hn6, l0, by omega, ms0, by omega, fun H7 c cs b7 dr7 hc hcs gd => ?_⟩
      have ncd : c ≠ d := dr6.ne hc
      have good : GoodC cs := gd.good gn (by omega)
      have le : sumC cs ≤ 400 := Int.le_trans gd.sum (by omega)
      have few : cs.length ≤ 26 := gd.few
      have stand : ∀ {ws : List Str} {ps os : List (Str × Int)}, WordsFor os ws ps → (ws.map (·.length)).sum + ws.length * (Str.ofString " ").length ≤ 16777216 := fun {ws ps os} wf => by
        have wfew := wf.few
        refine Nat.le_trans (words_size (by decide +kernel) (by omega) fun x hx => ?_) (by omega)
        obtain ⟨p, _, hw⟩ := wf.are.each hx
        exact Nat.le_trans hw.len (by omega)
      refine ⟨⟨_, rfl⟩, _, rfl, _, rfl, d, c, cs, _, rfl, dr7, by omega, ncd, hcs, good, few, by omega, fun H8 q8 ws ps b8 dr8 hq8 hws wf => ⟨_, q8, ws, rfl, rfl, .inl (SqL.of hws), stand wf, ?_⟩⟩
      obtain ⟨ds1, hok1, hp1⟩ := wf.bag good le
      have c8 : H8 c = some (.dK (kvS cs)) := b8.at ncd hcs
      have n8 : H8 q = some (.lst (names.map V.str)) := b8.at nqd (b7.at nqd hn6)
      have s8 : Same H H8 := (((((b4.trans b5).trans (But.of (same_upd hp6))).trans b6).trans b7).trans b8).toSame2 Hd s3
      refine fun one dxm hxm hdm _ => bag_made hxm hdm (Nat.le_trans wf.size (by omega)) hok1 fun H9 s9 ba1 => ⟨rfl, ?_⟩
      have dr9 := dr8.same s9
      have c9 := s9 _ _ c8
      have n9 := s9 _ _ n8
      refine ⟨⟨_, rfl⟩, _, rfl, _, rfl, d, c, cs, _, rfl, dr9, by omega, ncd, c9, good, few, by omega, fun H10 q10 ws2 ps2 b10 dr10 hq10 hws2 wf2 => ⟨_, q10, ws2, rfl, rfl, .inl (SqL.of hws2), stand wf2, ?_⟩⟩
      obtain ⟨ds2, hok2, hp2⟩ := wf2.bag good le
      have c10 := b10.at ncd c9
      have n10 := b10.at nqd n9
      obtain ⟨od1, ox1, o1, o1'⟩ := id ba1
      have n1d : one ≠ d := fun e => by
        obtain ⟨_, _, _, e2, _⟩ := dr9
        rw [e, e2] at o1
        cases o1
      have nod1 : od1 ≠ d := fun e => by
        obtain ⟨_, _, _, e2, _⟩ := dr9
        rw [e, e2] at o1'
        cases o1'
      have butB : ∀ {Ha Hb : Hp} {p : Addr} {es : List (Str × Int)} {m : Nat}, But d Ha Hb → Dr Ha d m → BagAt K Ha p es → BagAt K Hb p es := by
        intro Ha Hb p es m b dr ba
        obtain ⟨e1, x1, h1, h2⟩ := ba
        obtain ⟨_, _, _, e3, _⟩ := dr
        exact ⟨e1, x1, b.at (ne_of h1 e3 (by intro z; cases z)) h1, b.at (ne_of h2 e3 (by intro z; cases z)) h2⟩
      have ba1a := butB b10 dr9 ba1
      refine fun again dxm2 hxm2 hdm2 _ => bag_made hxm2 hdm2 (Nat.le_trans wf2.size (by omega)) hok2 fun H11 s11 ba2 => ⟨rfl, _, _, rfl, ?_⟩
      have ba1b := ba1a.same s11
      have dr11 := dr10.same s11
      have c11 := s11 _ _ c10
      have n11 := s11 _ _ n10
      have ne12 : one ≠ again := by
        obtain ⟨_, _, h, _⟩ := ba1a
        exact ne_of_none h hxm2
      refine ⟨⟨_, rfl⟩, _, rfl, _, rfl, _, rfl, _, rfl, d, c, q, cs, names, _, most, rfl, dr11, by omega, ncd, nqd, c11, n11, gn, l0, by omega, gd, ms1, fun H12 oq os b12 dr12 hoq hos gos fos los no1 no2 => ?_⟩
      have noqd : oq ≠ d := dr11.ne hoq
      refine ⟨d, oq, os, _, rfl, dr12, by omega, noqd, hos, gos, fos, by omega, fun H13 q13 ws3 ps3 b13 dr13 hq13 hws3 wf3 => ⟨_, q13, ws3, rfl, rfl, .inl (SqL.of hws3), stand wf3, ?_⟩⟩
      obtain ⟨es, hok3, hp3⟩ := wf3.bag gos los
      have ba1c := butB b13 dr12 (butB b12 dr11 ba1b)
      have ba2c := butB b13 dr12 (butB b12 dr11 ba2)
      have c13 := b13.at ncd (b12.at ncd c11)
      refine fun other dxm3 hxm3 hdm3 _ => bag_made hxm3 hdm3 (Nat.le_trans wf3.size (by omega)) hok3 fun H14 s14 ba3 => ⟨rfl, ?_⟩
      have s14H : Same H H14 := (((((But.of (d := d) s9).trans b10).trans (But.of s11)).trans b12).trans b13).trans (But.of s14) |>.toSame2 Hd s8
      have ba1d := ba1c.same s14
      have ba2d := ba2c.same s14
      have c14 := s14 _ _ c13
      have ne13 : one ≠ other := by
        obtain ⟨_, _, h, _⟩ := ba1c
        exact ne_of_none h hxm3
      have ne23 : again ≠ other := by
        obtain ⟨_, _, h, _⟩ := ba2c
        exact ne_of_none h hxm3
      have g1 := perm_good hp1 good
      have g2 := perm_good hp2 good
      have g3 := perm_good hp3 gos
      have same12 : sameC ds1 ds2 = true := perm_same (hp1.symm.trans hp2) g1.nd
      have same21 : sameC ds2 ds1 = true := perm_same (hp2.symm.trans hp1) g2.nd
      have no13 : sameC ds1 es = false := notsame_perm hp1 hp3 good gos no1
      have no31 : sameC es ds1 = false := notsame_perm hp3 hp1 gos good no2
      have no23 : sameC ds2 es = false := notsame_perm hp2 hp3 good gos no1
      have et : textOf cs = textOf ds1 := perm_text hp1 good.nd
      clear stand butB
      refine ⟨_, rfl, c, cs, rfl, c14, good, fun H15 s15 => ?_⟩
      have ba1 := ba1d.same s15
      have ba2 := ba2d.same s15
      have ba3 := ba3.same s15
      have c15 := s15 _ _ c14
      have s15H := s14H.trans s15
      obtain ⟨od1, ox1, o1, o1'⟩ := id ba1
      refine ⟨_, rfl, one, ox1, _, rfl, o1, one, ds1, rfl, ba1, g1, fun H16 s16 => ⟨_, rfl, sumC_nn g1.pos, by have := g1.sum; omega, ?_⟩⟩
      have c16 := s16 _ _ c15
      refine ⟨_, rfl, c, cs, rfl, c16, rfl, _, rfl, iteE false ?_ ?_⟩
      · have : sumC ds1 = (cs.map (·.2)).sum := (perm_sumC hp1).symm
        rw [this]
        simp
      refine iteF ?_
      have ba1 := ba1.same s16
      have ba2 := ba2.same s16
      have ba3 := ba3.same s16
      obtain ⟨od1, ox1, o1, o1'⟩ := id ba1
      refine ⟨_, rfl, one, ox1, _, rfl, o1, one, ds1, rfl, ba1, g1, fun H17 s17 => ⟨sumC ds1, rfl, sumC_nn g1.pos, by have := g1.sum; omega, ?_⟩⟩
      have c17 := s17 _ _ c16
      refine ⟨_, rfl, fun e he => ⟨c, e, cs, [], rfl, rfl, (same_upd he) _ _ c17, upd_same, ?_⟩⟩
      refine ⟨rfl, _, rfl, iteE false ?_ ?_⟩
      · rw [empty_iff hp1 good]
        simp
      refine iteF ?_
      have s18 : Same H16 (upd H17 e (.dK [])) := s17.trans (same_upd he)
      have ba1 := ba1.same s18
      have ba2 := ba2.same s18
      have ba3 := ba3.same s18
      have c18 := s18 _ _ c16
      have s18H := (s15H.trans s16).trans s18
      obtain ⟨od1, ox1, o1, o1'⟩ := id ba1
      refine ⟨_, rfl, one, ox1, _, rfl, o1, one, ds1, rfl, ba1, g1, fun H19 s19 => ⟨_, rfl, _, rfl, rfl, _, rfl, iteE false (by rw [et]; simp) ?_⟩⟩
      refine iteF ?_
      have rl : (reprText (textOf ds1)).length ≤ 100000 := by
        have h1 := PySem.StrLaws.reprText_len (textOf ds1) (text_signs g1 (by rw [← perm_sumC hp1]; exact le) (by rw [← hp1.length_eq]; omega))
        have h2 := (text_words g1 (by rw [← perm_sumC hp1]; exact le) (by rw [← hp1.length_eq]; omega)).size
        have h2 : (textOf ds1).length ≤ 800 := h2
        omega
      have ba1 := ba1.same s19
      have ba2 := ba2.same s19
      have ba3 := ba3.same s19
      have c19 := s19 _ _ c18
      have s19H := s18H.trans s19
      obtain ⟨od1, ox1, o1, o1'⟩ := id ba1
      have l4 : (Str.ofString "Bag(").length = 4 := by decide +kernel
      have l1 : (Str.ofString ")").length = 1 := by decide +kernel
      refine ⟨_, rfl, one, ox1, _, rfl, o1, one, ds1, rfl, ba1, g1, rl, fun H20 s20 => ⟨_, rfl, _, rfl, _, rfl, by rw [et]; omega, _, _, rfl, rfl, by rw [et]; omega, _, _, rfl, rfl, by rw [append_len, et]; omega, rfl, _, rfl, iteE false (by rw [et]; simp) ?_⟩⟩
      refine iteF ?_
      have ba1 := ba1.same s20
      have ba2 := ba2.same s20
      have ba3 := ba3.same s20
      have c20 := s20 _ _ c19
      have s20H := s19H.trans s20
      obtain ⟨od1, ox1, o1, o1'⟩ := id ba1
      obtain ⟨od2, ox2, o2, o2'⟩ := id ba2
      obtain ⟨od3, ox3, o3, o3'⟩ := id ba3
      refine ⟨_, rfl, _, rfl, one, ox1, _, _, rfl, o1, Y.is_Bag.ty o2, nf_self _ _, one, .ref again, ds1, rfl, ba1, .inl ⟨again, ds2, rfl, ba2, _, rfl, _, rfl, iteE false (by show (!(sameC ds1 ds2)) = false; rw [same12]; rfl) (iteF ?_)⟩⟩
      refine ⟨_, rfl, _, rfl, one, ox1, _, _, rfl, o1, Y.is_Bag.ty o2, nf_self _ _, one, .ref again, ds1, rfl, ba1, .inl ⟨again, ds2, rfl, ba2, _, rfl, _, rfl, iteE false (by show (!(sameC ds1 ds2)) = false; rw [same12]; rfl) (iteF ?_)⟩⟩
      refine ⟨_, rfl, _, rfl, _, rfl, by rw [sz]; show (2 : Nat) ≤ _; omega, fun l hl => ⟨l, [.ref other, .ref again], fun i => decide (i = 1), rfl, .inl upd_same, fun i z hz => ?_, fun _ H21 s21 => ⟨_, rfl, iteE false rfl (iteF ?_)⟩, fun h => Bool.noConfusion (show true = false from h 1 (by show 1 < 2; omega))⟩⟩
      · have sl : Same H20 (upd H20 l (.lst [.ref other, .ref again])) := same_upd hl
        match i, hz with
        | 0, h =>
          cases h
          exact EqS.to (eqS_bag (met_Bag_eq Y) Y.is_Bag rfl (ba3.same sl) (ba1.same sl) ne13) no31
        | 1, h =>
          cases h
          exact EqS.to (eqS_bag (met_Bag_eq Y) Y.is_Bag rfl (ba2.same sl) (ba1.same sl) ne12) same21
        | k + 2, h => simp at h
      have sA : Same H20 H21 := (same_upd hl).trans s21
      have ba1 := ba1.same sA
      have ba2 := ba2.same sA
      have ba3 := ba3.same sA
      have c21 := sA _ _ c20
      have s21H := s20H.trans sA
      obtain ⟨od1, ox1, o1, o1'⟩ := id ba1
      obtain ⟨od2, ox2, o2, o2'⟩ := id ba2
      obtain ⟨od3, ox3, o3, o3'⟩ := id ba3
      refine ⟨_, rfl, _, rfl, one, ox1, _, _, rfl, o1, Y.is_Bag.ty o3, nf_self _ _, one, .ref other, ds1, rfl, ba1, .inl ⟨other, es, rfl, ba3, _, rfl, _, rfl, iteE false (by show sameC ds1 es = false; exact no13) (iteF ?_)⟩⟩
      refine ⟨_, rfl, _, rfl, one, ox1, _, _, rfl, o1, Y.is_Bag.ty o3, nf_self _ _, one, .ref other, ds1, rfl, ba1, .inl ⟨other, es, rfl, ba3, _, rfl, _, rfl, iteE false (by show (!(!(sameC ds1 es))) = false; rw [no13]; rfl) (iteF ?_)⟩⟩
      refine ⟨_, rfl, _, rfl, by rw [sz]; show (1 : Nat) ≤ _; omega, fun l2 hl2 => ⟨l2, [.ref other], fun _ => false, rfl, .inl upd_same, fun i z hz => ?_, fun ⟨_, _, h⟩ => Bool.noConfusion (show false = true from h), fun _ H22 s22 => ⟨_, rfl, iteE false rfl (iteF ?_)⟩⟩⟩
      · match i, hz with
        | 0, h =>
          cases h
          exact EqS.to (eqS_bag (met_Bag_eq Y) Y.is_Bag rfl (ba3.same (same_upd (o := .lst [.ref other]) hl2)) (ba1.same (same_upd hl2)) ne13) no31
        | k + 1, h => simp at h
      have sB : Same H21 H22 := (same_upd hl2).trans s22
      have ba1 := ba1.same sB
      have ba2 := ba2.same sB
      have ba3 := ba3.same sB
      have c22 := sB _ _ c21
      have s22H := s21H.trans sB
      refine ⟨_, rfl, _, rfl, _, rfl, by rw [sz]; show (2 : Nat) ≤ _; omega, fun t ht => ⟨t, [.ref one, .ref again], fun _ => false, rfl, .inr (SqT.of upd_same), fun i z hz => ?_, fun ⟨_, _, h⟩ => Bool.noConfusion (show false = true from h), fun _ H23 s23 => ⟨_, rfl, iteE false rfl (iteF ?_)⟩⟩⟩
      · have sl : Same H22 (upd H22 t (.tup [.ref one, .ref again])) := same_upd ht
        match i, hz with
        | 0, h =>
          cases h
          exact EqS.to (eqS_bag (met_Bag_eq Y) Y.is_Bag rfl (ba1.same sl) (ba3.same sl) ne13.symm) no13
        | 1, h =>
          cases h
          exact EqS.to (eqS_bag (met_Bag_eq Y) Y.is_Bag rfl (ba2.same sl) (ba3.same sl) ne23.symm) no23
        | k + 2, h => simp at h
      have sC : Same H22 H23 := (same_upd ht).trans s23
      have ba1 := ba1.same sC
      have ba2 := ba2.same sC
      have c23 := sC _ _ c22
      have s23H := s22H.trans sC
      refine ⟨_, rfl, by rw [sz]; show (2 : Nat) ≤ _; omega, fun t1 ht1 => ⟨_, rfl, by rw [sz]; show (2 : Nat) ≤ _; omega, fun t2 ht2 => ?_⟩⟩
      have s24 : Same H23 (upd (upd H23 t1 (.tup [.ref one, .int 1])) t2 (.tup [.ref again, .int 1])) := Same.upd (same_upd ht1) ht2
      have nt : t1 ≠ t2 := ne_of_none upd_same ht2
      refine ⟨t1, t2, [.ref one, .int 1], [.ref again, .int 1], rfl, rfl, SqT.of (by rw [upd_ne nt]; exact upd_same), SqT.of upd_same, rfl, fun i z z2 hz hz2 => ?_, fun H24 s24' => ⟨_, rfl, iteF ?_⟩⟩
      · match i, hz, hz2 with
        | 0, h, h2 =>
          cases h
          cases h2
          exact EqS.to (eqS_bag (met_Bag_eq Y) Y.is_Bag rfl (ba1.same s24) (ba2.same s24) ne12.symm) same12
        | 1, h, h2 =>
          cases h
          cases h2
          exact eqS_flat rfl rfl
        | k + 2, h, _ => simp at h
      have sD : Same H23 H24 := s24.trans s24'
      have ba1 := ba1.same sD
      have c24 := sD _ _ c23
      have s24H := s23H.trans sD
      obtain ⟨od1, ox1, o1, o1'⟩ := id ba1
      refine ⟨_, rfl, _, rfl, _, rfl, _, rfl, one, ox1, _, rfl, o1, one, ds1, rfl, ba1, g1, fun H25 s25 => ⟨_, rfl, sumC_nn g1.pos, by have := g1.sum; omega, ?_⟩⟩
      have c25 := s25 _ _ c24
      refine ⟨_, rfl, c, _, keysOf cs, rfl, .inl c25, keys_kvS cs, by unfold keysOf; rw [List.length_map]; omega, fun ys q2 hpm hs hq2 => ?_⟩
      refine ⟨_, rfl, by rw [sz]; show (1 : Nat) ≤ _; omega, fun t3 ht3 => ?_⟩
      refine ⟨by rw [sz]; show (6 : Nat) ≤ _; omega, fun l4' hl4 => ?_⟩
      have n23 : q2 ≠ t3 := ne_of_none upd_same ht3
      have sE : Same H24 (upd (upd (upd H25 q2 (.lst (ys.map V.str))) t3 (.tup [.str (textOf cs)])) l4' (.lst [.str (textOf cs), .ref c, .int (sumC ds1), .ref q2, .non, .ref t3])) := Same.upd (Same.upd (s25.trans (same_upd hq2)) ht3) hl4
      have ba1 := ba1.same sE
      have c26 := sE _ _ c24
      have q26 : (upd (upd (upd H25 q2 (.lst (ys.map V.str))) t3 (.tup [.str (textOf cs)])) l4' (.lst [.str (textOf cs), .ref c, .int (sumC ds1), .ref q2, .non, .ref t3])) q2 = some (.lst (ys.map V.str)) := (same_upd hl4) _ _ (by rw [upd_ne n23]; exact upd_same)
      have t26 : (upd (upd (upd H25 q2 (.lst (ys.map V.str))) t3 (.tup [.str (textOf cs)])) l4' (.lst [.str (textOf cs), .ref c, .int (sumC ds1), .ref q2, .non, .ref t3])) t3 = some (.tup [.str (textOf cs)]) := (same_upd hl4) _ _ upd_same
      refine ⟨l4', [.str (textOf cs), .ref c, .int (sumC ds1), .ref q2, .non, .ref t3], fun _ => false, rfl, .inl upd_same, fun i z hz => ?_, fun ⟨_, _, h⟩ => Bool.noConfusion (show false = true from h), fun _ H27 s27 => ⟨_, rfl, iteE false rfl (iteF ?_)⟩⟩
      · match i, hz with
        | 0, h => cases h; exact eqS_kind (met_Bag_eq Y) Y.is_Bag rfl (.str _) ba1
        | 1, h => cases h; exact eqS_kind (met_Bag_eq Y) Y.is_Bag rfl (.dK c26) ba1
        | 2, h => cases h; exact eqS_kind (met_Bag_eq Y) Y.is_Bag rfl (.int _) ba1
        | 3, h => cases h; exact eqS_kind (met_Bag_eq Y) Y.is_Bag rfl (.lst q26) ba1
        | 4, h => cases h; exact eqS_kind (met_Bag_eq Y) Y.is_Bag rfl .non ba1
        | 5, h => cases h; exact eqS_kind (met_Bag_eq Y) Y.is_Bag rfl (.tup t26) ba1
        | k + 6, h => simp at h
      have ba1 := ba1.same s27
      obtain ⟨od1, ox1, o1, o1'⟩ := id ba1
      refine ⟨_, rfl, _, rfl, one, ox1, _, .type "str", rfl, o1, .base (.str _), nf_str _, one, .str (textOf cs), ds1, rfl, ba1, .inr ⟨.type "str", .base (.str _), Y.is_Bag.no2 (by simp), _, rfl, _, rfl, iteE false rfl (iteF ?_)⟩⟩
      exact ⟨_, _, _, _, _, _, _, _, rfl, (s24H.trans sE).trans s27⟩
    · obtain ⟨y1, y2, y3, y4, y5, y6, y7, y8, rfl, s0⟩ := hp
      have g0 : GoodC [] := ⟨by simp, by simp [keysOf], (fun _ h => nomatch h), (fun _ h => nomatch h), by decide⟩
      refine fun b0 dxm hxm hdm _ => bag_made hxm hdm (by decide +kernel) eE fun H2 s2 ba0 => ⟨rfl, ?_⟩
      refine fun b1 dxm1 hxm1 hdm1 _ => bag_made hxm1 hdm1 (by decide +kernel) eE fun H3 s3 ba1 => ⟨rfl, ?_⟩
      have ba0 := ba0.same s3
      obtain ⟨od0, ox0, o0, o0'⟩ := id ba0
      obtain ⟨od1, ox1, o1, o1'⟩ := id ba1
      refine ⟨b0, ox0, _, _, rfl, o0, Y.is_Bag.ty o1, nf_self _ _, b0, .ref b1, [], rfl, ba0, .inl ⟨b1, [], rfl, ba1, _, rfl, _, rfl, iteE true rfl (iteT ?_)⟩⟩
      refine fun b2 dxm2 hxm2 hdm2 _ => bag_made hxm2 hdm2 (by decide +kernel) eE fun H4 s4 ba2 => ⟨rfl, ?_⟩
      obtain ⟨od2, ox2, o2, o2'⟩ := id ba2
      refine ⟨b2, ox2, _, rfl, o2, b2, [], rfl, ba2, g0, fun H5 s5 => ⟨0, rfl, by omega, by omega, _, rfl, _, rfl, iteE true rfl (iteT ?_)⟩⟩
      refine fun b3 dxm3 hxm3 hdm3 _ => bag_made hxm3 hdm3 (by decide +kernel) eE fun H6 s6 ba3 => ⟨rfl, ?_⟩
      obtain ⟨od3, ox3, o3, o3'⟩ := id ba3
      have t0 : textOf [] = Str.ofString "" := by
        unfold textOf
        rw [show srt (keysOf []) = [] from (srt_of (.refl _) (by decide +kernel)).symm]
        rfl
      refine ⟨b3, ox3, _, rfl, o3, b3, [], rfl, ba3, g0, by rw [t0]; decide +kernel, fun H7 s7 => ⟨_, rfl, rfl, ?_⟩⟩
      have er : Str.ofString "Bag(" ++ reprText (textOf []) ++ Str.ofString ")" = Str.ofString "Bag('')" := by
        rw [t0]
        decide +kernel
      rw [er, decide_eq_true rfl]
      exact k _
end
end Sk

set_option maxHeartbeats 0
namespace Sk
open PySem PySem.Spec PyProof.Rows L2

theorem facts {P : Program} {w : World} {K : PySem.W.Frag} {h : Heap} {mg : Str → Option Value} {f : Addr} (X : K.In h) (G : h.Ns mainGlobals mg) (hfa : mg ("law" : Str) = some (.ref f)) (c : He.SaysD fa fn K) (x : ex K = true) (hP : P = PySem.Challenge.pw_skinrooms_k03_bags_told) :
    ∃ fd : FuncData, (∀ (s : Shared) (v : Value), BindsTo s fd ⟨[v], []⟩ [("_law_script", v)]) ∧ ∀ base : Heap, K.In base → base.Ns mainGlobals mg → FnOk P w K mg base C8.CX0 12 f fd ["_law_script"] (spLaw K) := by
  have Y : Yes K mg := ⟨c, x, h, X, G⟩
  obtain ⟨fd, F⟩ := Y.f_law
  have e := hfa.symm.trans Y.g_law
  cases e
  have b := FunD.bindsA (ps := ["_law_script"]) F fun _ _ _ _ _ _ us hl => match us, hl with | [_], _ => rfl
  exact ⟨fd, fun s v => b s [v] rfl, fun base _ _ => ok_law Y F⟩
end Sk
open PySem PySem.W PySem.Calls PyProof.Rows
theorem PySem.Challenge.cw_skinrooms_k03_bags_told_holds : PySem.Challenge.rw_skinrooms_k03_bags_told.Holds := by
  w_on; o_law
  refine HandSHeadRun.head_any (r := OpenLaw.row PySem.Challenge.rw_skinrooms_k03_bags_told) (q := view (OpenLaw.row PySem.Challenge.rw_skinrooms_k03_bags_told).prog [20]) (H := Sk.hk) (ob := Sk.ob) (M := 6000) (loose := Sk.loose) (d := HandSHeadRun.topDef (OpenLaw.row PySem.Challenge.rw_skinrooms_k03_bags_told).prog 20) (kwd := []) Sk.ob_eq
    (by kernel_rfl) (fun s => by kernel_rfl) Sk.run (by kernel_rfl) (by kernel_rfl) (by kernel_rfl) (by rfl) (by first | assumption | decide +kernel) (by decide +kernel) ⟨rfl, rfl, rfl, rfl, rfl, by decide +kernel⟩ ?hw ?hc
  case hw => w_witness2
  case hc =>
    refine L2.walk_ofE (l := PySem.Challenge.rw_skinrooms_k03_bags_told) (n := 63) (k := 12) (x := "_law_script") (CX := C8.CX0) rfl (by decide) (by kernel_rfl) ⟨rfl, by decide, by decide⟩ ?F (fun _ _ _ _ z => z)
    intro w mg fa h Y G hmg0
    obtain ⟨K, KX, c, x⟩ := Y
    have hmg : mg ("law" : PySem.Str) = some (.ref fa) := by
      have e : (HandSHeadRun.topDef (OpenLaw.row PySem.Challenge.rw_skinrooms_k03_bags_told).prog 20).name = ("law" : PySem.Str) := by kernel_rfl
      rw [← e]
      exact hmg0
    obtain ⟨fd, hb, hF⟩ := Sk.facts (P := (PySem.Challenge.rw_skinrooms_k03_bags_told).prog) (w := w) KX G hmg c x rfl
    exact ⟨K, fd, Sk.spLaw K, KX, hb, fun H a ns hl _ hS => ⟨a, ns, rfl, hS, hl, fun _ => rfl⟩, hF⟩
