import PyProof.Rows.All
import Wide.All
import OpenK.AllK
import Wide.FinOn
import KE.KUnpackStar
import KE.KCallOwn
import KE.KFmtOwn
import HandS.ForMost
import HandS.Exc
import HandS.TryOnly
import HandS.ExcOwn
import HandS.WordsExc
import HandS.Codes
import HandS.Defaults
import HandS.IsInst
import HandS.OwnEq
import HandS.FStr
import HandS.Flow
import HandS.Style
import HandS.More
import HandS.Wide
import HandS.MakeKw
import HandS.MakeKwOnly
import HandS.DictComp
import HandS.DictEq
import HandS.Evl
import HandS.Head0
import HandS.Head1
import HandS.Head2
import HandS.HeadEnd
import HandS.HeadHook1
import HandS.HeadHook2
import HandS.Walk
import HandS.RaiseMore
import HandS.Sort
import KE.KExcInit
import KE.KExcIs
import HandS.ExcInit
import HandS.ExcField
import HandS.CallSlots
import HandS.HotCalls
import PyProof.SumWalkG
import HandS.Zip
import KE.GoesEnumKw
import HandS.HeadHook3
import HandS.HeadHook4
import KE.GoesMore
import HandS.SetKeys
import KE.GoesSet
import PyProof.SetRoads
import HandS.Set
import HandS.SetFor
import PyProof.Rows.SetFrom
import HandS.Text
import PyProof.Rows.SortShellAny
import KE.DataMinMax
import HandS.List
import PySem.Challenge.RW_skinrooms_k05_whole_bags_by_lists
set_option Elab.async false
set_option linter.all false
set_option maxRecDepth 100000
set_option maxHeartbeats 4000000
set_option maxHeartbeats 4000000
/-! Own rules over the hand layer: own methods called by str, len, ==, repr; a star in a target; facts of the head with one more look. -/
namespace Sk
open PySem PySem.Spec PyProof.Rows L2
/-! ### the hook: facts by names, and one more look -/
abbrev AlS : Type := He.AlD × Bool
def obsS (n : Nat) (fa : List He.Fa) (fn : List He.DefD) (ex : PySem.W.Frag → Bool) (g : Addr → Option Obj) : AlS := (He.obsDG n fa fn g, ex (He.frG g (He.asD g n)))
def valS (fn : List He.DefD) : AlS := (He.valD fn, true)
def hookS (n : Nat) (fa : List He.Fa) (fn : List He.DefD) (ex : PySem.W.Frag → Bool) : PySem.W.Hook where
  α := AlS
  obs := fun s => obsS n fa fn ex s.heap.get?
  val := fun _ => valS fn
  says := fun _ h => ∃ K : PySem.W.Frag, K.In h ∧ He.SaysD fa fn K ∧ ex K = true
  of := fun _ _ e => ⟨_, He.frG_in, congrArg (fun z : AlS => z.1) e, congrArg (fun z : AlS => z.2) e⟩
  keeps := fun _ _ _ ⟨K, hK, c⟩ k => ⟨K, PySem.W.Frag.In.keeps hK k, c⟩
theorem obsS_eq {n : Nat} {fa : List He.Fa} {fn : List He.DefD} {ex : PySem.W.Frag → Bool} {g : Addr → Option Obj} {s : Shared} (h : ∀ a, g a = s.heap.get? a) : obsS n fa fn ex g = (hookS n fa fn ex).obs s := by
  have e : g = s.heap.get? := funext h
  rw [e] <;> rfl
/-! ### isinstance with an own class -/
structure IsiC (K : PySem.W.Frag) (C : Addr) : Prop where
  cl : Cls K C
  ha : PySem.W.findIn K (.ref C) "__class__" = some (some (.builtin "object.__class__"))
  hn : PySem.W.specialIn K (.builtin "object.__class__") "__get__" = some (some (.builtin "getset_descriptor.__get__"))
  htk : PySem.W.takesIn K (.builtin "object.__class__") = some true
  hm : PySem.W.mroIn K C (.type "object") = some true
  me : PySem.W.kitOne K (.ref C) (.ref C) = some true
  no : ∀ T ∈ ["NoneType", "bool", "int", "str", "list", "tuple", "dict"], PySem.W.kitOne K (.type T) (.ref C) = some false
  ne : PySem.W.findIn K (.ref C) "__ne__" = some (some (.builtin "object.__ne__"))
  sub : ∀ T ∈ ["NoneType", "int", "str", "list", "tuple", "dict"], PySem.W.mroIn K C (.type T) = some false
  bl : PySem.W.findIn K (.ref C) "__bool__" = some none
def isiB (K : PySem.W.Frag) (C : Addr) : Bool :=
  He.eqO (PySem.W.findIn K (.ref C) "__class__") (some (some (.builtin "object.__class__"))) && (decide (PySem.W.specialIn K (.builtin "object.__class__") "__get__" = some (some (.builtin "getset_descriptor.__get__"))) &&
    (decide (PySem.W.takesIn K (.builtin "object.__class__") = some true) && (decide (PySem.W.mroIn K C (.type "object") = some true) && (decide (PySem.W.kitOne K (.ref C) (.ref C) = some true) &&
      ((["NoneType", "bool", "int", "str", "list", "tuple", "dict"].all fun T => decide (PySem.W.kitOne K (.type T) (.ref C) = some false)) && (He.eqO (PySem.W.findIn K (.ref C) "__ne__") (some (some (.builtin "object.__ne__"))) &&
        (["NoneType", "int", "str", "list", "tuple", "dict"].all (fun T => decide (PySem.W.mroIn K C (.type T) = some false)) && He.eqO (PySem.W.findIn K (.ref C) "__bool__") (some none))))))))
theorem isiB_ok {K : PySem.W.Frag} {C : Addr} (cl : Cls K C) (h : isiB K C = true) : IsiC K C := by
  obtain ⟨h1, h⟩ := He.ba h
  obtain ⟨h2, h⟩ := He.ba h
  obtain ⟨h3, h⟩ := He.ba h
  obtain ⟨h4, h⟩ := He.ba h
  obtain ⟨h5, h⟩ := He.ba h
  obtain ⟨h6, h⟩ := He.ba h
  obtain ⟨h7, h⟩ := He.ba h
  obtain ⟨h8, h9⟩ := He.ba h
  exact ⟨cl, He.eqO_ok h1, of_decide_eq_true h2, of_decide_eq_true h3, of_decide_eq_true h4, of_decide_eq_true h5, fun T hT => of_decide_eq_true (List.all_eq_true.mp h6 T hT), He.eqO_ok h7, fun T hT => of_decide_eq_true (List.all_eq_true.mp h8 T hT), He.eqO_ok h9⟩
theorem IsiC.ty {K : PySem.W.Frag} {C : Addr} (c : IsiC K C) {H : Hp} {a dx : Addr} {fs : List (Str × V)} (e : H a = some (.ins C dx fs)) : TyX K H (.ref a) (.ref C) := .base (TyOf.ins e c.cl c.ha c.hn c.htk c.hm)
/-! ### classes beside one another; defaults that are empty tuples -/
def crossB (K : PySem.W.Frag) (cs : List Str) : Bool := cs.all fun c => cs.all fun d => decide (c = d) ||
  (decide (PySem.W.kitOne K (.ref (He.ga K c)) (.ref (He.ga K d)) = some false) && decide (PySem.W.subIn K (.ref (He.ga K d)) (.ref (He.ga K c)) = some false))
structure Cross (K : PySem.W.Frag) (cs : List Str) : Prop where
  kit : ∀ c ∈ cs, ∀ d ∈ cs, c ≠ d → PySem.W.kitOne K (.ref (He.ga K c)) (.ref (He.ga K d)) = some false
  sub : ∀ c ∈ cs, ∀ d ∈ cs, c ≠ d → PySem.W.subIn K (.ref (He.ga K d)) (.ref (He.ga K c)) = some false
theorem crossB_ok {K : PySem.W.Frag} {cs : List Str} (h : crossB K cs = true) : Cross K cs := by
  have key : ∀ c ∈ cs, ∀ d ∈ cs, c ≠ d → PySem.W.kitOne K (.ref (He.ga K c)) (.ref (He.ga K d)) = some false ∧ PySem.W.subIn K (.ref (He.ga K d)) (.ref (He.ga K c)) = some false := fun c hc d hd n => by
    have q := List.all_eq_true.mp (List.all_eq_true.mp h c hc) d hd
    rcases Bool.or_eq_true_iff.mp q with q | q
    · exact absurd (of_decide_eq_true q) n
    · obtain ⟨q1, q2⟩ := He.ba q
      exact ⟨of_decide_eq_true q1, of_decide_eq_true q2⟩
  exact ⟨fun c hc d hd n => (key c hc d hd n).1, fun c hc d hd n => (key c hc d hd n).2⟩
theorem Cross.inj {K : PySem.W.Frag} {cs : List Str} (x : Cross K cs) {c d : Str} (hc : c ∈ cs) (hd : d ∈ cs) (e : He.ga K c = He.ga K d) : c = d := by
  by_cases n : c = d
  · exact n
  · have := x.kit c hc d hd n
    rw [e] at this
    simp [PySem.W.kitOne] at this
/-- the keyword default x of the def at f, if it is an object -/
def kwAt (f : Str × Option Str) (x : Str) (K : PySem.W.Frag) : Addr := match K.lookup (He.fAd K f) with
  | some ⟨_, _, .func fd, _⟩ => (match fd.kwdefaults with
    | .ref D => (match PySem.W.nsIn K D x with
      | some (some (.ref a)) => a
      | _ => 0)
    | _ => 0)
  | _ => 0
def empTB (K : PySem.W.Frag) (a : Addr) : Bool := match K.lookup a with
  | some ⟨c, _, .seq its _, _⟩ => (c == .type "tuple") && its.isEmpty
  | _ => false
theorem empTB_ok {K : PySem.W.Frag} {a : Addr} (h : empTB K a = true) (H : Hp) : SqT K H a [] := by
  unfold empTB at h
  split at h
  · rename_i c d its n sl e
    obtain ⟨h1, h2⟩ := He.ba h
    have e2 : its.toList = [] := by simpa using h2
    exact .inr ⟨_, its, n, e, beq_iff_eq.mp h1, rfl, by simpa [Array.isEmpty_iff.mp h2] using Nat.zero_le _, by rw [e2]; exact .nil⟩
  · cases h
/-! ### calls by what stands behind a name -/
section
variable {P : Program} {w : World} {K : PySem.W.Frag} {mg : Str → Option Value} {base : Heap}
theorem calD {x qual : Str} {params : Arguments} {body : List Stmt} {scope : Scope} {f : Addr} {fd : FuncData} {N ps : List Str} {k : Nat} {sp : Sp} (F : FunD K x qual params body scope [] [] f fd) (hm : mg x = some (.ref f)) (S : FnScope N ps scope)
    (hb : ∀ (kV doc pm : Value) (an : Option Addr) (cdv ct : Value) (us : List Value), us.length = ps.length → bindArgs (PySem.W.fnOf x qual params body scope .none kV doc pm an cdv ct) ⟨us, []⟩ = pure (ps.zip us))
    (len : ∀ vs H Q E, sp vs H Q E → vs.length = ps.length)
    (hbody : ∀ (cdv : Value) (A : Around) (outer : List Env) (s : Shared) (H : Hp) (vs : List V) (Q : VK) (E : XK), Room k (A.deeper (envOfC qual scope s.heap.objs.size f cdv)) → sp vs H Q E →
      ∃ t, PSs (cxOf C8.CX0 P w K mg base N qual scope f cdv A outer s H E).nox body t ∧ t { nx := fun _ H' => Q .non H', rt := Q } (start N vs) H) : C8.Cal P w K mg base (k + 1) x sp [] :=
  ⟨f, fd, ps, [], F.ok S len fun cdv A outer s H vs Q E hr hsp => let ⟨t, h, q⟩ := hbody cdv A outer s H vs Q E hr hsp; ⟨t, h.nox, q⟩, hm, F.kp, F.bindsN hb, .nil⟩
theorem metD {m qual : Str} {C : Addr} {params : Arguments} {body : List Stmt} {scope : Scope} {f : Addr} {fd : FuncData} {N ps : List Str} {k : Nat} {sp : Sp} (c : Cls K C) (me : Meth K C m f) (F : FunD K m qual params body scope [] [] f fd) (S : FnScope N ps scope)
    (hb : ∀ (kV doc pm : Value) (an : Option Addr) (cdv ct : Value) (us : List Value), us.length = ps.length → bindArgs (PySem.W.fnOf m qual params body scope .none kV doc pm an cdv ct) ⟨us, []⟩ = pure (ps.zip us))
    (len : ∀ vs H Q E, sp vs H Q E → vs.length = ps.length)
    (hbody : ∀ (cdv : Value) (A : Around) (outer : List Env) (s : Shared) (H : Hp) (vs : List V) (Q : VK) (E : XK), Room k (A.deeper (envOfC qual scope s.heap.objs.size f cdv)) → sp vs H Q E →
      ∃ t, PSs (cxOf C8.CX0 P w K mg base N qual scope f cdv A outer s H E).nox body t ∧ t { nx := fun _ H' => Q .non H', rt := Q } (start N vs) H) : C8.Met P w K mg base (k + 1) C m sp [] :=
  ⟨f, fd, ps, [], c, me, F.ok S len fun cdv A outer s H vs Q E hr hsp => let ⟨t, h, q⟩ := hbody cdv A outer s H vs Q E hr hsp; ⟨t, h.nox, q⟩, F.bindsN hb, .nil⟩
theorem fnD0 {x qual : Str} {params : Arguments} {body : List Stmt} {scope : Scope} {dvs : List V} {kws : List (Str × V)} {f : Addr} {fd : FuncData} {N ps : List Str} {k : Nat} {sp : Sp} (F : FunD K x qual params body scope dvs kws f fd) (S : FnScope N ps scope)
    (len : ∀ vs H Q E, sp vs H Q E → vs.length = ps.length)
    (hbody : ∀ (cdv : Value) (A : Around) (outer : List Env) (s : Shared) (H : Hp) (vs : List V) (Q : VK) (E : XK), Room k (A.deeper (envOfC qual scope s.heap.objs.size f cdv)) → sp vs H Q E →
      ∃ t, PSs (cxOf C8.CX0 P w K mg base N qual scope f cdv A outer s H E).nox body t ∧ t { nx := fun _ H' => Q .non H', rt := Q } (start N vs) H) : FnOk P w K mg base C8.CX0 (k + 1) f fd ps sp :=
  F.ok S len fun cdv A outer s H vs Q E hr hsp => let ⟨t, h, q⟩ := hbody cdv A outer s H vs Q E hr hsp; ⟨t, h.nox, q⟩
end
section
variable {X : Cx} {k j : Nat} {C : Addr} {x m : Str} {sp : Sp} {dvs : List V} {p pos apos : Pos} {e o : Expr} {es : List Expr} {ta : TE} {t : TA}
theorem pe_c0 (c : C8.Cal X.prog X.w X.K X.mg X.base k x sp dvs) (hr : Room j X.A) (hk : k ≤ j) (hg : Gl X x) (hdb : (x == ("__debug__" : Str)) = false := by decide) :
    PE X (.Call (.Name x p) [] [] pos) (tCall sp dvs C8.E0 tNil) := by
  obtain ⟨f, fd, ps, ds, F, hm, kp, b, d⟩ := c.ex
  exact pe_call0 F (hr.mono hk) hg hm kp b d C8.pass0 hdb
theorem pe_mk0 (c : C8.Mak X.prog X.w X.K X.mg X.base k x C sp dvs) (hr : Room j X.A) (hk : k + 1 ≤ j) (hg : Gl X x) (hdb : (x == ("__debug__" : Str)) = false := by decide) :
    PE X (.Call (.Name x p) [] [] pos) (tMake C sp dvs C8.E0 tNil) := by
  obtain ⟨f, fd, ps, ds, M, F, hm, b, d⟩ := c.ex
  exact pe_make0 M F (hr.mono hk) hg hm b d C8.pass0 hdb
/-! ### own methods by built-in words -/
theorem vals_ref (a : Addr) : Vals [V.ref a] [Value.ref a] := .cons (show RelV (V.ref a) (Value.ref a) from rfl) .nil
/-- a method called from a place below the running body -/
theorem run_met {n : Nat} {A : Around} (c : C8.Met X.prog X.w X.K X.mg X.base n C m sp []) (sb : Sub X n A) {pins : List (Addr × Obj)} {s : Shared} {σ : L2.St} {H : Hp} {vs : List V} {us : List Value} {Q : VK} (I : Inv X pins σ H s) (r : Vals vs us) (h : sp vs H Q C8.E0) :
    ∃ f, Meth X.K C m f ∧ wpAny (model X.prog X.w) A (call (.ref f) us) (EP X pins σ Q) X.xe s := by
  obtain ⟨f, fd, ps, ds, hc, hm, F, hb, hd⟩ := c.ex
  cases hd
  refine ⟨f, hm, ?_⟩
  have e0 : Env0 X.prog X.w X.K X.mg X.base A X.stack s H := by
    have e := I.env0
    exact ⟨by rw [sb.fr]; exact e.frames, e.mod, e.bs, e.bsz, e.funs, e.frf, e.hok, e.bare⟩
  have hl : us.length = ps.length := r.length.symm.trans (F.len _ _ _ _ h)
  refine wpAny_call (codeAny_mono (F.run A X.stack s H ⟨us, []⟩ us vs Q C8.E0 sb.room e0 (by
    have := hb s us I.kIn (by simpa using hl)
    simpa using this) r h) fun r s' hq => ?_)
  cases r with
  | error e => exact hq.elim
  | ok fl =>
    cases fl with
    | ret u => exact I.after hq
    | next => exact False.elim hq
    | brk => exact False.elim hq
    | cont => exact False.elim hq
theorem met_cls {n : Nat} (c : C8.Met X.prog X.w X.K X.mg X.base n C m sp []) : Cls X.K C := let ⟨_, _, _, _, hc, _⟩ := c.ex; hc
theorem sub_in1 {n : Nat} (hr : Room (n + 1) X.A) : Sub X n X.A.in1 := Sub.in1 ⟨hr, rfl⟩
/-- len(o) by the class's own __len__ -/
def rLenOwn (C : Addr) (sp : Sp) : List V → Hp → VK → Prop := fun xs H Q => ∃ a dx fs, xs = [.ref a] ∧ H a = some (.ins C dx fs) ∧ sp [.ref a] H (fun v H' => ∃ n : Int, v = .int n ∧ 0 ≤ n ∧ n < 2 ^ 63 ∧ Q (.int n) H') C8.E0
theorem call_lenOwn {n : Nat} (c : C8.Met X.prog X.w X.K X.mg X.base n C "__len__" sp []) (hr : Room (n + 1) X.A) : CallR X (.builtin "len") (rLenOwn C sp) := by
  intro pins s σ H xs us Q I r h
  obtain ⟨a, dx, fs, rfl, ha, h⟩ := h
  obtain ⟨u, rfl, ru⟩ := vals1 r
  cases ru
  obtain ⟨mA, O, _⟩ := ins_get I.hok ha
  obtain ⟨od, J, _⟩ := O.look
  obtain ⟨m, hF⟩ := I.fr
  obtain ⟨f, hm, q⟩ := run_met c (sub_in1 hr) I (vals_ref a) h
  refine PySem.W.len_K hF I.ok.mod.kin J hm.at_ hm.fn (thn q fun v s1 hv => ?_)
  obtain ⟨z, H', I', rz, i, rfl, h0, h1, hq⟩ := hv
  obtain ⟨t, rfl⟩ := rz
  exact ⟨⟨h0, h1⟩, .int i, H', I'.tok _, ⟨_, rfl⟩, hq⟩
/-- str(o) by the class's own __str__ -/
def rStrOwn (C : Addr) (sp : Sp) : List V → Hp → VK → Prop := fun xs H Q => ∃ a dx fs, xs = [.ref a] ∧ H a = some (.ins C dx fs) ∧ sp [.ref a] H (fun v H' => ∃ z : Str, v = .str z ∧ Q (.str z) H') C8.E0
theorem call_strOwn {n : Nat} (c : C8.Met X.prog X.w X.K X.mg X.base n C "__str__" sp []) (hr : Room (n + 2) X.A) : CallR X (.type "str") (rStrOwn C sp) := by
  intro pins s σ H xs us Q I r h
  obtain ⟨a, dx, fs, rfl, ha, h⟩ := h
  obtain ⟨u, rfl, ru⟩ := vals1 r
  cases ru
  obtain ⟨mA, O, _⟩ := ins_get I.hok ha
  obtain ⟨od, J, _⟩ := O.look
  have sb : Sub X n X.A.in1.in1 := Sub.in1 (sub_in1 hr)
  obtain ⟨f, hm, q⟩ := run_met c sb I (vals_ref a) h
  refine PySem.W.kso_call sb.room.units0 I.kIn J hm.at_ hm.fn (thn q fun v s1 hv => ?_)
  obtain ⟨z, H', I', rz, i, rfl, hq⟩ := hv
  obtain ⟨t, rfl⟩ := rz
  exact ⟨.str i, H', I', ⟨_, rfl⟩, hq⟩
/-- repr(o) by the class's own __repr__ -/
theorem call_reprOwn {n : Nat} (c : C8.Met X.prog X.w X.K X.mg X.base n C "__repr__" sp []) (hr : Room (n + 1) X.A) : CallR X (.builtin "repr") (rStrOwn C sp) := by
  intro pins s σ H xs us Q I r h
  obtain ⟨a, dx, fs, rfl, ha, h⟩ := h
  obtain ⟨u, rfl, ru⟩ := vals1 r
  cases ru
  obtain ⟨mA, O, _⟩ := ins_get I.hok ha
  obtain ⟨od, J, _⟩ := O.look
  obtain ⟨m, hF⟩ := I.fr
  have sb := sub_in1 (n := n) hr
  obtain ⟨f, hm, q⟩ := run_met c sb I (vals_ref a) h
  refine PySem.W.repr_K sb.room.units0 hF I.ok.mod.kin J hm.at_ hm.fn (thn q fun v s1 hv => ?_)
  obtain ⟨z, H', I', rz, i, rfl, hq⟩ := hv
  obtain ⟨t, rfl⟩ := rz
  exact ⟨.str i, H', I', ⟨_, rfl⟩, hq⟩
end
end Sk

set_option maxHeartbeats 4000000
/-! More own rules: a star in a target, text times a number, == of dicts of ints, comprehensions that only add. -/
namespace Sk
open PySem PySem.Spec PyProof.Rows L2
theorem ns_only' {h : Heap} {L : Addr} {m m' : Str → Option Value} (x : h.Ns L m) (y : h.Ns L m') : m = m' := x.eq_nsMap.trans y.eq_nsMap.symm
theorem iteDT {c A B : Prop} [Decidable c] (hc : c) (h : A) : if decide c = true then A else B := by
  rw [decide_eq_true hc]
  exact iteT h
theorem iteDF {c A B : Prop} [Decidable c] (hc : ¬ c) (h : B) : if decide c = true then A else B := by
  rw [decide_eq_false hc]
  exact iteF h
theorem iteE {b : Bool} {A B : Prop} (b' : Bool) (e : b = b') (h : if b' = true then A else B) : if b = true then A else B := by
  rw [e]
  exact h
theorem iteB {b : Bool} {A B : Prop} (h1 : b = true → A) (h2 : b = false → B) : if b = true then A else B := by
  cases b with
  | true => exact h1 rfl
  | false => exact h2 rfl
/-! ### heaps -/
theorem same_upd {H : Hp} {p : Addr} {o : HO} (h : H p = none) : Same H (upd H p o) := fun b x e => by
  rw [upd_ne (ne_of_none e h)]
  exact e
theorem Same.upd {H H1 : Hp} {p : Addr} {o : HO} (e : Same H H1) (h : H1 p = none) : Same H (L2.upd H1 p o) := e.trans (same_upd h)
/-- an object that H does not know may change -/
theorem Same.mut {H H1 : Hp} {p : Addr} {o : HO} (e : Same H H1) (h : H p = none) : Same H (L2.upd H1 p o) := fun b x q => by
  rw [upd_ne (ne_of_none q h)]
  exact e b x q
theorem Same.seqT {K : PySem.W.Frag} {H H' : Hp} {a : Addr} {xs : List V} (e : Same H H') (h : SqT K H a xs) : SqT K H' a xs :=
  h.elim (fun h => .inl (h.elim (fun h => .inl (e _ _ h)) fun ⟨o, h⟩ => .inr ⟨o, e _ _ h⟩)) fun h => .inr h
/-- all but what stands at d is as it was -/
def But (d : Addr) (H H' : Hp) : Prop := ∀ b o, b ≠ d → H b = some o → H' b = some o
theorem But.refl (d : Addr) (H : Hp) : But d H H := fun _ _ _ h => h
theorem But.trans {d : Addr} {H H1 H2 : Hp} (a : But d H H1) (b : But d H1 H2) : But d H H2 := fun c o n h => b c o n (a c o n h)
theorem But.of {d : Addr} {H H1 : Hp} (a : Same H H1) : But d H H1 := fun c o _ h => a c o h
theorem But.upd {d : Addr} {H H1 : Hp} {o : HO} (a : But d H H1) : But d H (L2.upd H1 d o) := fun c u n h => by
  rw [upd_ne n]
  exact a c u n h
theorem But.new {d p : Addr} {H H1 : Hp} {o : HO} (a : But d H H1) (h : H1 p = none) : But d H (L2.upd H1 p o) := fun c u n e => by
  have := a c u n e
  rw [upd_ne (ne_of_none this h)]
  exact this
theorem But.none {d p : Addr} {H H1 : Hp} (a : But d H H1) (hd : ∃ o, H1 d = some o) (h : H1 p = none) : H p = none := by
  cases e : H p with
  | none => rfl
  | some o =>
    by_cases n : p = d
    · subst n
      obtain ⟨o', ho⟩ := hd
      rw [ho] at h
      cases h
    · rw [a p o n e] at h
      cases h
theorem obj_there {P : Program} {w : World} {H : Hp} {h : Heap} {a : Addr} {o : HO} (x : ObjOk P w H h a o) : ∃ u, h.get? a = some u := by
  induction o with
  | lst xs => obtain ⟨_, _, _, _, e⟩ := x; exact ⟨_, e⟩
  | tup xs => obtain ⟨_, _, _, _, e, _⟩ := x; exact ⟨_, e⟩
  | dK kvs => obtain ⟨_, _, _, _, _, _, _, e, _⟩ := x; exact ⟨_, e⟩
  | dT kvs => obtain ⟨_, _, _, _, _, _, _, e, _⟩ := x; exact ⟨_, e⟩
  | set S n => obtain ⟨_, _, _, _, e, _⟩ := x; exact ⟨_, e⟩
  | ins C dx fs => obtain ⟨_, _, _, e, _⟩ := x; exact ⟨_, e⟩
  | own y => exact x
  | xd fs => obtain ⟨_, ⟨_, _, _, e, _⟩, _⟩ := x; exact ⟨_, e⟩
  | rng lo hi => obtain ⟨_, _, _, e⟩ := x; exact ⟨_, e⟩
  | frz ob u ih => exact ⟨_, x.1⟩
  | tbl ps => exact ⟨_, (show h.get? a = some _ from x)⟩
  | met f y => exact ⟨_, (show h.get? a = some _ from x)⟩
  | ext φ => exact x.2.1
section
variable {X : Cx} {pins : List (Addr × Obj)} {σ : L2.St} {H : Hp} {s : Shared}
/-- behind a rule of the ledger that made one object more -/
theorem inv_made {h' : Heap} {tk : Nat} {D : Addr} {ob : Obj} {o : HO} {m : Str → Option Value} (I : Inv X pins σ H s) (F : Fr X.base X.env.locals s.heap m) (F' : Fr X.base X.env.locals h' m)
    (N' : News X.base X.env.locals h' ((D, ob) :: allNews X.base s.heap X.env.locals)) (lt : ∀ p ∈ allNews X.base s.heap X.env.locals, p.1 < D) (new : ObjOk X.prog X.w (upd H D o) h' D o) :
    H D = none ∧ Inv X pins σ (upd H D o) { s with heap := h', toks := tk } := by
  obtain ⟨eD, nL, nB⟩ := N' (D, ob) List.mem_cons_self
  have gone : s.heap.get? D = none := by
    cases e : s.heap.get? D with
    | none => rfl
    | some u => exact absurd (lt (D, u) (mem_allNews nL nB e)) (Nat.lt_irrefl _)
  have hD : H D = none := by
    cases e : H D with
    | none => rfl
    | some u =>
      obtain ⟨v, q⟩ := obj_there (I.hok D u e)
      rw [gone] at q
      cases q
  have keep : ∀ b u, b ≠ X.env.locals → s.heap.get? b = some u → h'.get? b = some u := fun b u n e => by
    cases q : X.base.get? b with
    | some v =>
      have z := I.bk b v q
      rw [e] at z
      cases z
      exact F'.keep b _ q
    | none => exact (N' (b, u) (List.mem_cons_of_mem _ (mem_allNews n q e))).1
  have neD : ∀ b u, s.heap.get? b = some u → b ≠ D := fun b u e z => by
    rw [z, gone] at e
    cases e
  refine ⟨hD, I.step (g' := s.gens) (d' := s.drawn) (ch := []) (fun _ z => nomatch z) (fun b u n _ _ e _ => keep b u n e) (fun b u n _ _ e _ => ⟨u.slots, keep b u n e⟩) (fun b u _ e n => by rw [upd_ne (neD b u e)]; exact n) (fun b u _ e => ?_)
    (fun b xs e => by rw [upd_ne (ne_of_none e hD)]; exact e) (fun b u xs e => by rw [upd_ne (ne_of_none e hD)]; exact e) (fun b ps e => ⟨#[], by rw [upd_ne (ne_of_none e hD), e]; simp⟩) (fun m' hm => ?_) (fun b u e => ?_) I.bare⟩
  · by_cases n : b = X.env.locals
    · obtain ⟨v, _, _, q, _⟩ := F'.ns
      exact ⟨v, by rw [n]; exact q⟩
    · exact ⟨u, keep b u n e⟩
  · rw [ns_only' hm F.ns]
    exact F'.ns
  · by_cases n : b = D
    · subst n
      rw [upd_same] at e
      cases e
      exact new
    · rw [upd_ne n] at e
      refine (I.hok b u e).stay (fun c v hc q => keep c v (fun z => ?_) q) (fun c q => by rw [upd_ne (ne_of_none q hD)]; exact q) fun c xs q => by rw [upd_ne (ne_of_none q hD)]; exact q
      subst z
      rcases hc with z | z
      · rw [← z] at e
        rw [I.free] at e
        cases e
      · rw [I.free] at z
        cases z
/-! ### a, *b = a list -/
def gStar2 (K : PySem.W.Frag) (t : TGs) : TG := fun v σ H Q => ∃ a x rest, v = .ref a ∧ SqL K H a (x :: rest) ∧ rest.length ≤ 16000 ∧ ∀ D, H D = none → t [x, .ref D] σ (upd H D (.lst rest)) Q
theorem pgs_consS {e : Expr} {es : List Expr} {t : TG} {u : TGs} {p : Pos} (h1 : PG X e t) (h2 : PGs X es u)
    (hs : (assignEach (.Starred e p :: es) X.env).map (·.2) = assign e X.env :: (assignEach es X.env).map (·.2) := by rfl) : PGs X (.Starred e p :: es) (gCons t u) := by
  refine ⟨fun pins s σ H vs us Q I r h => ?_⟩
  obtain ⟨v, vr, e1, h⟩ := h
  subst e1
  cases r with
  | cons r rr =>
    rw [hs]
    refine assignInOrder_cons (thn (h1.run pins s σ H _ _ _ I r h) fun _ s1 ⟨σ1, H1, I1, q1⟩ => ?_)
    exact h2.run pins s1 σ1 H1 _ _ Q I1 rr q1
theorem pg_star2 {es : List Expr} {k : Nat} {t : TGs} {pos : Pos} (hc : X.calm = true) (h : PGs X es t)
    (hn : (assignEach es X.env).length = 2 := by rfl) (hst : (assignEach es X.env).findIdx? (·.1) = some 1 := by rfl) : PG X (.Tuple es k pos) (gStar2 X.K t) := by
  refine ⟨fun pins s σ H v u Q I r hw => ?_⟩
  obtain ⟨a, x, rest, e1, hq, hl, hw⟩ := hw
  subst e1
  cases r
  obtain ⟨its, rv, ht, hz⟩ := I.list hq
  obtain ⟨m, hF⟩ := I.fr
  cases rv with
  | cons rx rr =>
    rename_i u0 us
    have el := rr.length
    refine PySem.W.kun_assignL (n := 2) (i := 1) (first := [u0]) (mids := us) (lasts := []) hF (news_all (h := s.heap)) ht.isList (I.ok.hd hc) hn hst (by decide) (by simp) (by simp only [List.size_toArray, List.length_cons] <;> omega) rfl (by simp) (by simp) (fun D h' tk F' N' hlt => ?_)
    obtain ⟨hD, I1⟩ := inv_made (tk := tk) (o := .lst rest) I hF F' N' hlt ⟨by rw [sizeLine_eq]; omega, us, 0, rr, (N' _ List.mem_cons_self).1⟩
    exact h.run pins _ σ _ _ _ Q I1 (.cons rx (.cons (show RelV (V.ref D) (Value.ref D) from rfl) .nil)) (hw D hD)
/-! ### text * number -/
theorem op_mul_str : OpR X (binaryOp .Mult) (fun x y H Q => ∃ z n, x = .str z ∧ y = .int n ∧ 0 ≤ n ∧ n ≤ 1000 ∧ z.length ≤ 16000 ∧ Q (.str (Txt.mul z n)) H) := by
  intro pins s σ H x y v u Q I rx ry h
  obtain ⟨z, n, rfl, rfl, h0, h1, hz, q⟩ := h
  obtain ⟨t, rfl⟩ := rx
  obtain ⟨t', rfl⟩ := ry
  refine SB.mul ⟨?_, fun _ _ => ?_, fun _ _ => ?_⟩ fun t' k => ⟨.str _, H, I.tok _, ⟨_, rfl⟩, q⟩
  · rw [decide_eq_false (by omega), decide_eq_false (by omega)]
    rfl
  · have e : (16000 : Int) ≤ (2 ^ 63 - 1) / n := by
      rw [Int.le_ediv_iff_mul_le (by omega)]
      omega
    omega
  · have e : z.length * n.toNat ≤ 16000 * 1000 := Nat.mul_le_mul hz (by omega)
    show decide (_ > sizeLine) = false
    exact decide_eq_false (by rw [sizeLine_eq]; omega)
end
/-! ### dicts of whole numbers, by texts -/
def kvS (cs : List (Str × Int)) : List (Key × V) := cs.map fun p => (Sum.inr p.1, V.int p.2)
def look (cs : List (Str × Int)) (n : Str) : Option Int := (cs.find? fun p => decide (p.1 = n)).map (·.2)
theorem valV_kvS (cs : List (Str × Int)) (n : Str) : valV (kvS cs) (Sum.inr n) = (look cs n).map V.int := by
  induction cs with
  | nil => rfl
  | cons p r ih =>
    by_cases e : p.1 = n
    · simp [kvS, look, valV, e]
    · have h1 : ¬ (Sum.inr p.1 : Key) = Sum.inr n := fun q => e (Sum.inr.inj q)
      show valV ((Sum.inr p.1, V.int p.2) :: kvS r) (Sum.inr n) = _
      rw [valV_neg h1, ih]
      simp [look, e]
theorem look_cons (p : Str × Int) (r : List (Str × Int)) (n : Str) : look (p :: r) n = if p.1 = n then some p.2 else look r n := by
  by_cases e : p.1 = n
  · simp [look, e]
  · simp [look, e]
def put (cs : List (Str × Int)) (n : Str) (c : Int) : List (Str × Int) := if (cs.any fun p => decide (p.1 = n)) = true then cs.map fun p => if p.1 = n then (p.1, c) else p else cs ++ [(n, c)]
theorem putK_kvS (cs : List (Str × Int)) (n : Str) (c : Int) : putK (kvS cs) (Sum.inr n) (V.int c) = kvS (put cs n c) := by
  have key : ∀ p : Str × Int, decide ((Sum.inr p.1 : Key) = Sum.inr n) = decide (p.1 = n) := fun p => decide_eq_decide.mpr ⟨fun e => Sum.inr.inj e, fun e => by rw [e]⟩
  have e1 : ((kvS cs).any fun kv => decide (kv.1 = (Sum.inr n : Key))) = cs.any fun p => decide (p.1 = n) := by
    unfold kvS
    rw [List.any_map]
    exact congrArg cs.any (funext key)
  unfold putK put
  rw [e1]
  split
  · unfold kvS
    rw [List.map_map, List.map_map]
    refine List.map_congr_left fun p _ => ?_
    show (if (Sum.inr p.1 : Key) = Sum.inr n then _ else _) = _
    by_cases e : p.1 = n
    · rw [if_pos (by rw [e])]
      simp [e]
    · rw [if_neg fun q => e (Sum.inr.inj q)]
      simp [e]
  · unfold kvS
    rw [List.map_append]
    rfl
theorem length_put (cs : List (Str × Int)) (n : Str) (c : Int) : (put cs n c).length ≤ cs.length + 1 := by
  unfold put
  split
  · rw [List.length_map]
    omega
  · simp
theorem look_put (cs : List (Str × Int)) (n m : Str) (c : Int) : look (put cs n c) m = if m = n then some c else look cs m := by
  have h := valV_put (kvS cs) (Sum.inr n) (Sum.inr m) (V.int c)
  rw [putK_kvS, valV_kvS, valV_kvS] at h
  by_cases e : m = n
  · subst e
    rw [if_pos rfl] at h
    rw [if_pos rfl]
    cases q : look (put cs m c) m with
    | none => rw [q] at h; cases h
    | some z =>
      rw [q] at h
      injection h with h
      injection h with h
      rw [h]
  · rw [if_neg fun q => e (Sum.inr.inj q)] at h
    rw [if_neg e]
    cases q : look (put cs n c) m with
    | none =>
      rw [q] at h
      cases q2 : look cs m with
      | none => rfl
      | some z => rw [q2] at h; cases h
    | some z =>
      rw [q] at h
      cases q2 : look cs m with
      | none => rw [q2] at h; cases h
      | some y =>
        rw [q2] at h
        injection h with h
        injection h with h
        rw [h]
theorem dget_kv {H : Hp} {d : Addr} {cs : List (Str × Int)} (n : Str) (h : H d = some (.dK (kvS cs))) : DGet H d (.str n) ((look cs n).map V.int) := by
  have := DGet.k (k := Sum.inr n) h
  rw [valV_kvS] at this
  exact this
theorem dget_f {H : Hp} {d : Addr} {o : Obj} {cs : List (Str × Int)} (n : Str) (h : H d = some (.frz o (.dK (kvS cs)))) : DGet H d (.str n) ((look cs n).map V.int) := by
  rw [← valV_kvS]
  exact .inl ⟨kvS cs, Sum.inr n, .inr ⟨o, h⟩, rfl, rfl⟩
theorem dput_kv {H : Hp} {d : Addr} {cs : List (Str × Int)} (n : Str) (c : Int) (h : H d = some (.dK (kvS cs))) (hl : cs.length < 16000) : DPut H d (.str n) (.int c) (upd H d (.dK (kvS (put cs n c)))) := by
  have := DPut.k (k := Sum.inr n) (v := V.int c) h (by rw [sizeLine_eq]; unfold kvS; rw [List.length_map]; omega)
  rw [putK_kvS] at this
  exact this
theorem getD_kv (o : Option Int) (d : Int) : (o.map V.int).getD (.int d) = .int (o.getD d) := by cases o <;> rfl
section
variable {X : Cx}
theorem hits_ints {A : Around} {s : Shared} {ls : List (Str × Int)} {vb : List (Key × Value)} (rb : KV (kvS ls) vb) : ∀ {ks : List (Str × Int)} {va : List (Key × Value)}, KV (kvS ks) va →
    PySem.W.KeqHits A s vb va (ks.all fun p => decide (look ls p.1 = some p.2))
  | [], va, ra => by
    cases ra
    exact .nil
  | p :: ks, va, ra => by
    have ra' : KV ((Sum.inr p.1, V.int p.2) :: kvS ks) va := ra
    cases ra' with
    | @cons _ q _ qs h t =>
      obtain ⟨k, v⟩ := q
      obtain ⟨h1, h2⟩ := h
      have h1 : (Sum.inr p.1 : Key) = k := h1
      subst h1
      obtain ⟨tv, rfl⟩ := h2
      have ih := hits_ints (A := A) (s := s) rb (ks := ks) t
      have rr : RelO (valV (kvS ls) (Sum.inr p.1)) (valueAt vb (Sum.inr p.1)) := rb.val _
      rw [valV_kvS] at rr
      rw [List.all_cons]
      cases e : look ls p.1 with
      | none =>
        rw [e] at rr
        cases ev : valueAt vb (Sum.inr p.1) with
        | none =>
          rw [decide_eq_false (fun z => nomatch z), Bool.false_and]
          exact .miss ev
        | some y =>
          rw [ev] at rr
          exact rr.elim
      | some z =>
        rw [e] at rr
        obtain ⟨y, hy, ry⟩ := RelO.some_of rr
        have q := eqAt_V (A := A) (s := s) (show RelV (V.int p.2) (Value.int p.2 tv) from ⟨tv, rfl⟩) ry rfl rfl
        have eb : eqV (V.int p.2) (V.int z) = decide (some z = some p.2) := by
          show (p.2 == z) = _
          rw [Bool.beq_eq_decide_eq]
          exact decide_eq_decide.mpr ⟨fun e => by rw [e], fun e => (Option.some.inj e).symm⟩
        rw [eb] at q
        exact .hit hy q ih
def sameC (ks ls : List (Str × Int)) : Bool := ks.length == ls.length && ks.all fun p => decide (look ls p.1 = some p.2)
def rEqDI (neg : Bool) : R2 := fun x y H Q => ∃ a b ks ls, x = .ref a ∧ y = .ref b ∧ H a = some (.dK (kvS ks)) ∧ H b = some (.dK (kvS ls)) ∧ Q (.bl (if neg then !sameC ks ls else sameC ks ls)) H
theorem op_eqDict (hu : X.A.units < cLine) : OpR X (compareOp .Eq) (rEqDI false) := by
  intro pins s σ H x y v u Q I rx ry h
  obtain ⟨a, b, ks, ls, rfl, rfl, ea, eb, q⟩ := h
  obtain rfl : v = Value.ref a := rx
  obtain rfl : u = Value.ref b := ry
  obtain ⟨_, ya, va, ra, da⟩ := (show ObjOk X.prog X.w H s.heap a (.dK (kvS ks)) from I.hok a _ ea)
  obtain ⟨_, yb, vb, rb, db⟩ := (show ObjOk X.prog X.w H s.heap b (.dK (kvS ls)) from I.hok b _ eb)
  have la : va.length = ks.length := by rw [← ra.length]; simp [kvS]
  have lb : vb.length = ls.length := by rw [← rb.length]; simp [kvS]
  exact PySem.W.keq_eq (knd := mixKind X.prog X.w) ya yb da db hu (fun _ => hits_ints rb ra) ⟨.bl _, H, I, by rw [la, lb]; rfl, q⟩
theorem op_neDict (hu : X.A.units < cLine) : OpR X (compareOp .NotEq) (rEqDI true) := by
  intro pins s σ H x y v u Q I rx ry h
  obtain ⟨a, b, ks, ls, rfl, rfl, ea, eb, q⟩ := h
  obtain rfl : v = Value.ref a := rx
  obtain rfl : u = Value.ref b := ry
  obtain ⟨_, ya, va, ra, da⟩ := (show ObjOk X.prog X.w H s.heap a (.dK (kvS ks)) from I.hok a _ ea)
  obtain ⟨_, yb, vb, rb, db⟩ := (show ObjOk X.prog X.w H s.heap b (.dK (kvS ls)) from I.hok b _ eb)
  have la : va.length = ks.length := by rw [← ra.length]; simp [kvS]
  have lb : vb.length = ls.length := by rw [← rb.length]; simp [kvS]
  exact PySem.W.keq_ne (knd := mixKind X.prog X.w) ya yb da db hu (fun _ => hits_ints rb ra) ⟨.bl _, H, I, by rw [la, lb]; rfl, q⟩
end
/-! ### comprehensions that only add -/
section
variable {J : It} {n : Nat} {G : Hp → Prop} {Y : Nat → Hp → V → Hp → Prop}
/-- each turn gives f i and only adds to the heap -/
theorem lc_same (w : Walk J n G Y) {g : TG} {te : TE} {vs : List Nat} {σ : L2.St} {H1 : Hp} {D : Addr} {Qd : Hp → Prop} (f : Nat → V) (hD : H1 D = none) (hn : n < sizeLine) (hG : ∀ H, Same H1 H → G H)
    (hs : ∀ i x H H', i < n → Same H1 H → Y i H x H' → ∀ k : V → Hp → Prop, (∀ H4, Same H H4 → k (f i) H4) → g x (wipe σ vs) H' fun σ2 H2 => wipe σ2 vs = wipe σ vs ∧ te σ2 H2 k) (hd : ∀ H, Same H1 H → H D = some (.lst ((List.range n).map f)) → Qd H) :
    ∃ W : Nat → Nat → Hp → Prop, (∃ m, W 0 m (upd H1 D (.lst []))) ∧ ∀ i m H, W i m H →
      (J.stop i H ∧ Qd H) ∨ (J.go i H ∧ ∃ Nx : Hp → Prop, (∀ H', Nx H' → ∃ m', m' < m ∧ W (i + 1) m' H') ∧ ∀ x H', J.yld i H x H' → g x (wipe σ vs) H' fun σ2 H2 => wipe σ2 vs = wipe σ vs ∧ tYes σ2 H2 fun b H3 =>
        if b = true then te σ2 H3 fun y H4 => ∃ acc, H4 D = some (.lst acc) ∧ acc.length < sizeLine ∧ Nx (upd H4 D (.lst (acc ++ [y]))) else Nx H3) := by
  refine lc_it w (fun i H => Same H1 H ∧ H D = some (.lst ((List.range i).map f))) ⟨same_upd hD, upd_same⟩ (fun i H _ p => hG H p.1) (fun i x H H' hi p y => ?_) (fun H p => hd H p.1 p.2)
  obtain ⟨p1, p2⟩ := p
  refine hs i x H H' hi p1 y _ fun H4 e => ⟨_, e _ _ p2, ?_, ?_, ?_⟩
  · rw [List.length_map, List.length_range]
    omega
  · exact Same.mut (p1.trans e) hD
  · rw [upd_same, List.range_succ, List.map_append] <;> rfl
end
theorem map_range {α : Type} (l : List Nat) (f : Nat → α) : (List.range l.length).map (fun i => f (l.getD i 0)) = l.map f := by
  apply List.ext_getElem (by simp)
  intro i h1 h2
  have h3 : i < l.length := by simpa using h2
  simp [List.getD, h3]
/-- all([.. for c in a text]) -/
theorem all_strR {K : PySem.W.Frag} {te : TE} {g : TG} {vs : List Nat} {σ : L2.St} {H : Hp} {Q : VK} {ts : TE} {z : Str} (p : Nat → Bool) (ht : ∀ k : VK, k (.str z) H → ts σ H k) (hz : z.length ≤ 100000)
    (turn : ∀ (c : Nat) (H1 : Hp) (k : VK), Same H H1 → k (.bl (p c)) H1 → g (.str ⟨#[c]⟩) (wipe σ vs) H1 fun σ2 H2 => wipe σ2 vs = wipe σ vs ∧ te σ2 H2 k) (k : ∀ H', Same H H' → Q (.bl (z.cps.toList.all p)) H') :
    tCB (rAll K) (tCons (tLc (iStr ts) g tYes te vs) tNil) σ H Q := by
  have hl : z.length = z.cps.toList.length := by simp [Str.length]
  refine ht _ ⟨z, rfl, fun D hD => lc_same (walk_str (z := z)) (fun i => V.bl (p (z.cps.toList.getD i 0))) hD (by rw [sizeLine_eq]; show z.length < _; omega) (fun _ _ => trivial) (fun i x H1 H2 hi sm y q hq => ?_) (fun H1 sm hD1 => ?_)⟩
  · obtain ⟨rfl, c, hc, rfl⟩ := y
    have ec : z.cps.toList.getD i 0 = c := by
      have h2 : z.cps.toList[i]? = some c := by rw [Array.getElem?_toList]; exact hc
      simp [List.getD, h2]
    rw [ec] at hq
    exact turn c _ q sm (hq _ (Same.refl _))
  · refine ⟨D, (List.range z.cps.toList.length).map fun i => p (z.cps.toList.getD i 0), rfl, ?_, ?_⟩
    · rw [List.map_map]
      exact SqL.of hD1
    · rw [map_range z.cps.toList p, List.all_map]
      exact k H1 sm
/-! ### the same rules with the frame's heap named: inside a block the reading must not name the block's own state -/
section
variable {X : Cx}
theorem pe_fldK (K : PySem.W.Frag) {e : Expr} {f : Str} {ta : TE} {pos : Pos} (he : PE X e ta) (hb : attributeBase e f X.env (eval e X.env) = eval e X.env) (hK : X.K = K := by rfl) : PE X (.Attribute e f pos) (tFld K ta f) := hK ▸ pe_fld he hb
theorem ix_listK (K : PySem.W.Frag) (hK : X.K = K := by rfl) : IxR X (rIxL K) := hK ▸ ix_list
theorem ix_tupK (K : PySem.W.Frag) (hK : X.K = K := by rfl) : IxR X (rIxT K) := hK ▸ ix_tup
theorem op_inK (K : PySem.W.Frag) (hK : X.K = K := by rfl) : OpR X (compareOp .In) (rIn K false) := hK ▸ op_in_seq
theorem op_notInK (K : PySem.W.Frag) (hK : X.K = K := by rfl) : OpR X (compareOp .NotIn) (rIn K true) := hK ▸ op_notIn_seq
def rLenSeq (K : PySem.W.Frag) : List V → Hp → VK → Prop := fun xs H Q => ∃ p ys, xs = [.ref p] ∧ (SqL K H p ys ∨ SqT K H p ys) ∧ Q (.int ys.length) H
theorem call_lenK (K : PySem.W.Frag) (hK : X.K = K := by rfl) : CallR X (.builtin "len") (rLenSeq K) := hK ▸ call_len_seq
theorem cr_allK (K : PySem.W.Frag) (hc : X.calm = true) (hK : X.K = K := by rfl) : CallR X (.builtin "all") (rAll K) := hK ▸ cr_all hc
theorem cr_anyK (K : PySem.W.Frag) (hc : X.calm = true) (hK : X.K = K := by rfl) : CallR X (.builtin "any") (rAny K) := hK ▸ cr_any hc
theorem cr_sumK (K : PySem.W.Frag) (hc : X.calm = true) (hK : X.K = K := by rfl) : CallR X (.builtin "sum") (rSum K) := hK ▸ cr_sum hc
theorem cr_maxK (K : PySem.W.Frag) (hc : X.calm = true) (hK : X.K = K := by rfl) : CallR X (.builtin "max") (rMax K) := hK ▸ cr_max hc
theorem cr_minK (K : PySem.W.Frag) (hc : X.calm = true) (hK : X.K = K := by rfl) : CallR X (.builtin "min") (rMin K) := hK ▸ cr_min hc
theorem pi_listK (K : PySem.W.Frag) {tg l : Expr} {tl : TE} (hl : PE X l tl) (hK : X.K = K := by rfl) : PI X tg l (iList K tl) := hK ▸ pi_list hl
theorem pi_tupK (K : PySem.W.Frag) {tg l : Expr} {tl : TE} (hl : PE X l tl) (hK : X.K = K := by rfl) : PI X tg l (iTup K tl) := hK ▸ pi_tup hl
theorem call_isiK (K : PySem.W.Frag) (hK : X.K = K := by rfl) : CallR X (.builtin "isinstance") (rIsi K) := hK ▸ call_isi
theorem sl_listK (K : PySem.W.Frag) (hK : X.K = K := by rfl) : SlR X (rSlL K) := hK ▸ sl_list
theorem op_eqDK (K : PySem.W.Frag) (hu : X.A.units + 64 < cLine) (hK : X.K = K := by rfl) : OpR X (compareOp .Eq) (rEqD K) := hK ▸ op_eqD hu
theorem op_neDK (K : PySem.W.Frag) (hu : X.A.units + 64 < cLine) (hK : X.K = K := by rfl) : OpR X (compareOp .NotEq) (rNeD K) := hK ▸ op_neD hu
theorem cr_sortedSK (K : PySem.W.Frag) (hK : X.K = K := by rfl) : CallR X (.builtin "sorted") (rSortedS K) := hK ▸ cr_sortedS
def rListOf (K : PySem.W.Frag) : List V → Hp → VK → Prop := fun xs H Q => ∃ p ys, xs = [.ref p] ∧ (SqL K H p ys ∨ SqT K H p ys) ∧ ∀ l, H l = none → Q (.ref l) (upd H l (.lst ys))
theorem call_listK (K : PySem.W.Frag) (hK : X.K = K := by rfl) : CallR X (.type "list") (rListOf K) := hK ▸ call_list_of
theorem mt_indexK (K : PySem.W.Frag) (hK : X.K = K := by rfl) : MtR X "list.index" (rIndex K) := hK ▸ mt_index
def rJoin (K : PySem.W.Frag) : V → List V → Hp → VK → Prop := fun x xs H Q => ∃ a p, ∃ ys : List Str, x = .str a ∧ xs = [.ref p] ∧ (SqL K H p (ys.map V.str) ∨ SqT K H p (ys.map V.str)) ∧ (ys.map (·.length)).sum + ys.length * a.length ≤ 16777216 ∧ Q (.str (Txt.join a ys)) H
theorem pe_joinK (K : PySem.W.Frag) {o e : Expr} {to te : TE} {apos pos : Pos} (ho : PE X o to) (he : PE X e te) (hs : starEach [e] X.env = [(false, eval e X.env)] := by rfl) (hbase : attributeBase o "join" X.env (eval o X.env) = eval o X.env := by rfl) (hline : (apos.endLine == pos.line) = true := by rfl) (hK : X.K = K := by rfl) :
    PE X (.Call (.Attribute o "join" apos) [e] [] pos) (tM1 (rJoin K) to te) := hK ▸ pe_join ho he hs hbase hline
theorem ps_fldK (K : PySem.W.Frag) {o value : Expr} {f : Str} {ta tv : TE} {pos pos' : Pos} (ha : PE X o ta) (hv : PE X value tv) (hs : swapsWith value (some (.Attribute o f pos')) pos.line X.env = pure false) (hK : X.K = K := by rfl) : PS X (.Assign [.Attribute o f pos'] value pos) (sFld K ta tv f) := hK ▸ ps_fld ha hv hs
end
/-! ### comprehensions of two clauses -/
section
variable {J J1 : It} {n n1 : Nat} {G G1 : Hp → Prop} {Y Y1 : Nat → Hp → V → Hp → Prop}
theorem tyesK {σ : L2.St} {H : Hp} {k : Bool → Hp → Prop} (h : k true H) : tYes σ H k := h
/-- the outer walk: B i Nx tells the body of a turn -/
theorem lc2_out (w : Walk J n G Y) {H0 : Hp} {Qd : Hp → Prop} {B : (Hp → Prop) → V → Hp → Prop} (Pv : Nat → Hp → Prop) (h0 : Pv 0 H0) (hG : ∀ i H, i ≤ n → Pv i H → G H)
    (hs : ∀ i x H H', i < n → Pv i H → Y i H x H' → B (Pv (i + 1)) x H') (hd : ∀ H, Pv n H → Qd H) :
    ∃ W : Nat → Nat → Hp → Prop, (∃ m, W 0 m H0) ∧ ∀ i m H, W i m H →
      (J.stop i H ∧ Qd H) ∨ (J.go i H ∧ ∃ Nx : Hp → Prop, (∀ H', Nx H' → ∃ m', m' < m ∧ W (i + 1) m' H') ∧ ∀ x H', J.yld i H x H' → B Nx x H') := by
  refine ⟨fun i m H => m = n - i ∧ i ≤ n ∧ Pv i H, ⟨n, by simp, Nat.zero_le _, h0⟩, ?_⟩
  rintro i m H ⟨rfl, hi, p⟩
  have q := hG i H hi p
  by_cases hlt : i < n
  · exact .inr ⟨w.goes i H hlt q, Pv (i + 1), fun H' p' => ⟨n - (i + 1), by omega, rfl, hlt, p'⟩, fun x H' y => hs i x H H' hlt p (w.yields i H x H' hlt q y)⟩
  · have e : i = n := by omega
    subst e
    exact .inl ⟨w.stops H q, hd H p⟩
end
end Sk

set_option maxHeartbeats 4000000
/-! Own exception classes of one field over any built-in base, defs that raise, their calls. -/
namespace Sk
open PySem PySem.Spec PyProof.Rows L2
/-- what a base class of the built-in ones must bear -/
structure XBase (bn nid iid : String) (tl : List Value) : Prop where
  b : ExcBaseFacts bn nid iid tl
  s : StoreFacts bn tl "object.__setattr__" "object"
/-- what the written part must say of an exception class with the one field f -/
structure ExcG (K : PySem.W.Frag) (C : Addr) (f : Str) (tl : List Value) (nid : String) (fI : Addr) : Prop where
  ini : PySem.W.excInitIn K C tl nid = true
  ovr : PySem.W.excOver K C tl = true
  hd : PySem.W.hasDictIn K C = true
  sa : PySem.W.findIn K (.ref C) "__setattr__" = some (some (.builtin "object.__setattr__"))
  no : PySem.W.findIn K (.ref C) f = some none
  exC : PySem.W.subIn K (.ref C) (.type "BaseException") = some true
  tyC : PySem.W.typeIn K (.ref C) = some (.type "type")
  kC : PySem.W.keepIn K (.ref C) = true
  iC : PySem.W.findIn K (.ref C) "__init__" = some (some (.ref fI))
  tI : PySem.W.typeIn K (.ref fI) = some (.type "function")
  ga : PySem.W.findIn K (.ref C) "__getattribute__" = some (some (.builtin "BaseException.__getattribute__"))
  gg : PySem.W.findIn K (.ref C) "__getattr__" = some none
  exm : PySem.W.exmOne K (.ref C) (.ref C) = some true
def exgB (K : PySem.W.Frag) (C : Addr) (f : Str) (tl : List Value) (nid : String) : Bool :=
  PySem.W.excInitIn K C tl nid && (PySem.W.excOver K C tl && (PySem.W.hasDictIn K C && (He.eqO (PySem.W.findIn K (.ref C) "__setattr__") (some (some (.builtin "object.__setattr__"))) &&
    (He.eqO (PySem.W.findIn K (.ref C) f) (some none) && (decide (PySem.W.subIn K (.ref C) (.type "BaseException") = some true) && (decide (PySem.W.typeIn K (.ref C) = some (.type "type")) && (PySem.W.keepIn K (.ref C) &&
      (He.eqO (PySem.W.findIn K (.ref C) "__init__") (some (some (.ref (He.ma K C "__init__")))) && (decide (PySem.W.typeIn K (.ref (He.ma K C "__init__")) = some (.type "function")) &&
        (He.eqO (PySem.W.findIn K (.ref C) "__getattribute__") (some (some (.builtin "BaseException.__getattribute__"))) && (He.eqO (PySem.W.findIn K (.ref C) "__getattr__") (some none) && decide (PySem.W.exmOne K (.ref C) (.ref C) = some true))))))))))))
theorem exgB_ok {K : PySem.W.Frag} {C : Addr} {f : Str} {tl : List Value} {nid : String} (h : exgB K C f tl nid = true) : ExcG K C f tl nid (He.ma K C "__init__") := by
  obtain ⟨h1, h⟩ := He.ba h
  obtain ⟨h2, h⟩ := He.ba h
  obtain ⟨h3, h⟩ := He.ba h
  obtain ⟨h4, h⟩ := He.ba h
  obtain ⟨h5, h⟩ := He.ba h
  obtain ⟨h6, h⟩ := He.ba h
  obtain ⟨h7, h⟩ := He.ba h
  obtain ⟨h8, h⟩ := He.ba h
  obtain ⟨h9, h⟩ := He.ba h
  obtain ⟨h10, h⟩ := He.ba h
  obtain ⟨h11, h⟩ := He.ba h
  obtain ⟨h12, h13⟩ := He.ba h
  exact ⟨h1, h2, h3, He.eqO_ok h4, He.eqO_ok h5, of_decide_eq_true h6, of_decide_eq_true h7, h8, He.eqO_ok h9, of_decide_eq_true h10, He.eqO_ok h11, He.eqO_ok h12, of_decide_eq_true h13⟩
section
open PySem.Builtin PySem.Builtin.ObjectAttr
variable {X : Cx} {pins : List (Addr × Obj)} {σ : L2.St} {H : Hp} {s : Shared} {a C fI : Addr} {f : Str} {y : V} {u : Value} {tl : List Value} {bn nid iid : String} {A : Around} {E : Value → Shared → Prop}
/-- self.f = y on a new exception -/
theorem ostG {Q : Unit → Shared → Prop} (B : XBase bn nid iid tl) (T : ExcG X.K C f tl nid fI) (I : Inv X pins σ H s) (e : H a = some (exo a C none)) (ry : RelV y u)
    (h : ∀ D s', H D = none → D ≠ a → Inv X pins σ (upd (upd H D (exd D [(f, y)])) a (exo a C (some D))) s' → Q () s') : wpAny (model X.prog X.w) A (setAttr (.ref a) f u) Q E s := by
  obtain ⟨t1, ho⟩ := exo_at I.hok e
  obtain ⟨hp, g, d, t, os⟩ := s
  have inst : PySem.W.InstAt hp a (PySem.W.excObj C t1 none .none) C none := ⟨ho, rfl, rfl, trivial⟩
  refine PySem.W.set_plain I.kIn inst T.sa (PySem.W.osa_openX (s := ⟨hp, g, d, t + 1, os⟩) B.s I.kIn inst T.ovr (NoAttr.taker T.no) fun b => ?_)
  obtain ⟨cd, hc, hd'⟩ := PySem.W.any_some T.hd
  have aD : a ≠ hp.objs.size := Nat.ne_of_lt (Heap.lt_size ho)
  refine wpAny_bind (wpAny_pure (wpAny_bind (PySem.W.instanceDict_exc (s := ⟨hp, g, d, t + 1, os⟩) ho (PySem.W.looks_clsIn I.kIn hc) hd' ?_)))
  show wpAny _ _ (storeInDict hp.objs.size (.str f t) f u) _ _ _
  refine PySem.HandSPX.store_in_new ⟨_, #[], _, (Heap.get?_update_other _ _ aD).trans (Heap.get?_push_at rfl rfl), rfl, fun en hen => absurd hen (by simp), fun _ => rfl⟩ fun h' tk' hn hs => ?_
  have hx : h'.get? a = some (PySem.W.excObj C t1 (some hp.objs.size) .none) := (hs.2 a aD).trans (Heap.get?_update_self _ (Heap.get?_push_of_some _ ho) rfl)
  have kp : ∀ b o, b ≠ a → hp.get? b = some o → h'.get? b = some o := fun b o hb q =>
    (hs.2 b (Nat.ne_of_lt (Heap.lt_size q))).trans ((Heap.get?_update_other _ _ (Ne.symm hb)).trans (Heap.get?_push_of_some _ q))
  obtain ⟨M, hM⟩ : ∃ M : Heap, M = h'.update a fun _ => PySem.W.excObj C t1 none .none := ⟨_, rfl⟩
  have Ma : M.get? a = some (PySem.W.excObj C t1 none .none) := by rw [hM]; exact Heap.get?_update_self _ hx rfl
  have Mo : ∀ b, b ≠ a → M.get? b = h'.get? b := fun b hb => by rw [hM]; exact Heap.get?_update_other _ _ (Ne.symm hb)
  have hn2 : M.Ns1 hp.objs.size (fun z => if z = f then some u else none) := hn.at fun o q => (Mo _ (Ne.symm aD)).trans q
  have hD : H hp.objs.size = none := I.hok.fresh (Nat.le_refl _)
  have J1 := I.laid (t' := tk') (a := hp.objs.size) (o := exd hp.objs.size [(f, y)]) (h' := M) (fun b o q => by
    by_cases hb : b = a
    · rw [hb] at q ⊢
      rw [Ma]
      exact ho.symm.trans q
    · rw [Mo b hb]
      exact kp b o hb q) (Nat.le_refl _) (exd_ok hn2 (relO_put (fs := []) ry fun _ => True.intro))
  have e1 : upd H hp.objs.size (exd hp.objs.size [(f, y)]) a = some (exo a C none) := by rw [upd_ne aD]; exact e
  have J2 := J1.write (t' := tk') (x := a) (e := a) (o := exo a C (some hp.objs.size)) (h' := h') (by rw [e1]; exact True.intro) (.inl rfl) (fun b o hb q => by rw [← Mo b hb]; exact q) ⟨_, hx⟩ (exo_ok hx)
  exact h _ _ hD (Ne.symm aD) J2
end
/-! ### the exception's __init__ -/
def spX (C : Addr) (f : Str) : Sp := fun vs H Q _ => ∃ a y, vs = [.ref a, y] ∧ H a = some (exo a C none) ∧ ∀ D, H D = none → D ≠ a → Q .non (upd (upd H D (exd D [(f, y)])) a (exo a C (some D)))
def tOstG (C : Addr) (f : Str) (to te : TE) : TS := fun D σ H => te σ H fun y H1 => to σ H1 fun x H2 => ∃ a, x = .ref a ∧ H2 a = some (exo a C none) ∧ ∀ dx, H2 dx = none → dx ≠ a → D.nx σ (upd (upd H2 dx (exd dx [(f, y)])) a (exo a C (some dx)))
theorem ps_ostG {X : Cx} {C fI : Addr} {f : Str} {tl : List Value} {bn nid iid : String} {o e : Expr} {to te : TE} {p' pos : Pos} (B : XBase bn nid iid tl) (T : ExcG X.K C f tl nid fI) (ho : PE X o to) (he : PE X e te)
    (hs : swapsWith e (some (.Attribute o f p')) pos.line X.env = pure false := by rfl) : PS X (.Assign [.Attribute o f p'] e pos) (tOstG C f to te) := by
  refine ⟨fun pins s σ H D I h => plainObj_wpAny_Assign_Attribute (thn (he.run pins s σ H _ I h) fun v s1 hv => ?_) hs⟩
  obtain ⟨y, H1, I1, r1, q1⟩ := hv
  refine thn (ho.run pins s1 σ H1 _ I1 q1) fun u s2 hu => ?_
  obtain ⟨x, H2, I2, r2, a, ex, ea, q⟩ := hu
  subst ex
  obtain rfl : u = Value.ref a := r2
  exact ostG B T I2 ea r1 fun dx s' n ne J => ⟨σ, _, J, q dx n ne⟩
/-! ### C(e) as what is raised -/
def tMkG (C : Addr) (f : Str) (te : TE) : L2.St → Hp → XK → Prop := fun σ H Q => te σ H fun y H1 => ∀ d, H1 d = none → Q (.ref C) (some d) (upd H1 d (.xd [(f, y)]))
theorem pmk_G {X : Cx} {CX : CXT} {x : Str} {C fI : Addr} {f : Str} {k j : Nat} {fd : FuncData} {ps : List Str} {tl : List Value} {bn nid iid : String} {e : Expr} {te : TE} {p pos : Pos} (B : XBase bn nid iid tl) (T : ExcG X.K C f tl nid fI)
    (F1 : FnOk X.prog X.w X.K X.mg X.base CX k fI fd ps (spX C f)) (hr : Room j X.A) (hk : k + 1 ≤ j) (hb : Binds X.K fd ps []) (hx : Passes CX X (fun _ _ _ => False)) (hg : Gl X x) (hm : X.mg x = some (.ref C)) (he : PE X e te)
    (hdb : (x == ("__debug__" : Str)) = false := by decide) (hst : starEach [e] X.env = (false, eval e X.env) :: starEach [] X.env := by rfl) (hpl : (backTo pos (starEach [] X.env)).any (·.1) = false := by rfl) :
    PMk X (.Call (.Name x p) [e] [] pos) (tMkG C f te) := by
  intro pins s σ H Q I h
  refine wpAny_Call_Name_kw (ld_glob I hg hm ?_ hdb)
  refine PySem.W.callWith_K (h₀ := X.base) I.ok.mod.kin T.kC (thn ((pa_cons he pa_nil hst).run pos pins s σ H (fun vs H1 => match vs with
    | [y] => ∀ d, H1 d = none → Q (.ref C) (some d) (upd H1 d (.xd [(f, y)]))
    | _ => False) I h) fun us s1 hus => ?_) hst hpl
  · obtain ⟨vs, H1, I1, r1, q1⟩ := hus
    refine ⟨I1.kIn, ?_⟩
    obtain ⟨y, rfl⟩ : ∃ y, vs = [y] := by
      match vs, q1 with
      | [y], _ => exact ⟨y, rfl⟩
      | [], q => exact q.elim
      | _ :: _ :: _, q => exact q.elim
    have q1 : ∀ d, H1 d = none → Q (.ref C) (some d) (upd H1 d (.xd [(f, y)])) := q1
    obtain ⟨u, rfl, ry⟩ := vals1 r1
    show wpAny _ _ (call (.ref C) [u]) _ _ _
    obtain ⟨hp, g, dr, tk, os⟩ := s1
    obtain ⟨nm, N', qn, bs, bm, hdct, sn, sub, ab, col, dd, k0, k1, k2, k3, k5, hC, hT⟩ := PySem.W.excInit_of I1.kIn T.ini
    have lt : hp.objs.size ≤ hp.objs.size + 1 := Nat.le_succ _
    have hn : H1 (hp.objs.size + 1) = none := I1.hok.fresh lt
    have keep : ∀ b o, hp.get? b = some o → ((hp.push (PySem.W.kdv_tup [u])).push (PySem.HandSPX.excO C hp.objs.size)).get? b = some o := fun b o q => Heap.get?_push_of_some _ (Heap.get?_push_of_some _ q)
    have got : ((hp.push (PySem.W.kdv_tup [u])).push (PySem.HandSPX.excO C hp.objs.size)).get? (hp.objs.size + 1) = some (PySem.HandSPX.excO C hp.objs.size) := by heap_get
    have I2 := I1.laid (t' := tk) (a := hp.objs.size + 1) (o := exo (hp.objs.size + 1) C none) (h' := (hp.push (PySem.W.kdv_tup [u])).push (PySem.HandSPX.excO C hp.objs.size)) keep lt (exo_ok got)
    have rv : Vals [V.ref (hp.objs.size + 1), y] [Value.ref (hp.objs.size + 1), u] := .cons rfl (.cons ry .nil)
    have sp1 : spX C f [V.ref (hp.objs.size + 1), y] (upd H1 (hp.objs.size + 1) (exo (hp.objs.size + 1) C none)) (fun v H2 => v = .non ∧ ∃ D, D ≠ hp.objs.size + 1 ∧ H1 D = none ∧
        H2 = upd (upd (upd H1 (hp.objs.size + 1) (exo (hp.objs.size + 1) C none)) D (exd D [(f, y)])) (hp.objs.size + 1) (exo (hp.objs.size + 1) C (some D))) (fun _ _ _ => False) :=
      ⟨_, y, rfl, upd_same, fun D hD ne => ⟨rfl, D, ne, by rw [upd_ne ne] at hD; exact hD, rfl⟩⟩
    have ln : ps.length = 2 := (F1.len _ _ _ _ sp1).symm
    refine wpAny_call (PySem.HandSPX.call_own B.b hT hC (PySem.W.looks_findIn I1.kIn T.iC) (fun self => PySem.W.bind_fn I1.kIn self T.tI) (by rw [sizeLine_eq]; exact Nat.le_of_ble_eq_true rfl)
      (codeAny_mono (F1.run _ X.stack _ _ ⟨[Value.ref (hp.objs.size + 1), u], []⟩ [Value.ref (hp.objs.size + 1), u] _ _ (fun _ _ _ => False) ((hr.mono hk).make C [u] []) (I2.env0.make C [u] []) (by
        have b := hb _ [Value.ref (hp.objs.size + 1), u] I2.kIn (by rw [ln]; rfl)
        rw [List.append_nil] at b
        exact b) rv sp1) fun r s' hq => ?_))
    match r, hq with
    | .error er, hq => exact hx pins σ _ _ er s' I2 hq
    | .ok .next, hq => exact hq.elim
    | .ok .brk, hq => exact hq.elim
    | .ok .cont, hq => exact hq.elim
    | .ok (.ret w), hq =>
      obtain ⟨v, H2, os2, bare2, un2, hok2, rw2, ev, D, ne, hD, e2⟩ := hq
      subst ev e2
      obtain ⟨h2, g2, d2, t2, os'⟩ := s'
      obtain ⟨t0, G, J, kG, ge, hoe, na⟩ := mk_end0 (d2 := d2) (t2 := t2) I1 lt keep un2 hok2 os2 bare2 upd_same (by rw [upd_ne ne, upd_same]) hD
      refine ⟨rw2, _, _, _, ⟨G, g2, d2, t2, os'⟩, _, .ref C, some D, rfl, J, kG, ge, hoe, ⟨rfl, rfl⟩, rfl, rfl, na, rfl, bare2, raises_own T.exC T.tyC, ?_⟩
      have eH : upd (del (upd (upd (upd H1 (hp.objs.size + 1) (exo (hp.objs.size + 1) C none)) D (exd D [(f, y)])) (hp.objs.size + 1) (exo (hp.objs.size + 1) C (some D))) (hp.objs.size + 1)) D (.xd [(f, y)]) = upd H1 D (.xd [(f, y)]) := by
        funext b
        by_cases hb : b = D
        · rw [hb, upd_same, upd_same]
        · rw [upd_ne hb, upd_ne hb]
          by_cases hc : b = hp.objs.size + 1
          · rw [hc, del_same, hn]
          · rw [del_ne hc, upd_ne hc, upd_ne hb, upd_ne hc]
      rw [eH]
      exact q1 D hD
end Sk

set_option maxHeartbeats 4000000
/-! Defs that raise: what they promise, their heads, their calls; defs called where an exception is handled; isinstance of such a one. -/
namespace Sk
open PySem PySem.Spec PyProof.Rows L2
/-! ### heads -/
section
variable {P : Program} {w : World} {K : PySem.W.Frag} {mg : Str → Option Value} {base : Heap}
structure CalX (P : Program) (w : World) (K : PySem.W.Frag) (mg : Str → Option Value) (base : Heap) (k : Nat) (x : Str) (sp : Sp) (dvs : List V) : Prop where
  ex : ∃ (f : Addr) (fd : FuncData) (ps : List Str) (ds : List Value), FnOk P w K mg base (L2.CX P w) k f fd ps sp ∧ mg x = some (.ref f) ∧ PySem.W.keepIn K (.ref f) = true ∧ Binds K fd ps ds ∧ Vals dvs ds
structure MetX (P : Program) (w : World) (K : PySem.W.Frag) (mg : Str → Option Value) (base : Heap) (k : Nat) (C : Addr) (m : Str) (sp : Sp) (dvs : List V) : Prop where
  ex : ∃ (f : Addr) (fd : FuncData) (ps : List Str) (ds : List Value), Cls K C ∧ Meth K C m f ∧ FnOk P w K mg base (L2.CX P w) k f fd ps sp ∧ Binds K fd ps ds ∧ Vals dvs ds
structure MakX (P : Program) (w : World) (K : PySem.W.Frag) (mg : Str → Option Value) (base : Heap) (k : Nat) (x : Str) (C : Addr) (sp : Sp) (dvs : List V) : Prop where
  ex : ∃ (f : Addr) (fd : FuncData) (ps : List Str) (ds : List Value), L2.Mk K C f ∧ FnOk P w K mg base (L2.CX P w) k f fd ps sp ∧ mg x = some (.ref C) ∧ Binds K fd ps ds ∧ Vals dvs ds
theorem fnDX {x qual : Str} {params : Arguments} {body : List Stmt} {scope : Scope} {dvs : List V} {kws : List (Str × V)} {f : Addr} {fd : FuncData} {N ps : List Str} {k : Nat} {sp : Sp} (F : FunD K x qual params body scope dvs kws f fd) (S : FnScope N ps scope)
    (len : ∀ vs H Q E, sp vs H Q E → vs.length = ps.length)
    (hbody : ∀ (cdv : Value) (A : Around) (outer : List Env) (s : Shared) (H : Hp) (vs : List V) (Q : VK) (E : XK), Room k (A.deeper (envOfC qual scope s.heap.objs.size f cdv)) → sp vs H Q E →
      ∃ t, PSs (cxOf (L2.CX P w) P w K mg base N qual scope f cdv A outer s H E) body t ∧ t { nx := fun _ H' => Q .non H', rt := Q } (start N vs) H) : FnOk P w K mg base (L2.CX P w) (k + 1) f fd ps sp :=
  F.ok S len hbody
theorem calDX {x qual : Str} {params : Arguments} {body : List Stmt} {scope : Scope} {f : Addr} {fd : FuncData} {N ps : List Str} {k : Nat} {sp : Sp} (F : FunD K x qual params body scope [] [] f fd) (hm : mg x = some (.ref f)) (S : FnScope N ps scope)
    (hb : ∀ (kV doc pm : Value) (an : Option Addr) (cdv ct : Value) (us : List Value), us.length = ps.length → bindArgs (PySem.W.fnOf x qual params body scope .none kV doc pm an cdv ct) ⟨us, []⟩ = pure (ps.zip us))
    (len : ∀ vs H Q E, sp vs H Q E → vs.length = ps.length)
    (hbody : ∀ (cdv : Value) (A : Around) (outer : List Env) (s : Shared) (H : Hp) (vs : List V) (Q : VK) (E : XK), Room k (A.deeper (envOfC qual scope s.heap.objs.size f cdv)) → sp vs H Q E →
      ∃ t, PSs (cxOf (L2.CX P w) P w K mg base N qual scope f cdv A outer s H E) body t ∧ t { nx := fun _ H' => Q .non H', rt := Q } (start N vs) H) : CalX P w K mg base (k + 1) x sp [] :=
  ⟨f, fd, ps, [], F.ok S len hbody, hm, F.kp, F.bindsN hb, .nil⟩
theorem metDX {m qual : Str} {C : Addr} {params : Arguments} {body : List Stmt} {scope : Scope} {f : Addr} {fd : FuncData} {N ps : List Str} {k : Nat} {sp : Sp} (c : Cls K C) (me : Meth K C m f) (F : FunD K m qual params body scope [] [] f fd) (S : FnScope N ps scope)
    (hb : ∀ (kV doc pm : Value) (an : Option Addr) (cdv ct : Value) (us : List Value), us.length = ps.length → bindArgs (PySem.W.fnOf m qual params body scope .none kV doc pm an cdv ct) ⟨us, []⟩ = pure (ps.zip us))
    (len : ∀ vs H Q E, sp vs H Q E → vs.length = ps.length)
    (hbody : ∀ (cdv : Value) (A : Around) (outer : List Env) (s : Shared) (H : Hp) (vs : List V) (Q : VK) (E : XK), Room k (A.deeper (envOfC qual scope s.heap.objs.size f cdv)) → sp vs H Q E →
      ∃ t, PSs (cxOf (L2.CX P w) P w K mg base N qual scope f cdv A outer s H E) body t ∧ t { nx := fun _ H' => Q .non H', rt := Q } (start N vs) H) : MetX P w K mg base (k + 1) C m sp [] :=
  ⟨f, fd, ps, [], c, me, F.ok S len hbody, F.bindsN hb, .nil⟩
end
/-! ### calls -/
section
variable {X : Cx} {W : WX} {CX : CXT} {k j : Nat} {f C : Addr} {fd : FuncData} {ps : List Str} {sp : Sp} {dvs : List V} {ds : List Value} {E : L2.St → XK} {x m : Str} {p pos apos : Pos} {e o : Expr} {es : List Expr} {ta : TE} {t : TA}
theorem pe_cX (c : CalX X.prog X.w X.K X.mg X.base k x sp dvs) (tk : Takes X W) (hr : Room j X.A) (hk : k ≤ j) (hg : Gl X x) (ha : PA X (e :: es) t) (hdb : (x == ("__debug__" : Str)) = false := by decide)
    (he : starEach (e :: es) X.env = (false, eval e X.env) :: starEach es X.env := by rfl) (hpl : (backTo pos (starEach es X.env)).any (·.1) = false := by rfl) : PE X (.Call (.Name x p) (e :: es) [] pos) (tCallSD sp dvs (WE W) t) := by
  obtain ⟨f, fd, ps, ds, F, hm, kp, b, d⟩ := c.ex
  exact pe_callSD F (hr.mono hk) hg hm kp b d (fun σ => passAt tk σ) ha hdb he hpl
def tMethSD (C : Addr) (m : Str) (sp : Sp) (dvs : List V) (E : L2.St → XK) (ta : TE) (t : TA) : TE := fun σ H Q => tMeth C m sp dvs (E σ) ta t σ H Q
def tMakeSD (C : Addr) (sp : Sp) (dvs : List V) (E : L2.St → XK) (t : TA) : TE := fun σ H Q => tMake C sp dvs (E σ) t σ H Q
theorem pe_mtX {pl : Sem Bool} (c : MetX X.prog X.w X.K X.mg X.base k C m sp dvs) (tk : Takes X W) (hr : Room j X.A) (hk : k ≤ j) (ho : PE X o ta) (ha : PA X (e :: es) t)
    (hst : starEach (e :: es) X.env = (false, eval e X.env) :: starEach es X.env := by rfl) (hpl : (backTo pos (starEach es X.env)).any (·.1) = false := by rfl)
    (ht : eval (.Call (.Attribute o m apos) (e :: es) [] pos) X.env = (do
      let v ← eval o X.env
      standAt apos.atName
      let (g, first) ← holding [v] (getMethod v m pl)
      callWith pos g first (backTo pos (starEach (e :: es) X.env)) (backToKw pos (keywordEach [] X.env))) := by rfl) :
    PE X (.Call (.Attribute o m apos) (e :: es) [] pos) (tMethSD C m sp dvs (WE W) ta t) := by
  obtain ⟨f, fd, ps, ds, hc, hm, F, b, d⟩ := c.ex
  refine ⟨fun pins s σ H Q I h => PySem.W.methodCall_KW (pl := pl) (thn (ho.run pins s σ H _ I h) fun u s1 hu => ?_) ht⟩
  obtain ⟨y, H1, I1, r1, a, dx, fs, ey, ea, l, q⟩ := hu
  subst ey
  obtain rfl : u = Value.ref a := r1
  refine getmeth_ok I1 ea hc hm l (PySem.W.callWith_K (first := [.ref a]) (h₀ := X.base) I.ok.mod.kin hm.kp (thn (ha.run pos pins s1 σ H1 _ I1 q) fun us s2 hus => ?_) hst hpl)
  obtain ⟨vs, H2, I2, r2, q2⟩ := hus
  exact ⟨I2.kIn, run_fnSD (E := WE W) (us := .ref a :: us) (vs := .ref a :: vs) F (hr.mono hk) b d (passAt tk σ) I2 (.cons rfl r2) q2⟩
theorem run_makeSD {pins : List (Addr × Obj)} {σ : L2.St} {H : Hp} {s : Shared} {Q : VK} {us : List Value} {vs : List V} (M : L2.Mk X.K C f) (F : FnOk X.prog X.w X.K X.mg X.base CX k f fd ps sp) (hr : Room (k + 1) X.A) (hb : Binds X.K fd ps ds) (hd : Vals dvs ds)
    (hx : PassesAt CX X σ (E σ)) (I : Inv X pins σ H s) (r : Vals vs us)
    (h : ∀ y dy, H y = none → H dy = none → dy ≠ y → sp (.ref y :: (vs ++ dvs)) (upd (upd H dy (.own y)) y (.ins C dy [])) (fun v H2 => v = .non ∧ Q (.ref y) H2) (E σ)) :
    wpAny (model X.prog X.w) X.A (call (.ref C) us) (EP X pins σ Q) X.xe s := by
  have J := Inv.made (C := C) I
  have hs := h (s.heap.objs.size + 1) s.heap.objs.size (I.hok.fresh (Nat.le_succ _)) (I.hok.fresh (Nat.le_refl _)) (Nat.ne_of_lt (Nat.lt_succ_self _))
  have rr : Vals (V.ref (s.heap.objs.size + 1) :: (vs ++ dvs)) (Value.ref (s.heap.objs.size + 1) :: (us ++ ds)) := .cons rfl (r.append hd)
  have hl : (Value.ref (s.heap.objs.size + 1) :: us ++ ds).length = ps.length := by rw [← F.len _ _ _ _ hs]; exact rr.length.symm
  refine wpAny_call (make_map (f := f) I.kIn M.makes M.init (beq_iff_eq.mp M.fn) (codeAny_mono (F.run _ X.stack _ _ ⟨Value.ref (s.heap.objs.size + 1) :: us, []⟩ (Value.ref (s.heap.objs.size + 1) :: (us ++ ds)) _ _ (E σ) (hr.make C us [])
    (J.env0.make C us []) (hb _ (Value.ref (s.heap.objs.size + 1) :: us) J.kIn hl) rr hs) fun z s' hz => ?_))
  match z, hz with
  | .error er, hz => exact hx pins _ _ er s' J hz
  | .ok .next, hz => exact hz.elim
  | .ok .brk, hz => exact hz.elim
  | .ok .cont, hz => exact hz.elim
  | .ok (.ret u), hz =>
    obtain ⟨v, H', J2, rv, ev, q3⟩ := J.after hz
    subst ev
    exact ⟨rv, ⟨V.ref (s.heap.objs.size + 1), H', J2, rfl, q3⟩⟩
theorem pe_mkX (c : MakX X.prog X.w X.K X.mg X.base k x C sp dvs) (tk : Takes X W) (hr : Room j X.A) (hk : k + 1 ≤ j) (hg : Gl X x) (ha : PA X (e :: es) t) (hdb : (x == ("__debug__" : Str)) = false := by decide)
    (he : starEach (e :: es) X.env = (false, eval e X.env) :: starEach es X.env := by rfl) (hpl : (backTo pos (starEach es X.env)).any (·.1) = false := by rfl) : PE X (.Call (.Name x p) (e :: es) [] pos) (tMakeSD C sp dvs (WE W) t) := by
  obtain ⟨f, fd, ps, ds, M, F, hm, b, d⟩ := c.ex
  refine ⟨fun pins s σ H Q I h => wpAny_Call_Name_kw (ld_glob I hg hm ?_ hdb)⟩
  refine PySem.W.callWith_K (h₀ := X.base) I.ok.mod.kin M.kp (thn (ha.run pos pins s σ H _ I h) fun us s1 hus => ?_) he hpl
  obtain ⟨vs, H1, I1, r, q⟩ := hus
  exact ⟨I1.kIn, run_makeSD (E := WE W) M F (hr.mono hk) b d (passAt tk σ) I1 r q⟩
end
/-! ### defs called where an exception is handled; they bear its object as a pin -/
/-- what is known of the exception p: its class, its dict -/
structure Held (C : Addr) (d : Option Addr) (p : Addr × Obj) : Prop where
  z : Zc (.ref C) d p.2
  f : ∃ vs, p.2.data = .fields vs
structure FnE (P : Program) (w : World) (K : PySem.W.Frag) (mg : Str → Option Value) (base : Heap) (C : Addr) (k : Nat) (f : Addr) (fd : FuncData) (ps : List Str) (sp : Addr → Addr → Sp) : Prop where
  len : ∀ a d vs H Q E, sp a d vs H Q E → vs.length = ps.length
  run : ∀ (A : Around) (outer : List Env) (s : Shared) (H : Hp) (args : Args) (us : List Value) (vs : List V) (Q : VK) (E : XK) (p : Addr × Obj) (d : Addr), L2H.RoomH k A → Held C (some d) p → L2H.PinOk outer H s p → Env0 P w K mg base A outer s H →
    BindsTo s fd args (ps.zip us) → Vals vs us → sp p.1 d vs H Q E → codeAny (model P w) A (.call (.ref f) args) (CR C8.CX0 outer P w H s Q E) s
theorem fnDE {P : Program} {w : World} {K : PySem.W.Frag} {mg : Str → Option Value} {base : Heap} {C : Addr} {x qual : Str} {params : Arguments} {body : List Stmt} {scope : Scope} {f : Addr} {fd : FuncData} {N ps : List Str} {k : Nat} {sp : Addr → Addr → Sp} (F : FunD K x qual params body scope [] [] f fd) (S : FnScope N ps scope)
    (len : ∀ a d vs H Q E, sp a d vs H Q E → vs.length = ps.length)
    (hbody : ∀ (cdv : Value) (A : Around) (outer : List Env) (s : Shared) (H : Hp) (vs : List V) (Q : VK) (E : XK) (p : Addr × Obj) (d : Addr), L2H.RoomH k (A.deeper (envOfC qual scope s.heap.objs.size f cdv)) → Held C (some d) p → sp p.1 d vs H Q E →
      ∃ t, PSs (L2H.cxH C8.CX0 P w K mg base N qual scope f cdv A outer s H E p).nox body t ∧ t { nx := fun _ H' => Q .non H', rt := Q } (start N vs) H) : FnE P w K mg base C (k + 1) f fd ps sp := by
  obtain ⟨oc, od, dV, kV, doc, pm, an, cdv, ct, osl, rfl, lk, hcd, _, _⟩ := F.ex
  refine ⟨len, fun A outer s H args us vs Q E p d hr hp pin e0 hb r hs => ?_⟩
  have stay : ∀ b o, base.get? b = some o → s.heap.get? b = some o := fun b o q => (e0.bs b o q).1
  have KX := e0.mod.kin.keeps stay
  refine codeAny_call_function hr.depth (KX _ _ lk) rfl S.co S.gen rfl (PySem.W.codeRec_of KX hcd) (hb _ _ _ _ (wpAny_newFunctionEnv_cells S.kind (fun y hy => ?_) fun env he s1 z => ?_))
  · rcases S.par y.1 (List.of_mem_zip (a := y.1) (b := y.2) hy).1 with q | q
    · exact .inl q
    · exact .inr ⟨q, PySem.W.cellsFrom_some _ _ _ (.inl q)⟩
  · subst he
    refine ⟨(e0.mod.nolimit.keeps stay).keeps z.toInCall.keep, codeAny_func ?_⟩
    obtain ⟨t, ht, hq⟩ := hbody cdv A outer s H vs Q E p d (hr.deeper _) hp hs
    have J := L2H.inv_startH (CX := C8.CX0) (E := E) S pin e0 (len _ _ _ _ _ _ hs) r z
    refine wpAny_mono (ht.nox.run [] s1 (start N vs) H _ J hq) (fun fl s' h => ?_) fun _ _ h => h
    match fl, h with
    | .ret u, ⟨v, σ', H', J', rv, q⟩ => exact ⟨v, H', J'.os, J'.bare, J'.base, J'.hok, rv, q⟩
    | .next, ⟨σ', H', J', q⟩ => exact ⟨V.non, H', J'.os, J'.bare, J'.base, J'.hok, rfl, q⟩
    | .brk, ⟨_, _, _, q⟩ => exact False.elim q
    | .cont, ⟨_, _, _, q⟩ => exact False.elim q
structure CalE (P : Program) (w : World) (K : PySem.W.Frag) (mg : Str → Option Value) (base : Heap) (C : Addr) (k : Nat) (x : Str) (sp : Addr → Addr → Sp) : Prop where
  ex : ∃ (f : Addr) (fd : FuncData) (ps : List Str), FnE P w K mg base C k f fd ps sp ∧ mg x = some (.ref f) ∧ PySem.W.keepIn K (.ref f) = true ∧ Binds K fd ps []
/-- f(e), e the exception at a, its dict at d -/
theorem pe_cE {X : Cx} {C a d : Addr} {oe : Obj} {pn : List (Addr × Obj)} {k j : Nat} {x : Str} {sp : Addr → Addr → Sp} {q pos : Pos} {e : Expr} {es : List Expr} {t : TA} (c : CalE X.prog X.w X.K X.mg X.base C k x sp) (hp : Held C (some d) (a, oe)) (hr : Room j X.A) (hk : k ≤ j) (hg : Gl X x)
    (ha : PA (X.suite a ((a, oe) :: pn)) (e :: es) t) (hdb : (x == ("__debug__" : Str)) = false := by decide) (he : starEach (e :: es) X.env = (false, eval e X.env) :: starEach es X.env := by rfl) (hpl : (backTo pos (starEach es X.env)).any (·.1) = false := by rfl) :
    PE (X.suite a ((a, oe) :: pn)) (.Call (.Name x q) (e :: es) [] pos) (tCall (sp a d) [] C8.E0 t) := by
  obtain ⟨f, fd, ps, F, hm, kp, b⟩ := c.ex
  refine ⟨fun pins s σ H Q I h => ?_⟩
  refine wpAny_Call_Name_kw (ld_glob (X := X.suite a ((a, oe) :: pn)) I hg hm ?_ hdb)
  refine PySem.W.callWith_K (h₀ := X.base) I.ok.mod.kin kp (thn (ha.run pos pins s σ H _ I h) fun us s1 hus => ?_) he hpl
  obtain ⟨vs, H1, I1, r, q1⟩ := hus
  rw [List.append_nil] at q1
  have P1 := I1.pin (a, oe) (List.mem_append_left _ List.mem_cons_self)
  have hl : us.length = ps.length := by rw [← r.length]; exact F.len _ _ _ _ _ _ q1
  have bb := b s1 us I1.kIn (by rw [List.append_nil]; exact hl)
  rw [List.append_nil] at bb
  have pok : L2H.PinOk X.stack H1 s1 (a, oe) := ⟨P1.1, P1.2.1, fun hmm => (List.mem_cons.mp (I1.stkSub a hmm)).elim P1.2.2.1 P1.2.2.2.1, P1.2.2.2.2⟩
  refine ⟨I1.kIn, wpAny_call (codeAny_mono (F.run _ X.stack s1 H1 ⟨us, []⟩ us vs Q C8.E0 (a, oe) d ⟨(hr.mono hk).dp, (hr.mono hk).un⟩ hp pok I1.env0 bb r q1) fun z s' hz => ?_)⟩
  match z, hz with
  | .error _, hz => exact hz.elim
  | .ok .next, hz => exact hz.elim
  | .ok .brk, hz => exact hz.elim
  | .ok .cont, hz => exact hz.elim
  | .ok (.ret u), hz => exact I1.after hz
/-! ### isinstance of the exception that is handled -/
structure ExcI (K : PySem.W.Frag) (C : Addr) : Prop where
  cl : (PySem.W.clsIn K C).isSome = true
  ga : PySem.W.findIn K (.ref C) "__getattribute__" = some (some (.builtin "BaseException.__getattribute__"))
  gg : PySem.W.findIn K (.ref C) "__getattr__" = some none
  ex : PySem.W.subIn K (.ref C) (.type "BaseException") = some true
  ca : PySem.W.findIn K (.ref C) "__class__" = some (some (.builtin "object.__class__"))
  cn : PySem.W.specialIn K (.builtin "object.__class__") "__get__" = some (some (.builtin "getset_descriptor.__get__"))
  ct : PySem.W.takesIn K (.builtin "object.__class__") = some true
  cm : PySem.W.mroIn K C (.type "object") = some true
def exiB (K : PySem.W.Frag) (C : Addr) : Bool := (PySem.W.clsIn K C).isSome && (He.eqO (PySem.W.findIn K (.ref C) "__getattribute__") (some (some (.builtin "BaseException.__getattribute__"))) && (He.eqO (PySem.W.findIn K (.ref C) "__getattr__") (some none) &&
  (decide (PySem.W.subIn K (.ref C) (.type "BaseException") = some true) && (He.eqO (PySem.W.findIn K (.ref C) "__class__") (some (some (.builtin "object.__class__"))) && (decide (PySem.W.specialIn K (.builtin "object.__class__") "__get__" = some (some (.builtin "getset_descriptor.__get__"))) &&
    (decide (PySem.W.takesIn K (.builtin "object.__class__") = some true) && decide (PySem.W.mroIn K C (.type "object") = some true)))))))
theorem exiB_ok {K : PySem.W.Frag} {C : Addr} (h : exiB K C = true) : ExcI K C := by
  obtain ⟨h1, h⟩ := He.ba h
  obtain ⟨h2, h⟩ := He.ba h
  obtain ⟨h3, h⟩ := He.ba h
  obtain ⟨h4, h⟩ := He.ba h
  obtain ⟨h5, h⟩ := He.ba h
  obtain ⟨h6, h⟩ := He.ba h
  obtain ⟨h7, h8⟩ := He.ba h
  exact ⟨h1, He.eqO_ok h2, He.eqO_ok h3, of_decide_eq_true h4, He.eqO_ok h5, of_decide_eq_true h6, of_decide_eq_true h7, of_decide_eq_true h8⟩
/-- a class as a value -/
def clsV : V → Option Value
  | .ref a => some (.ref a)
  | .ty n => some (.type n)
  | _ => none
theorem clsV_rel {v : V} {c u : Value} (h : clsV v = some c) (r : RelV v u) : u = c := by
  cases v <;> first | (cases h; exact r) | cases h
def clsVs : List V → Option (List Value)
  | [] => some []
  | v :: r => match clsV v, clsVs r with
    | some c, some cs => some (c :: cs)
    | _, _ => none
theorem clsVs_rel : ∀ {vs : List V} {cs us : List Value}, clsVs vs = some cs → Vals vs us → us = cs
  | [], _, _, h, .nil => by cases h; rfl
  | v :: r, cs, u :: us, h, .cons r1 r2 => by
    unfold clsVs at h
    split at h
    · rename_i c cs' h1 h2
      cases h
      rw [clsV_rel h1 r1, clsVs_rel h2 r2]
    · cases h
/-- isinstance(e, c), isinstance(e, (c, ..)), e the exception at a, of the class at C -/
def rIsX (K : PySem.W.Frag) (C a d : Addr) : List V → Hp → VK → Prop := fun xs H Q => ∃ c, xs = [.ref a, c] ∧ (∃ ws, H d = some (.xd ws)) ∧
  ((∃ cv b, clsV c = some cv ∧ PySem.W.kitOne K (.ref C) cv = some b ∧ Q (.bl b) H) ∨ ∃ t cs cvs b, c = .ref t ∧ SqT K H t cs ∧ clsVs cs = some cvs ∧ PySem.W.kitAny K (.ref C) cvs = some b ∧ Q (.bl b) H)
theorem call_isX {X : Cx} {C a d : Addr} {oe : Obj} (T : ExcI X.K C) (hp : Held C (some d) (a, oe)) (hin : (a, oe) ∈ X.pn) : CallR X (.builtin "isinstance") (rIsX X.K C a d) := by
  intro pins s σ H xs us Q I r h
  obtain ⟨c, rfl, ⟨ws, hd⟩, h⟩ := h
  obtain ⟨od, J⟩ : ∃ od, PySem.W.InstAt s.heap a oe C od := by
    have P1 := I.pin (a, oe) (List.mem_append_left _ hin)
    obtain ⟨vs, hf⟩ := hp.f
    obtain ⟨hz1, hz2⟩ := hp.z
    have xo : ObjOk X.prog X.w H s.heap d (.xd ws) := I.hok d _ hd
    obtain ⟨mA, hns, _⟩ := xo
    obtain ⟨o, _, _, ho, _⟩ := id hns
    refine ⟨some o, P1.1, hz1, ?_, ?_⟩
    · unfold PySem.W.notCls
      rw [show oe.data = _ from hf] <;> rfl
    · rw [show oe.dict = some d from hz2]
      exact ho
  have Z := PySem.W.kitx_exc (x := a) (ox := oe) (od := od) T.cl T.ga T.gg T.ex T.ca T.cn T.ct T.cm
  match r with
  | .cons rx (.cons rc .nil) =>
    cases rx
    rcases h with ⟨cv, b, e1, e2, q⟩ | ⟨t, cs, cvs, b, rfl, ht, e1, e2, q⟩
    · obtain rfl := clsV_rel e1 rc
      exact PySem.W.kia_one Z I.kIn J e2 (fun z => nomatch z) fun tk => ⟨.bl b, H, I.kept (t' := tk) fun _ _ z => z, rfl, q⟩
    · cases rc
      obtain ⟨its, rv, ⟨o, ho, hc, n, hdt⟩, _⟩ := I.tuple ht
      obtain rfl := clsVs_rel e1 rv
      obtain ⟨oc, odd, oda, osl⟩ := o
      dsimp only at hc hdt
      subst hc hdt
      exact PySem.W.kia_tup Z I.kIn J ho e2 (fun z => nomatch z) fun tk => ⟨.bl b, H, I.kept (t' := tk) fun _ _ z => z, rfl, q⟩
/-- .. where class and dict are told by equations -/
def rIsY (K : PySem.W.Frag) (C a : Addr) (cls : Value) (d : Option Addr) : List V → Hp → VK → Prop := fun xs H Q => ∃ d', cls = .ref C ∧ d = some d' ∧ rIsX K C a d' xs H Q
theorem call_isY {X : Cx} {C a : Addr} {cls : Value} {d : Option Addr} {oe : Obj} (T : ExcI X.K C) (hz : Zc cls d oe) (hf : ∃ vs, oe.data = .fields vs) (hin : (a, oe) ∈ X.pn) : CallR X (.builtin "isinstance") (rIsY X.K C a cls d) := by
  intro pins s σ H xs us Q I r h
  obtain ⟨d', e1, e2, h⟩ := h
  exact call_isX T ⟨by rw [← e1, ← e2]; exact hz, hf⟩ hin pins s σ H xs us Q I r h
def tCallY (sp : Addr → Addr → Sp) (C a : Addr) (cls : Value) (d : Option Addr) (t : TA) : TE := fun σ H Q => ∃ d', cls = .ref C ∧ d = some d' ∧ tCall (sp a d') [] C8.E0 t σ H Q
theorem pe_cY {X : Cx} {C a : Addr} {cls : Value} {d : Option Addr} {oe : Obj} {pn : List (Addr × Obj)} {k j : Nat} {x : Str} {sp : Addr → Addr → Sp} {q pos : Pos} {e : Expr} {es : List Expr} {t : TA} (c : CalE X.prog X.w X.K X.mg X.base C k x sp) (hz : Zc cls d oe) (hf : ∃ vs, oe.data = .fields vs) (hr : Room j X.A) (hk : k ≤ j) (hg : Gl X x)
    (ha : PA (X.suite a ((a, oe) :: pn)) (e :: es) t) (hdb : (x == ("__debug__" : Str)) = false := by decide) (he : starEach (e :: es) X.env = (false, eval e X.env) :: starEach es X.env := by rfl) (hpl : (backTo pos (starEach es X.env)).any (·.1) = false := by rfl) :
    PE (X.suite a ((a, oe) :: pn)) (.Call (.Name x q) (e :: es) [] pos) (tCallY sp C a cls d t) := by
  refine ⟨fun pins s σ H Q I h => ?_⟩
  obtain ⟨d', e1, e2, h⟩ := h
  exact (pe_cE c ⟨by rw [← e1, ← e2]; exact hz, hf⟩ hr hk hg ha hdb he hpl).run pins s σ H Q I h
theorem ExcG.xfc {K : PySem.W.Frag} {C : Addr} {f : Str} {tl : List Value} {nid : String} {fI : Addr} (T : ExcG K C f tl nid fI) : XfC K C := ⟨T.ga, T.gg, T.exC, T.hd⟩
/-! ### an exception class, made up -/
structure XMk (P : Program) (w : World) (K : PySem.W.Frag) (mg : Str → Option Value) (base : Heap) (k : Nat) (x : Str) (C : Addr) (f : Str) : Prop where
  ex : ∃ (bn nid iid : String) (tl : List Value) (fI : Addr) (fd : FuncData) (ps : List Str), XBase bn nid iid tl ∧ ExcG K C f tl nid fI ∧ FnOk P w K mg base C8.CX0 k fI fd ps (spX C f) ∧ Binds K fd ps [] ∧ mg x = some (.ref C)
theorem pmk_x {X : Cx} {x : Str} {C : Addr} {f : Str} {k j : Nat} {e : Expr} {te : TE} {p pos : Pos} (c : XMk X.prog X.w X.K X.mg X.base k x C f) (hr : Room j X.A) (hk : k + 1 ≤ j) (hg : Gl X x) (he : PE X e te)
    (hdb : (x == ("__debug__" : Str)) = false := by decide) (hst : starEach [e] X.env = (false, eval e X.env) :: starEach [] X.env := by rfl) (hpl : (backTo pos (starEach [] X.env)).any (·.1) = false := by rfl) :
    PMk X (.Call (.Name x p) [e] [] pos) (tMkG C f te) := by
  obtain ⟨bn, nid, iid, tl, fI, fd, ps, B, T, F, b, hm⟩ := c.ex
  exact pmk_G B T F hr hk b C8.pass0 hg hm he hdb hst hpl
/-! ### a def that lets nothing out where its promise says so -/
theorem fn_calm {P : Program} {w : World} {K : PySem.W.Frag} {mg : Str → Option Value} {base : Heap} {k : Nat} {f : Addr} {fd : FuncData} {ps : List Str} {sp sp' : Sp} (F : FnOk P w K mg base (L2.CX P w) k f fd ps sp) (h : ∀ vs H Q E, sp' vs H Q E → sp vs H Q fun _ _ _ => False) : FnOk P w K mg base C8.CX0 k f fd ps sp' := by
  refine ⟨fun vs H Q E q => F.len _ _ _ _ (h _ _ _ _ q), fun A outer s H args us vs Q E hr he hb hv hs => codeAny_mono (F.run A outer s H args us vs Q _ hr he hb hv (h _ _ _ _ hs)) fun r s' q => ?_⟩
  match r, q with
  | .ok (.ret _), q => exact q
  | .ok .next, q => exact q
  | .ok .brk, q => exact q
  | .ok .cont, q => exact q
  | .error u, q =>
    obtain ⟨_, _, _, _, _, _, _, _, _, _, _, _, z⟩ := q
    exact z.elim
end Sk

set_option maxHeartbeats 0
namespace Sk
open PySem PySem.Spec PyProof.Rows L2
abbrev R : PySem.W.OpenRow := PySem.W.OpenLaw.row PySem.Challenge.rw_skinrooms_k05_whole_bags_by_lists
def top (i : Nat) : Stmt := PySem.Challenge.pw_skinrooms_k05_whole_bags_by_lists.main.body.getD i (.Pass ⟨0, 0, 0, 0⟩)
abbrev s_is_name : Stmt := top 8
theorem sc_is_name : FnScope ["thing", "sign"] ["thing"] (defScope s_is_name) := ⟨rfl, rfl, rfl, by decide +kernel, rfl, by decide +kernel, by decide +kernel⟩
def d_is_name : He.DefD := ⟨("is_name", none), "is_name", "is_name", defArgs s_is_name, defBody s_is_name, defScope s_is_name, [], []⟩
abbrev s_word_count : Stmt := top 9
theorem sc_word_count : FnScope ["word", "name", "more", "count", "figures", "sign"] ["word"] (defScope s_word_count) := ⟨rfl, rfl, rfl, by decide +kernel, rfl, by decide +kernel, by decide +kernel⟩
def d_word_count : He.DefD := ⟨("word_count", none), "word_count", "word_count", defArgs s_word_count, defBody s_word_count, defScope s_word_count, [], []⟩
abbrev s_counts_of : Stmt := top 10
theorem sc_counts_of : FnScope ["words", "found", "total", "spot", "word", "told", "name", "count"] ["words"] (defScope s_counts_of) := ⟨rfl, rfl, rfl, by decide +kernel, rfl, by decide +kernel, by decide +kernel⟩
def d_counts_of : He.DefD := ⟨("counts_of", none), "counts_of", "counts_of", defArgs s_counts_of, defBody s_counts_of, defScope s_counts_of, [], []⟩
abbrev s_Bag___init__ : Stmt := inClass (top 11) 0
theorem sc_Bag___init__ : FnScope ["self", "text"] ["self", "text"] (defScope s_Bag___init__) := ⟨rfl, rfl, rfl, by decide +kernel, rfl, by decide +kernel, by decide +kernel⟩
def d_Bag___init__ : He.DefD := ⟨("Bag", some "__init__"), "__init__", "Bag.__init__", defArgs s_Bag___init__, defBody s_Bag___init__, defScope s_Bag___init__, [.str ""], []⟩
abbrev s_Bag___len__ : Stmt := inClass (top 11) 2
theorem sc_Bag___len__ : FnScope ["self", "name", "k"] ["self"] (defScope s_Bag___len__) := ⟨rfl, rfl, rfl, by decide +kernel, rfl, by decide +kernel, by decide +kernel⟩
def d_Bag___len__ : He.DefD := ⟨("Bag", some "__len__"), "__len__", "Bag.__len__", defArgs s_Bag___len__, defBody s_Bag___len__, defScope s_Bag___len__, [], []⟩
abbrev s_Bag___str__ : Stmt := inClass (top 11) 3
theorem sc_Bag___str__ : FnScope ["self", "name"] ["self"] (defScope s_Bag___str__) := ⟨rfl, rfl, rfl, by decide +kernel, rfl, by decide +kernel, by decide +kernel⟩
def d_Bag___str__ : He.DefD := ⟨("Bag", some "__str__"), "__str__", "Bag.__str__", defArgs s_Bag___str__, defBody s_Bag___str__, defScope s_Bag___str__, [], []⟩
abbrev s_Bag_names : Stmt := inClass (top 11) 6
theorem sc_Bag_names : FnScope ["self"] ["self"] (defScope s_Bag_names) := ⟨rfl, rfl, rfl, by decide +kernel, rfl, by decide +kernel, by decide +kernel⟩
def d_Bag_names : He.DefD := ⟨("Bag", some "names"), "names", "Bag.names", defArgs s_Bag_names, defBody s_Bag_names, defScope s_Bag_names, [], []⟩
abbrev s_Bag_count_of : Stmt := inClass (top 11) 7
theorem sc_Bag_count_of : FnScope ["self", "name"] ["self", "name"] (defScope s_Bag_count_of) := ⟨rfl, rfl, rfl, by decide +kernel, rfl, by decide +kernel, by decide +kernel⟩
def d_Bag_count_of : He.DefD := ⟨("Bag", some "count_of"), "count_of", "Bag.count_of", defArgs s_Bag_count_of, defBody s_Bag_count_of, defScope s_Bag_count_of, [], []⟩
abbrev s_Bag_less : Stmt := inClass (top 11) 10
theorem sc_Bag_less : FnScope ["self", "other", "name"] ["self", "other"] (defScope s_Bag_less) := ⟨rfl, rfl, rfl, by decide +kernel, rfl, by decide +kernel, by decide +kernel⟩
def d_Bag_less : He.DefD := ⟨("Bag", some "less"), "less", "Bag.less", defArgs s_Bag_less, defBody s_Bag_less, defScope s_Bag_less, [], []⟩
abbrev s_Bag_times : Stmt := inClass (top 11) 11
theorem sc_Bag_times : FnScope ["self", "often"] ["self", "often"] (defScope s_Bag_times) := ⟨rfl, rfl, rfl, by decide +kernel, rfl, by decide +kernel, by decide +kernel⟩
def d_Bag_times : He.DefD := ⟨("Bag", some "times"), "times", "Bag.times", defArgs s_Bag_times, defBody s_Bag_times, defScope s_Bag_times, [], []⟩
abbrev s_Bag_holds : Stmt := inClass (top 11) 8
theorem sc_Bag_holds : FnScope ["self", "other", "name", "count"] ["self", "other"] (defScope s_Bag_holds) := ⟨rfl, rfl, rfl, by decide +kernel, rfl, by decide +kernel, by decide +kernel⟩
def d_Bag_holds : He.DefD := ⟨("Bag", some "holds"), "holds", "Bag.holds", defArgs s_Bag_holds, defBody s_Bag_holds, defScope s_Bag_holds, [], []⟩
abbrev s_bag_from : Stmt := top 12
theorem sc_bag_from : FnScope ["some", "often", "found", "counts", "one", "many", "name", "count"] ["some", "often"] (defScope s_bag_from) := ⟨rfl, rfl, rfl, by decide +kernel, rfl, by decide +kernel, by decide +kernel⟩
def d_bag_from : He.DefD := ⟨("bag_from", none), "bag_from", "bag_from", defArgs s_bag_from, defBody s_bag_from, defScope s_bag_from, [], []⟩
abbrev s_Bag_plus : Stmt := inClass (top 11) 9
theorem sc_Bag_plus : FnScope ["self", "other"] ["self", "other"] (defScope s_Bag_plus) := ⟨rfl, rfl, rfl, by decide +kernel, rfl, by decide +kernel, by decide +kernel⟩
def d_Bag_plus : He.DefD := ⟨("Bag", some "plus"), "plus", "Bag.plus", defArgs s_Bag_plus, defBody s_Bag_plus, defScope s_Bag_plus, [], []⟩
abbrev s_Bag___eq__ : Stmt := inClass (top 11) 1
theorem sc_Bag___eq__ : FnScope ["self", "other"] ["self", "other"] (defScope s_Bag___eq__) := ⟨rfl, rfl, rfl, by decide +kernel, rfl, by decide +kernel, by decide +kernel⟩
def d_Bag___eq__ : He.DefD := ⟨("Bag", some "__eq__"), "__eq__", "Bag.__eq__", defArgs s_Bag___eq__, defBody s_Bag___eq__, defScope s_Bag___eq__, [], []⟩
abbrev s__law_draws : Stmt := top 14
theorem sc__law_draws : FnScope ["_law_script", "_law_at", "_law_cell"] ["_law_script", "_law_at"] (defScope s__law_draws) := ⟨rfl, rfl, rfl, by decide +kernel, rfl, by decide +kernel, by decide +kernel⟩
def d__law_draws : He.DefD := ⟨("_law_draws", none), "_law_draws", "_law_draws", defArgs s__law_draws, defBody s__law_draws, defScope s__law_draws, [], []⟩
abbrev s__law_draw : Stmt := top 15
theorem sc__law_draw : FnScope ["_law_draws_here", "_law_many", "_law_digit", "_law_mixed", "_law_prime"] ["_law_draws_here", "_law_many"] (defScope s__law_draw) := ⟨rfl, rfl, rfl, by decide +kernel, rfl, by decide +kernel, by decide +kernel⟩
def d__law_draw : He.DefD := ⟨("_law_draw", none), "_law_draw", "_law_draw", defArgs s__law_draw, defBody s__law_draw, defScope s__law_draw, [], []⟩
abbrev s__law_names : Stmt := top 16
theorem sc__law_names : FnScope ["_law_draws_here", "_law_many", "_law_letters", "_law_found", "_law_k", "_law_base", "_law_head", "_law_at", "_law_off", "_law_name"] ["_law_draws_here", "_law_many"] (defScope s__law_names) := ⟨rfl, rfl, rfl, by decide +kernel, rfl, by decide +kernel, by decide +kernel⟩
def d__law_names : He.DefD := ⟨("_law_names", none), "_law_names", "_law_names", defArgs s__law_names, defBody s__law_names, defScope s__law_names, [], []⟩
abbrev s__law_left : Stmt := top 17
theorem sc__law_left : FnScope ["_law_mine", "_law_its", "_law_left_here", "_law_name", "_law_one"] ["_law_mine", "_law_its"] (defScope s__law_left) := ⟨rfl, rfl, rfl, by decide +kernel, rfl, by decide +kernel, by decide +kernel⟩
def d__law_left : He.DefD := ⟨("_law_left", none), "_law_left", "_law_left", defArgs s__law_left, defBody s__law_left, defScope s__law_left, [], []⟩
abbrev s__law_less : Stmt := top 18
theorem sc__law_less : FnScope ["_law_one", "_law_other", "e"] ["_law_one", "_law_other"] (defScope s__law_less) := ⟨rfl, rfl, rfl, by decide +kernel, rfl, by decide +kernel, by decide +kernel⟩
def d__law_less : He.DefD := ⟨("_law_less", none), "_law_less", "_law_less", defArgs s__law_less, defBody s__law_less, defScope s__law_less, [], []⟩
abbrev s__law_made : Stmt := top 20
theorem sc__law_made : FnScope ["_law_draws_here", "_law_names_here", "_law_bags", "_law_lists", "_law_one", "_law_other", "_law_way", "_law_left_here", "_law_name", "_law_found", "_law_often", "_law_things", "_law_turn"] ["_law_draws_here", "_law_names_here", "_law_bags", "_law_lists"] (defScope s__law_made) := ⟨rfl, rfl, rfl, by decide +kernel, rfl, by decide +kernel, by decide +kernel⟩
def d__law_made : He.DefD := ⟨("_law_made", none), "_law_made", "_law_made", defArgs s__law_made, defBody s__law_made, defScope s__law_made, [], []⟩
abbrev s__law_text : Stmt := top 19
theorem sc__law_text : FnScope ["_law_things", "_law_words", "_law_name"] ["_law_things"] (defScope s__law_text) := ⟨rfl, rfl, rfl, by decide +kernel, rfl, by decide +kernel, by decide +kernel⟩
def d__law_text : He.DefD := ⟨("_law_text", none), "_law_text", "_law_text", defArgs s__law_text, defBody s__law_text, defScope s__law_text, [], []⟩
abbrev s__law_stand : Stmt := top 21
theorem sc__law_stand : FnScope ["_law_bags", "_law_lists", "_law_bag", "_law_things", "_law_other", "_law_more", "_law_name"] ["_law_bags", "_law_lists"] (defScope s__law_stand) := ⟨rfl, rfl, rfl, by decide +kernel, rfl, by decide +kernel, by decide +kernel⟩
def d__law_stand : He.DefD := ⟨("_law_stand", none), "_law_stand", "_law_stand", defArgs s__law_stand, defBody s__law_stand, defScope s__law_stand, [], []⟩
abbrev s_law : Stmt := top 22
theorem sc_law : FnScope ["_law_script", "_law_k", "_law_draws_here", "_law_names_here", "_law_bags", "_law_lists", "_law_turn", "_law_bag", "_law_things", "_law_at"] ["_law_script"] (defScope s_law) := ⟨rfl, rfl, rfl, by decide +kernel, rfl, by decide +kernel, by decide +kernel⟩
def d_law : He.DefD := ⟨("law", none), "law", "law", defArgs s_law, defBody s_law, defScope s_law, [], []⟩
abbrev s_NotHeld___init__ : Stmt := inClass (top 2) 0
theorem sc_NotHeld___init__ : FnScope ["self", "name"] ["self", "name"] (defScope s_NotHeld___init__) := ⟨rfl, rfl, rfl, by decide +kernel, rfl, by decide +kernel, by decide +kernel⟩
def d_NotHeld___init__ : He.DefD := ⟨("NotHeld", some "__init__"), "__init__", "NotHeld.__init__", defArgs s_NotHeld___init__, defBody s_NotHeld___init__, defScope s_NotHeld___init__, [], []⟩
def fa : List He.Fa := [.free "enumerate", .free "isinstance", .free "str", .free "len", .free "all", .free "int", .free "range", .free "sorted", .free "zip", .free "max", .free "min", .free "list", .free "set", .int "MOST_SIGNS" 8, .str "LETTERS" "abcdefghijklmnopqrstuvwxyz", .str "FIGURES" "0123456789", .int "MOST_READ" 400, .glo "is_name", .glo "word_count", .glo "counts_of", .glo "bag_from", .glo "_law_draws", .glo "_law_draw", .glo "_law_names", .glo "_law_left", .glo "_law_less", .glo "_law_made", .glo "_law_text", .glo "_law_stand", .glo "law", .glo "NoBag", .glo "NotHeld", .glo "Bag", .cls "Bag", .noat "Bag" "own", .meth "Bag" "__eq__", .meth "Bag" "__len__", .meth "Bag" "__str__", .meth "Bag" "names", .meth "Bag" "count_of", .meth "Bag" "plus", .meth "Bag" "less", .meth "Bag" "times", .meth "Bag" "holds", .mkr "Bag"]
def fn : List He.DefD := [d_is_name, d_word_count, d_counts_of, d_Bag___init__, d_Bag___len__, d_Bag___str__, d_Bag_names, d_Bag_count_of, d_Bag_less, d_Bag_times, d_Bag_holds, d_bag_from, d_Bag_plus, d_Bag___eq__, d__law_draws, d__law_draw, d__law_names, d__law_left, d__law_less, d__law_made, d__law_text, d__law_stand, d_law, d_NotHeld___init__]
def ex (K : PySem.W.Frag) : Bool := (isiB K (He.ga K "Bag")) && (exgB K (He.ga K "NotHeld") "name" [.type "LookupError", .type "Exception", .type "BaseException", .type "object"] "LookupError.__new__")
structure Yes (K : PySem.W.Frag) (mg : Str → Option Value) : Prop where
  c : He.SaysD fa fn K
  x : ex K = true
  g : ∃ h : Heap, K.In h ∧ h.Ns mainGlobals mg
section
variable {K : PySem.W.Frag} {mg : Str → Option Value}
theorem Yes.n_enumerate (Y : Yes K mg) : mg "enumerate" = none := let ⟨_, X, G⟩ := Y.g; He.free_ok X G (Y.c.fact 0 (f := .free "enumerate") rfl)
theorem Yes.n_isinstance (Y : Yes K mg) : mg "isinstance" = none := let ⟨_, X, G⟩ := Y.g; He.free_ok X G (Y.c.fact 1 (f := .free "isinstance") rfl)
theorem Yes.n_str (Y : Yes K mg) : mg "str" = none := let ⟨_, X, G⟩ := Y.g; He.free_ok X G (Y.c.fact 2 (f := .free "str") rfl)
theorem Yes.n_len (Y : Yes K mg) : mg "len" = none := let ⟨_, X, G⟩ := Y.g; He.free_ok X G (Y.c.fact 3 (f := .free "len") rfl)
theorem Yes.n_all (Y : Yes K mg) : mg "all" = none := let ⟨_, X, G⟩ := Y.g; He.free_ok X G (Y.c.fact 4 (f := .free "all") rfl)
theorem Yes.n_int (Y : Yes K mg) : mg "int" = none := let ⟨_, X, G⟩ := Y.g; He.free_ok X G (Y.c.fact 5 (f := .free "int") rfl)
theorem Yes.n_range (Y : Yes K mg) : mg "range" = none := let ⟨_, X, G⟩ := Y.g; He.free_ok X G (Y.c.fact 6 (f := .free "range") rfl)
theorem Yes.n_sorted (Y : Yes K mg) : mg "sorted" = none := let ⟨_, X, G⟩ := Y.g; He.free_ok X G (Y.c.fact 7 (f := .free "sorted") rfl)
theorem Yes.n_zip (Y : Yes K mg) : mg "zip" = none := let ⟨_, X, G⟩ := Y.g; He.free_ok X G (Y.c.fact 8 (f := .free "zip") rfl)
theorem Yes.n_max (Y : Yes K mg) : mg "max" = none := let ⟨_, X, G⟩ := Y.g; He.free_ok X G (Y.c.fact 9 (f := .free "max") rfl)
theorem Yes.n_min (Y : Yes K mg) : mg "min" = none := let ⟨_, X, G⟩ := Y.g; He.free_ok X G (Y.c.fact 10 (f := .free "min") rfl)
theorem Yes.n_list (Y : Yes K mg) : mg "list" = none := let ⟨_, X, G⟩ := Y.g; He.free_ok X G (Y.c.fact 11 (f := .free "list") rfl)
theorem Yes.n_set (Y : Yes K mg) : mg "set" = none := let ⟨_, X, G⟩ := Y.g; He.free_ok X G (Y.c.fact 12 (f := .free "set") rfl)
theorem Yes.c_MOST_SIGNS (Y : Yes K mg) : ∃ u, mg "MOST_SIGNS" = some u ∧ RelV (V.int 8) u := let ⟨_, X, G⟩ := Y.g; let ⟨t, e⟩ := He.int_ok X G (Y.c.fact 13 (f := .int "MOST_SIGNS" 8) rfl); ⟨_, e, t, rfl⟩
theorem Yes.c_LETTERS (Y : Yes K mg) : ∃ u, mg "LETTERS" = some u ∧ RelV (V.str "abcdefghijklmnopqrstuvwxyz") u := let ⟨_, X, G⟩ := Y.g; let ⟨t, e⟩ := He.str_ok X G (Y.c.fact 14 (f := .str "LETTERS" "abcdefghijklmnopqrstuvwxyz") rfl); ⟨_, e, t, rfl⟩
theorem Yes.c_FIGURES (Y : Yes K mg) : ∃ u, mg "FIGURES" = some u ∧ RelV (V.str "0123456789") u := let ⟨_, X, G⟩ := Y.g; let ⟨t, e⟩ := He.str_ok X G (Y.c.fact 15 (f := .str "FIGURES" "0123456789") rfl); ⟨_, e, t, rfl⟩
theorem Yes.c_MOST_READ (Y : Yes K mg) : ∃ u, mg "MOST_READ" = some u ∧ RelV (V.int 400) u := let ⟨_, X, G⟩ := Y.g; let ⟨t, e⟩ := He.int_ok X G (Y.c.fact 16 (f := .int "MOST_READ" 400) rfl); ⟨_, e, t, rfl⟩
theorem Yes.g_is_name (Y : Yes K mg) : mg "is_name" = some (.ref (He.ga K "is_name")) := let ⟨_, X, G⟩ := Y.g; He.glo_ok X G (Y.c.fact 17 (f := .glo "is_name") rfl)
theorem Yes.g_word_count (Y : Yes K mg) : mg "word_count" = some (.ref (He.ga K "word_count")) := let ⟨_, X, G⟩ := Y.g; He.glo_ok X G (Y.c.fact 18 (f := .glo "word_count") rfl)
theorem Yes.g_counts_of (Y : Yes K mg) : mg "counts_of" = some (.ref (He.ga K "counts_of")) := let ⟨_, X, G⟩ := Y.g; He.glo_ok X G (Y.c.fact 19 (f := .glo "counts_of") rfl)
theorem Yes.g_bag_from (Y : Yes K mg) : mg "bag_from" = some (.ref (He.ga K "bag_from")) := let ⟨_, X, G⟩ := Y.g; He.glo_ok X G (Y.c.fact 20 (f := .glo "bag_from") rfl)
theorem Yes.g__law_draws (Y : Yes K mg) : mg "_law_draws" = some (.ref (He.ga K "_law_draws")) := let ⟨_, X, G⟩ := Y.g; He.glo_ok X G (Y.c.fact 21 (f := .glo "_law_draws") rfl)
theorem Yes.g__law_draw (Y : Yes K mg) : mg "_law_draw" = some (.ref (He.ga K "_law_draw")) := let ⟨_, X, G⟩ := Y.g; He.glo_ok X G (Y.c.fact 22 (f := .glo "_law_draw") rfl)
theorem Yes.g__law_names (Y : Yes K mg) : mg "_law_names" = some (.ref (He.ga K "_law_names")) := let ⟨_, X, G⟩ := Y.g; He.glo_ok X G (Y.c.fact 23 (f := .glo "_law_names") rfl)
theorem Yes.g__law_left (Y : Yes K mg) : mg "_law_left" = some (.ref (He.ga K "_law_left")) := let ⟨_, X, G⟩ := Y.g; He.glo_ok X G (Y.c.fact 24 (f := .glo "_law_left") rfl)
theorem Yes.g__law_less (Y : Yes K mg) : mg "_law_less" = some (.ref (He.ga K "_law_less")) := let ⟨_, X, G⟩ := Y.g; He.glo_ok X G (Y.c.fact 25 (f := .glo "_law_less") rfl)
theorem Yes.g__law_made (Y : Yes K mg) : mg "_law_made" = some (.ref (He.ga K "_law_made")) := let ⟨_, X, G⟩ := Y.g; He.glo_ok X G (Y.c.fact 26 (f := .glo "_law_made") rfl)
theorem Yes.g__law_text (Y : Yes K mg) : mg "_law_text" = some (.ref (He.ga K "_law_text")) := let ⟨_, X, G⟩ := Y.g; He.glo_ok X G (Y.c.fact 27 (f := .glo "_law_text") rfl)
theorem Yes.g__law_stand (Y : Yes K mg) : mg "_law_stand" = some (.ref (He.ga K "_law_stand")) := let ⟨_, X, G⟩ := Y.g; He.glo_ok X G (Y.c.fact 28 (f := .glo "_law_stand") rfl)
theorem Yes.g_law (Y : Yes K mg) : mg "law" = some (.ref (He.ga K "law")) := let ⟨_, X, G⟩ := Y.g; He.glo_ok X G (Y.c.fact 29 (f := .glo "law") rfl)
theorem Yes.g_NoBag (Y : Yes K mg) : mg "NoBag" = some (.ref (He.ga K "NoBag")) := let ⟨_, X, G⟩ := Y.g; He.glo_ok X G (Y.c.fact 30 (f := .glo "NoBag") rfl)
theorem Yes.g_NotHeld (Y : Yes K mg) : mg "NotHeld" = some (.ref (He.ga K "NotHeld")) := let ⟨_, X, G⟩ := Y.g; He.glo_ok X G (Y.c.fact 31 (f := .glo "NotHeld") rfl)
theorem Yes.g_Bag (Y : Yes K mg) : mg "Bag" = some (.ref (He.ga K "Bag")) := let ⟨_, X, G⟩ := Y.g; He.glo_ok X G (Y.c.fact 32 (f := .glo "Bag") rfl)
theorem Yes.cl_Bag (Y : Yes K mg) : Cls K (He.ga K "Bag") := He.cls_ok (Y.c.fact 33 (f := .cls "Bag") rfl)
theorem Yes.na_Bag_own (Y : Yes K mg) : NoAttr K (He.ga K "Bag") "own" := He.noat_ok (Y.c.fact 34 (f := .noat "Bag" "own") rfl)
theorem Yes.mm_Bag___eq__ (Y : Yes K mg) : Meth K (He.ga K "Bag") "__eq__" (He.ma K (He.ga K "Bag") "__eq__") := He.meth_ok (Y.c.fact 35 (f := .meth "Bag" "__eq__") rfl)
theorem Yes.mm_Bag___len__ (Y : Yes K mg) : Meth K (He.ga K "Bag") "__len__" (He.ma K (He.ga K "Bag") "__len__") := He.meth_ok (Y.c.fact 36 (f := .meth "Bag" "__len__") rfl)
theorem Yes.mm_Bag___str__ (Y : Yes K mg) : Meth K (He.ga K "Bag") "__str__" (He.ma K (He.ga K "Bag") "__str__") := He.meth_ok (Y.c.fact 37 (f := .meth "Bag" "__str__") rfl)
theorem Yes.mm_Bag_names (Y : Yes K mg) : Meth K (He.ga K "Bag") "names" (He.ma K (He.ga K "Bag") "names") := He.meth_ok (Y.c.fact 38 (f := .meth "Bag" "names") rfl)
theorem Yes.mm_Bag_count_of (Y : Yes K mg) : Meth K (He.ga K "Bag") "count_of" (He.ma K (He.ga K "Bag") "count_of") := He.meth_ok (Y.c.fact 39 (f := .meth "Bag" "count_of") rfl)
theorem Yes.mm_Bag_plus (Y : Yes K mg) : Meth K (He.ga K "Bag") "plus" (He.ma K (He.ga K "Bag") "plus") := He.meth_ok (Y.c.fact 40 (f := .meth "Bag" "plus") rfl)
theorem Yes.mm_Bag_less (Y : Yes K mg) : Meth K (He.ga K "Bag") "less" (He.ma K (He.ga K "Bag") "less") := He.meth_ok (Y.c.fact 41 (f := .meth "Bag" "less") rfl)
theorem Yes.mm_Bag_times (Y : Yes K mg) : Meth K (He.ga K "Bag") "times" (He.ma K (He.ga K "Bag") "times") := He.meth_ok (Y.c.fact 42 (f := .meth "Bag" "times") rfl)
theorem Yes.mm_Bag_holds (Y : Yes K mg) : Meth K (He.ga K "Bag") "holds" (He.ma K (He.ga K "Bag") "holds") := He.meth_ok (Y.c.fact 43 (f := .meth "Bag" "holds") rfl)
theorem Yes.mkr_Bag (Y : Yes K mg) : Mk K (He.ga K "Bag") (He.ma K (He.ga K "Bag") "__init__") := He.mkr_ok (Y.c.fact 44 (f := .mkr "Bag") rfl)
theorem Yes.f_is_name (Y : Yes K mg) : ∃ fd, FunD K "is_name" "is_name" (defArgs s_is_name) (defBody s_is_name) (defScope s_is_name) [] [] (He.ga K "is_name") fd := Y.c.def_ 0 (d := d_is_name) rfl
theorem Yes.f_word_count (Y : Yes K mg) : ∃ fd, FunD K "word_count" "word_count" (defArgs s_word_count) (defBody s_word_count) (defScope s_word_count) [] [] (He.ga K "word_count") fd := Y.c.def_ 1 (d := d_word_count) rfl
theorem Yes.f_counts_of (Y : Yes K mg) : ∃ fd, FunD K "counts_of" "counts_of" (defArgs s_counts_of) (defBody s_counts_of) (defScope s_counts_of) [] [] (He.ga K "counts_of") fd := Y.c.def_ 2 (d := d_counts_of) rfl
theorem Yes.f_Bag___init__ (Y : Yes K mg) : ∃ fd, FunD K "__init__" "Bag.__init__" (defArgs s_Bag___init__) (defBody s_Bag___init__) (defScope s_Bag___init__) [V.str ""] [] (He.ma K (He.ga K "Bag") "__init__") fd := Y.c.def_ 3 (d := d_Bag___init__) rfl
theorem Yes.f_Bag___len__ (Y : Yes K mg) : ∃ fd, FunD K "__len__" "Bag.__len__" (defArgs s_Bag___len__) (defBody s_Bag___len__) (defScope s_Bag___len__) [] [] (He.ma K (He.ga K "Bag") "__len__") fd := Y.c.def_ 4 (d := d_Bag___len__) rfl
theorem Yes.f_Bag___str__ (Y : Yes K mg) : ∃ fd, FunD K "__str__" "Bag.__str__" (defArgs s_Bag___str__) (defBody s_Bag___str__) (defScope s_Bag___str__) [] [] (He.ma K (He.ga K "Bag") "__str__") fd := Y.c.def_ 5 (d := d_Bag___str__) rfl
theorem Yes.f_Bag_names (Y : Yes K mg) : ∃ fd, FunD K "names" "Bag.names" (defArgs s_Bag_names) (defBody s_Bag_names) (defScope s_Bag_names) [] [] (He.ma K (He.ga K "Bag") "names") fd := Y.c.def_ 6 (d := d_Bag_names) rfl
theorem Yes.f_Bag_count_of (Y : Yes K mg) : ∃ fd, FunD K "count_of" "Bag.count_of" (defArgs s_Bag_count_of) (defBody s_Bag_count_of) (defScope s_Bag_count_of) [] [] (He.ma K (He.ga K "Bag") "count_of") fd := Y.c.def_ 7 (d := d_Bag_count_of) rfl
theorem Yes.f_Bag_less (Y : Yes K mg) : ∃ fd, FunD K "less" "Bag.less" (defArgs s_Bag_less) (defBody s_Bag_less) (defScope s_Bag_less) [] [] (He.ma K (He.ga K "Bag") "less") fd := Y.c.def_ 8 (d := d_Bag_less) rfl
theorem Yes.f_Bag_times (Y : Yes K mg) : ∃ fd, FunD K "times" "Bag.times" (defArgs s_Bag_times) (defBody s_Bag_times) (defScope s_Bag_times) [] [] (He.ma K (He.ga K "Bag") "times") fd := Y.c.def_ 9 (d := d_Bag_times) rfl
theorem Yes.f_Bag_holds (Y : Yes K mg) : ∃ fd, FunD K "holds" "Bag.holds" (defArgs s_Bag_holds) (defBody s_Bag_holds) (defScope s_Bag_holds) [] [] (He.ma K (He.ga K "Bag") "holds") fd := Y.c.def_ 10 (d := d_Bag_holds) rfl
theorem Yes.f_bag_from (Y : Yes K mg) : ∃ fd, FunD K "bag_from" "bag_from" (defArgs s_bag_from) (defBody s_bag_from) (defScope s_bag_from) [] [] (He.ga K "bag_from") fd := Y.c.def_ 11 (d := d_bag_from) rfl
theorem Yes.f_Bag_plus (Y : Yes K mg) : ∃ fd, FunD K "plus" "Bag.plus" (defArgs s_Bag_plus) (defBody s_Bag_plus) (defScope s_Bag_plus) [] [] (He.ma K (He.ga K "Bag") "plus") fd := Y.c.def_ 12 (d := d_Bag_plus) rfl
theorem Yes.f_Bag___eq__ (Y : Yes K mg) : ∃ fd, FunD K "__eq__" "Bag.__eq__" (defArgs s_Bag___eq__) (defBody s_Bag___eq__) (defScope s_Bag___eq__) [] [] (He.ma K (He.ga K "Bag") "__eq__") fd := Y.c.def_ 13 (d := d_Bag___eq__) rfl
theorem Yes.f__law_draws (Y : Yes K mg) : ∃ fd, FunD K "_law_draws" "_law_draws" (defArgs s__law_draws) (defBody s__law_draws) (defScope s__law_draws) [] [] (He.ga K "_law_draws") fd := Y.c.def_ 14 (d := d__law_draws) rfl
theorem Yes.f__law_draw (Y : Yes K mg) : ∃ fd, FunD K "_law_draw" "_law_draw" (defArgs s__law_draw) (defBody s__law_draw) (defScope s__law_draw) [] [] (He.ga K "_law_draw") fd := Y.c.def_ 15 (d := d__law_draw) rfl
theorem Yes.f__law_names (Y : Yes K mg) : ∃ fd, FunD K "_law_names" "_law_names" (defArgs s__law_names) (defBody s__law_names) (defScope s__law_names) [] [] (He.ga K "_law_names") fd := Y.c.def_ 16 (d := d__law_names) rfl
theorem Yes.f__law_left (Y : Yes K mg) : ∃ fd, FunD K "_law_left" "_law_left" (defArgs s__law_left) (defBody s__law_left) (defScope s__law_left) [] [] (He.ga K "_law_left") fd := Y.c.def_ 17 (d := d__law_left) rfl
theorem Yes.f__law_less (Y : Yes K mg) : ∃ fd, FunD K "_law_less" "_law_less" (defArgs s__law_less) (defBody s__law_less) (defScope s__law_less) [] [] (He.ga K "_law_less") fd := Y.c.def_ 18 (d := d__law_less) rfl
theorem Yes.f__law_made (Y : Yes K mg) : ∃ fd, FunD K "_law_made" "_law_made" (defArgs s__law_made) (defBody s__law_made) (defScope s__law_made) [] [] (He.ga K "_law_made") fd := Y.c.def_ 19 (d := d__law_made) rfl
theorem Yes.f__law_text (Y : Yes K mg) : ∃ fd, FunD K "_law_text" "_law_text" (defArgs s__law_text) (defBody s__law_text) (defScope s__law_text) [] [] (He.ga K "_law_text") fd := Y.c.def_ 20 (d := d__law_text) rfl
theorem Yes.f__law_stand (Y : Yes K mg) : ∃ fd, FunD K "_law_stand" "_law_stand" (defArgs s__law_stand) (defBody s__law_stand) (defScope s__law_stand) [] [] (He.ga K "_law_stand") fd := Y.c.def_ 21 (d := d__law_stand) rfl
theorem Yes.f_law (Y : Yes K mg) : ∃ fd, FunD K "law" "law" (defArgs s_law) (defBody s_law) (defScope s_law) [] [] (He.ga K "law") fd := Y.c.def_ 22 (d := d_law) rfl
theorem Yes.f_NotHeld___init__ (Y : Yes K mg) : ∃ fd, FunD K "__init__" "NotHeld.__init__" (defArgs s_NotHeld___init__) (defBody s_NotHeld___init__) (defScope s_NotHeld___init__) [] [] (He.ma K (He.ga K "NotHeld") "__init__") fd := Y.c.def_ 23 (d := d_NotHeld___init__) rfl
theorem Yes.is_Bag (Y : Yes K mg) : IsiC K (He.ga K "Bag") := isiB_ok Y.cl_Bag (show isiB K (He.ga K "Bag") = true from (He.ba Y.x).1)
theorem Yes.xg_NotHeld (Y : Yes K mg) : ExcG K (He.ga K "NotHeld") "name" [.type "LookupError", .type "Exception", .type "BaseException", .type "object"] "LookupError.__new__" (He.ma K (He.ga K "NotHeld") "__init__") := exgB_ok (show exgB K (He.ga K "NotHeld") "name" [.type "LookupError", .type "Exception", .type "BaseException", .type "object"] "LookupError.__new__" = true from (He.ba Y.x).2)
end
abbrev hk : PySem.W.Hook := hookS 6 fa fn ex
def ob (s : PySem.W.SharedT) : AlS := obsS 6 fa fn ex (HandSHeadRun.getT s)
theorem ob_eq (s : PySem.W.SharedT) : ob s = hk.obs s.abs := obsS_eq (HandSHeadRun.getT_eq s)
def loose0 : List Str := ["NoBag", "NotHeld", "LETTERS", "FIGURES", "MOST_SIGNS", "MOST_READ", "is_name", "word_count", "counts_of", "Bag", "bag_from", "_law_draws", "_law_draw", "_law_names", "_law_left", "_law_less", "_law_text", "_law_made", "_law_stand"]
abbrev loose : List Str := loose0
theorem run (w : World) : HandSHeadRun.RunEq R (PySem.W.view R.prog [22]) hk ob 6000 loose w := by
  intro os
  kernel_rfl
end Sk

set_option maxHeartbeats 4000000
/-! == and != by a class's own __eq__ -/
namespace Sk
open PySem PySem.Spec PyProof.Rows L2 PySem.W
section
variable {prog : Program} {w : World} {A : Around} {E : Value → Shared → Prop} {s : Shared} {K : Frag} {x C L f : Addr} {h₀ : Heap} {m : Str → Option Value} {ox : Obj} {od : Option Obj} {b tb : Value}
theorem neNonly {op : CmpOp} {Q : Value → Shared → Prop} (hu : A.units < cLine) (X : K.In s.heap) (I : InstAt s.heap x ox C od) (hb : Looks (model prog w) s.heap (typeOf b) tb) (hn : notFirst K C tb = true)
    (one : wpAny (model prog w) A (tryCompare (.ref x) (cmpInfo op).2.1 b) (fun r s' => ∃ v, r = some v ∧ Q v s') E s) : wpAny (model prog w) A (richCompare op (.ref x) b) Q E s := by
  unfold richCompare
  simp only [oneThing_ref]
  refine wpAny_holding (wpAny_bind (wpAny_cRoomFor hu ?_))
  refine wpAny_bind (I.type.here (wpAny_bind (hb.here ?_)))
  split
  · rename_i q
    have e : subIn K tb (.ref C) = some false := by
      rcases Bool.or_eq_true_iff.mp hn with e | e
      · rw [beq_iff_eq.mp e] at q; simp at q
      · exact beq_iff_eq.mp e
    refine wpAny_bind ((looks_subIn X e).here ?_)
    simp only [Bool.false_eq_true, if_false]
    refine wpAny_bind (wpAny_mono one (fun r s' z => ?_) fun _ _ e => e)
    obtain ⟨v, rfl, hq⟩ := z
    exact wpAny_pure hq
  · refine wpAny_bind (wpAny_pure ?_)
    simp only [Bool.false_eq_true, if_false]
    refine wpAny_bind (wpAny_mono one (fun r s' z => ?_) fun _ _ e => e)
    obtain ⟨v, rfl, hq⟩ := z
    exact wpAny_pure hq
theorem isInst_K {M : Model} {owner : Value} {Q : Bool → Shared → Prop} (X : K.In s.heap) (I : InstAt s.heap x ox C od) (hm : mroIn K C owner = some true) (h : Q true s) : wpAny M A (isInstance (.ref x) owner) Q E s := by
  unfold isInstance
  exact wpAny_bind (I.type.here ((looks_mroIn X hm).here h))
theorem objNe_K {Q : Fin → Shared → Prop} (hu : A.units < cLine) (X : K.In s.heap) (I : InstAt s.heap x ox C od) (hs : findIn K (.ref C) "__eq__" = some (some (.ref f))) (hf : isFn K (.ref f) = true)
    (h : wpAny (model prog w) A (call (.ref f) [.ref x, b]) (fun v s' => ∃ r, v = .bool r ∧ Q (.done (.ret (.bool (!r)))) s') E s) : wpAny (model prog w) A (Builtin.«object.__ne__» ⟨[.ref x, b], []⟩) Q E s := by
  obtain ⟨hp, g, d, t, os⟩ := s
  unfold Builtin.«object.__ne__»
  repeat (first
    | with_reducible refine wpAny_cRoomFor hu ?_
    | (refine wpAny_bind (m := callSpecialIfBound? (.ref x) (Str.ofString "__eq__") [b])
        (ifBound_K X I hs hf (wpAny_mono h (fun r s' hr => by
          obtain ⟨b, rfl, hq⟩ := hr
          repeat (first | exact hq | exact wpAny_pure hq | exact wpAny_truthy_bool hq | (refine wpAny_bind (m := truthy (.bool _)) (wpAny_truthy_bool ?_)) | wp_step)) fun _ _ e => e)))
    | wp_step)
theorem check_K {M : Model} {id owner n : String} {rest : List Value} {Q : Unit → Shared → Prop} (hk : builtinKind id = some .slot) (hs : splitId id = some (owner, n)) (ha : argsOk id ⟨.ref x :: rest, []⟩) (X : K.In s.heap) (I : InstAt s.heap x ox C od)
    (hm : mroIn K C (.type owner) = some true) (hq : Q () s) : wpAny M A (checkBuiltinCall id ⟨.ref x :: rest, []⟩) Q E s := by
  obtain ⟨h, g, d, t, os⟩ := s
  simp only [checkBuiltinCall, hk, hs]
  refine wpAny_bind ?_
  · refine isInst_K X I hm ?_
    repeat wp_step
    cases hsig : Manifest.signature? id with
    | none => exact wpAny_pure hq
    | some sig =>
      simp only [argsOk, hsig] at ha
      have h2 : Bind.checkArgs id sig ⟨.ref x :: rest, []⟩ = pure () := ha
      show wpAny M A (Bind.checkArgs id sig ⟨.ref x :: rest, []⟩) Q E _
      rw [h2]; exact wpAny_pure hq
theorem tryNe_K {Q : Option Value → Shared → Prop} (hu : A.units + 1 < cLine) (X : K.In s.heap) (I : InstAt s.heap x ox C od) (hs : findIn K (.ref C) "__eq__" = some (some (.ref f))) (hf : isFn K (.ref f) = true)
    (hne : findIn K (.ref C) "__ne__" = some (some (.builtin "object.__ne__"))) (hm : mroIn K C (.type "object") = some true)
    (h : wpAny (model prog w) A.in1 (call (.ref f) [.ref x, b]) (fun v s' => ∃ r, v = .bool r ∧ Q (some (.bool (!r))) s') E s) : wpAny (model prog w) A (tryCompare (.ref x) "__ne__" b) Q E s := by
  have S := F.cmp_object.ne
  have main : wpAny (model prog w) A (call (.builtin "object.__ne__") [.ref x, b]) (fun v s' => ∃ r : Bool, v = .bool r ∧ Q (some (.bool r)) s') E s := by
    refine wpAny_call (codeAny_call_builtin S.plain F.cmpEntry_ne (check_K F.cmpKind_ne F.cmpSplit_ne (F.cmpArgs_ne _ _) X I hm (objNe_K (A := A.in1) hu X I hs hf (wpAny_mono h (fun v s' hv => ?_) fun _ _ e => e))))
    obtain ⟨r, rfl, q⟩ := hv
    exact ⟨r, rfl, _, rfl, q⟩
  unfold tryCompare
  refine wpAny_bind (m := callSpecialIfBound? (.ref x) "__ne__" [b]) ?_
  simp only [callSpecialIfBound?, bindSpecialIfBound?]
  refine wpAny_holding (wpAny_bind (wpAny_bind (wpAny_bind (I.type.here ((looks_findIn X hne).here ?_)))))
  simp only [S.bind]
  have fin : wpAny (model prog w) A (call (.builtin "object.__ne__") ([.ref x] ++ [b]) >>= fun v => pure (some v)) (fun r s' => ∃ v : Bool, r = some (Value.bool v) ∧ Q (some (.bool v)) s') E s :=
    wpAny_bind (wpAny_mono main (fun v s' h' => wpAny_pure (by obtain ⟨r, rfl, q⟩ := h'; exact ⟨r, rfl, q⟩)) fun _ _ h' => h')
  refine wpAny_bind (wpAny_askSetting (wpAny_ite ?_))
  split
  · refine wpAny_bind (wpAny_pure (wpAny_pure (wpAny_mono fin (fun v s' h' => ?_) fun _ _ e => e)))
    obtain ⟨r, rfl, q⟩ := h'
    exact wpAny_pure q
  · refine wpAny_tryCatch (wpAny_bind (wpAny_pure (wpAny_pure (wpAny_mono fin (fun v s' h' => ?_) fun _ _ e => e))))
    obtain ⟨r, rfl, q⟩ := h'
    exact wpAny_pure q
end
section
variable {X : Cx} {sp : Sp} {C : Addr}
theorem looks_ty {pins : List (Addr × Obj)} {s : Shared} {σ : L2.St} {H : Hp} {y : V} {u t : Value} (I : Inv X pins σ H s) (ry : RelV y u) (ty : TyX X.K H y t) : Looks (model X.prog X.w) s.heap (typeOf u) t := by
  obtain ⟨P, Z, p, _⟩ := kit_of I ry ty
  exact Z.ty _ _ I.kIn p
/-- x == y by x's own __eq__; what stands right is of no class below x's -/
def rEqOwn (K : Frag) (C : Addr) (sp : Sp) (neg : Bool) : R2 := fun x y H Q => ∃ a dx fs t, x = .ref a ∧ H a = some (.ins C dx fs) ∧ TyX K H y t ∧ notFirst K C t = true ∧ sp [.ref a, y] H (fun v H' => ∃ b, v = .bl b ∧ Q (.bl (if neg then !b else b)) H') C8.E0
theorem op_eqOwn (K : Frag) {n : Nat} (c : C8.Met X.prog X.w X.K X.mg X.base n C "__eq__" sp []) (hr : Room (n + 1) X.A) (hK : X.K = K := by rfl) : OpR X (compareOp .Eq) (rEqOwn K C sp false) := by
  subst hK
  intro pins s σ H x y v u Q I rx ry h
  obtain ⟨a, dx, fs, t, rfl, ha, ty, nf, h⟩ := h
  cases rx
  obtain ⟨mA, O, _⟩ := ins_get I.hok ha
  obtain ⟨od, J, _⟩ := O.look
  obtain ⟨m, hF⟩ := I.fr
  obtain ⟨f, hm, q⟩ := run_met c ⟨hr.mono (Nat.le_succ _), rfl⟩ I (.cons (show RelV (V.ref a) (Value.ref a) from rfl) (.cons ry .nil)) h
  refine PySem.W.cmp_K (op := .Eq) hr.units0 hF I.ok.mod.kin J (looks_ty I ry ty) nf hm.at_ hm.fn (thn q fun v s1 hv => ?_)
  obtain ⟨z, H', I', rz, b, rfl, hq⟩ := hv
  cases rz
  exact ⟨.bl b, H', I', rfl, hq⟩
theorem op_neOwn (K : Frag) {n : Nat} (c : C8.Met X.prog X.w X.K X.mg X.base n C "__eq__" sp []) (i : IsiC K C) (hr : Room (n + 1) X.A) (hK : X.K = K := by rfl) : OpR X (compareOp .NotEq) (rEqOwn K C sp true) := by
  subst hK
  intro pins s σ H x y v u Q I rx ry h
  obtain ⟨a, dx, fs, t, rfl, ha, ty, nf, h⟩ := h
  cases rx
  obtain ⟨mA, O, _⟩ := ins_get I.hok ha
  obtain ⟨od, J, _⟩ := O.look
  obtain ⟨f, hm, q⟩ := run_met c (sub_in1 hr) I (.cons (show RelV (V.ref a) (Value.ref a) from rfl) (.cons ry .nil)) h
  refine neNonly (op := .NotEq) hr.units0 I.kIn J (looks_ty I ry ty) nf (tryNe_K (by have := hr.units; omega) I.kIn J hm.at_ hm.fn i.ne i.hm (thn q fun v s1 hv => ?_))
  obtain ⟨z, H', I', rz, b, rfl, hq⟩ := hv
  cases rz
  exact ⟨b, rfl, .bool (!b), rfl, .bl (!b), H', I', rfl, hq⟩
end
end Sk

set_option maxHeartbeats 4000000
/-! sum(d.values()); a new instance by a call with keywords alone; more rules with the heap named -/
namespace Sk
open PySem PySem.Spec PyProof.Rows L2
section
variable {X : Cx} {o : Expr} {p pos apos mpos : Pos} {td : TE}
/-- sum(o.values()), a dict of ints by texts -/
def tSumVals (td : TE) : TE := fun σ H Q => td σ H fun x H1 => ∃ a cs, x = V.ref a ∧ Rd H1 a (.dK (kvS cs)) ∧ Q (.int (cs.map (·.2)).sum) H1
theorem preSum_getD (is : List Int) : ∀ n, n ≤ is.length → preSum (fun i => is.getD i 0) n = (is.take n).sum
  | 0, _ => rfl
  | n + 1, h => by
    have hn : n < is.length := h
    rw [List.take_succ_eq_append_getElem hn, List.sum_append, preSum, preSum_getD is n (Nat.le_of_succ_le h)]
    simp [List.getD, hn]
theorem pe_sumVals (hc : X.calm = true) (hg : Gl X "sum") (hm : X.mg "sum" = none) (hd : PE X o td) (hbase : attributeBase o "values" X.env (eval o X.env) = eval o X.env := by rfl) (hline : (apos.endLine == mpos.line) = true := by rfl)
    (hse : starEach [Expr.Call (.Attribute o "values" apos) [] [] mpos] X.env = [(false, eval (Expr.Call (.Attribute o "values" apos) [] [] mpos) X.env)] := by rfl) :
    PE X (.Call (.Name "sum" p) [.Call (.Attribute o "values" apos) [] [] mpos] [] pos) (tSumVals td) := by
  refine ⟨fun pins s σ H Q I h => ?_⟩
  refine wpAny_Call_Name_kw (ld_blt I hg hm (u := .builtin "sum") (by first | rfl | decide +kernel) ?_ (by first | decide +kernel | decide) (by first | decide +kernel | decide))
  rw [hse]
  refine PySem.callWith_builtin1 (wpAny_Call_method0_late hbase hline (thn (hd.run pins s σ H _ I h) fun v s1 ⟨x, H1, I1, r1, a, cs, ex, ha, q⟩ => ?_))
  subst ex
  obtain rfl : v = Value.ref a := r1
  obtain ⟨_, hsys, vs, rel, dof⟩ := (show ObjOk X.prog X.w H1 s1.heap a (.dK (kvS cs)) from ha.ok I1.hok)
  obtain ⟨ep, dat⟩ := dof.dictAt
  have dat' := dat
  obtain ⟨ob, es, ho, ex, hdat, hko, hpr, hnd⟩ := dat'
  refine ⟨"dict", "dict.values", F.plainAttrs_dict, F.slot_dict_values, F.type_dict_values, ⟨ob, ho, ex.1⟩, fun b e => ?_, Calls.callWith_builtin rfl (PySem.evalArgs_none ?_)⟩
  · cases e
    exact ⟨ob, ho, ex.2.1⟩
  refine call_meetsIn F.slot_dict_values ⟨ob, ho, ex.1⟩ F.entry_dict_values (F.args_dict_values_1 _) (meets_dict_values (mixKind X.prog X.w) a hsys) ⟨⟨vs, dof⟩, ?_⟩
  have k1 : ∀ b u, s1.heap.get? b = some u → (s1.heap.push { cls := .type "dict_values", data := .fields #[.ref a] }).get? b = some u := fun b u e => Heap.get?_push_of_some _ e
  have dat1 : (s1.heap.push { cls := .type "dict_values", data := .fields #[.ref a] }).DictAt (mixKind X.prog X.w) a vs ep := dat.keep k1
  have hv : (kvS cs).map (·.2) = (cs.map (·.2)).map V.int := by simp [kvS]
  have hlv : vs.length = (cs.map (·.2)).length := by
    have e1 := congrArg List.length hv
    rw [List.length_map, List.length_map] at e1
    rw [← e1]
    exact (KV.length rel).symm
  have hval : ∀ (i : Nat) (v : Value), (∃ k, vs[i]? = some (k, v)) → ∃ t, v = Value.int ((cs.map (·.2)).getD i 0) t := fun i v ⟨k, hk⟩ => by
    obtain ⟨x, h1, h2⟩ := KV.at' rel hk
    have e1 : ((kvS cs).map (·.2))[i]? = some x := by rw [List.getElem?_map, h1] <;> rfl
    rw [hv, List.getElem?_map] at e1
    obtain ⟨j, hj, e2⟩ := Option.map_eq_some_iff.mp e1
    subst e2
    obtain ⟨t, e3⟩ := h2
    refine ⟨t, ?_⟩
    rw [e3, List.getD_eq_getElem?_getD, hj] <;> rfl
  refine call_sum_walkG (wpAny_pyIter_values (v := s1.heap.objs.size) (d := a) ⟨_, Heap.get?_push_size _ rfl, rfl, rfl⟩ dat1 ?_)
  have hlt : a < s1.heap.objs.size := Heap.lt_size ho
  have hsz : (s1.heap.push { cls := .type "dict_values", data := .fields #[.ref a] }).objs.size = s1.heap.objs.size + 1 := Heap.size_push _ _
  refine ⟨_, _, _, _, _, _, _, rfl, Walks.dictValues (knd := mixKind X.prog X.w) (A := X.A.in1) (I.ok.hd hc) (s1.heap.push { cls := .type "dict_values", data := .fields #[.ref a] }).objs.size a (by rw [hsz]; exact Nat.ne_of_lt (Nat.lt_succ_of_lt hlt)) vs ep,
    ⟨⟨_, Heap.get?_push_size _ rfl, rfl, rfl⟩, dat1.keep fun b u e => Heap.get?_push_of_some _ e⟩, fun b hb => ?_, hval, fun h' tk t' hk => ?_⟩
  · show b < ((s1.heap.push _).push _).objs.size
    rw [Heap.size_push, Heap.size_push]
    rw [hsz] at hb
    rcases List.mem_cons.mp hb with e | hb
    · rw [e]
      exact Nat.lt_succ_self _
    · have e : b = a := List.mem_singleton.mp hb
      rw [e]
      exact Nat.lt_succ_of_lt (Nat.lt_succ_of_lt hlt)
  · have es : preSum (fun i => (cs.map (·.2)).getD i 0) vs.length = (cs.map (·.2)).sum := by
      rw [preSum_getD _ _ (Nat.le_of_eq hlv), hlv, List.take_length]
    rw [es]
    refine ⟨.int _, H1, I1.kept (t' := tk) fun b u e => hk b u (fun hmem => ?_) (Heap.get?_push_of_some _ (k1 b u e)), ⟨t', rfl⟩, q⟩
    have e1 : b = (s1.heap.push { cls := .type "dict_values", data := .fields #[.ref a] }).objs.size := List.mem_singleton.mp hmem
    have e2 := Heap.lt_size e
    rw [hsz] at e1
    rw [e1] at e2
    exact absurd e2 (Nat.not_lt.mpr (Nat.le_succ _))
end
/-! ### C(k = v) -/
structure MakK (P : Program) (w : World) (K : PySem.W.Frag) (mg : Str → Option Value) (base : Heap) (k : Nat) (x : Str) (C : Addr) (sp : Sp) (ks : List Str) (gV : List V → List V → List V) : Prop where
  ex : ∃ (f : Addr) (fd : FuncData) (ps : List Str) (g : List Value → List Value → List Value), Mk K C f ∧ FnOk P w K mg base C8.CX0 k f fd ps sp ∧ mg x = some (.ref C) ∧ KBn K fd ps 1 ks g gV
section
variable {X : Cx} {k j : Nat} {C : Addr} {x m : Str} {sp : Sp} {ks : List Str} {gV : List V → List V → List V} {p pos apos : Pos} {kws : List Keyword} {tk : TA}
theorem pe_mkK0 (c : MakK X.prog X.w X.K X.mg X.base k x C sp ks gV) (hr : Room j X.A) (hk : k + 1 ≤ j) (hg : Gl X x) (hkw : PK X kws tk)
    (hall : (backToKw pos (keywordEach kws X.env)).all (·.1.isSome) = true := by rfl) (hks : (backToKw pos (keywordEach kws X.env)).filterMap (·.1) = ks := by rfl) (hdb : (x == ("__debug__" : Str)) = false := by decide)
    (hpl : ((backTo pos (starEach [] X.env)).any (·.1) || (backToKw pos (keywordEach kws X.env)).any (·.1.isNone)) = false := by rfl) :
    PE X (.Call (.Name x p) [] kws pos) (tMakeK C 0 ks.length sp gV C8.E0 tNil tk) := by
  obtain ⟨f, fd, ps, g, M, F, hm, b⟩ := c.ex
  exact pe_makeK0 M F (hr.mono hk) hg hm b C8.pass0 hkw hall hks hdb hpl
end
/-! ### methods of lists, the heap named -/
section
variable {X : Cx} {o e : Expr} {es : List Expr} {to : TE} {t : TA} {name : Str} {apos cpos : Pos} {T id : String} {r : V → List V → Hp → VK → Prop}
theorem pe_bm0K (K : PySem.W.Frag) (pa : PlainAttrs T) (slot : Slot T name id) (hty : typeOf (.builtin id) = pure (.type "method_descriptor")) (hm : MtR X id r) (ho : PE X o to)
    (hbase : attributeBase o name X.env (eval o X.env) = eval o X.env := by rfl) (hline : (apos.endLine == cpos.line) = true := by rfl) (hK : X.K = K := by rfl) : PE X (.Call (.Attribute o name apos) [] [] cpos) (tBM0 K T r to) := hK ▸ pe_bm0 pa slot hty hm ho hbase hline
theorem pe_bmK (K : PySem.W.Frag) (pa : PlainAttrs T) (slot : Slot T name id) (hty : typeOf (.builtin id) = pure (.type "method_descriptor")) (hm : MtR X id r) (ho : PE X o to) (ha : PA X (e :: es) t)
    (hbase : attributeBase o name X.env (eval o X.env) = eval o X.env := by rfl)
    (hfew : ((backTo cpos (starEach (e :: es) X.env)).all (fun x => !x.1) && (backToKw cpos (keywordEach [] X.env)).all (fun x => x.1.isSome)
      && decide ((e :: es).length + ([] : List Keyword).length + (if ([] : List Keyword).isEmpty then 0 else 1) < 30)) = true := by rfl)
    (hline : (apos.endLine == cpos.line) = true := by rfl) (hs : starEach (e :: es) X.env = (false, eval e X.env) :: starEach es X.env := by rfl) (hplain : (backTo cpos (starEach es X.env)).any (·.1) = false := by rfl) (hK : X.K = K := by rfl) :
    PE X (.Call (.Attribute o name apos) (e :: es) [] cpos) (tBM K T r to t) := hK ▸ pe_bm pa slot hty hm ho ha hbase hfew hline hs hplain
end
end Sk

set_option maxHeartbeats 4000000
/-! x in a list, in a tuple, where == is an own method: heaps grow on the way -/
namespace SkW
open PySem PySem.SeqAt PySem.W
open AutoSeq1 (wpAny_loadPart')
open MeetsSeq MeetsSeq2 MeetsSeq3 SeqRoads2
section
variable {prog : Program} {w : World} {A : Around} {R : Result → Shared → Prop}
/-- at turn i the list at l has N items, the i-th is asked: bs i -/
def AskI (prog : Program) (w : World) (A : Around) (E : Value → Shared → Prop) (l : Addr) (x : Value) (N : Nat) (bs : Nat → Bool) (I : Nat → Shared → Prop) : Prop :=
  ∀ i s, I i s → ∃ (items : Array Value) (n : Nat), s.heap.get? l = some { cls := .type "list", data := .seq items n } ∧ items.size = N ∧
    ∀ (h1 : i < items.size), wpAny (model prog w) A.in1 (eqBool items[i] x) (fun r s' => r = bs i ∧ I (i + 1) s') E s
theorem has_loop (l : Addr) (x : Value) (N : Nat) (bs : Nat → Bool) (I : Nat → Shared → Prop) (hl : AskI prog w A (fun e s' => R (.error e) s') l x N bs I)
    (hit : ∀ i s, i < N → I (i + 1) s → bs i = true → R (.ok (.ret (.bool true))) s) (fin : ∀ s, I N s → (∀ i, i < N → bs i = false) → R (.ok (.ret (.bool false))) s) (k : Nat) :
    ∀ i : Nat, N - i = k → i ≤ N → (∀ j, j < i → bs j = false) → ∀ s, I i s →
      wpAny (model prog w) A.in1 (Builtin.«list.__contains__.loop» ⟨[.ref l, x, rawInt i], []⟩) (GQ.FinOf prog w A R) (fun e s' => R (.error e) s') s := by
  induction k with
  | zero =>
    intro i hk hi no s h
    obtain ⟨items, n, hl1, hs1, _⟩ := hl _ _ h
    have hi' : i = N := by omega
    subst hi'
    have hR : R (.ok (.ret (.bool false))) s := fin s h no
    obtain ⟨hp, g, d, tk, os⟩ := s
    wp_walk using wpAny_loadPart' hl1
    have hi1 : items[((i : Nat) : Int).toNat]? = none := by simp; omega
    rw [hi1]
    wp_walk
    exact hR
  | succ k ih =>
    intro i hk hi no s h
    obtain ⟨items, n, hl1, hs1, turn⟩ := hl _ _ h
    have hlt : i < items.size := by omega
    have ht := turn hlt
    obtain ⟨hp, g, d, tk, os⟩ := s
    wp_walk using wpAny_loadPart' hl1
    have hi1 : items[((i : Nat) : Int).toNat]? = some items[i] := by simp [hlt]
    have hc : ((i : Int) + 1) = ((i + 1 : Nat) : Int) := by omega
    rw [hi1]
    refine wpAny_bind (wpAny_mono ht (fun r s2 h2 => ?_) fun _ _ x => x)
    obtain ⟨hr, h2⟩ := h2
    cases hb : bs i with
    | true =>
      rw [hb] at hr
      subst hr
      have := hit i s2 (by omega) h2 hb
      obtain ⟨hp2, g2, d2, tk2, os2⟩ := s2
      wp_walk
      exact this
    | false =>
      rw [hb] at hr
      subst hr
      have hrec := ih (i + 1) (by omega) (by omega) (fun j hj => by
        rcases Nat.lt_succ_iff_lt_or_eq.mp hj with h | h
        · exact no j h
        · rw [h]; exact hb) s2 h2
      obtain ⟨hp2, g2, d2, tk2, os2⟩ := s2
      wp_walk
      rw [hc]
      exact ⟨plainId_quiet plain_contains_loop _, codeAny_builtin entry_contains_loop (by
        rw [Around.under_plainId plain_contains_loop _]
        exact hrec)⟩
theorem has_list (l : Addr) (x : Value) (N : Nat) (bs : Nat → Bool) (I : Nat → Shared → Prop) (hl : AskI prog w A (fun e s' => R (.error e) s') l x N bs I)
    (hit : ∀ i s, i < N → I (i + 1) s → bs i = true → R (.ok (.ret (.bool true))) s) (fin : ∀ s, I N s → (∀ i, i < N → bs i = false) → R (.ok (.ret (.bool false))) s) {s : Shared} (h : I 0 s) :
    wpAny (model prog w) A.in1 (Builtin.«list.__contains__» ⟨[.ref l, x], []⟩) (GQ.FinOf prog w A R) (fun e s' => R (.error e) s') s := by
  obtain ⟨items, n, hl1, hs1, _⟩ := hl _ _ h
  have hrec := has_loop (A := A) (R := R) l x N bs I hl hit fin _ 0 rfl (Nat.zero_le _) (fun j hj => absurd hj (Nat.not_lt_zero _)) s h
  obtain ⟨hp, g, d, tk, os⟩ := s
  wp_walk using wpAny_loadPart' hl1
  exact ⟨plainId_quiet plain_contains_loop _, codeAny_builtin entry_contains_loop (by
    rw [Around.under_plainId plain_contains_loop _]
    exact hrec)⟩
theorem has_tuple (l : Addr) (x : Value) (items : Array Value) (n : Nat) (dd : Option Addr) (sl : Array (Option Value)) (bs : Nat → Bool) (I : Nat → Shared → Prop)
    (turn : ∀ i (h1 : i < items.size) s, I i s → wpAny (model prog w) A.in1 (eqBool items[i] x) (fun r s' => r = bs i ∧ I (i + 1) s') (fun e s' => R (.error e) s') s)
    (hit : ∀ i s, i < items.size → I (i + 1) s → bs i = true → R (.ok (.ret (.bool true))) s) (fin : ∀ s, I items.size s → (∀ i, i < items.size → bs i = false) → R (.ok (.ret (.bool false))) s) {s : Shared}
    (hl1 : s.heap.get? l = some { cls := .type "tuple", dict := dd, data := .seq items n, slots := sl }) (h : I 0 s) :
    wpAny (model prog w) A.in1 (Builtin.«tuple.__contains__» ⟨[.ref l, x], []⟩) (GQ.FinOf prog w A R) (fun e s' => R (.error e) s') s := by
  have h0 := h
  obtain ⟨hp, g, d, tk, os⟩ := s
  wp_walk using wpAny_loadPart' hl1, wpAny_forIn_array _ (fun rest b s' => b.1 = none ∧ ∃ i, rest = items.toList.drop i ∧ i ≤ items.size ∧ I i s' ∧ ∀ j, j < i → bs j = false) _
  case turn =>
    rintro y rest b s' ⟨hb', i, hz, hi, hI, no⟩
    have hlt : i < items.toList.length := by
      rcases Nat.lt_or_ge i items.toList.length with h' | h'
      · exact h'
      · rw [List.drop_of_length_le h'] at hz; cases hz
    have h1 : i < items.size := by simpa using hlt
    rw [List.drop_eq_getElem_cons hlt] at hz
    injection hz with hy hrest
    have hy : y = items[i] := by simpa using hy
    subst hy
    refine wpAny_bind (wpAny_mono (turn i h1 s' hI) (fun r s2 q2 => ?_) fun _ _ x => x)
    obtain ⟨hr, q2⟩ := q2
    cases hb : bs i with
    | true =>
      rw [hb] at hr
      subst hr
      have := hit i s2 h1 q2 hb
      wp_walk
      exact this
    | false =>
      rw [hb] at hr
      subst hr
      wp_walk
      exact ⟨rfl, i + 1, hrest, h1, q2, fun j hj => by
        rcases Nat.lt_succ_iff_lt_or_eq.mp hj with h | h
        · exact no j h
        · rw [h]; exact hb⟩
  case fin =>
    rintro ⟨b1, b2⟩ s' ⟨hb', i, hz, hi, hI, no⟩
    simp only at hb'
    subst hb'
    have hge : items.size ≤ i := by
      rcases Nat.lt_or_ge i items.toList.length with h' | h'
      · rw [List.drop_eq_getElem_cons h'] at hz; cases hz
      · simpa using h'
    have hi' : i = items.size := by omega
    have hR : R (.ok (.ret (.bool false))) s' := fin s' (hi' ▸ hI) fun j hj => no j (by omega)
    wp_walk
    exact hR
  case h =>
    exact ⟨rfl, 0, rfl, Nat.zero_le _, h0, fun j hj => absurd hj (Nat.not_lt_zero _)⟩
/-- two tuples, item by item equal: != tells False -/
theorem tuple_neG (l b : Addr) (items items2 : Array Value) (n n2 : Nat) (dd dd2 : Option Addr) (sl sl2 : Array (Option Value)) (hsz : items.size = items2.size) (I : Nat → Shared → Prop)
    (turn : ∀ i (h1 : i < items.size) (h2 : i < items2.size) s, I i s → wpAny (model prog w) A.in1 (eqBool items[i] items2[i]) (fun r s' => r = true ∧ I (i + 1) s') (fun e s' => R (.error e) s') s)
    (fin : ∀ s, I items.size s → R (.ok (.ret (.bool false))) s) {s : Shared} (hl1 : s.heap.get? l = some { cls := .type "tuple", dict := dd, data := .seq items n, slots := sl }) (hb1 : s.heap.get? b = some { cls := .type "tuple", dict := dd2, data := .seq items2 n2, slots := sl2 }) (h : I 0 s) :
    wpAny (model prog w) A.in1 (Builtin.«tuple.__ne__» ⟨[.ref l, .ref b], []⟩) (GQ.FinOf prog w A R) (fun e s' => R (.error e) s') s := by
  have f2 := AutoSeq1.sub_tuple_tuple
  have hZ : (items.toList.zip items2.toList).length = items.size := by simp [hsz]
  have h0 := h
  obtain ⟨hp, g, d, tk, os⟩ := s
  wp_walk using wpAny_loadPart' hl1, wpAny_loadPart' hb1, wpAny_forIn_list _ (fun rest b s' => b.1 = none ∧ ∃ i, rest = (items.toList.zip items2.toList).drop i ∧ i ≤ items.size ∧ I i s') _
  case turn =>
    rintro ⟨y, x⟩ rest b s' ⟨hb', i, hz, hi, hI⟩
    have hlt : i < (items.toList.zip items2.toList).length := by
      rcases Nat.lt_or_ge i (items.toList.zip items2.toList).length with h' | h'
      · exact h'
      · rw [List.drop_of_length_le h'] at hz; cases hz
    have h1 : i < items.size := hZ ▸ hlt
    have h2 : i < items2.size := hsz ▸ h1
    rw [List.drop_eq_getElem_cons hlt] at hz
    injection hz with hyx hrest
    have hy : y = items[i] := by have := congrArg Prod.fst hyx; simpa using this
    have hx : x = items2[i] := by have := congrArg Prod.snd hyx; simpa using this
    subst hy hx
    refine wpAny_bind (wpAny_mono (turn i h1 h2 s' hI) (fun r s2 q2 => ?_) fun _ _ x => x)
    obtain ⟨hr, q2⟩ := q2
    subst hr
    wp_walk
    exact ⟨rfl, i + 1, hrest, h1, q2⟩
  case fin =>
    rintro ⟨b1, b2⟩ s' ⟨hb', i, hz, hi, hI⟩
    simp only at hb'
    subst hb'
    have hge : items.size ≤ i := by
      rcases Nat.lt_or_ge i (items.toList.zip items2.toList).length with h' | h'
      · rw [List.drop_eq_getElem_cons h'] at hz; cases hz
      · exact hZ ▸ h'
    have hi' : i = items.size := by omega
    have hR : R (.ok (.ret (.bool false))) s' := fin s' (hi' ▸ hI)
    wp_walk
    simpa [Builtin.Tuple.tupleCompareSizes, hsz] using hR
  case h =>
    exact ⟨rfl, 0, rfl, Nat.zero_le _, h0⟩
end
section
variable {prog : Program} {w : World} {A : Around} {E : Value → Shared → Prop} {s : Shared}
theorem rc_tupN {l b : Addr} {items items2 : Array Value} {Q : Value → Shared → Prop} (hsz : items.size = items2.size) (hu : A.units < cLine) (I : Nat → Shared → Prop)
    (hl : s.heap.IsTuple l items) (hb : s.heap.IsTuple b items2)
    (turn : ∀ i (h1 : i < items.size) (h2 : i < items2.size) s, I i s → wpAny (model prog w) A.in1 (eqBool items[i] items2[i]) (fun r s' => r = true ∧ I (i + 1) s') E s)
    (fin : ∀ s, I items.size s → Q (.bool false) s) (h : I 0 s) : wpAny (model prog w) A (richCompare .NotEq (.ref l) (.ref b)) Q E s := by
  obtain ⟨⟨cls, dd, data, sl⟩, ho, hc, n, hd⟩ := id hl
  obtain ⟨⟨cls2, dd2, data2, sl2⟩, ho2, hc2, n2, hd2⟩ := id hb
  simp only at hc hd hc2 hd2
  subst hc hd hc2 hd2
  refine wpAny_richCompare_same_room (op := .NotEq) ⟨_, ho, rfl⟩ ⟨_, ho2, rfl⟩ F.slot_tuple_ne (GQ.call_here F.slot_tuple_ne ⟨_, ho, rfl⟩ F.entry_tuple_ne (F.args_tuple_ne_2 _ _) ?_) hu
  exact tuple_neG (R := wants (fun v s' => v ≠ .notImplemented ∧ Q v s') E) l b items items2 n n2 dd dd2 sl sl2 hsz I turn (fun s' q => ⟨(fun x => nomatch x), fin s' q⟩) ho ho2 h
theorem in_list {l : Addr} {x : Value} {N : Nat} {bs : Nat → Bool} {I : Nat → Shared → Prop} {Q : Bool → Shared → Prop} (hT : s.TypeIs (.ref l) "list") (hl : AskI prog w A E l x N bs I)
    (hit : ∀ i s, i < N → I (i + 1) s → bs i = true → Q true s) (fin : ∀ s, I N s → (∀ i, i < N → bs i = false) → Q false s) (h : I 0 s) : wpAny (model prog w) A (contains (.ref l) x) Q E s :=
  wpAny_contains_slot hT F.slot_list_contains (GQ.call_here F.slot_list_contains hT F.entry_list_contains (F.args_list_contains_2 _ _)
    (has_list (R := wants (fun v s' => wpAny (model prog w) A (truthy v) Q E s') E) l x N bs I hl (fun i s hi q e => wpAny_truthy_bool (hit i s hi q e)) (fun s q e => wpAny_truthy_bool (fin s q e)) h))
theorem in_tuple {l : Addr} {x : Value} {items : Array Value} {bs : Nat → Bool} {I : Nat → Shared → Prop} {Q : Bool → Shared → Prop} (ht : s.heap.IsTuple l items)
    (turn : ∀ i (h1 : i < items.size) s, I i s → wpAny (model prog w) A.in1 (eqBool items[i] x) (fun r s' => r = bs i ∧ I (i + 1) s') E s)
    (hit : ∀ i s, i < items.size → I (i + 1) s → bs i = true → Q true s) (fin : ∀ s, I items.size s → (∀ i, i < items.size → bs i = false) → Q false s) (h : I 0 s) : wpAny (model prog w) A (contains (.ref l) x) Q E s := by
  obtain ⟨⟨cls, dd, data, sl⟩, ho, hc, n, hd⟩ := id ht
  simp only at hc hd
  subst hc hd
  exact wpAny_contains_slot ⟨_, ho, rfl⟩ F.slot_tuple_contains (GQ.call_here F.slot_tuple_contains ⟨_, ho, rfl⟩ F.entry_tuple_contains (F.args_tuple_contains_2 _ _)
    (has_tuple (R := wants (fun v s' => wpAny (model prog w) A (truthy v) Q E s') E) l x items n dd sl bs I turn (fun i s hi q e => wpAny_truthy_bool (hit i s hi q e)) (fun s q e => wpAny_truthy_bool (fin s q e)) ho h))
end
section
variable {prog : Program} {w : World} {A : Around} {E : Value → Shared → Prop} {s : Shared} {K : Frag} {x C f : Addr} {ox : Obj} {od : Option Obj} {u : Value} {T id : String} {B : Builtin}
/-- left a value of a built-in type whose own == declines: the right one's own == is asked -/
theorem rc_back {Q : Value → Shared → Prop} (hu : A.units < cLine) (X : K.In s.heap) (I : InstAt s.heap x ox C od) (hT : s.TypeIs u T) (hsub : mroIn K C (.type T) = some false) (S : Slot T "__eq__" id) (entry : entryFor table id = some B)
    (args : argsOk id ⟨[u, .ref x], []⟩) (dec : ∀ R : Result → Shared → Prop, R (.ok (.ret .notImplemented)) s → wpAny (model prog w) A.in1 (B ⟨[u, .ref x], []⟩) (GQ.FinOf prog w A R) (fun e s' => R (.error e) s') s)
    (hs : findIn K (.ref C) "__eq__" = some (some (.ref f))) (hf : isFn K (.ref f) = true) (h : wpAny (model prog w) A (call (.ref f) [.ref x, u]) (CmpBack Q) E s) : wpAny (model prog w) A (richCompare .Eq u (.ref x)) Q E s := by
  unfold richCompare
  simp only [hT.oneThing_none]
  refine wpAny_holding (wpAny_bind (wpAny_cRoomFor hu ?_))
  rw [cmpInfo_Eq]
  dsimp only
  refine wpAny_bind (wpAny_typeOf hT (wpAny_bind (I.type.here ?_)))
  rw [show (Value.type T != Value.ref C) = true from by simp]
  simp only [if_true]
  refine wpAny_bind ((looks_mroIn X hsub).here ?_)
  simp only [Bool.false_eq_true, if_false, Bool.not_false, if_true]
  refine wpAny_bind (m := tryCompare u _ (.ref x)) (wpAny_tryCompare_declines hT S (GQ.call_here S hT entry args (dec _ ⟨rfl, ?_⟩)))
  refine wpAny_bind (m := tryCompare (.ref x) _ u) ?_
  unfold tryCompare
  refine wpAny_bind (ifBound_K X I hs hf (wpAny_mono h (fun v s' hv => ?_) fun _ _ e => e))
  cases v <;> first | exact hv.elim | exact wpAny_pure (wpAny_pure hv)
variable {R : Result → Shared → Prop}
theorem dec_str {z : Str} {t : Tok} {dx : Addr} (hx : s.heap.get? x = some (W.instObj C dx)) (h : R (.ok (.ret .notImplemented)) s) : wpAny (model prog w) A.in1 (Builtin.«str.__eq__» ⟨[.str z t, .ref x], []⟩) (GQ.FinOf prog w A R) (fun e s' => R (.error e) s') s := by
  obtain ⟨hp, g, d, tk, os⟩ := s
  wp_walk using wpAny_loadPart' hx
  exact h
theorem dec_int {z : Int} {t : Tok} {dx : Addr} (hx : s.heap.get? x = some (W.instObj C dx)) (h : R (.ok (.ret .notImplemented)) s) : wpAny (model prog w) A.in1 (Builtin.«int.__eq__» ⟨[.int z t, .ref x], []⟩) (GQ.FinOf prog w A R) (fun e s' => R (.error e) s') s := by
  obtain ⟨hp, g, d, tk, os⟩ := s
  wp_walk using wpAny_loadPart' hx
  exact h
theorem isInst_no {M : Model} {owner : Value} {Q : Bool → Shared → Prop} (X : K.In s.heap) (I : InstAt s.heap x ox C od) (hm : mroIn K C owner = some false) (h : Q false s) : wpAny M A (isInstance (.ref x) owner) Q E s := by
  unfold isInstance
  exact wpAny_bind (I.type.here ((looks_mroIn X hm).here h))
theorem dec_list {l : Addr} (X : K.In s.heap) (I : InstAt s.heap x ox C od) (hm : mroIn K C (.type "list") = some false) (h : R (.ok (.ret .notImplemented)) s) : wpAny (model prog w) A.in1 (Builtin.«list.__eq__» ⟨[.ref l, .ref x], []⟩) (GQ.FinOf prog w A R) (fun e s' => R (.error e) s') s := by
  obtain ⟨hp, g, d, tk, os⟩ := s
  wp_walk using isInst_no X I hm
  exact h
theorem dec_tuple {l : Addr} (X : K.In s.heap) (I : InstAt s.heap x ox C od) (hm : mroIn K C (.type "tuple") = some false) (h : R (.ok (.ret .notImplemented)) s) : wpAny (model prog w) A.in1 (Builtin.«tuple.__eq__» ⟨[.ref l, .ref x], []⟩) (GQ.FinOf prog w A R) (fun e s' => R (.error e) s') s := by
  obtain ⟨hp, g, d, tk, os⟩ := s
  wp_walk using isInst_no X I hm
  exact h
theorem dec_dict {l : Addr} (X : K.In s.heap) (I : InstAt s.heap x ox C od) (hm : mroIn K C (.type "dict") = some false) (h : R (.ok (.ret .notImplemented)) s) : wpAny (model prog w) A.in1 (Builtin.«dict.__eq__» ⟨[.ref l, .ref x], []⟩) (GQ.FinOf prog w A R) (fun e s' => R (.error e) s') s := by
  obtain ⟨hp, g, d, tk, os⟩ := s
  wp_walk using isInst_no X I hm
  exact h
theorem dec_none (h : R (.ok (.ret .notImplemented)) s) : wpAny (model prog w) A.in1 (Builtin.«NoneType.__eq__» ⟨[.none, .ref x], []⟩) (GQ.FinOf prog w A R) (fun e s' => R (.error e) s') s := by
  obtain ⟨hp, g, d, tk, os⟩ := s
  wp_walk
  exact h
end
section
variable {prog : Program} {w : World} {A : Around} {E : Value → Shared → Prop} {s : Shared}
theorem eqBool_nf {u v : Value} {Q : Bool → Shared → Prop} (hf : ∀ x t, u ≠ .float x t) (hne : u ≠ v) (h : wpAny (model prog w) A (richCompare .Eq u v) (fun r s' => ∃ b, r = .bool b ∧ Q b s') E s) : wpAny (model prog w) A (eqBool u v) Q E s := by
  unfold eqBool
  refine wpAny_holding ?_
  refine wpAny_ite_split (fun hab => absurd (eq_of_beq hab) hne) (fun _ => ?_)
  split
  · rename_i e
    injection e with e1 e2
    exact absurd e1 (hf _ _)
  · refine wpAny_bind (wpAny_mono h (fun v s' hv => ?_) fun _ _ x => x)
    obtain ⟨r, rfl, q⟩ := hv
    exact wpAny_truthy_bool q
end
end SkW
namespace Sk
open PySem PySem.Spec PyProof.Rows L2 PySem.W
/-- x == y gives b, from H on -/
def EqS (X : Cx) (n : Nat) (H : Hp) (x y : V) (b : Bool) : Prop := ∀ (A : Around) (pins : List (Addr × Obj)) (s : Shared) (σ : L2.St) (H1 : Hp) (u v : Value), Sub X n A → Same H H1 → Inv X pins σ H1 s → RelV x u → RelV y v →
  wpAny (model X.prog X.w) A (eqBool u v) (fun r s' => r = b ∧ ∃ H', Inv X pins σ H' s' ∧ Same H1 H') X.xe s
section
variable {X : Cx} {n : Nat} {H : Hp} {C : Addr} {sp : Sp} {b : Bool}
theorem EqS.later {x y : V} {H1 : Hp} (h : EqS X n H x y b) (s : Same H H1) : EqS X n H1 x y b := fun A pins s' σ H2 u v sb sm I rx ry => h A pins s' σ H2 u v sb (s.trans sm) I rx ry
theorem eqS_flat {x y : V} (fx : flatV x = true) (fy : flatV y = true) : EqS X n H x y (eqV x y) := fun A pins s σ H1 u v sb sm I rx ry => eqAt_V (A := A) (s := s) rx ry fx fy X.prog X.w X.xe _ ⟨rfl, H1, I, Same.refl _⟩
theorem eqS_own (c : C8.Met X.prog X.w X.K X.mg X.base n C "__eq__" sp []) {a dx : Addr} {fs : List (Str × V)} {y : V} {t : Value} (ha : H a = some (.ins C dx fs)) (ty : ∀ H1, Same H H1 → TyX X.K H1 y t) (nf : notFirst X.K C t = true) (hs : y = .ref a → b = true)
    (hsp : ∀ H1, Same H H1 → sp [.ref a, y] H1 (fun v H' => v = .bl b ∧ Same H1 H') C8.E0) : EqS X n H (.ref a) y b := by
  intro A pins s σ H1 u v sb sm I rx ry
  cases rx
  by_cases hv : Value.ref a = v
  · subst hv
    have ey : y = .ref a := RelV.inj ry rfl
    exact SeqAt.EqAt.same (A := A) (s := s) (.ref a) X.prog X.w X.xe _ ⟨(hs ey).symm, H1, I, Same.refl _⟩
  · refine SkW.eqBool_nf (fun _ _ z => nomatch z) hv ?_
    obtain ⟨mA, O, _⟩ := ins_get I.hok (sm _ _ ha)
    obtain ⟨od, J, _⟩ := O.look
    obtain ⟨m, hF⟩ := I.fr
    obtain ⟨f, hm, q⟩ := run_met c sb I (.cons (show RelV (V.ref a) (Value.ref a) from rfl) (.cons ry .nil)) (hsp H1 sm)
    refine PySem.W.cmp_K (op := .Eq) sb.room.units0 hF I.ok.mod.kin J (looks_ty I ry (ty H1 sm)) nf hm.at_ hm.fn (thn q fun v s1 hv => ?_)
    obtain ⟨z, H', I', rz, rfl, sm'⟩ := hv
    cases rz
    exact ⟨b, rfl, rfl, H', I', sm'⟩
/-- left a value of a built-in type -/
inductive KdV (H : Hp) : V → Prop where
  | non : KdV H .non
  | int (i : Int) : KdV H (.int i)
  | str (z : Str) : KdV H (.str z)
  | lst {l : Addr} {xs : List V} (h : H l = some (.lst xs)) : KdV H (.ref l)
  | tup {l : Addr} {xs : List V} (h : H l = some (.tup xs)) : KdV H (.ref l)
  | dK {l : Addr} {kvs : List (Key × V)} (h : H l = some (.dK kvs)) : KdV H (.ref l)
theorem eqS_back (c : C8.Met X.prog X.w X.K X.mg X.base n C "__eq__" sp []) (i : IsiC X.K C) {a dx : Addr} {fs : List (Str × V)} {x : V} (ha : H a = some (.ins C dx fs)) (k : KdV H x)
    (hsp : ∀ H1, Same H H1 → sp [.ref a, x] H1 (fun v H' => v = .bl b ∧ Same H1 H') C8.E0) : EqS X n H x (.ref a) b := by
  intro A pins s σ H1 u v sb sm I rx ry
  cases ry
  obtain ⟨mA, O, _⟩ := ins_get I.hok (sm _ _ ha)
  obtain ⟨od, J, _⟩ := O.look
  obtain ⟨f, hm, q⟩ := run_met c sb I (.cons (show RelV (V.ref a) (Value.ref a) from rfl) (.cons rx .nil)) (hsp H1 sm)
  have back : wpAny (model X.prog X.w) A (call (.ref f) [.ref a, u]) (PySem.W.CmpBack fun v s' => ∃ r, v = .bool r ∧ r = b ∧ ∃ H', Inv X pins σ H' s' ∧ Same H1 H') X.xe s := thn q fun v s1 hv => by
    obtain ⟨z, H', I', rz, rfl, sm'⟩ := hv
    cases rz
    exact ⟨b, rfl, rfl, H', I', sm'⟩
  have hu := sb.room.units0
  cases k with
  | non =>
    cases rx
    exact SkW.eqBool_nf (fun _ _ z => nomatch z) (fun z => nomatch z) (SkW.rc_back hu I.kIn J rfl (i.sub _ (by simp)) F.slot_NoneType_eq F.entry_NoneType_eq (F.args_NoneType_eq_2 _ _) (fun R h => SkW.dec_none h) hm.at_ hm.fn back)
  | int z =>
    obtain ⟨t, rfl⟩ := rx
    exact SkW.eqBool_nf (fun _ _ z => nomatch z) (fun z => nomatch z) (SkW.rc_back hu I.kIn J (typeIs_int s z t) (i.sub _ (by simp)) F.slot_int_eq F.entry_int_eq (F.args_int_eq_2 _ _) (fun R h => SkW.dec_int O.obj h) hm.at_ hm.fn back)
  | str z =>
    obtain ⟨t, rfl⟩ := rx
    exact SkW.eqBool_nf (fun _ _ z => nomatch z) (fun z => nomatch z) (SkW.rc_back hu I.kIn J (typeIs_str s z t) (i.sub _ (by simp)) F.slot_str_eq F.entry_str_eq (F.args_str_eq_2 _ _) (fun R h => SkW.dec_str O.obj h) hm.at_ hm.fn back)
  | @lst l xs hl =>
    cases rx
    obtain ⟨_, _, k, _, e⟩ := I.hok l _ (sm _ _ hl)
    exact SkW.eqBool_nf (fun _ _ z => nomatch z) (fun z => by injection z with z; rw [z] at hl; rw [ha] at hl; cases hl) (SkW.rc_back hu I.kIn J ⟨_, e, rfl⟩ (i.sub _ (by simp)) F.slot_list_eq F.entry_list_eq (F.args_list_eq_2 _ _) (fun R h => SkW.dec_list I.kIn J (i.sub _ (by simp)) h) hm.at_ hm.fn back)
  | @tup l xs hl =>
    cases rx
    obtain ⟨_, _, _, o, e, ec, _⟩ := (show ObjOk X.prog X.w H1 s.heap l (.tup xs) from I.hok l _ (sm _ _ hl))
    exact SkW.eqBool_nf (fun _ _ z => nomatch z) (fun z => by injection z with z; rw [z] at hl; rw [ha] at hl; cases hl) (SkW.rc_back hu I.kIn J ⟨_, e, ec⟩ (i.sub _ (by simp)) F.slot_tuple_eq F.entry_tuple_eq (F.args_tuple_eq_2 _ _) (fun R h => SkW.dec_tuple I.kIn J (i.sub _ (by simp)) h) hm.at_ hm.fn back)
  | @dK l kvs hl =>
    cases rx
    obtain ⟨_, _, vs, _, o, es, ep, e, ec, _⟩ := (show ObjOk X.prog X.w H1 s.heap l (.dK kvs) from I.hok l _ (sm _ _ hl))
    exact SkW.eqBool_nf (fun _ _ z => nomatch z) (fun z => by injection z with z; rw [z] at hl; rw [ha] at hl; cases hl) (SkW.rc_back hu I.kIn J ⟨_, e, ec.1⟩ (i.sub _ (by simp)) F.slot_dict_eq F.entry_dict_eq (F.args_dict_eq_2 _ _) (fun R h => SkW.dec_dict I.kIn J (i.sub _ (by simp)) h) hm.at_ hm.fn back)
end
end Sk

set_option maxHeartbeats 4000000
/-! A layer of values over the hand layer: data as plain values, local mutable things by their slots. -/
namespace Dv
open PySem PySem.Spec PyProof.Rows L2 Sk
/-- data, without addresses -/
inductive D where
  | non | bl (b : Bool) | int (i : Int) | str (z : Str) | ref (a : Addr) | ty (n : String) | scr (ns : List Int)
  | lst (xs : List D) | tup (xs : List D) | dic (kvs : List (Key × D)) | obj (c : Str) (fs : List (Str × D))
  | pin (a : Addr) (xs : List D)
  | exc (a d : Addr) (c : Str) (fs : List (Str × D))
mutual
inductive Is (K : PySem.W.Frag) (F : Hp) : D → V → Prop
  | non : Is K F .non .non
  | bl {b : Bool} : Is K F (.bl b) (.bl b)
  | int {i : Int} : Is K F (.int i) (.int i)
  | str {z : Str} : Is K F (.str z) (.str z)
  | ref {a : Addr} : Is K F (.ref a) (.ref a)
  | ty {n : String} : Is K F (.ty n) (.ty n)
  | scr {a : Addr} {ns : List Int} : SqL K F a (ns.map V.int) → Is K F (.scr ns) (.ref a)
  | lst {a : Addr} {xs : List D} {vs : List V} : F a = some (.lst vs) → IsL K F xs vs → Is K F (.lst xs) (.ref a)
  | tup {a : Addr} {xs : List D} {vs : List V} : SqT K F a vs → IsL K F xs vs → Is K F (.tup xs) (.ref a)
  | dic {a : Addr} {kvs : List (Key × D)} {ws : List (Key × V)} : F a = some (.dK ws) → IsK K F kvs ws → Is K F (.dic kvs) (.ref a)
  | obj {a dx : Addr} {c : Str} {fs : List (Str × D)} {ws : List (Str × V)} : F a = some (.ins (He.ga K c) dx ws) → IsF K F fs ws → Is K F (.obj c fs) (.ref a)
  | pin {a : Addr} {xs : List D} {vs : List V} : F a = some (.lst vs) → IsL K F xs vs → Is K F (.pin a xs) (.ref a)
  | exc {a d : Addr} {c : Str} {fs : List (Str × D)} {ws : List (Str × V)} : F d = some (.xd ws) → IsF K F fs ws → Is K F (.exc a d c fs) (.ref a)
inductive IsL (K : PySem.W.Frag) (F : Hp) : List D → List V → Prop
  | nil : IsL K F [] []
  | cons {x : D} {v : V} {xs : List D} {vs : List V} : Is K F x v → IsL K F xs vs → IsL K F (x :: xs) (v :: vs)
inductive IsK (K : PySem.W.Frag) (F : Hp) : List (Key × D) → List (Key × V) → Prop
  | nil : IsK K F [] []
  | cons {k : Key} {x : D} {v : V} {xs : List (Key × D)} {vs : List (Key × V)} : Is K F x v → IsK K F xs vs → IsK K F ((k, x) :: xs) ((k, v) :: vs)
inductive IsF (K : PySem.W.Frag) (F : Hp) : List (Str × D) → List (Str × V) → Prop
  | nil : IsF K F [] []
  | cons {k : Str} {x : D} {v : V} {xs : List (Str × D)} {vs : List (Str × V)} : Is K F x v → IsF K F xs vs → IsF K F ((k, x) :: xs) ((k, v) :: vs)
end
section
variable {K : PySem.W.Frag} {F F' H H' : Hp}
mutual
theorem Is.mono (s : Same F F') : ∀ {d : D} {v : V}, Is K F d v → Is K F' d v
  | _, _, .non => .non
  | _, _, .bl => .bl
  | _, _, .int => .int
  | _, _, .str => .str
  | _, _, .ref => .ref
  | _, _, .ty => .ty
  | _, _, .scr h => .scr (s.seq h)
  | _, _, .lst e h => .lst (s _ _ e) (IsL.mono s h)
  | _, _, .tup e h => .tup (SqT.ext e s) (IsL.mono s h)
  | _, _, .dic e h => .dic (s _ _ e) (IsK.mono s h)
  | _, _, .obj e h => .obj (s _ _ e) (IsF.mono s h)
  | _, _, .pin e h => .pin (s _ _ e) (IsL.mono s h)
  | _, _, .exc e h => .exc (s _ _ e) (IsF.mono s h)
theorem IsL.mono (s : Same F F') : ∀ {d : List D} {v : List V}, IsL K F d v → IsL K F' d v
  | _, _, .nil => .nil
  | _, _, .cons h r => .cons (Is.mono s h) (IsL.mono s r)
theorem IsK.mono (s : Same F F') : ∀ {d : List (Key × D)} {v : List (Key × V)}, IsK K F d v → IsK K F' d v
  | _, _, .nil => .nil
  | _, _, .cons h r => .cons (Is.mono s h) (IsK.mono s r)
theorem IsF.mono (s : Same F F') : ∀ {d : List (Str × D)} {v : List (Str × V)}, IsF K F d v → IsF K F' d v
  | _, _, .nil => .nil
  | _, _, .cons h r => .cons (Is.mono s h) (IsF.mono s r)
end
theorem IsL.length : ∀ {d : List D} {v : List V}, IsL K F d v → d.length = v.length
  | _, _, .nil => rfl
  | _, _, .cons _ r => by simp [IsL.length r]
theorem IsK.length : ∀ {d : List (Key × D)} {v : List (Key × V)}, IsK K F d v → d.length = v.length
  | _, _, .nil => rfl
  | _, _, .cons _ r => by simp [IsK.length r]
theorem IsF.length : ∀ {d : List (Str × D)} {v : List (Str × V)}, IsF K F d v → d.length = v.length
  | _, _, .nil => rfl
  | _, _, .cons _ r => by simp [IsF.length r]
theorem IsL.get : ∀ {d : List D} {v : List V} {i : Nat} {x : D}, IsL K F d v → d[i]? = some x → ∃ u, v[i]? = some u ∧ Is K F x u
  | _, _, _, _, .nil, e => by simp at e
  | _, _, 0, _, .cons r _, e => by simp at e; subst e; exact ⟨_, rfl, r⟩
  | _, _, i + 1, _, .cons _ r, e => by
    obtain ⟨u, h1, h2⟩ := IsL.get (i := i) r (by simpa using e)
    exact ⟨u, by simpa using h1, h2⟩
theorem IsL.got : ∀ {d : List D} {v : List V} {i : Nat} {u : V}, IsL K F d v → v[i]? = some u → ∃ x, d[i]? = some x ∧ Is K F x u
  | _, _, _, _, .nil, e => by simp at e
  | _, _, 0, _, .cons r _, e => by simp at e; subst e; exact ⟨_, rfl, r⟩
  | _, _, i + 1, _, .cons _ r, e => by
    obtain ⟨u, h1, h2⟩ := IsL.got (i := i) r (by simpa using e)
    exact ⟨u, by simpa using h1, h2⟩
theorem IsL.append : ∀ {d e : List D} {v w : List V}, IsL K F d v → IsL K F e w → IsL K F (d ++ e) (v ++ w)
  | _, _, _, _, .nil, s => s
  | _, _, _, _, .cons r t, s => .cons r (IsL.append t s)
theorem IsL.take : ∀ {d : List D} {v : List V} (n : Nat), IsL K F d v → IsL K F (d.take n) (v.take n)
  | _, _, 0, _ => .nil
  | _, _, _ + 1, .nil => .nil
  | _, _, n + 1, .cons r t => .cons r (IsL.take n t)
theorem IsL.drop : ∀ {d : List D} {v : List V} (n : Nat), IsL K F d v → IsL K F (d.drop n) (v.drop n)
  | _, _, 0, h => h
  | _, _, _ + 1, .nil => .nil
  | _, _, n + 1, .cons _ t => IsL.drop n t
theorem IsL.set {x : D} {u : V} (r : Is K F x u) : ∀ {d : List D} {v : List V} (i : Nat), IsL K F d v → IsL K F (d.set i x) (v.set i u)
  | _, _, _, .nil => .nil
  | _, _, 0, .cons _ t => .cons r t
  | _, _, i + 1, .cons q t => .cons q (IsL.set r i t)
theorem IsL.eraseIdx : ∀ {d : List D} {v : List V} (i : Nat), IsL K F d v → IsL K F (d.eraseIdx i) (v.eraseIdx i)
  | _, _, _, .nil => .nil
  | _, _, 0, .cons _ t => t
  | _, _, i + 1, .cons q t => .cons q (IsL.eraseIdx i t)
end
/-! ### slots, the ghost, the relation -/
/-- a slot: nothing, a value, a thing of one's own (true: a parameter that is changed for the caller) -/
inductive Sl where
  | un | im (d : D) | ow (m : Bool) (d : D)
abbrev Sls := List Sl
def at9 (L : List (Addr × Obj)) (H : Hp) (a : Addr) (o : HO) : Prop := H a = some o ∨ ∃ ob, (a, ob) ∈ L ∧ H a = some (.frz ob o)
theorem at9.ex {L : List (Addr × Obj)} {H : Hp} {a : Addr} {o : HO} (h : at9 L H a o) : ∃ u, H a = some u := h.elim (fun h => ⟨_, h⟩) fun ⟨_, _, h⟩ => ⟨_, h⟩
theorem at9.mono {L L' : List (Addr × Obj)} {H : Hp} {a : Addr} {o : HO} (h : at9 L H a o) (s : ∀ b ∈ L, b ∈ L') : at9 L' H a o := h.elim .inl fun ⟨ob, m, h⟩ => .inr ⟨ob, s _ m, h⟩
theorem at9.rd {L : List (Addr × Obj)} {H : Hp} {a : Addr} {o : HO} (h : at9 L H a o) : Rd H a o := h.elim .inl fun ⟨ob, _, h⟩ => .inr ⟨ob, h⟩
/-- content d at a -/
def Has (K : PySem.W.Frag) (F H : Hp) : D → Addr → Prop
  | .lst xs, a => ∃ vs, H a = some (.lst vs) ∧ IsL K F xs vs
  | .dic kvs, a => ∃ ws, H a = some (.dK ws) ∧ IsK K F kvs ws
  | .obj c fs, a => ∃ dx ws, H a = some (.ins (He.ga K c) dx ws) ∧ IsF K F fs ws
  | .pin b xs, a => b = a ∧ ∃ vs, H a = some (.lst vs) ∧ IsL K F xs vs
  | _, _ => False
theorem Has.mono {K : PySem.W.Frag} {F F' H H' : Hp} {a : Addr} (s : Same F F') (e : ∀ o, H a = some o → H' a = some o) : ∀ {d : D}, Has K F H d a → Has K F' H' d a
  | .lst _, ⟨vs, h, r⟩ => ⟨vs, e _ h, r.mono s⟩
  | .dic _, ⟨vs, h, r⟩ => ⟨vs, e _ h, r.mono s⟩
  | .obj _ _, ⟨dx, vs, h, r⟩ => ⟨dx, vs, e _ h, r.mono s⟩
  | .pin _ _, ⟨q, vs, h, r⟩ => ⟨q, vs, e _ h, r.mono s⟩
theorem Has.mkL {K : PySem.W.Frag} {F H : Hp} {a : Addr} {xs : List D} {vs : List V} (h : H a = some (.lst vs)) (r : IsL K F xs vs) : Has K F H (.lst xs) a := ⟨vs, h, r⟩
theorem Has.mkD {K : PySem.W.Frag} {F H : Hp} {a : Addr} {xs : List (Key × D)} {vs : List (Key × V)} (h : H a = some (.dK vs)) (r : IsK K F xs vs) : Has K F H (.dic xs) a := ⟨vs, h, r⟩
theorem Has.mkO {K : PySem.W.Frag} {F H : Hp} {a dx : Addr} {c : Str} {xs : List (Str × D)} {vs : List (Str × V)} (h : H a = some (.ins (He.ga K c) dx vs)) (r : IsF K F xs vs) : Has K F H (.obj c xs) a := ⟨dx, vs, h, r⟩
theorem Has.ex {K : PySem.W.Frag} {F H : Hp} {a : Addr} : ∀ {d : D}, Has K F H d a → ∃ o, H a = some o
  | .lst _, ⟨_, h, _⟩ => ⟨_, h⟩
  | .dic _, ⟨_, h, _⟩ => ⟨_, h⟩
  | .obj _ _, ⟨_, _, h, _⟩ => ⟨_, h⟩
  | .pin _ _, ⟨_, _, h, _⟩ => ⟨_, h⟩
/-- frozen: the object itself becomes known -/
theorem Has.froze {K : PySem.W.Frag} {F H : Hp} {a : Addr} (n : F a = none) : ∀ {d : D}, Has K F H d a → ∃ o, H a = some o ∧ Is K (upd F a o) d (.ref a)
  | .lst _, ⟨_, h, r⟩ => ⟨_, h, .lst upd_same (r.mono (same_upd n))⟩
  | .dic _, ⟨_, h, r⟩ => ⟨_, h, .dic upd_same (r.mono (same_upd n))⟩
  | .obj _ _, ⟨_, _, h, r⟩ => ⟨_, h, .obj upd_same (r.mono (same_upd n))⟩
  | .pin _ _, ⟨q, _, h, r⟩ => by
    subst q
    exact ⟨_, h, .pin upd_same (r.mono (same_upd n))⟩
/-- the ghost: heap and known part at the entry, what may be changed for the caller, what is locked, further facts -/
structure Gh where
  H0 : Hp
  F0 : Hp
  M : List Addr
  L0 : List (Addr × Obj)
  X : List (Addr × HO)
  P : List V := []
structure R (K : PySem.W.Frag) (G : Gh) (L : List (Addr × Obj)) (env : Sls) (σ : L2.St) (F H : Hp) : Prop where
  len : env.length = σ.length
  im : ∀ (i : Nat) (d : D), env[i]? = some (.im d) → ∃ v, σ[i]? = some (some v) ∧ Is K F d v
  ow : ∀ (i : Nat) (m : Bool) (d : D), env[i]? = some (.ow m d) → ∃ a, σ[i]? = some (some (.ref a)) ∧ F a = none ∧ (if m = true then a ∈ G.M ∧ G.P[i]? = some (V.ref a) else G.H0 a = none) ∧ Has K F H d a
  sep : ∀ (i j : Nat) (m n : Bool) (d e : D) (a : Addr), i ≠ j → env[i]? = some (.ow m d) → env[j]? = some (.ow n e) → σ[i]? = some (some (.ref a)) → σ[j]? = some (some (.ref a)) → False
  see : ∀ a o, F a = some o → at9 (L ++ G.L0) H a o
  pres : ∀ a o, G.H0 a = some o → a ∉ G.M → at9 L H a o
  mm : ∀ a ∈ G.M, H a ≠ none ∧ F a = none ∧ G.H0 a ≠ none
  grow : ∀ a, F a ≠ none → G.F0 a ≠ none ∨ G.H0 a = none
  base : Same G.F0 F
  lk : ∀ q ∈ L ++ G.L0, ∃ ws, F q.1 = some (.dK ws) ∧ H q.1 = some (.frz q.2 (.dK ws))
  lk0 : ∀ q ∈ L, ∀ o, G.H0 q.1 = some o → ∃ ws, o = .dK ws
  ext : ∀ p ∈ G.X, H p.1 = some p.2 ∧ F p.1 = none ∧ ∀ (i : Nat) (m : Bool) (d : D), env[i]? = some (.ow m d) → σ[i]? ≠ some (some (.ref p.1))
section
variable {K : PySem.W.Frag} {G : Gh} {L : List (Addr × Obj)} {env : Sls} {σ : L2.St} {F F' H H' : Hp} {p a : Addr} {o : HO} {d x : D} {v : V} {i : Nat} {m : Bool}
theorem R.free (r : R K G L env σ F H) (h : H p = none) : F p = none := by
  cases e : F p with
  | none => rfl
  | some o =>
    obtain ⟨u, q⟩ := (r.see p o e).ex
    rw [h] at q
    cases q
theorem R.free0 (r : R K G L env σ F H) (h : H p = none) : G.H0 p = none := by
  cases e : G.H0 p with
  | none => rfl
  | some o =>
    by_cases hm : p ∈ G.M
    · exact absurd h (r.mm p hm).1
    · obtain ⟨u, q⟩ := (r.pres p o e hm).ex
      rw [h] at q
      cases q
theorem at9.upd {L : List (Addr × Obj)} {o' : HO} (h : at9 L H a o) (n : H p = none) : at9 L (upd H p o') a o := by
  have ne : a ≠ p := fun z => by
    obtain ⟨u, q⟩ := h.ex
    rw [z, n] at q
    cases q
  exact h.elim (fun h => .inl (by rw [upd_ne ne]; exact h)) fun ⟨ob, m, h⟩ => .inr ⟨ob, m, by rw [upd_ne ne]; exact h⟩
/-- a new object that nothing knows yet -/
theorem R.new (r : R K G L env σ F H) (h : H p = none) (o : HO) : R K G L env σ F (upd H p o) where
  len := r.len
  im := r.im
  ow := fun i m d e => by
    obtain ⟨a, h1, h2, h3, h4⟩ := r.ow i m d e
    exact ⟨a, h1, h2, h3, h4.mono (Same.refl F) fun u q => by rw [upd_ne (ne_of_none q h)]; exact q⟩
  sep := r.sep
  see := fun a u e => (r.see a u e).upd h
  pres := fun a u e m => (r.pres a u e m).upd h
  mm := fun a m => ⟨by
    by_cases n : a = p
    · rw [n, upd_same]
      intro z
      cases z
    · rw [upd_ne n]
      exact (r.mm a m).1, (r.mm a m).2⟩
  grow := r.grow
  base := r.base
  lk := fun q hq => by
    obtain ⟨ws, e1, e2⟩ := r.lk q hq
    exact ⟨ws, e1, by rw [upd_ne (ne_of_none e2 h)]; exact e2⟩
  lk0 := r.lk0
  ext := fun q hq => by
    obtain ⟨e1, e2, e3⟩ := r.ext q hq
    exact ⟨by rw [upd_ne (ne_of_none e1 h)]; exact e1, e2, e3⟩
/-- a fresh thing of content x at a -/
structure Fresh (K : PySem.W.Frag) (G : Gh) (env : Sls) (σ : L2.St) (F H : Hp) (x : D) (a : Addr) : Prop where
  f : F a = none
  h0 : G.H0 a = none
  has : Has K F H x a
  nm : a ∉ G.M
  sep : ∀ (i : Nat) (m : Bool) (d : D), env[i]? = some (.ow m d) → σ[i]? ≠ some (some (.ref a))
  ext : ∀ p ∈ G.X, p.1 ≠ a
theorem R.fresh (r : R K G L env σ F H) (h : H p = none) (hs : Has K F (upd H p o) x p) : Fresh K G env σ F (upd H p o) x p where
  f := r.free h
  h0 := r.free0 h
  nm := fun z => (r.mm p z).1 h
  has := hs
  sep := fun i m d e z => by
    obtain ⟨a, h1, _, _, h4⟩ := r.ow i m d e
    rw [z] at h1
    cases h1
    obtain ⟨u, q⟩ := h4.ex
    rw [h] at q
    cases q
  ext := fun q hq z => by
    have e := (r.ext q hq).1
    rw [z, h] at e
    cases e
/-- a fresh thing becomes known -/
theorem R.freeze (r : R K G L env σ F H) (f : Fresh K G env σ F H x a) : ∃ F', R K G L env σ F' H ∧ Same F F' ∧ Is K F' x (.ref a) := by
  obtain ⟨o, ho, hi⟩ := f.has.froze f.f
  have sm : Same F (upd F a o) := same_upd f.f
  refine ⟨_, ⟨r.len, fun i d e => ?_, fun i m d e => ?_, r.sep, fun b u e => ?_, r.pres, fun b hb => ⟨(r.mm b hb).1, ?_, (r.mm b hb).2.2⟩, fun b hb => ?_, r.base.trans sm, fun b hb => ?_, r.lk0, fun q hq => ?_⟩, sm, hi⟩
  · obtain ⟨v, h1, h2⟩ := r.im i d e
    exact ⟨v, h1, h2.mono sm⟩
  · obtain ⟨b, h1, h2, h3, h4⟩ := r.ow i m d e
    have n : b ≠ a := fun z => f.sep i m d e (by rw [← z]; exact h1)
    exact ⟨b, h1, by rw [upd_ne n]; exact h2, h3, h4.mono sm fun _ q => q⟩
  · by_cases n : b = a
    · subst n
      rw [upd_same] at e
      cases e
      exact .inl ho
    · rw [upd_ne n] at e
      exact r.see b u e
  · by_cases n : b = a
    · subst n
      exact absurd hb f.nm
    · rw [upd_ne n]
      exact (r.mm b hb).2.1
  · by_cases n : b = a
    · subst n
      exact .inr f.h0
    · rw [upd_ne n] at hb
      exact r.grow b hb
  · obtain ⟨ws, q, q2⟩ := r.lk b hb
    exact ⟨ws, sm _ _ q, q2⟩
  · obtain ⟨e1, e2, e3⟩ := r.ext q hq
    exact ⟨e1, by rw [upd_ne (f.ext q hq)]; exact e2, e3⟩
/-- a known dict is locked, let go -/
theorem R.lock {ws : List (Key × V)} {od : Obj} (r : R K G L env σ F H) (hF : F a = some (.dK ws)) (hH : H a = some (.dK ws)) : R K G ((a, od) :: L) env σ F (upd H a (.frz od (.dK ws))) ∧ ∀ ob, (a, ob) ∉ L ++ G.L0 := by
  have nl : ∀ ob, (a, ob) ∉ L ++ G.L0 := fun ob m => by
    obtain ⟨_, _, q⟩ := r.lk _ m
    rw [hH] at q
    cases q
  have at_ : ∀ {LL LL' : List (Addr × Obj)} {b : Addr} {u : HO}, (∀ p ∈ LL, p ∈ LL') → (a, od) ∈ LL' → at9 LL H b u → at9 LL' (upd H a (.frz od (.dK ws))) b u := fun {LL LL' b u} sub m q => by
    by_cases n : b = a
    · subst n
      rcases q with q | ⟨ob, _, q⟩
      · rw [hH] at q
        cases q
        exact .inr ⟨od, m, upd_same⟩
      · rw [hH] at q
        cases q
    · rcases q with q | ⟨ob, m2, q⟩
      · exact .inl (by rw [upd_ne n]; exact q)
      · exact .inr ⟨ob, sub _ m2, by rw [upd_ne n]; exact q⟩
  refine ⟨⟨r.len, r.im, fun i m d e => ?_, r.sep, fun b u e => at_ (fun p hp => List.mem_cons_of_mem _ hp) List.mem_cons_self (r.see b u e), fun b u e m => at_ (fun p hp => List.mem_cons_of_mem _ hp) List.mem_cons_self (r.pres b u e m), fun b m => ⟨?_, (r.mm b m).2⟩, r.grow, r.base, fun q hq => ?_, fun q hq o e => ?_, fun q hq => ?_⟩, nl⟩
  · obtain ⟨b, h1, h2, h3, h4⟩ := r.ow i m d e
    have n : b ≠ a := fun z => by
      rw [z, hF] at h2
      cases h2
    exact ⟨b, h1, h2, h3, h4.mono (Same.refl F) fun u q => by rw [upd_ne n]; exact q⟩
  · by_cases n : b = a
    · rw [n, upd_same]
      intro z
      cases z
    · rw [upd_ne n]
      exact (r.mm b m).1
  · rcases List.mem_cons.mp hq with e | hq
    · rw [e]
      exact ⟨ws, hF, upd_same⟩
    · obtain ⟨ws', e1, e2⟩ := r.lk q hq
      have n : q.1 ≠ a := fun z => nl q.2 (by rw [← z]; exact hq)
      exact ⟨ws', e1, by rw [upd_ne n]; exact e2⟩
  · rcases List.mem_cons.mp hq with e' | hq
    · rw [e'] at e
      have nm : a ∉ G.M := fun z => by
        have := (r.mm a z).2.1
        rw [hF] at this
        cases this
      rcases r.pres a o e nm with q | ⟨_, _, q⟩
      · rw [hH] at q
        cases q
        exact ⟨_, rfl⟩
      · rw [hH] at q
        cases q
    · exact r.lk0 q hq o e
  · obtain ⟨e1, e2, e3⟩ := r.ext q hq
    have n : q.1 ≠ a := fun z => by
      rw [z, hF] at e2
      cases e2
    exact ⟨by rw [upd_ne n]; exact e1, e2, e3⟩
theorem R.unlock {ws : List (Key × V)} {od : Obj} (r : R K G ((a, od) :: L) env σ F H) (hF : F a = some (.dK ws)) (nl : ∀ ob, (a, ob) ∉ L ++ G.L0) : H a = some (.frz od (.dK ws)) ∧ R K G L env σ F (upd H a (.dK ws)) := by
  have hH : H a = some (.frz od (.dK ws)) := by
    obtain ⟨ws', e1, e2⟩ := r.lk (a, od) List.mem_cons_self
    have e1 : F a = some (.dK ws') := e1
    rw [hF] at e1
    cases e1
    exact e2
  refine ⟨hH, ⟨r.len, r.im, fun i m d e => ?_, r.sep, fun b u e => ?_, fun b u e m => ?_, fun b m => ⟨?_, (r.mm b m).2⟩, r.grow, r.base, fun q hq => ?_, fun q hq => r.lk0 q (List.mem_cons_of_mem _ hq), fun q hq => ?_⟩⟩
  · obtain ⟨b, h1, h2, h3, h4⟩ := r.ow i m d e
    have n : b ≠ a := fun z => by
      rw [z, hF] at h2
      cases h2
    exact ⟨b, h1, h2, h3, h4.mono (Same.refl F) fun u q => by rw [upd_ne n]; exact q⟩
  · by_cases n : b = a
    · subst n
      rw [hF] at e
      cases e
      exact .inl upd_same
    · rcases r.see b u e with q | ⟨ob, m2, q⟩
      · exact .inl (by rw [upd_ne n]; exact q)
      · rcases List.mem_cons.mp m2 with z | m2
        · exact absurd (congrArg Prod.fst z) n
        · exact .inr ⟨ob, m2, by rw [upd_ne n]; exact q⟩
  · by_cases n : b = a
    · subst n
      obtain ⟨ws', e'⟩ := r.lk0 (b, od) List.mem_cons_self u e
      subst e'
      rcases r.pres b _ e m with q | ⟨ob, m2, q⟩
      · rw [hH] at q
        cases q
      · rw [hH] at q
        cases q
        exact .inl upd_same
    · rcases r.pres b u e m with q | ⟨ob, m2, q⟩
      · exact .inl (by rw [upd_ne n]; exact q)
      · rcases List.mem_cons.mp m2 with z | m2
        · exact absurd (congrArg Prod.fst z) n
        · exact .inr ⟨ob, m2, by rw [upd_ne n]; exact q⟩
  · by_cases n : b = a
    · rw [n, upd_same]
      intro z
      cases z
    · rw [upd_ne n]
      exact (r.mm b m).1
  · obtain ⟨ws', e1, e2⟩ := r.lk q (List.mem_cons_of_mem _ hq)
    have n : q.1 ≠ a := fun z => nl q.2 (by rw [← z]; exact hq)
    exact ⟨ws', e1, by rw [upd_ne n]; exact e2⟩
  · obtain ⟨e1, e2, e3⟩ := r.ext q hq
    have n : q.1 ≠ a := fun z => by
      rw [z, hF] at e2
      cases e2
    exact ⟨by rw [upd_ne n]; exact e1, e2, e3⟩
end
end Dv

set_option maxHeartbeats 4000000
/-! What is done with slots; the relation of a reading and its value form; expressions. -/
namespace Dv
open PySem PySem.Spec PyProof.Rows L2 Sk
section
variable {K : PySem.W.Frag} {G : Gh} {L : List (Addr × Obj)} {env : Sls} {σ : L2.St} {F F' H H' : Hp} {p a : Addr} {o : HO} {d x : D} {v : V} {i : Nat} {m : Bool}
theorem get_set {α : Type} {l : List α} {i j : Nat} {x y : α} (h : (l.set i x)[j]? = some y) : (i = j ∧ x = y) ∨ (i ≠ j ∧ l[j]? = some y) := by
  by_cases e : i = j
  · subst e
    by_cases hl : i < l.length
    · rw [List.getElem?_set_self hl] at h
      exact .inl ⟨rfl, Option.some.inj h⟩
    · rw [List.set_eq_of_length_le (by omega)] at h
      rw [List.getElem?_eq_none (by omega)] at h
      cases h
  · rw [List.getElem?_set_ne e] at h
    exact .inr ⟨e, h⟩
/-- a slot takes a value -/
theorem R.set_im (r : R K G L env σ F H) (i : Nat) (hi : Is K F d v) : R K G L (env.set i (.im d)) (σ.set i (some v)) F H where
  len := by rw [List.length_set, List.length_set, r.len]
  im := fun j e h => by
    rcases get_set h with ⟨rfl, q⟩ | ⟨n, q⟩
    · cases q
      have hl : i < env.length := by
        have := (List.getElem?_eq_some_iff.mp h).1
        simpa using this
      exact ⟨v, by rw [List.getElem?_set_self (by rw [← r.len]; exact hl)], hi⟩
    · obtain ⟨u, h1, h2⟩ := r.im j e q
      exact ⟨u, by rw [List.getElem?_set_ne n]; exact h1, h2⟩
  ow := fun j m e h => by
    rcases get_set h with ⟨rfl, q⟩ | ⟨n, q⟩
    · cases q
    · obtain ⟨a, h1, h2⟩ := r.ow j m e q
      exact ⟨a, by rw [List.getElem?_set_ne n]; exact h1, h2⟩
  sep := fun j k m n d e a hne h1 h2 h3 h4 => by
    rcases get_set h1 with ⟨rfl, q⟩ | ⟨n1, q1⟩
    · cases q
    · rcases get_set h2 with ⟨rfl, q⟩ | ⟨n2, q2⟩
      · cases q
      · rw [List.getElem?_set_ne n1] at h3
        rw [List.getElem?_set_ne n2] at h4
        exact r.sep j k m n d e a hne q1 q2 h3 h4
  see := r.see
  pres := r.pres
  mm := r.mm
  grow := r.grow
  base := r.base
  lk := r.lk
  lk0 := r.lk0
  ext := fun p hp => by
    obtain ⟨e1, e2, e3⟩ := r.ext p hp
    refine ⟨e1, e2, fun j m e h z => ?_⟩
    rcases get_set h with ⟨rfl, q⟩ | ⟨n, q⟩
    · cases q
    · rw [List.getElem?_set_ne n] at z
      exact e3 j m e q z
/-- a slot forgets -/
theorem R.forget (r : R K G L env σ F H) (i : Nat) (u : Option V) : R K G L (env.set i .un) (σ.set i u) F H where
  len := by rw [List.length_set, List.length_set, r.len]
  im := fun j e h => by
    rcases get_set h with ⟨rfl, q⟩ | ⟨n, q⟩
    · cases q
    · obtain ⟨u, h1, h2⟩ := r.im j e q
      exact ⟨u, by rw [List.getElem?_set_ne n]; exact h1, h2⟩
  ow := fun j m e h => by
    rcases get_set h with ⟨rfl, q⟩ | ⟨n, q⟩
    · cases q
    · obtain ⟨a, h1, h2⟩ := r.ow j m e q
      exact ⟨a, by rw [List.getElem?_set_ne n]; exact h1, h2⟩
  sep := fun j k m n d e a hne h1 h2 h3 h4 => by
    rcases get_set h1 with ⟨rfl, q⟩ | ⟨n1, q1⟩
    · cases q
    · rcases get_set h2 with ⟨rfl, q⟩ | ⟨n2, q2⟩
      · cases q
      · rw [List.getElem?_set_ne n1] at h3
        rw [List.getElem?_set_ne n2] at h4
        exact r.sep j k m n d e a hne q1 q2 h3 h4
  see := r.see
  pres := r.pres
  mm := r.mm
  grow := r.grow
  base := r.base
  lk := r.lk
  lk0 := r.lk0
  ext := fun p hp => by
    obtain ⟨e1, e2, e3⟩ := r.ext p hp
    refine ⟨e1, e2, fun j m e h z => ?_⟩
    rcases get_set h with ⟨rfl, q⟩ | ⟨n, q⟩
    · cases q
    · rw [List.getElem?_set_ne n] at z
      exact e3 j m e q z
/-- a slot takes a fresh thing -/
theorem R.set_ow (r : R K G L env σ F H) (i : Nat) (f : Fresh K G env σ F H x a) : R K G L (env.set i (.ow false x)) (σ.set i (some (.ref a))) F H where
  len := by rw [List.length_set, List.length_set, r.len]
  im := fun j e h => by
    rcases get_set h with ⟨rfl, q⟩ | ⟨n, q⟩
    · cases q
    · obtain ⟨u, h1, h2⟩ := r.im j e q
      exact ⟨u, by rw [List.getElem?_set_ne n]; exact h1, h2⟩
  ow := fun j m e h => by
    rcases get_set h with ⟨rfl, q⟩ | ⟨n, q⟩
    · cases q
      have hl : i < env.length := by
        have := (List.getElem?_eq_some_iff.mp h).1
        simpa using this
      exact ⟨a, by rw [List.getElem?_set_self (by rw [← r.len]; exact hl)], f.f, f.h0, f.has⟩
    · obtain ⟨b, h1, h2⟩ := r.ow j m e q
      exact ⟨b, by rw [List.getElem?_set_ne n]; exact h1, h2⟩
  sep := fun j k m n d e b hne h1 h2 h3 h4 => by
    rcases get_set h1 with ⟨rfl, q⟩ | ⟨n1, q1⟩
    · rcases get_set h2 with ⟨rfl, _⟩ | ⟨n2, q2⟩
      · exact hne rfl
      · rw [List.getElem?_set_ne n2] at h4
        have hl : i < σ.length := by
          have := (List.getElem?_eq_some_iff.mp h3).1
          simpa using this
        rw [List.getElem?_set_self hl] at h3
        cases h3
        exact f.sep k n e q2 h4
    · rcases get_set h2 with ⟨rfl, q⟩ | ⟨n2, q2⟩
      · rw [List.getElem?_set_ne n1] at h3
        have hl : i < σ.length := by
          have := (List.getElem?_eq_some_iff.mp h4).1
          simpa using this
        rw [List.getElem?_set_self hl] at h4
        cases h4
        exact f.sep j m d q1 h3
      · rw [List.getElem?_set_ne n1] at h3
        rw [List.getElem?_set_ne n2] at h4
        exact r.sep j k m n d e b hne q1 q2 h3 h4
  see := r.see
  pres := r.pres
  mm := r.mm
  grow := r.grow
  base := r.base
  lk := r.lk
  lk0 := r.lk0
  ext := fun p hp => by
    obtain ⟨e1, e2, e3⟩ := r.ext p hp
    refine ⟨e1, e2, fun j m e h z => ?_⟩
    rcases get_set h with ⟨rfl, q⟩ | ⟨n, q⟩
    · have hl : i < σ.length := by
        have := (List.getElem?_eq_some_iff.mp z).1
        simpa using this
      rw [List.getElem?_set_self hl] at z
      cases z
      exact f.ext p hp rfl
    · rw [List.getElem?_set_ne n] at z
      exact e3 j m e q z
/-- the thing of slot i is known from here on -/
theorem R.freeze_slot (r : R K G L env σ F H) (e : env[i]? = some (.ow false d)) : ∃ F' a, R K G L (env.set i (.im d)) σ F' H ∧ Same F F' ∧ σ[i]? = some (some (.ref a)) ∧ Is K F' d (.ref a) := by
  obtain ⟨a, h1, h2, h3, h4⟩ := r.ow i false d e
  have r1 : R K G L (env.set i .un) (σ.set i (some (.ref a))) F H := r.forget i _
  have eσ : σ.set i (some (.ref a)) = σ := by
    apply List.ext_getElem?
    intro j
    by_cases n : i = j
    · subst n
      rw [List.getElem?_set_self (List.getElem?_eq_some_iff.mp h1).1, h1]
    · rw [List.getElem?_set_ne n]
  rw [eσ] at r1
  have nm : a ∉ G.M := fun z => (r.mm a z).2.2 h3
  have f : Fresh K G (env.set i .un) σ F H d a := ⟨h2, h3, h4, nm, fun j m e' h z => by
    rcases get_set h with ⟨_, q⟩ | ⟨n, q⟩
    · cases q
    · exact r.sep i j _ _ _ _ a n e q h1 z, fun q hq z => (r.ext q hq).2.2 i _ _ e (by rw [z]; exact h1)⟩
  obtain ⟨F', r2, sm, hi⟩ := r1.freeze f
  have r3 := r2.set_im i hi
  rw [eσ] at r3
  have ee : (env.set i Sl.un).set i (.im d) = env.set i (.im d) := by rw [List.set_set]
  rw [ee] at r3
  exact ⟨F', a, r3, sm, h1, hi⟩
/-- the thing of slot i is changed -/
theorem R.mut {d' : D} (r : R K G L env σ F H) (e : env[i]? = some (.ow m d)) (hs : σ[i]? = some (some (.ref a))) (hn : Has K F (upd H a o) d' a) : R K G L (env.set i (.ow m d')) σ F (upd H a o) := by
  obtain ⟨a', h1, h2, h3, h4⟩ := r.ow i m d e
  rw [hs] at h1
  cases h1
  have hl : i < env.length := (List.getElem?_eq_some_iff.mp e).1
  have nF : ∀ b u, F b = some u → b ≠ a := fun b u q z => by
    rw [z, h2] at q
    cases q
  have at_ : ∀ (LL : List (Addr × Obj)) b u, b ≠ a → at9 LL H b u → at9 LL (upd H a o) b u := fun LL b u n q => q.elim (fun q => .inl (by rw [upd_ne n]; exact q)) fun ⟨ob, z, q⟩ => .inr ⟨ob, z, by rw [upd_ne n]; exact q⟩
  refine ⟨by rw [List.length_set, r.len], fun j x h => ?_, fun j n x h => ?_, fun j k m1 n1 d1 e1 b hne q1 q2 q3 q4 => ?_, fun b u q => at_ _ b u (nF b u q) (r.see b u q), fun b u q hb => ?_, fun b hb => ?_, r.grow, r.base, fun q hq => ?_, r.lk0, fun p hp => ?_⟩
  · rcases get_set h with ⟨_, q⟩ | ⟨_, q⟩
    · cases q
    · exact r.im j x q
  · rcases get_set h with ⟨rfl, q⟩ | ⟨ne, q⟩
    · cases q
      exact ⟨a, hs, h2, h3, hn⟩
    · obtain ⟨b, q1, q2, q3, q4⟩ := r.ow j n x q
      have nb : b ≠ a := fun z => r.sep i j _ _ _ _ a ne e q hs (by rw [← z]; exact q1)
      exact ⟨b, q1, q2, q3, q4.mono (Same.refl F) fun u z => by
        have nb' := nb
        rw [upd_ne nb']
        exact z⟩
  · have g : ∀ {j : Nat} {m1 : Bool} {d1 : D}, (env.set i (.ow m d'))[j]? = some (.ow m1 d1) → ∃ m2 d2, env[j]? = some (.ow m2 d2) := fun {j m1 d1} q => by
      rcases get_set q with ⟨rfl, _⟩ | ⟨_, q⟩
      · exact ⟨_, _, e⟩
      · exact ⟨_, _, q⟩
    obtain ⟨_, _, z1⟩ := g q1
    obtain ⟨_, _, z2⟩ := g q2
    exact r.sep j k _ _ _ _ b hne z1 z2 q3 q4
  · have n : b ≠ a := fun z => by
      cases m with
      | true => exact hb (by rw [z]; exact (show a ∈ G.M ∧ _ from h3).1)
      | false =>
        rw [z] at q
        have h3 : G.H0 a = none := h3
        rw [h3] at q
        cases q
    exact at_ _ b u n (r.pres b u q hb)
  · refine ⟨?_, (r.mm b hb).2⟩
    by_cases n : b = a
    · rw [n, upd_same]
      intro z
      cases z
    · rw [upd_ne n]
      exact (r.mm b hb).1
  · obtain ⟨ws, e1, e2⟩ := r.lk q hq
    exact ⟨ws, e1, by rw [upd_ne (nF _ _ e1)]; exact e2⟩
  · obtain ⟨e1, e2, e3⟩ := r.ext p hp
    have n : p.1 ≠ a := fun z => e3 i m d e (by rw [z]; exact hs)
    refine ⟨by rw [upd_ne n]; exact e1, e2, fun j m1 d1 q => ?_⟩
    rcases get_set q with ⟨rfl, _⟩ | ⟨_, q⟩
    · exact e3 _ _ _ e
    · exact e3 j _ _ q
end
/-! ### what a stop is told by -/
def ifB (c : Bool) (p q : Prop) : Prop := match c with
  | true => p
  | false => q
theorem ifB_of {c : Bool} {p q : Prop} (h1 : c = true → p) (h2 : c = false → q) : ifB c p q := by
  cases c with
  | true => exact h1 rfl
  | false => exact h2 rfl
theorem ifB_t {c : Bool} {p q : Prop} (e : c = true) (h : p) : ifB c p q := by rw [e]; exact h
theorem ifB_f {c : Bool} {p q : Prop} (e : c = false) (h : q) : ifB c p q := by rw [e]; exact h
theorem ifD {c p q : Prop} {_ : Decidable c} (h1 : c → p) (h2 : ¬ c → q) : ifB (decide c) p q := ifB_of (fun e => h1 (of_decide_eq_true e)) fun e => h2 (of_decide_eq_false e)
theorem ifD_t {c p q : Prop} {_ : Decidable c} (e : c) (h : p) : ifB (decide c) p q := ifB_t (decide_eq_true e) h
theorem ifD_f {c p q : Prop} {_ : Decidable c} (e : ¬ c) (h : q) : ifB (decide c) p q := ifB_f (decide_eq_false e) h
theorem ifDN {c p q : Prop} {_ : Decidable c} (h1 : c → q) (h2 : ¬ c → p) : ifB (!decide c) p q := ifB_of (fun e => h2 fun z => by rw [decide_eq_true z] at e; cases e) fun e => h1 (by
  by_cases z : c
  · exact z
  · rw [decide_eq_false z] at e; cases e)
theorem ifDN_t {c p q : Prop} {_ : Decidable c} (e : c) (h : q) : ifB (!decide c) p q := ifB_f (by rw [decide_eq_true e]; rfl) h
theorem ifDN_f {c p q : Prop} {_ : Decidable c} (e : ¬ c) (h : p) : ifB (!decide c) p q := ifB_t (by rw [decide_eq_false e]; rfl) h
def some9 {α : Type} (o : Option α) (Q : α → Prop) : Prop := match o with
  | some v => Q v
  | none => False
theorem some9_of {α : Type} {o : Option α} {Q : α → Prop} {v : α} (e : o = some v) (h : Q v) : some9 o Q := by rw [e]; exact h
theorem some9_ex {α : Type} {o : Option α} {Q : α → Prop} (h : some9 o Q) : ∃ v, o = some v ∧ Q v := by
  cases o with
  | none => exact h.elim
  | some v => exact ⟨v, rfl, h⟩
/-! ### readings and their value forms -/
/-- an exception: its class by name, its fields -/
def XR (K : PySem.W.Frag) (F _H : Hp) (e : D) (c : Value) (dd : Option Addr) : Prop := ∃ cn fs d ws, e = .obj cn fs ∧ c = .ref (He.ga K cn) ∧ dd = some d ∧ F d = some (.xd ws) ∧ IsF K F fs ws
abbrev XK9 := D → Sls → Prop
abbrev DE := XK9 → Sls → (D → Sls → Prop) → Prop
abbrev DT := XK9 → Sls → (Bool → Sls → Prop) → Prop
structure SimE (K : PySem.W.Frag) (W : WX) (d : DE) (t : TE) : Prop where
  run : ∀ {G : Gh} {L : List (Addr × Obj)} {env : Sls} {σ : L2.St} {F H : Hp} {X9 : XK9} {Q9 : D → Sls → Prop} {Q : V → Hp → Prop}, R K G L env σ F H → d X9 env Q9 →
    (∀ x env' v F' H', R K G L env' σ F' H' → Same F F' → Is K F' x v → Q9 x env' → Q v H') →
    (∀ e env' c dd F' H', R K G L env' σ F' H' → XR K F' H' e c dd → X9 e env' → W c dd σ H') → t σ H Q
/-- .. that gives a fresh thing -/
structure SimF (K : PySem.W.Frag) (W : WX) (d : DE) (t : TE) : Prop where
  run : ∀ {G : Gh} {L : List (Addr × Obj)} {env : Sls} {σ : L2.St} {F H : Hp} {X9 : XK9} {Q9 : D → Sls → Prop} {Q : V → Hp → Prop}, R K G L env σ F H → d X9 env Q9 →
    (∀ x env' a F' H', R K G L env' σ F' H' → Same F F' → Fresh K G env' σ F' H' x a → Q9 x env' → Q (.ref a) H') →
    (∀ e env' c dd F' H', R K G L env' σ F' H' → XR K F' H' e c dd → X9 e env' → W c dd σ H') → t σ H Q
structure SimT (K : PySem.W.Frag) (W : WX) (d : DT) (t : TT) : Prop where
  run : ∀ {G : Gh} {L : List (Addr × Obj)} {env : Sls} {σ : L2.St} {F H : Hp} {X9 : XK9} {Q9 : Bool → Sls → Prop} {Q : Bool → Hp → Prop}, R K G L env σ F H → d X9 env Q9 →
    (∀ x env' F' H', R K G L env' σ F' H' → Same F F' → Q9 x env' → Q x H') →
    (∀ e env' c dd F' H', R K G L env' σ F' H' → XR K F' H' e c dd → X9 e env' → W c dd σ H') → t σ H Q
section
variable {K : PySem.W.Frag} {W : WX} {d : DE} {t : TE}
theorem SimF.e (s : SimF K W d t) : SimE K W d t := ⟨fun r h q x => s.run r h (fun y env' a F' H' r' sm f k => by
  obtain ⟨F2, r2, sm2, hi⟩ := r'.freeze f
  exact q y env' _ F2 H' r2 (sm.trans sm2) hi k) x⟩
/-! constants, names -/
def dC (x : D) : DE := fun _ env Q => Q x env
theorem sim_c {x : D} {v : V} (h : ∀ F, Is K F x v) : SimE K W (dC x) (tC v) := ⟨fun r h' q _ => q x _ v _ _ r (Same.refl _) (h _) h'⟩
theorem sim_int {i : Int} : SimE K W (dC (.int i)) (tC (.int i)) := sim_c fun _ => .int
theorem sim_bl {b : Bool} : SimE K W (dC (.bl b)) (tC (.bl b)) := sim_c fun _ => .bl
theorem sim_str {z : Str} : SimE K W (dC (.str z)) (tC (.str z)) := sim_c fun _ => .str
theorem sim_non : SimE K W (dC .non) (tC .non) := sim_c fun _ => .non
/-- a name, as a value: its thing is known from here on -/
def dVar (i : Nat) : DE := fun _ env Q => match env[i]? with
  | some (.im d) => Q d env
  | some (.ow false d) => Q d (env.set i (.im d))
  | _ => False
theorem sim_var (i : Nat) : SimE K W (dVar i) (tVar i) := by
  refine ⟨fun {G L env σ F H X9 Q9 Q} r h q _ => ?_⟩
  unfold dVar at h
  split at h
  · rename_i d e
    obtain ⟨v, h1, h2⟩ := r.im i d e
    exact ⟨v, h1, q d env v F H r (Same.refl F) h2 h⟩
  · rename_i d e
    obtain ⟨F', a, r', sm, h1, h2⟩ := r.freeze_slot e
    exact ⟨_, h1, q d _ _ F' H r' sm h2 h⟩
  · exact h.elim
end
/-! operands: an expression, or a slot that is looked at when the operation is done -/
inductive Op9 where
  | e (d : DE) | s (i : Nat)
abbrev P9 := D ⊕ Nat
def unpin : D → D
  | .pin _ xs => .lst xs
  | d => d
theorem Has.unpin {K : PySem.W.Frag} {F H : Hp} {a : Addr} : ∀ {d : D}, Has K F H d a → Has K F H (unpin d) a
  | .lst _, h => h
  | .dic _, h => h
  | .obj _ _, h => h
  | .pin _ _, ⟨_, h⟩ => h
def look9 (env : Sls) : P9 → Option D
  | .inl x => some x
  | .inr i => match env[i]? with
    | some (.im d) => some d
    | some (.ow _ d) => some (unpin d)
    | _ => none
def Op9.ev : Op9 → XK9 → Sls → (P9 → Sls → Prop) → Prop
  | .e d, X, env, k => d X env fun x env' => k (.inl x) env'
  | .s i, _, env, k => match look9 env (.inr i) with
    | some _ => k (.inr i) env
    | none => False
inductive SimO (K : PySem.W.Frag) (W : WX) : Op9 → TE → Prop
  | e {d : DE} {t : TE} : SimE K W d t → SimO K W (.e d) t
  | s (i : Nat) : SimO K W (.s i) (tVar i)
def RelP (K : PySem.W.Frag) (σ : L2.St) (F : Hp) : P9 → V → Prop
  | .inl x, v => Is K F x v
  | .inr i, v => σ[i]? = some (some v)
theorem RelP.mono {K : PySem.W.Frag} {σ : L2.St} {F F' : Hp} (s : Same F F') : ∀ {p : P9} {v : V}, RelP K σ F p v → RelP K σ F' p v
  | .inl _, _, h => Is.mono s h
  | .inr _, _, h => h
/-- it is known, or stands in the heap -/
def Pk (K : PySem.W.Frag) (F H : Hp) (x : D) (v : V) : Prop := Is K F x v ∨ ∃ a, v = .ref a ∧ F a = none ∧ Has K F H x a
section
variable {K : PySem.W.Frag} {W : WX} {G : Gh} {L : List (Addr × Obj)} {env : Sls} {σ : L2.St} {F H : Hp} {X9 : XK9}
theorem look_slot {i : Nat} {x : D} (h : look9 env (.inr i) = some x) : env[i]? = some (.im x) ∨ ∃ m d, env[i]? = some (.ow m d) ∧ x = unpin d := by
  unfold look9 at h
  dsimp only at h
  split at h
  · rename_i e
    cases h
    exact .inl e
  · rename_i m d e
    cases h
    exact .inr ⟨m, d, e, rfl⟩
  · cases h
theorem R.pk (r : R K G L env σ F H) {p : P9} {v : V} {x : D} (rp : RelP K σ F p v) (h : look9 env p = some x) : Pk K F H x v := by
  cases p with
  | inl y =>
    cases h
    exact .inl rp
  | inr i =>
    have rp : σ[i]? = some (some v) := rp
    rcases look_slot h with e | ⟨m, d, e, rfl⟩
    · obtain ⟨u, h1, h2⟩ := r.im i x e
      rw [rp] at h1
      cases h1
      exact .inl h2
    · obtain ⟨a, h1, h2, _, h4⟩ := r.ow i m d e
      rw [rp] at h1
      cases h1
      exact .inr ⟨a, rfl, h2, h4.unpin⟩
theorem SimO.run {o : Op9} {t : TE} {k : P9 → Sls → Prop} {Q : V → Hp → Prop} (s : SimO K W o t) (r : R K G L env σ F H) (h : o.ev X9 env k)
    (q : ∀ p env' v F' H', R K G L env' σ F' H' → Same F F' → RelP K σ F' p v → k p env' → Q v H') (x : ∀ e env' c dd F' H', R K G L env' σ F' H' → XR K F' H' e c dd → X9 e env' → W c dd σ H') : t σ H Q := by
  cases s with
  | e s => exact s.run r h (fun y env' v F' H' r' sm hi k => q (.inl y) env' v F' H' r' sm hi k) x
  | s i =>
    unfold Op9.ev at h
    dsimp only at h
    split at h
    · rename_i y e
      rcases look_slot e with e | ⟨m, d, e, _⟩
      · obtain ⟨u, h1, h2⟩ := r.im i y e
        exact ⟨u, h1, q (.inr i) env u F H r (Same.refl F) h1 h⟩
      · obtain ⟨a, h1, _⟩ := r.ow i m d e
        exact ⟨_, h1, q (.inr i) env _ F H r (Same.refl F) h1 h⟩
    · exact h.elim
/-- what an operation may lean on -/
structure Sees (F H : Hp) : Prop where
  see : ∀ a o, F a = some o → (∀ ws, o ≠ .dK ws) → H a = some o
  rd : ∀ a o, F a = some o → Rd H a o
theorem Sees.sqT {a : Addr} {vs : List V} (s : Sees F H) (h : SqT K F a vs) : SqT K H a vs := h.elim (fun h => .inl (h.elim (fun h => .inl (s.see _ _ h (fun _ z => nomatch z))) fun ⟨o, h⟩ => .inr ⟨o, s.see _ _ h (fun _ z => nomatch z)⟩)) .inr
theorem R.sees (r : R K G L env σ F H) : Sees F H where
  see := fun a o e n => by
    rcases r.see a o e with h | ⟨ob, m, h⟩
    · exact h
    · obtain ⟨ws, q, _⟩ := r.lk _ m
      have q : F a = some (.dK ws) := q
      rw [e] at q
      cases q
      exact absurd rfl (n ws)
  rd := fun a o e => (r.see a o e).rd
theorem Pk.lst {xs : List D} {v : V} (s : Sees F H) (h : Pk K F H (.lst xs) v) : ∃ a vs, v = .ref a ∧ H a = some (.lst vs) ∧ IsL K F xs vs := by
  rcases h with h | ⟨a, rfl, _, vs, h, r⟩
  · cases h with
    | lst e r => exact ⟨_, _, rfl, s.see _ _ e (fun _ z => nomatch z), r⟩
  · exact ⟨a, vs, rfl, h, r⟩
theorem Pk.tup {xs : List D} {v : V} (s : Sees F H) (h : Pk K F H (.tup xs) v) : ∃ a vs, v = .ref a ∧ SqT K H a vs ∧ IsL K F xs vs := by
  rcases h with h | ⟨a, rfl, _, h⟩
  · cases h with
    | tup e r => exact ⟨_, _, rfl, s.sqT e, r⟩
  · exact h.elim
theorem Pk.dic {xs : List (Key × D)} {v : V} (s : Sees F H) (h : Pk K F H (.dic xs) v) : ∃ a vs, v = .ref a ∧ Rd H a (.dK vs) ∧ IsK K F xs vs := by
  rcases h with h | ⟨a, rfl, _, vs, h, r⟩
  · cases h with
    | dic e r => exact ⟨_, _, rfl, s.rd _ _ e, r⟩
  · exact ⟨a, vs, rfl, .inl h, r⟩
theorem Pk.obj {c : Str} {xs : List (Str × D)} {v : V} (s : Sees F H) (h : Pk K F H (.obj c xs) v) : ∃ a dx vs, v = .ref a ∧ H a = some (.ins (He.ga K c) dx vs) ∧ IsF K F xs vs := by
  rcases h with h | ⟨a, rfl, _, dx, vs, h, r⟩
  · cases h with
    | obj e r => exact ⟨_, _, _, rfl, s.see _ _ e (fun _ z => nomatch z), r⟩
  · exact ⟨a, dx, vs, rfl, h, r⟩
theorem Pk.scr {ns : List Int} {v : V} (s : Sees F H) (h : Pk K F H (.scr ns) v) : ∃ a, v = .ref a ∧ SqL K H a (ns.map V.int) := by
  rcases h with h | ⟨a, rfl, _, h⟩
  · cases h with
    | scr e =>
      refine ⟨_, rfl, ?_⟩
      rcases e with (e | ⟨o, e⟩) | e
      · exact .inl (.inl (s.see _ _ e fun _ z => nomatch z))
      · exact .inl (.inr ⟨o, s.see _ _ e fun _ z => nomatch z⟩)
      · exact .inr e
  · exact h.elim
theorem Pk.int {i : Int} {v : V} (h : Pk K F H (.int i) v) : v = .int i := by
  rcases h with h | ⟨a, rfl, _, h⟩
  · cases h; rfl
  · exact h.elim
theorem Pk.str {i : Str} {v : V} (h : Pk K F H (.str i) v) : v = .str i := by
  rcases h with h | ⟨a, rfl, _, h⟩
  · cases h; rfl
  · exact h.elim
theorem Pk.bl {i : Bool} {v : V} (h : Pk K F H (.bl i) v) : v = .bl i := by
  rcases h with h | ⟨a, rfl, _, h⟩
  · cases h; rfl
  · exact h.elim
theorem Pk.non {v : V} (h : Pk K F H .non v) : v = .non := by
  rcases h with h | ⟨a, rfl, _, h⟩
  · cases h; rfl
  · exact h.elim
end
end Dv

set_option maxHeartbeats 4000000
/-! the truth of an own object by its __len__; rules for in and tuples -/
namespace SkW
open PySem PySem.W PySem.Calls PyProof.Rows Builtin
section
variable {prog : Program} {w : World} {A : Around} {E : Value → Shared → Prop} {s : Shared} {K : Frag} {x C L f : Addr} {h₀ : Heap} {m : Str → Option Value} {ox : Obj} {od : Option Obj}
def TruBack (Q : Bool → Shared → Prop) (v : Value) (s' : Shared) : Prop := match v with
  | .int n _ => (0 ≤ n ∧ n < 2 ^ 63) ∧ Q (n != 0) { s' with toks := s'.toks + 1 }
  | _ => False
theorem truth_len {Q : Bool → Shared → Prop} (X : K.In s.heap) (I : InstAt s.heap x ox C od) (hb : findIn K (.ref C) "__bool__" = some none) (hs : findIn K (.ref C) "__len__" = some (some (.ref f))) (hf : isFn K (.ref f) = true)
    (h : wpAny (model prog w) A.in1 (call (.ref f) [.ref x]) (TruBack Q) E s) : wpAny (model prog w) A (truthy (.ref x)) Q E s := by
  have key : wpAny (model prog w) A (runValue (.builtin "len" ⟨[.ref x], []⟩)) (fun r s' => ∃ n t, r = .int n t ∧ Q (n != 0) s') E s := by
    refine wpAny_runValue (codeAny_builtin entry_len ?_)
    rw [Around.under_plainId plain_len _]
    unfold Builtin.«len»
    refine wpAny_bind (m := oneArg "len" _) (wpAny_pure ?_)
    refine wpAny_bind (m := callSpecial? (.ref x) (Str.ofString "__len__")) (special_fn X I hs (beq_iff_eq.mp hf) (wpAny_mono h (fun r s' hr => ?_) fun _ _ y => y))
    cases r <;> first | exact hr.elim | skip
    rename_i n u
    obtain ⟨⟨h0, h1⟩, hq⟩ := hr
    refine wpAny_bind (wpAny_holding (wpAny_pure ?_))
    refine wpAny_bind (wpAny_letGo ?_)
    show wpAny _ _ (if n < 0 then _ else _) _ _ _
    rw [if_neg (by omega)]
    show wpAny _ _ (if n ≥ 2 ^ 63 then _ else _) _ _ _
    rw [if_neg (by omega)]
    exact wpAny_bind (wpAny_mkInt (wpAny_pure ⟨_, _, rfl, hq⟩))
  unfold truthy
  refine wpAny_bind (m := callSpecial? (.ref x) (Str.ofString "__bool__")) (wpAny_bind (wpAny_bind (I.type.here ((looks_findIn X hb).here (wpAny_pure ?_)))))
  refine wpAny_bind (wpAny_bind (I.type.here ((looks_findIn X hs).here ?_)))
  refine wpAny_bind (wpAny_mono key (fun r s' h' => ?_) fun _ _ e => e)
  obtain ⟨n, t, rfl, hq⟩ := h'
  exact wpAny_pure hq
theorem meets_bool_own (x : Addr) : MeetsIn prog w (Builtin.«bool.__new__» ⟨[.type "bool", .ref x], []⟩) (fun A R s => wpAny (model prog w) A.in1 (truthy (.ref x)) (fun b s' => R (.ok (.ret (.bool b))) s') (fun e s' => R (.error e) s') s) :=
  .of_wp fun A R s h => by
    obtain ⟨hp, g, d, tk, os⟩ := s
    have f1 := PySem.F.conv_sub_bool
    unfold Builtin.«bool.__new__»
    repeat (first
      | (refine wpAny_bind (m := truthy (.ref x)) (wpAny_mono h (fun b s' hb => ?_) fun _ _ e => e))
      | wp_step)
    all_goals first | exact ⟨_, rfl, hb⟩ | exact wpAny_pure ⟨_, rfl, hb⟩ | exact hb
theorem call_boolK {Q : Value → Shared → Prop} (X : K.In s.heap) (I : InstAt s.heap x ox C od) (hb : findIn K (.ref C) "__bool__" = some none) (hs : findIn K (.ref C) "__len__" = some (some (.ref f))) (hf : isFn K (.ref f) = true)
    (h : wpAny (model prog w) A.in1.in1.in1 (call (.ref f) [.ref x]) (TruBack fun b s' => Q (.bool b) s') E s) : wpAny (model prog w) A (call (.type "bool") [.ref x]) Q E s :=
  callType_newIn PySem.F.called_bool PySem.F.newNe_bool (PySem.F.typeCall_bool_1 _) (PySem.F.newCall_bool_1 _) (fun obj => PySem.F.args_object_init_2 obj _) PySem.F.entry_bool_new (meets_bool_own x)
    (truth_len X I hb hs hf (wpAny_mono h (fun r s' hr => by
      cases r <;> first | exact hr.elim | exact ⟨hr.1, rfl, hr.2⟩) fun _ _ e => e))
end
end SkW
namespace Sk
open PySem PySem.Spec PyProof.Rows L2 PySem.W
section
variable {X : Cx} {n : Nat} {C : Addr} {sp : Sp}
/-- bool(o) by the class's own __len__ -/
def rBoolOwn (C : Addr) (sp : Sp) : List V → Hp → VK → Prop := fun xs H Q => ∃ a dx fs, xs = [.ref a] ∧ H a = some (.ins C dx fs) ∧ sp [.ref a] H (fun v H' => ∃ n : Int, v = .int n ∧ 0 ≤ n ∧ n < 2 ^ 63 ∧ Q (.bl (n != 0)) H') C8.E0
theorem call_boolOwn (c : C8.Met X.prog X.w X.K X.mg X.base n C "__len__" sp []) (i : IsiC X.K C) (hr : Room (n + 3) X.A) : CallR X (.type "bool") (rBoolOwn C sp) := by
  intro pins s σ H xs us Q I r h
  obtain ⟨a, dx, fs, rfl, ha, h⟩ := h
  obtain ⟨u, rfl, ru⟩ := vals1 r
  cases ru
  obtain ⟨mA, O, _⟩ := ins_get I.hok ha
  obtain ⟨od, J, _⟩ := O.look
  have sb : Sub X n X.A.in1.in1.in1 := Sub.in1 (Sub.in1 (Sub.in1 ⟨hr, rfl⟩))
  obtain ⟨f, hm, q⟩ := run_met c sb I (vals_ref a) h
  refine SkW.call_boolK I.kIn J i.bl hm.at_ hm.fn (thn q fun v s1 hv => ?_)
  obtain ⟨z, H', I', rz, k, rfl, h0, h1, hq⟩ := hv
  obtain ⟨t, rfl⟩ := rz
  exact ⟨⟨h0, h1⟩, .bl (k != 0), H', I'.tok _, rfl, hq⟩
/-- x in xs, the items' answers bs -/
def rInS (X : Cx) (n : Nat) (neg : Bool) : R2 := fun x y H Q => ∃ (p : Addr) (xs : List V) (bs : Nat → Bool), y = .ref p ∧ (H p = some (.lst xs) ∨ SqT X.K H p xs) ∧ (∀ (i : Nat) (z : V), xs[i]? = some z → EqS X n H z x (bs i)) ∧
  ((∃ i, i < xs.length ∧ bs i = true) → ∀ H', Same H H' → Q (.bl (!neg)) H') ∧ ((∀ i, i < xs.length → bs i = false) → ∀ H', Same H H' → Q (.bl neg) H')
theorem has_S {x : V} {v : Value} {pins : List (Addr × Obj)} {s : Shared} {σ : L2.St} {H : Hp} {Q : Bool → Shared → Prop} (hr : Room (n + 1) X.A) (I : Inv X pins σ H s) (rx : RelV x v) {p : Addr} {xs : List V} {bs : Nat → Bool} (hq : H p = some (.lst xs) ∨ SqT X.K H p xs)
    (he : ∀ (i : Nat) (z : V), xs[i]? = some z → EqS X n H z x (bs i)) (h1 : (∃ i, i < xs.length ∧ bs i = true) → ∀ s' H', Inv X pins σ H' s' → Same H H' → Q true s') (h2 : (∀ i, i < xs.length → bs i = false) → ∀ s' H', Inv X pins σ H' s' → Same H H' → Q false s') :
    wpAny (model X.prog X.w) X.A (contains (.ref p) v) Q X.xe s := by
  have sb : Sub X n X.A.in1 := sub_in1 hr
  have step : ∀ (its : List Value) (H' : Hp) (s' : Shared) (i : Nat) (h : i < its.toArray.size), Vals xs its → Inv X pins σ H' s' → Same H H' → wpAny (model X.prog X.w) X.A.in1 (eqBool its.toArray[i] v) (fun r s' => r = bs i ∧ ∃ H', Inv X pins σ H' s' ∧ Same H H') X.xe s' := by
    intro its H' s' i h r I' sm
    have hi : i < xs.length := by rw [r.length]; simpa using h
    obtain ⟨u, hu, ru⟩ := r.get (List.getElem?_eq_getElem hi)
    have h1' : i < its.length := by simpa using h
    have eu : its.toArray[i] = u := by
      rw [List.getElem?_eq_getElem h1'] at hu
      simpa using hu
    rw [eu]
    refine wpAny_mono (he i _ (List.getElem?_eq_getElem hi) X.A.in1 pins s' σ H' u v sb sm I' ru rx) (fun r s2 q => ?_) fun _ _ e => e
    obtain ⟨e, H2, I2, sm2⟩ := q
    exact ⟨e, H2, I2, sm.trans sm2⟩
  rcases hq with hq | hq
  · obtain ⟨_, _, _, _, e0⟩ := I.hok p _ hq
    refine SkW.in_list (N := xs.length) (bs := bs) (I := fun _ s' => ∃ H', Inv X pins σ H' s' ∧ Same H H') ⟨_, e0, rfl⟩ (fun i s' ⟨H', I', sm⟩ => ?_) (fun i s' hi ⟨H', I', sm⟩ e => h1 ⟨i, hi, e⟩ s' H' I' sm) (fun s' ⟨H', I', sm⟩ e => h2 e s' H' I' sm) ⟨H, I, Same.refl _⟩
    obtain ⟨z, its, k, r, e⟩ := I'.hok p _ (sm _ _ hq)
    exact ⟨its.toArray, k, e, by rw [List.size_toArray, ← r.length], fun h => step its H' s' i h r I' sm⟩
  · obtain ⟨its, r, e, z⟩ := I.tuple hq
    have hN : its.toArray.size = xs.length := by rw [List.size_toArray, ← r.length]
    refine SkW.in_tuple (bs := bs) (I := fun _ s' => ∃ H', Inv X pins σ H' s' ∧ Same H H') e (fun i h s' ⟨H', I', sm⟩ => step its H' s' i h r I' sm) (fun i s' hi ⟨H', I', sm⟩ e => h1 ⟨i, by omega, e⟩ s' H' I' sm) (fun s' ⟨H', I', sm⟩ e => h2 (fun i hi => e i (by omega)) s' H' I' sm) ⟨H, I, Same.refl _⟩
theorem op_inS (hr : Room (n + 1) X.A) : OpR X (compareOp .In) (rInS X n false) := by
  intro pins s σ H x y v u Q I rx ry h
  obtain ⟨p, xs, bs, rfl, hq, he, h1, h2⟩ := h
  cases ry
  exact wpAny_bind (has_S hr I rx hq he (fun e s' H' I' sm => wpAny_pure ⟨.bl true, H', I', rfl, h1 e H' sm⟩) (fun e s' H' I' sm => wpAny_pure ⟨.bl false, H', I', rfl, h2 e H' sm⟩))
theorem op_notInS (hr : Room (n + 1) X.A) : OpR X (compareOp .NotIn) (rInS X n true) := by
  intro pins s σ H x y v u Q I rx ry h
  obtain ⟨p, xs, bs, rfl, hq, he, h1, h2⟩ := h
  cases ry
  exact wpAny_bind (has_S hr I rx hq he (fun e s' H' I' sm => wpAny_pure ⟨.bl false, H', I', rfl, h1 e H' sm⟩) (fun e s' H' I' sm => wpAny_pure ⟨.bl true, H', I', rfl, h2 e H' sm⟩))
/-- two tuples, item by item equal -/
def rTupS (X : Cx) (n : Nat) (b : Bool) : R2 := fun x y H Q => ∃ (p q : Addr) (xs ys : List V), x = .ref p ∧ y = .ref q ∧ SqT X.K H p xs ∧ SqT X.K H q ys ∧ xs.length = ys.length ∧ (∀ (i : Nat) (z w : V), xs[i]? = some z → ys[i]? = some w → EqS X n H z w true) ∧ ∀ H', Same H H' → Q (.bl b) H'
theorem tup_step {pins : List (Addr × Obj)} {σ : L2.St} {H : Hp} (hr : Room (n + 1) X.A) {xs ys : List V} {its its2 : List Value} (r : Vals xs its) (r2 : Vals ys its2) (hl : xs.length = ys.length)
    (he : ∀ (i : Nat) (z w : V), xs[i]? = some z → ys[i]? = some w → EqS X n H z w true) (i : Nat) (h1 : i < its.toArray.size) (h2 : i < its2.toArray.size) (s' : Shared) (q : ∃ H', Inv X pins σ H' s' ∧ Same H H') :
    wpAny (model X.prog X.w) X.A.in1 (eqBool its.toArray[i] its2.toArray[i]) (fun r s' => r = true ∧ ∃ H', Inv X pins σ H' s' ∧ Same H H') X.xe s' := by
  obtain ⟨H', I', sm⟩ := q
  have hi : i < xs.length := by rw [r.length]; simpa using h1
  have hi2 : i < ys.length := by rw [r2.length]; simpa using h2
  obtain ⟨u, hu, ru⟩ := r.get (List.getElem?_eq_getElem hi)
  obtain ⟨v, hv, rv⟩ := r2.get (List.getElem?_eq_getElem hi2)
  have k1 : i < its.length := by simpa using h1
  have k2 : i < its2.length := by simpa using h2
  have eu : its.toArray[i] = u := by
    rw [List.getElem?_eq_getElem k1] at hu
    simpa using hu
  have ev : its2.toArray[i] = v := by
    rw [List.getElem?_eq_getElem k2] at hv
    simpa using hv
  rw [eu, ev]
  refine wpAny_mono (he i _ _ (List.getElem?_eq_getElem hi) (List.getElem?_eq_getElem hi2) X.A.in1 pins s' σ H' u v (sub_in1 hr) sm I' ru rv) (fun r s2 q => ?_) fun _ _ e => e
  obtain ⟨e, H2, I2, sm2⟩ := q
  exact ⟨e, H2, I2, sm.trans sm2⟩
theorem op_neTupS (hr : Room (n + 1) X.A) : OpR X (compareOp .NotEq) (rTupS X n false) := by
  intro pins s σ H x y v u Q I rx ry h
  obtain ⟨p, q, xs, ys, rfl, rfl, hp, hq, hl, he, k⟩ := h
  cases rx
  cases ry
  obtain ⟨its, r, e, _⟩ := I.tuple hp
  obtain ⟨its2, r2, e2, _⟩ := I.tuple hq
  exact SkW.rc_tupN (by rw [List.size_toArray, List.size_toArray, ← r.length, ← r2.length, hl]) hr.units0 (fun _ s' => ∃ H', Inv X pins σ H' s' ∧ Same H H') e e2 (fun i h1 h2 s' q => tup_step hr r r2 hl he i h1 h2 s' q) (fun s' ⟨H', I', sm⟩ => ⟨.bl false, H', I', rfl, k H' sm⟩) ⟨H, I, Same.refl _⟩
theorem op_eqTupS (hr : Room (n + 1) X.A) : OpR X (compareOp .Eq) (rTupS X n true) := by
  intro pins s σ H x y v u Q I rx ry h
  obtain ⟨p, q, xs, ys, rfl, rfl, hp, hq, hl, he, k⟩ := h
  cases rx
  cases ry
  obtain ⟨its, r, e, _⟩ := I.tuple hp
  obtain ⟨its2, r2, e2, _⟩ := I.tuple hq
  exact GQ.rc_tupG (by rw [List.size_toArray, List.size_toArray, ← r.length, ← r2.length, hl]) hr.units0 (fun _ s' => ∃ H', Inv X pins σ H' s' ∧ Same H H') e e2 (fun i h1 h2 s' q => tup_step hr r r2 hl he i h1 h2 s' q) (fun s' ⟨H', I', sm⟩ => ⟨.bl true, H', I', rfl, k H' sm⟩) ⟨H, I, Same.refl _⟩
theorem call_repr_str : CallR X (.builtin "repr") (fun xs H Q => ∃ a, xs = [.str a] ∧ (reprText a).length ≤ sizeLine ∧ Q (.str (reprText a)) H) := by
  intro pins s σ H xs us Q I r h
  obtain ⟨a, rfl, hz, q⟩ := h
  obtain ⟨u, rfl, t, rfl⟩ := vals1 r
  exact PySem.P.repr_of_str ⟨.str _, H, I.tok _, ⟨_, rfl⟩, q⟩ hz
end
end Sk

set_option maxHeartbeats 4000000
/-! Operations in value form. -/
namespace Dv
open PySem PySem.Spec PyProof.Rows L2 Sk
section
variable {K : PySem.W.Frag} {W : WX}
theorem Is.ofI {F : Hp} {i : Int} {v : V} (h : Is K F (.int i) v) : v = .int i := by cases h; rfl
theorem Is.ofS {F : Hp} {i : Str} {v : V} (h : Is K F (.str i) v) : v = .str i := by cases h; rfl
theorem Is.ofB {F : Hp} {i : Bool} {v : V} (h : Is K F (.bl i) v) : v = .bl i := by cases h; rfl
/-! ### two places -/
abbrev Fn2 := D → D → (D → Prop) → Prop
structure Sim2 (K : PySem.W.Frag) (f : Fn2) (r : R2) : Prop where
  run : ∀ {F H : Hp} {x y : D} {v w : V}, Sees F H → Pk K F H x v → Pk K F H y w → ∀ (Q9 : D → Prop) (Q : VK), f x y Q9 → (∀ z u, Is K F z u → Q9 z → Q u H) → r v w H Q
/-- .. a new thing -/
structure Sim2N (K : PySem.W.Frag) (f : Fn2) (r : R2) : Prop where
  run : ∀ {F H : Hp} {x y : D} {v w : V}, Sees F H → Pk K F H x v → Pk K F H y w → ∀ (Q9 : D → Prop) (Q : VK), f x y Q9 → (∀ z p o, H p = none → Has K F (upd H p o) z p → Q9 z → Q (.ref p) (upd H p o)) → r v w H Q
def dOp2 (f : Fn2) (a b : Op9) : DE := fun X env Q => a.ev X env fun p e1 => b.ev X e1 fun q e2 => match look9 e2 p, look9 e2 q with
  | some x, some y => f x y fun z => Q z e2
  | _, _ => False
theorem sim_op2 {f : Fn2} {r : R2} {a b : Op9} {ta tb : TE} (s : Sim2 K f r) (ha : SimO K W a ta) (hb : SimO K W b tb) : SimE K W (dOp2 f a b) (tOp r ta tb) := by
  refine ⟨fun {G L env σ F H X9 Q9 Q} r h q x => ?_⟩
  refine ha.run r h (fun p e1 v F1 H1 r1 s1 p1 h1 => hb.run r1 h1 (fun p2 e2 w F2 H2 r2 s2 rp2 h2 => ?_) x) x
  split at h2
  · rename_i x y ex ey
    exact s.run r2.sees (r2.pk (p1.mono s2) ex) (r2.pk rp2 ey) _ _ h2 fun z u hz k => q z e2 u F2 H2 r2 (s1.trans s2) hz k
  · exact h2.elim
theorem sim_op2N {f : Fn2} {r : R2} {a b : Op9} {ta tb : TE} (s : Sim2N K f r) (ha : SimO K W a ta) (hb : SimO K W b tb) : SimF K W (dOp2 f a b) (tOp r ta tb) := by
  refine ⟨fun {G L env σ F H X9 Q9 Q} r h q x => ?_⟩
  refine ha.run r h (fun p e1 v F1 H1 r1 s1 p1 h1 => hb.run r1 h1 (fun p2 e2 w F2 H2 r2 s2 rp2 h2 => ?_) x) x
  split at h2
  · rename_i x y ex ey
    exact s.run r2.sees (r2.pk (p1.mono s2) ex) (r2.pk rp2 ey) _ _ h2 fun z p o hp hz k => q z e2 p F2 _ (r2.new hp o) (s1.trans s2) (r2.fresh hp hz) k
  · exact h2.elim
def fII (C : Int → Int → Prop) (g : Int → Int → D) : Fn2 := fun x y Q => match x, y with
  | .int i, .int j => C i j ∧ Q (g i j)
  | _, _ => False
def fI0 (g : Int → Int → D) : Fn2 := fun x y Q => match x, y with
  | .int i, .int j => Q (g i j)
  | _, _ => False
theorem s2_I0 {g9 : Int → Int → D} {g : Int → Int → V} (h : ∀ F i j, Is K F (g9 i j) (g i j)) : Sim2 K (fI0 g9) (rI0 g) := ⟨fun {F H x y v w} s hx hy Q9 Q f k => by
  unfold fI0 at f
  split at f
  · exact ⟨_, _, hx.int, hy.int, k _ _ (h F _ _) f⟩
  · exact f.elim⟩
theorem s2_I {C : Int → Int → Prop} {g9 : Int → Int → D} {g : Int → Int → V} (h : ∀ F i j, Is K F (g9 i j) (g i j)) : Sim2 K (fII C g9) (rI C g) := ⟨fun {F H x y v w} s hx hy Q9 Q f k => by
  unfold fII at f
  split at f
  · exact ⟨_, _, hx.int, hy.int, f.1, k _ _ (h F _ _) f.2⟩
  · exact f.elim⟩
theorem s2_add : Sim2 K (fI0 fun i j => .int (i + j)) (rI0 fun i j => .int (i + j)) := s2_I0 fun _ _ _ => .int
theorem s2_sub : Sim2 K (fI0 fun i j => .int (i - j)) (rI0 fun i j => .int (i - j)) := s2_I0 fun _ _ _ => .int
theorem s2_lt : Sim2 K (fI0 fun i j => .bl (decide (i < j))) (rI0 fun i j => .bl (decide (i < j))) := s2_I0 fun _ _ _ => .bl
theorem s2_le : Sim2 K (fI0 fun i j => .bl (decide (i ≤ j))) (rI0 fun i j => .bl (decide (i ≤ j))) := s2_I0 fun _ _ _ => .bl
theorem s2_gt : Sim2 K (fI0 fun i j => .bl (decide (j < i))) (rI0 fun i j => .bl (decide (j < i))) := s2_I0 fun _ _ _ => .bl
theorem s2_ge : Sim2 K (fI0 fun i j => .bl (decide (j ≤ i))) (rI0 fun i j => .bl (decide (j ≤ i))) := s2_I0 fun _ _ _ => .bl
theorem s2_mulW : Sim2 K (fII CMulW fun i j => .int (i * j)) (rI CMulW fun i j => .int (i * j)) := s2_I fun _ _ _ => .int
theorem s2_mod : Sim2 K (fII (fun _ j => 0 < j) fun i j => .int (i % j)) (rI (fun _ j => 0 < j) fun i j => .int (i % j)) := s2_I fun _ _ _ => .int
theorem s2_fdivW : Sim2 K (fII CDivW fun i j => .int (i / j)) (rI CDivW fun i j => .int (i / j)) := s2_I fun _ _ _ => .int
theorem s2_pow : Sim2 K (fII CPow fun i j => .int (i ^ j.toNat)) (rI CPow fun i j => .int (i ^ j.toNat)) := s2_I fun _ _ _ => .int
/-- == of plain things -/
def eq9 : D → D → Option Bool
  | .int i, .int j => some (decide (i = j))
  | .str i, .str j => some (decide (i = j))
  | .bl i, .bl j => some (decide (i = j))
  | .non, .non => some true
  | .non, .int _ => some false | .int _, .non => some false | .non, .str _ => some false | .str _, .non => some false
  | .non, .bl _ => some false | .bl _, .non => some false | .int _, .str _ => some false | .str _, .int _ => some false
  | _, _ => none
theorem eq9_ok {F H : Hp} {x y : D} {v w : V} {b : Bool} (hx : Pk K F H x v) (hy : Pk K F H y w) (e : eq9 x y = some b) : scal v w = true ∧ decide (v = w) = b := by
  unfold eq9 at e
  split at e <;> cases e
  · rw [hx.int, hy.int]; exact ⟨rfl, by simp⟩
  · rw [hx.str, hy.str]; exact ⟨rfl, by simp⟩
  · rw [hx.bl, hy.bl]; exact ⟨rfl, by simp⟩
  · rw [hx.non, hy.non]; exact ⟨rfl, rfl⟩
  · rw [hx.non, hy.int]; exact ⟨rfl, rfl⟩
  · rw [hx.int, hy.non]; exact ⟨rfl, rfl⟩
  · rw [hx.non, hy.str]; exact ⟨rfl, rfl⟩
  · rw [hx.str, hy.non]; exact ⟨rfl, rfl⟩
  · rw [hx.non, hy.bl]; exact ⟨rfl, rfl⟩
  · rw [hx.bl, hy.non]; exact ⟨rfl, rfl⟩
  · rw [hx.int, hy.str]; exact ⟨rfl, rfl⟩
  · rw [hx.str, hy.int]; exact ⟨rfl, rfl⟩
def fEq : Fn2 := fun x y Q => match eq9 x y with
  | some b => Q (.bl b)
  | none => False
def fNe : Fn2 := fun x y Q => match eq9 x y with
  | some b => Q (.bl (!b))
  | none => False
theorem s2_eq : Sim2 K fEq rEq := ⟨fun {F H x y v w} s hx hy Q9 Q f k => by
  unfold fEq at f
  split at f
  · rename_i b e
    obtain ⟨h1, h2⟩ := eq9_ok hx hy e
    exact ⟨h1, by rw [h2]; exact k _ _ .bl f⟩
  · exact f.elim⟩
theorem s2_ne : Sim2 K fNe rNe := ⟨fun {F H x y v w} s hx hy Q9 Q f k => by
  unfold fNe at f
  split at f
  · rename_i b e
    obtain ⟨h1, h2⟩ := eq9_ok hx hy e
    exact ⟨h1, by rw [h2]; exact k _ _ .bl f⟩
  · exact f.elim⟩
/-- x is None -/
def isNon : D → Bool
  | .non => true
  | _ => false
theorem isNon_ok {F H : Hp} {x : D} {v : V} (hx : Pk K F H x v) : decide (v = .non) = isNon x := by
  cases x with
  | non => rw [hx.non]; rfl
  | _ =>
    refine decide_eq_false fun z => ?_
    subst z
    rcases hx with hx | ⟨_, z, _⟩
    · cases hx
    · cases z
def fIsN : Fn2 := fun x y Q => match y with
  | .non => Q (.bl (isNon x))
  | _ => False
def fNotN : Fn2 := fun x y Q => match y with
  | .non => Q (.bl (!isNon x))
  | _ => False
theorem s2_isN : Sim2 K fIsN (fun x y H Q => y = .non ∧ Q (.bl (decide (x = .non))) H) := ⟨fun {F H x y v w} s hx hy Q9 Q f k => by
  unfold fIsN at f
  split at f
  · exact ⟨hy.non, by rw [isNon_ok hx]; exact k _ _ .bl f⟩
  · exact f.elim⟩
theorem s2_notN : Sim2 K fNotN (fun x y H Q => y = .non ∧ Q (.bl (!decide (x = .non))) H) := ⟨fun {F H x y v w} s hx hy Q9 Q f k => by
  unfold fNotN at f
  split at f
  · exact ⟨hy.non, by rw [isNon_ok hx]; exact k _ _ .bl f⟩
  · exact f.elim⟩
/-- texts -/
def fCatS : Fn2 := fun x y Q => match x, y with
  | .str i, .str j => i.length + j.length ≤ 16777216 ∧ Q (.str (i ++ j))
  | _, _ => False
theorem s2_catS : Sim2 K fCatS (fun x y H Q => ∃ i j, x = .str i ∧ y = .str j ∧ i.length + j.length ≤ sizeLine ∧ Q (.str (i ++ j)) H) := ⟨fun {F H x y v w} s hx hy Q9 Q f k => by
  unfold fCatS at f
  split at f
  · exact ⟨_, _, hx.str, hy.str, by rw [sizeLine_eq]; exact f.1, k _ _ .str f.2⟩
  · exact f.elim⟩
def fMulS : Fn2 := fun x y Q => match x, y with
  | .str z, .int n => (0 ≤ n ∧ n ≤ 1000 ∧ z.length ≤ 16000) ∧ Q (.str (Txt.mul z n))
  | _, _ => False
theorem s2_mulS : Sim2 K fMulS (fun x y H Q => ∃ z n, x = .str z ∧ y = .int n ∧ 0 ≤ n ∧ n ≤ 1000 ∧ z.length ≤ 16000 ∧ Q (.str (Txt.mul z n)) H) := ⟨fun {F H x y v w} s hx hy Q9 Q f k => by
  unfold fMulS at f
  split at f
  · exact ⟨_, _, hx.str, hy.int, f.1.1, f.1.2.1, f.1.2.2, k _ _ .str f.2⟩
  · exact f.elim⟩
def oneOf (x : Str) : Option Nat := match x.cps with
  | ⟨[c]⟩ => some c
  | _ => none
theorem oneOf_ok {x : Str} {c : Nat} (h : oneOf x = some c) : x = ⟨#[c]⟩ := by
  obtain ⟨⟨l⟩⟩ := x
  unfold oneOf at h
  dsimp only at h
  split at h
  · rename_i c' e
    cases h
    cases e
    rfl
  · cases h
def fInSign (neg : Bool) : Fn2 := fun x y Q => match x, y with
  | .str x, .str z => match oneOf x with
    | some c => Q (.bl (if neg then !decide (c ∈ z.cps.toList) else decide (c ∈ z.cps.toList)))
    | none => False
  | _, _ => False
theorem s2_inSign : Sim2 K (fInSign false) (fun x y H Q => ∃ (c : Nat) (z : Str), x = .str ⟨#[c]⟩ ∧ y = .str z ∧ Q (.bl (decide (c ∈ z.cps.toList))) H) := ⟨fun {F H x y v w} s hx hy Q9 Q f k => by
  unfold fInSign at f
  split at f
  · split at f
    · rename_i e
      exact ⟨_, _, by rw [hx.str, oneOf_ok e], hy.str, k _ _ .bl f⟩
    · exact f.elim
  · exact f.elim⟩
theorem s2_notInSign : Sim2 K (fInSign true) (fun x y H Q => ∃ (c : Nat) (z : Str), x = .str ⟨#[c]⟩ ∧ y = .str z ∧ Q (.bl (!decide (c ∈ z.cps.toList))) H) := ⟨fun {F H x y v w} s hx hy Q9 Q f k => by
  unfold fInSign at f
  split at f
  · split at f
    · rename_i e
      exact ⟨_, _, by rw [hx.str, oneOf_ok e], hy.str, k _ _ .bl f⟩
    · exact f.elim
  · exact f.elim⟩
/-- x[i] -/
def fIxL : Fn2 := fun x y Q => match x, y with
  | .lst xs, .int i => some9 (atI xs i) Q
  | .scr ns, .int i => some9 (atI ns i) fun v => Q (.int v)
  | _, _ => False
theorem IsL.at {F : Hp} {xs : List D} {vs : List V} {i : Int} {x : D} (h : IsL K F xs vs) (e : atI xs i = some x) : ∃ u, atI vs i = some u ∧ Is K F x u := by
  unfold atI at e ⊢
  rw [← h.length]
  cases q : ixN xs.length i with
  | none => rw [q] at e; cases e
  | some j =>
    rw [q] at e
    exact h.get e
theorem s2_ixL : Sim2 K fIxL (rIxL K) := ⟨fun {F H x y v w} s hx hy Q9 Q f k => by
  unfold fIxL at f
  split at f
  · obtain ⟨v0, e, f⟩ := some9_ex f
    obtain ⟨a, vs, rfl, ha, r⟩ := hx.lst s
    obtain ⟨u, h1, h2⟩ := r.at e
    exact ⟨a, vs, _, u, rfl, hy.int, SqL.of ha, h1, k _ _ h2 f⟩
  · rename_i ns i
    obtain ⟨v0, e, f⟩ := some9_ex f
    obtain ⟨a, rfl, ha⟩ := hx.scr s
    refine ⟨a, _, _, _, rfl, hy.int, ha, ?_, k _ _ .int f⟩
    unfold atI at e ⊢
    rw [List.length_map]
    cases q : ixN ns.length i with
    | none => rw [q] at e; cases e
    | some j =>
      rw [q] at e
      have e : ns[j]? = some _ := e
      show (ns.map V.int)[j]? = _
      rw [List.getElem?_map, e]
      rfl
  · exact f.elim⟩
def fIxT : Fn2 := fun x y Q => match x, y with
  | .tup xs, .int i => some9 (atI xs i) Q
  | _, _ => False
theorem s2_ixT : Sim2 K fIxT (rIxT K) := ⟨fun {F H x y v w} s hx hy Q9 Q f k => by
  unfold fIxT at f
  split at f
  · obtain ⟨v0, e, f⟩ := some9_ex f
    obtain ⟨a, vs, rfl, ha, r⟩ := hx.tup s
    obtain ⟨u, h1, h2⟩ := r.at e
    exact ⟨a, vs, _, u, rfl, hy.int, ha, h1, k _ _ h2 f⟩
  · exact f.elim⟩
def fIxS : Fn2 := fun x y Q => match x, y with
  | .str z, .int i => some9 (atI z.cps.toList i) fun c => z.length ≤ 16777216 ∧ Q (.str ⟨#[c]⟩)
  | _, _ => False
theorem s2_ixS : Sim2 K fIxS rIxS := ⟨fun {F H x y v w} s hx hy Q9 Q f k => by
  unfold fIxS at f
  split at f
  · obtain ⟨v0, e, f⟩ := some9_ex f
    exact ⟨_, _, _, hx.str, hy.int, by rw [sizeLine_eq]; exact f.1, e, k _ _ .str f.2⟩
  · exact f.elim⟩
/-- lists put together, list * int -/
def fCatL : Fn2 := fun x y Q => match x, y with
  | .lst xs, .lst ys => xs.length + ys.length ≤ 16777216 ∧ Q (.lst (xs ++ ys))
  | _, _ => False
theorem s2_catL : Sim2N K fCatL rCat := ⟨fun {F H x y v w} s hx hy Q9 Q f k => by
  unfold fCatL at f
  split at f
  · obtain ⟨a, vs, rfl, ha, ra⟩ := hx.lst s
    obtain ⟨b, ws, rfl, hb, rb⟩ := hy.lst s
    exact ⟨a, b, vs, ws, rfl, rfl, ha, hb, by rw [sizeLine_eq, ← ra.length, ← rb.length]; exact f.1, fun p hp => k _ p _ hp (Has.mkL upd_same (ra.append rb)) f.2⟩
  · exact f.elim⟩
/-- x in a list or tuple of flat things -/
def flat9 : D → Bool
  | .non => true | .bl _ => true | .int _ => true | .str _ => true
  | _ => false
def eqF : D → D → Bool
  | .non, .non => true
  | .bl a, .bl b => a == b
  | .int a, .int b => a == b
  | .str a, .str b => a == b
  | .bl a, .int b => (if a then 1 else 0) == b
  | .int b, .bl a => (if a then 1 else 0) == b
  | _, _ => false
def items9 : D → Option (List D)
  | .lst xs => some xs
  | .tup xs => some xs
  | _ => none
end
end Dv

set_option maxHeartbeats 4000000
/-! Tests, arguments, statements, loops, comprehensions in value form. -/
namespace Dv
open PySem PySem.Spec PyProof.Rows L2 Sk
section
variable {K : PySem.W.Frag} {W : WX}
/-! ### tests -/
def dTest (d : DE) : DT := fun X env Q => d X env fun x e => match x with
  | .bl b => Q b e
  | _ => False
theorem sim_test {d : DE} {t : TE} (s : SimE K W d t) : SimT K W (dTest d) (tTest t) := ⟨fun {G L env σ F H X9 Q9 Q} r h q x => s.run r h (fun y e v F1 H1 r1 s1 i1 h1 => by
  split at h1
  · exact ⟨_, i1.ofB, q _ e F1 H1 r1 s1 h1⟩
  · exact h1.elim) x⟩
theorem sim_B {d : DE} {t : TE} (s : SimE K W d t) : SimT K W (dTest d) (tB t) := ⟨(sim_test s).run⟩
def dAnd (a b : DT) : DT := fun X env Q => a X env fun c e => ifB c (b X e Q) (Q false e)
def dOr (a b : DT) : DT := fun X env Q => a X env fun c e => ifB c (Q true e) (b X e Q)
def dNot (a : DT) : DT := fun X env Q => a X env fun c e => Q (!c) e
theorem sim_and {a b : DT} {t u : TT} (sa : SimT K W a t) (sb : SimT K W b u) : SimT K W (dAnd a b) (tAnd t u) := ⟨fun {G L env σ F H X9 Q9 Q} r h q x => sa.run r h (fun c e F1 H1 r1 s1 h1 => by
  cases c with
  | true => exact iteT (sb.run r1 h1 (fun y e2 F2 H2 r2 s2 h2 => q y e2 F2 H2 r2 (s1.trans s2) h2) x)
  | false => exact iteF (q false e F1 H1 r1 s1 h1)) x⟩
theorem sim_or {a b : DT} {t u : TT} (sa : SimT K W a t) (sb : SimT K W b u) : SimT K W (dOr a b) (tOr t u) := ⟨fun {G L env σ F H X9 Q9 Q} r h q x => sa.run r h (fun c e F1 H1 r1 s1 h1 => by
  cases c with
  | true => exact iteT (q true e F1 H1 r1 s1 h1)
  | false => exact iteF (sb.run r1 h1 (fun y e2 F2 H2 r2 s2 h2 => q y e2 F2 H2 r2 (s1.trans s2) h2) x)) x⟩
theorem sim_not {a : DT} {t : TT} (sa : SimT K W a t) : SimT K W (dNot a) (tNot t) := ⟨fun {G L env σ F H X9 Q9 Q} r h q x => sa.run r h (fun c e F1 H1 r1 s1 h1 => q (!c) e F1 H1 r1 s1 h1) x⟩
def dYes : DT := fun _ env Q => Q true env
theorem sim_yes : SimT K W dYes tYes := ⟨fun {G L env σ F H X9 Q9 Q} r h q x => q true env F H r (Same.refl F) h⟩
/-! .. as values -/
def dAndV (a b : DE) : DE := fun X env Q => a X env fun c e => match c with
  | .bl k => ifB k (b X e Q) (Q (.bl false) e)
  | _ => False
def dOrV (a b : DE) : DE := fun X env Q => a X env fun c e => match c with
  | .bl k => ifB k (Q (.bl true) e) (b X e Q)
  | _ => False
def dNotV (a : DE) : DE := fun X env Q => a X env fun c e => match c with
  | .bl b => Q (.bl (!b)) e
  | _ => False
theorem sim_andV {a b : DE} {t u : TE} (sa : SimE K W a t) (sb : SimE K W b u) : SimE K W (dAndV a b) (tAndV t u) := ⟨fun {G L env σ F H X9 Q9 Q} r h q x => sa.run r h (fun c e v F1 H1 r1 s1 i1 h1 => by
  split at h1
  · rename_i k
    cases k with
    | true => exact ⟨true, i1.ofB, iteT (sb.run r1 h1 (fun y e2 v F2 H2 r2 s2 i2 h2 => q y e2 v F2 H2 r2 (s1.trans s2) i2 h2) x)⟩
    | false => exact ⟨false, i1.ofB, iteF (q _ e _ F1 H1 r1 s1 .bl h1)⟩
  · exact h1.elim) x⟩
theorem sim_orV {a b : DE} {t u : TE} (sa : SimE K W a t) (sb : SimE K W b u) : SimE K W (dOrV a b) (tOrV t u) := ⟨fun {G L env σ F H X9 Q9 Q} r h q x => sa.run r h (fun c e v F1 H1 r1 s1 i1 h1 => by
  split at h1
  · rename_i k
    cases k with
    | true => exact ⟨true, i1.ofB, iteT (q _ e _ F1 H1 r1 s1 .bl h1)⟩
    | false => exact ⟨false, i1.ofB, iteF (sb.run r1 h1 (fun y e2 v F2 H2 r2 s2 i2 h2 => q y e2 v F2 H2 r2 (s1.trans s2) i2 h2) x)⟩
  · exact h1.elim) x⟩
theorem sim_notV {a : DE} {t : TE} (sa : SimE K W a t) : SimE K W (dNotV a) (tNotV t) := ⟨fun {G L env σ F H X9 Q9 Q} r h q x => sa.run r h (fun c e v F1 H1 r1 s1 i1 h1 => by
  split at h1
  · exact ⟨_, i1.ofB, q _ e _ F1 H1 r1 s1 .bl h1⟩
  · exact h1.elim) x⟩
/-! if -/
def dIf (c : DT) (a b : DE) : DE := fun X env Q => c X env fun k e => ifB k (a X e Q) (b X e Q)
theorem sim_if {c : DT} {a b : DE} {tc : TT} {t u : TE} (sc : SimT K W c tc) (sa : SimE K W a t) (sb : SimE K W b u) : SimE K W (dIf c a b) (tIf tc t u) := ⟨fun {G L env σ F H X9 Q9 Q} r h q x => sc.run r h (fun c e F1 H1 r1 s1 h1 => by
  cases c with
  | true => exact iteT (sa.run r1 h1 (fun y e2 v F2 H2 r2 s2 i2 h2 => q y e2 v F2 H2 r2 (s1.trans s2) i2 h2) x)
  | false => exact iteF (sb.run r1 h1 (fun y e2 v F2 H2 r2 s2 i2 h2 => q y e2 v F2 H2 r2 (s1.trans s2) i2 h2) x)) x⟩
theorem sim_ifF {c : DT} {a b : DE} {tc : TT} {t u : TE} (sc : SimT K W c tc) (sa : SimF K W a t) (sb : SimF K W b u) : SimF K W (dIf c a b) (tIf tc t u) := ⟨fun {G L env σ F H X9 Q9 Q} r h q x => sc.run r h (fun c e F1 H1 r1 s1 h1 => by
  cases c with
  | true => exact iteT (sa.run r1 h1 (fun y e2 v F2 H2 r2 s2 i2 h2 => q y e2 v F2 H2 r2 (s1.trans s2) i2 h2) x)
  | false => exact iteF (sb.run r1 h1 (fun y e2 v F2 H2 r2 s2 i2 h2 => q y e2 v F2 H2 r2 (s1.trans s2) i2 h2) x)) x⟩
/-! a < b < c -/
def dChain (f g : Fn2) (a b c : Op9) : DE := fun X env Q => a.ev X env fun p e1 => b.ev X e1 fun q e2 => match look9 e2 p, look9 e2 q with
  | some x, some y => f x y fun z => match z with
    | .bl k => ifB k (c.ev X e2 fun s e3 => match look9 e3 q, look9 e3 s with
      | some y', some w => g y' w fun z => Q z e3
      | _, _ => False) (Q (.bl false) e2)
    | _ => False
  | _, _ => False
theorem sim_chain {f g : Fn2} {r r' : R2} {a b c : Op9} {ta tb tc : TE} (s : Sim2 K f r) (s' : Sim2 K g r') (ha : SimO K W a ta) (hb : SimO K W b tb) (hc : SimO K W c tc) : SimE K W (dChain f g a b c) (tChain r r' ta tb tc) := by
  refine ⟨fun {G L env σ F H X9 Q9 Q} r h q x => ?_⟩
  refine ha.run r h (fun p e1 v F1 H1 r1 s1 p1 h1 => hb.run r1 h1 (fun p2 e2 w F2 H2 r2 s2 rp2 h2 => ?_) x) x
  split at h2
  · rename_i x0 y0 ex ey
    refine s.run r2.sees (r2.pk (p1.mono s2) ex) (r2.pk rp2 ey) _ _ h2 fun z u hz k => ?_
    split at k
    · rename_i kb
      cases kb with
      | true =>
        refine ⟨true, hz.ofB, iteT (hc.run r2 k (fun p3 e3 w3 F3 H3 r3 s3 rp3 h3 => ?_) x)⟩
        split at h3
        · rename_i y1 w1 ey1 ew1
          exact s'.run r3.sees (r3.pk (rp2.mono s3) ey1) (r3.pk rp3 ew1) _ _ h3 fun z u hz k => q z e3 u F3 H3 r3 ((s1.trans s2).trans s3) hz k
        · exact h3.elim
      | false => exact ⟨false, hz.ofB, iteF (q _ e2 _ F2 H2 r2 (s1.trans s2) .bl k)⟩
    · exact k.elim
  · exact h2.elim
/-! ### lists of expressions; of operands -/
abbrev DA := XK9 → Sls → (List D → Sls → Prop) → Prop
structure SimA (K : PySem.W.Frag) (W : WX) (d : DA) (t : TA) : Prop where
  run : ∀ {G : Gh} {L : List (Addr × Obj)} {env : Sls} {σ : L2.St} {F H : Hp} {X9 : XK9} {Q9 : List D → Sls → Prop} {Q : List V → Hp → Prop}, R K G L env σ F H → d X9 env Q9 →
    (∀ x env' v F' H', R K G L env' σ F' H' → Same F F' → IsL K F' x v → Q9 x env' → Q v H') →
    (∀ e env' c dd F' H', R K G L env' σ F' H' → XR K F' H' e c dd → X9 e env' → W c dd σ H') → t σ H Q
def dNil : DA := fun _ env Q => Q [] env
def dCons (a : DE) (b : DA) : DA := fun X env Q => a X env fun x e => b X e fun xs e' => Q (x :: xs) e'
theorem sim_nil : SimA K W dNil tNil := ⟨fun {G L env σ F H X9 Q9 Q} r h q x => q [] env [] F H r (Same.refl F) .nil h⟩
theorem sim_cons {a : DE} {b : DA} {ta : TE} {tb : TA} (sa : SimE K W a ta) (sb : SimA K W b tb) : SimA K W (dCons a b) (tCons ta tb) := ⟨fun {G L env σ F H X9 Q9 Q} r h q x => sa.run r h (fun y e v F1 H1 r1 s1 i1 h1 =>
  sb.run r1 h1 (fun ys e2 vs F2 H2 r2 s2 i2 h2 => q (y :: ys) e2 (v :: vs) F2 H2 r2 (s1.trans s2) (.cons (i1.mono s2) i2) h2) x) x⟩
def dLst (a : DA) : DE := fun X env Q => a X env fun xs e => xs.length ≤ 16777216 ∧ Q (.lst xs) e
def dTup (a : DA) : DE := fun X env Q => a X env fun xs e => xs.length ≤ 16777216 ∧ Q (.tup xs) e
theorem sim_lst {a : DA} {t : TA} (s : SimA K W a t) : SimF K W (dLst a) (tLst t) := ⟨fun {G L env σ F H X9 Q9 Q} r h q x => s.run r h (fun y e v F1 H1 r1 s1 i1 h1 =>
  ⟨by rw [sizeLine_eq, ← i1.length]; exact h1.1, fun p hp => q _ e p F1 _ (r1.new hp _) s1 (r1.fresh hp (Has.mkL upd_same i1)) h1.2⟩) x⟩
theorem R.newK {G : Gh} {L : List (Addr × Obj)} {env : Sls} {σ : L2.St} {F H : Hp} {p : Addr} (r : R K G L env σ F H) (h : H p = none) (o : HO) : R K G L env σ (upd F p o) (upd H p o) := by
  have sm : Same F (upd F p o) := same_upd (r.free h)
  have r1 := r.new h o
  have ne : ∀ {b : Addr} {u : HO}, H b = some u → b ≠ p := fun e => ne_of_none e h
  refine ⟨r.len, fun i d e => ?_, fun i m d e => ?_, r.sep, fun b u e => ?_, r1.pres, fun b hb => ⟨(r1.mm b hb).1, ?_, (r.mm b hb).2.2⟩, fun b hb => ?_, r.base.trans sm, fun q hq => ?_, r.lk0, fun q hq => ?_⟩
  · obtain ⟨v, h1, h2⟩ := r.im i d e
    exact ⟨v, h1, h2.mono sm⟩
  · obtain ⟨b, h1, h2, h3, h4⟩ := r1.ow i m d e
    have n : b ≠ p := by
      obtain ⟨b', h1', _, _, h4'⟩ := r.ow i m d e
      rw [h1] at h1'
      cases h1'
      obtain ⟨u, hu⟩ := h4'.ex
      exact ne hu
    exact ⟨b, h1, by rw [upd_ne n]; exact h2, h3, h4.mono sm fun _ q => q⟩
  · by_cases n : b = p
    · subst n
      rw [upd_same] at e
      cases e
      exact .inl upd_same
    · rw [upd_ne n] at e
      exact r1.see b u e
  · have n : b ≠ p := fun z => (r.mm b hb).1 (by rw [z]; exact h)
    rw [upd_ne n]
    exact (r.mm b hb).2.1
  · by_cases n : b = p
    · subst n
      exact .inr (r.free0 h)
    · rw [upd_ne n] at hb
      exact r.grow b hb
  · obtain ⟨ws, e1, e2⟩ := r1.lk q hq
    exact ⟨ws, sm _ _ e1, e2⟩
  · obtain ⟨e1, e2, e3⟩ := r1.ext q hq
    have n : q.1 ≠ p := ne (r.ext q hq).1
    exact ⟨e1, by rw [upd_ne n]; exact e2, e3⟩
theorem sim_tup {a : DA} {t : TA} (s : SimA K W a t) : SimE K W (dTup a) (tTup t) := ⟨fun {G L env σ F H X9 Q9 Q} r h q x => s.run r h (fun y e v F1 H1 r1 s1 i1 h1 =>
  ⟨by rw [sizeLine_eq, ← i1.length]; exact h1.1, fun p hp => q _ e _ _ _ (r1.newK hp _) (s1.trans (same_upd (r1.free hp))) (.tup (SqT.of upd_same) (i1.mono (same_upd (r1.free hp)))) h1.2⟩) x⟩
def evs : List Op9 → XK9 → Sls → (List P9 → Sls → Prop) → Prop
  | [], _, env, k => k [] env
  | o :: os, X, env, k => o.ev X env fun p e => evs os X e fun ps e' => k (p :: ps) e'
inductive SimOs (K : PySem.W.Frag) (W : WX) : List Op9 → TA → Prop
  | nil : SimOs K W [] tNil
  | cons {o : Op9} {os : List Op9} {t : TE} {ts : TA} : SimO K W o t → SimOs K W os ts → SimOs K W (o :: os) (tCons t ts)
def looks : Sls → List P9 → Option (List D)
  | _, [] => some []
  | env, p :: ps => match look9 env p, looks env ps with
    | some x, some xs => some (x :: xs)
    | _, _ => none
inductive PkL (K : PySem.W.Frag) (F H : Hp) : List D → List V → Prop
  | nil : PkL K F H [] []
  | cons {x : D} {v : V} {xs : List D} {vs : List V} : Pk K F H x v → PkL K F H xs vs → PkL K F H (x :: xs) (v :: vs)
inductive RelPs (K : PySem.W.Frag) (σ : L2.St) (F : Hp) : List P9 → List V → Prop
  | nil : RelPs K σ F [] []
  | cons {p : P9} {v : V} {ps : List P9} {vs : List V} : RelP K σ F p v → RelPs K σ F ps vs → RelPs K σ F (p :: ps) (v :: vs)
theorem SimOs.run {G : Gh} {L : List (Addr × Obj)} {σ : L2.St} {X9 : XK9} {os : List Op9} {t : TA} (s : SimOs K W os t) (x : ∀ e env' c dd F' H', R K G L env' σ F' H' → XR K F' H' e c dd → X9 e env' → W c dd σ H') :
    ∀ {env : Sls} {F H : Hp} {k : List P9 → Sls → Prop} {Q : List V → Hp → Prop}, R K G L env σ F H → evs os X9 env k →
    (∀ p env' v F' H', R K G L env' σ F' H' → Same F F' → RelPs K σ F' p v → k p env' → Q v H') → t σ H Q := by
  induction s with
  | nil => exact fun {env F H k Q} r h q => q [] env [] F H r (Same.refl F) .nil h
  | cons ho _ ih => exact fun {env F H k Q} r h q => ho.run r h (fun p e1 v F1 H1 r1 s1 p1 h1 => ih r1 h1 fun ps e2 vs F2 H2 r2 s2 p2 h2 => q (p :: ps) e2 (v :: vs) F2 H2 r2 (s1.trans s2) (.cons (p1.mono s2) p2) h2) x
theorem R.pks {G : Gh} {L : List (Addr × Obj)} {env : Sls} {σ : L2.St} {F H : Hp} (r : R K G L env σ F H) : ∀ {ps : List P9} {vs : List V} {xs : List D}, RelPs K σ F ps vs → looks env ps = some xs → PkL K F H xs vs
  | _, _, _, .nil, e => by cases e; exact .nil
  | _, _, _, .cons h t, e => by
    unfold looks at e
    split at e
    · rename_i e1 e2
      cases e
      exact .cons (r.pk h e1) (r.pks t e2)
    · cases e
abbrev FnC := List D → (D → Prop) → Prop
structure SimC (K : PySem.W.Frag) (f : FnC) (r : List V → Hp → VK → Prop) : Prop where
  run : ∀ {F H : Hp} {xs : List D} {vs : List V}, Sees F H → PkL K F H xs vs → ∀ (Q9 : D → Prop) (Q : VK), f xs Q9 → (∀ z u, Is K F z u → Q9 z → Q u H) → r vs H Q
structure SimCN (K : PySem.W.Frag) (f : FnC) (r : List V → Hp → VK → Prop) : Prop where
  run : ∀ {F H : Hp} {xs : List D} {vs : List V}, Sees F H → PkL K F H xs vs → ∀ (Q9 : D → Prop) (Q : VK), f xs Q9 → (∀ z p o, H p = none → Has K F (upd H p o) z p → Q9 z → Q (.ref p) (upd H p o)) → r vs H Q
def dCB (f : FnC) (os : List Op9) : DE := fun X env Q => evs os X env fun ps e => match looks e ps with
  | some xs => f xs fun z => Q z e
  | none => False
theorem sim_cb {f : FnC} {r : List V → Hp → VK → Prop} {os : List Op9} {t : TA} (s : SimC K f r) (so : SimOs K W os t) : SimE K W (dCB f os) (tCB r t) := ⟨fun {G L env σ F H X9 Q9 Q} r h q x => so.run x r h fun ps e vs F1 H1 r1 s1 p1 h1 => by
  split at h1
  · rename_i xs ex
    exact s.run r1.sees (r1.pks p1 ex) _ _ h1 fun z u hz k => q z e u F1 H1 r1 s1 hz k
  · exact h1.elim⟩
theorem sim_cbN {f : FnC} {r : List V → Hp → VK → Prop} {os : List Op9} {t : TA} (s : SimCN K f r) (so : SimOs K W os t) : SimF K W (dCB f os) (tCB r t) := ⟨fun {G L env σ F H X9 Q9 Q} r h q x => so.run x r h fun ps e vs F1 H1 r1 s1 p1 h1 => by
  split at h1
  · rename_i xs ex
    exact s.run r1.sees (r1.pks p1 ex) _ _ h1 fun z p o hp hz k => q z e p F1 _ (r1.new hp o) s1 (r1.fresh hp hz) k
  · exact h1.elim⟩
/-! ### fields -/
def dFld (f : Str) (o : Op9) : DE := fun X env Q => o.ev X env fun p e => match look9 e p with
  | some (.obj _ fs) => match fs.lookup f with
    | some v => Q v e
    | none => False
  | _ => False
theorem IsF.lookup {F : Hp} {f : Str} : ∀ {fs : List (Str × D)} {ws : List (Str × V)} {x : D}, IsF K F fs ws → fs.lookup f = some x → ∃ u, ws.lookup f = some u ∧ Is K F x u
  | _, _, _, .nil, e => by cases e
  | _, _, _, .cons (k := k) h t, e => by
    by_cases n : f = k
    · subst n
      simp [List.lookup] at e
      subst e
      exact ⟨_, by simp [List.lookup], h⟩
    · have z : (f == k) = false := by simpa using n
      simp [List.lookup, z] at e
      obtain ⟨u, h1, h2⟩ := IsF.lookup t e
      exact ⟨u, by simp [List.lookup, z, h1], h2⟩
/-- C: the object's class, whose facts are at hand -/
def dFldC (c f : Str) (o : Op9) : DE := fun X env Q => o.ev X env fun p e => match look9 e p with
  | some (.obj c' fs) => match fs.lookup f with
    | some v => c' = c ∧ Q v e
    | none => False
  | _ => False
theorem sim_fld {c f : Str} {o : Op9} {t : TE} (cl : Cls K (He.ga K c)) (na : NoAttr K (He.ga K c) f) (so : SimO K W o t) : SimE K W (dFldC c f o) (tFld K t f) := ⟨fun {G L env σ F H X9 Q9 Q} r h q x => so.run r h (fun p e v F1 H1 r1 s1 p1 h1 => by
  split at h1
  · rename_i c' fs ex
    split at h1
    · rename_i y ey
      obtain ⟨e0, h1⟩ := h1
      subst e0
      obtain ⟨a, dx, ws, rfl, ha, hw⟩ := (r1.pk p1 ex).obj r1.sees
      obtain ⟨u, hu, hi⟩ := hw.lookup ey
      exact ⟨a, _, dx, ws, u, rfl, ha, cl, na, hu, q y e u F1 H1 r1 s1 hi h1⟩
    · exact h1.elim
  · exact h1.elim) x⟩
/-! ### statements -/
structure E9 where
  nx : Sls → Prop
  rt : D → Sls → Prop
  bk : Sls → Prop
  ct : Sls → Prop
abbrev DS := XK9 → E9 → Sls → Prop
structure Ends9 (K : PySem.W.Frag) (G : Gh) (L : List (Addr × Obj)) (fr : Bool) (Fb : Hp) (E : E9) (D : Ends) : Prop where
  nx : ∀ env σ F H, R K G L env σ F H → Same Fb F → E.nx env → D.nx σ H
  rt : ∀ x env σ F H v, R K G L env σ F H → Same Fb F → (if fr = true then ∃ a, v = .ref a ∧ Fresh K G env σ F H x a else Is K F x v) → E.rt x env → D.rt v H
  bk : ∀ env σ F H, R K G L env σ F H → Same Fb F → E.bk env → D.bk σ H
  ct : ∀ env σ F H, R K G L env σ F H → Same Fb F → E.ct env → D.ct σ H
theorem Ends9.mono {G : Gh} {L : List (Addr × Obj)} {fr : Bool} {F F' : Hp} {E : E9} {D : Ends} (q : Ends9 K G L fr F E D) (s : Same F F') : Ends9 K G L fr F' E D :=
  ⟨fun e σ F2 H r s2 => q.nx e σ F2 H r (s.trans s2), fun y e σ F2 H v r s2 => q.rt y e σ F2 H v r (s.trans s2), fun e σ F2 H r s2 => q.bk e σ F2 H r (s.trans s2), fun e σ F2 H r s2 => q.ct e σ F2 H r (s.trans s2)⟩
structure SimS (K : PySem.W.Frag) (W : WX) (fr : Bool) (d : DS) (t : TS) : Prop where
  run : ∀ {G : Gh} {L : List (Addr × Obj)} {env : Sls} {σ : L2.St} {F H : Hp} {X9 : XK9} {E : E9} {D : Ends}, R K G L env σ F H → d X9 E env → Ends9 K G L fr F E D →
    (∀ e env' σ' c dd F' H', R K G L env' σ' F' H' → XR K F' H' e c dd → X9 e env' → W c dd σ' H') → t D σ H
section
variable {fr : Bool}
def dNext : DS := fun _ E env => E.nx env
theorem sim_next : SimS K W fr dNext tNext := ⟨fun {G L env σ F H X9 E D} r h q x => q.nx env σ F H r (Same.refl F) h⟩
def dSeq (a b : DS) : DS := fun X E env => a X { E with nx := b X E } env
theorem sim_seq {a b : DS} {t u : TS} (sa : SimS K W fr a t) (sb : SimS K W fr b u) : SimS K W fr (dSeq a b) (tSeq t u) := ⟨fun {G L env σ F H X9 E D} r h q x => sa.run r h
  ⟨fun env σ F2 H r s2 h => sb.run r h (q.mono s2) x, q.rt, q.bk, q.ct⟩ x⟩
def dBreak : DS := fun _ E env => E.bk env
def dCont : DS := fun _ E env => E.ct env
theorem sim_break : SimS K W fr dBreak tBreak := ⟨fun {G L env σ F H X9 E D} r h q x => q.bk env σ F H r (Same.refl F) h⟩
theorem sim_cont : SimS K W fr dCont tCont := ⟨fun {G L env σ F H X9 E D} r h q x => q.ct env σ F H r (Same.refl F) h⟩
def dDrop (d : DE) : DS := fun X E env => d X env fun _ e => E.nx e
theorem sim_drop {d : DE} {t : TE} (s : SimE K W d t) : SimS K W fr (dDrop d) (tDrop t) := ⟨fun {G L env σ F H X9 E D} r h q x => s.run r h (fun y e v F1 H1 r1 s1 i1 h1 => q.nx e σ F1 H1 r1 s1 h1) (fun e env' c dd F' H' => x e env' σ c dd F' H')⟩
def dRet (d : DE) : DS := fun X E env => d X env E.rt
theorem sim_ret {d : DE} {t : TE} (s : SimE K W d t) : SimS K W false (dRet d) (tRet t) := ⟨fun {G L env σ F H X9 E D} r h q x => s.run r h (fun y e v F1 H1 r1 s1 i1 h1 => q.rt y e σ F1 H1 v r1 s1 i1 h1) (fun e env' c dd F' H' => x e env' σ c dd F' H')⟩
theorem sim_retF {d : DE} {t : TE} (s : SimF K W d t) : SimS K W true (dRet d) (tRet t) := ⟨fun {G L env σ F H X9 E D} r h q x => s.run r h (fun y e a F1 H1 r1 s1 i1 h1 => q.rt y e σ F1 H1 _ r1 s1 ⟨a, rfl, i1⟩ h1) (fun e env' c dd F' H' => x e env' σ c dd F' H')⟩
/-- one's own thing is given back -/
def dRetO (i : Nat) : DS := fun _ E env => match env[i]? with
  | some (.ow false d) => E.rt d (env.set i .un)
  | _ => False
theorem sim_retO (i : Nat) : SimS K W true (dRetO i) (tRet (tVar i)) := ⟨fun {G L env σ F H X9 E D} r h q x => by
  unfold dRetO at h
  split at h
  · rename_i d e
    obtain ⟨a, h1, h2, h3, h4⟩ := r.ow i false d e
    have r1 : R K G L (env.set i .un) (σ.set i (some (.ref a))) F H := r.forget i _
    have f : Fresh K G (env.set i .un) (σ.set i (some (.ref a))) F H d a := ⟨h2, h3, h4, fun z => (r.mm a z).2.2 h3, fun j m e' hh z => by
      rcases get_set hh with ⟨_, q⟩ | ⟨n, q⟩
      · cases q
      · rw [List.getElem?_set_ne n] at z
        exact r.sep i j _ _ _ _ a n e q h1 z, fun q hq z => (r.ext q hq).2.2 i _ _ e (by rw [z]; exact h1)⟩
    exact ⟨_, h1, q.rt d _ _ F H _ r1 (Same.refl F) ⟨a, rfl, f⟩ h⟩
  · exact h.elim⟩
def dRetN : DS := fun _ E env => E.rt .non env
theorem sim_retN : SimS K W false dRetN tRetN := ⟨fun {G L env σ F H X9 E D} r h q x => q.rt .non env σ F H .non r (Same.refl F) .non h⟩
def dIfS (c : DT) (a b : DS) : DS := fun X E env => c X env fun k e => ifB k (a X E e) (b X E e)
theorem sim_ifS {c : DT} {a b : DS} {tc : TT} {t u : TS} (sc : SimT K W c tc) (sa : SimS K W fr a t) (sb : SimS K W fr b u) : SimS K W fr (dIfS c a b) (tIfS tc t u) := ⟨fun {G L env σ F H X9 E D} r h q x => sc.run r h (fun c e F1 H1 r1 s1 h1 => by
  cases c with
  | true => exact iteT (sa.run r1 h1 (q.mono s1) x)
  | false => exact iteF (sb.run r1 h1 (q.mono s1) x)) (fun e env' c dd F' H' => x e env' σ c dd F' H')⟩
theorem sim_never : SimS K W fr (fun _ _ _ => False) tNever := ⟨fun {G L env σ F H X9 E D} r h q x => h.elim⟩
/-! targets -/
abbrev DG := D → Sls → (Sls → Prop) → Prop
abbrev DGs := List D → Sls → (Sls → Prop) → Prop
structure SimG (K : PySem.W.Frag) (vs : List Nat) (d : DG) (g : TG) : Prop where
  run : ∀ {G : Gh} {L : List (Addr × Obj)} {env : Sls} {σ : L2.St} {F H : Hp} {x : D} {v : V} {Q9 : Sls → Prop} {Q : L2.St → Hp → Prop}, R K G L env σ F H → Is K F x v → d x env Q9 →
    (∀ env' σ' F' H', R K G L env' σ' F' H' → Same F F' → wipe σ' vs = wipe σ vs → Q9 env' → Q σ' H') → g v σ H Q
structure SimGs (K : PySem.W.Frag) (vs : List Nat) (d : DGs) (g : TGs) : Prop where
  run : ∀ {G : Gh} {L : List (Addr × Obj)} {env : Sls} {σ : L2.St} {F H : Hp} {x : List D} {v : List V} {Q9 : Sls → Prop} {Q : L2.St → Hp → Prop}, R K G L env σ F H → IsL K F x v → d x env Q9 →
    (∀ env' σ' F' H', R K G L env' σ' F' H' → Same F F' → wipe σ' vs = wipe σ vs → Q9 env' → Q σ' H') → g v σ H Q
theorem wipe_set {σ : L2.St} {i : Nat} {u : Option V} : ∀ {vs : List Nat}, i ∈ vs → wipe (σ.set i u) vs = wipe σ vs
  | v :: vs, h => by
    unfold wipe
    by_cases m : i ∈ vs
    · rw [wipe_set m]
    · have e : v = i := by
        rcases List.mem_cons.mp h with e | e
        · exact e.symm
        · exact absurd e m
      subst e
      have key : ∀ {ws : List Nat}, v ∉ ws → wipe (σ.set v u) ws = (wipe σ ws).set v u := by
        intro ws
        induction ws with
        | nil => intro _; rfl
        | cons w ws ih =>
          intro n
          unfold wipe
          rw [ih (fun z => n (List.mem_cons_of_mem _ z)), List.set_comm _ _ (fun z => n (by rw [z]; exact List.mem_cons_self))]
      rw [key m, List.set_set]
def dgName (i : Nat) : DG := fun x env Q => Q (env.set i (.im x))
theorem simg_name {vs : List Nat} (i : Nat) (h : i ∈ vs) : SimG K vs (dgName i) (gName i) := ⟨fun {G L env σ F H x v Q9 Q} r hi h9 q => q _ _ F H (r.set_im i hi) (Same.refl F) (wipe_set h) h9⟩
def dgNil : DGs := fun xs env Q => match xs with
  | [] => Q env
  | _ => False
def dgCons (a : DG) (b : DGs) : DGs := fun xs env Q => match xs with
  | x :: r => a x env fun e => b r e Q
  | [] => False
theorem simg_nil {vs : List Nat} : SimGs K vs dgNil gNil := ⟨fun {G L env σ F H x v Q9 Q} r hi h9 q => by
  cases hi with
  | nil => exact ⟨rfl, q env σ F H r (Same.refl F) rfl h9⟩
  | cons _ _ => exact h9.elim⟩
theorem simg_cons {vs : List Nat} {a : DG} {b : DGs} {t : TG} {u : TGs} (sa : SimG K vs a t) (sb : SimGs K vs b u) : SimGs K vs (dgCons a b) (gCons t u) := ⟨fun {G L env σ F H x v Q9 Q} r hi h9 q => by
  cases hi with
  | nil => exact h9.elim
  | cons h1 h2 => exact ⟨_, _, rfl, sa.run r h1 h9 fun e σ1 F1 H1 r1 s1 w1 k1 => sb.run r1 (h2.mono s1) k1 fun e2 σ2 F2 H2 r2 s2 w2 k2 => q e2 σ2 F2 H2 r2 (s1.trans s2) (w2.trans w1) k2⟩⟩
def dgTup (n : Nat) (b : DGs) : DG := fun x env Q => match x with
  | .tup xs => xs.length = n ∧ b xs env Q
  | _ => False
theorem simg_tup {vs : List Nat} {n : Nat} {b : DGs} {u : TGs} (sb : SimGs K vs b u) : SimG K vs (dgTup n b) (gTup K n u) := ⟨fun {G L env σ F H x v Q9 Q} r hi h9 q => by
  unfold dgTup at h9
  split at h9
  · obtain ⟨a, ws, rfl, ha, hw⟩ := Pk.tup r.sees (.inl hi)
    exact ⟨a, ws, rfl, ha, by rw [← hw.length]; exact h9.1, sb.run r hw h9.2 q⟩
  · exact h9.elim⟩
/-- a, *b = a list -/
def dgStar2 (b : DGs) : DG := fun x env Q => match x with
  | .lst (h :: rest) => rest.length ≤ 16000 ∧ b [h, .lst rest] env Q
  | _ => False
theorem simg_star2 {vs : List Nat} {b : DGs} {u : TGs} (sb : SimGs K vs b u) : SimG K vs (dgStar2 b) (gStar2 K u) := ⟨fun {G L env σ F H x v Q9 Q} r hi h9 q => by
  unfold dgStar2 at h9
  split at h9
  · obtain ⟨a, ws, rfl, ha, hw⟩ := Pk.lst r.sees (.inl hi)
    cases hw with
    | cons h1 h2 =>
      refine ⟨a, _, _, rfl, SqL.of ha, by rw [← h2.length]; exact h9.1, fun D hD => ?_⟩
      rename_i w0 ws0
      have sm := same_upd (o := HO.lst ws0) (r.free hD)
      exact sb.run (r.newK hD _) (.cons (h1.mono sm) (.cons (.lst upd_same (h2.mono sm)) .nil)) h9.2 fun e σ1 F1 H1 r1 s1 w1 k1 => q e σ1 F1 H1 r1 (sm.trans s1) w1 k1
  · exact h9.elim⟩
def dAsg (d : DE) (g : DG) : DS := fun X E env => d X env fun x e => g x e E.nx
theorem sim_asg {vs : List Nat} {d : DE} {g : DG} {t : TE} {u : TG} (s : SimE K W d t) (sg : SimG K vs g u) : SimS K W fr (dAsg d g) (tAsg t u) := ⟨fun {G L env σ F H X9 E D} r h q x => s.run r h (fun y e v F1 H1 r1 s1 i1 h1 =>
  sg.run r1 i1 h1 fun e2 σ2 F2 H2 r2 s2 w2 k2 => q.nx e2 σ2 F2 H2 r2 (s1.trans s2) k2) (fun e env' c dd F' H' => x e env' σ c dd F' H')⟩
def dSet (i : Nat) (d : DE) : DS := dAsg d (dgName i)
theorem sim_set {i : Nat} {d : DE} {t : TE} (s : SimE K W d t) : SimS K W fr (dSet i d) (tAsg t (gName i)) := sim_asg s (simg_name (vs := [i]) i List.mem_cons_self)
/-- a slot takes a thing of its own -/
def dSetO (i : Nat) (d : DE) : DS := fun X E env => d X env fun x e => E.nx (e.set i (.ow false x))
theorem sim_setO {i : Nat} {d : DE} {t : TE} (s : SimF K W d t) : SimS K W fr (dSetO i d) (tAsg t (gName i)) := ⟨fun {G L env σ F H X9 E D} r h q x => s.run r h (fun y e a F1 H1 r1 s1 f1 h1 =>
  q.nx _ _ F1 H1 (r1.set_ow i f1) s1 h1) (fun e env' c dd F' H' => x e env' σ c dd F' H')⟩
/-- name op= e -/
abbrev Fi2 := Fn2
def dAug (i : Nat) (d : DE) (f : Fn2) : DS := fun X E env => match look9 env (.inr i) with
  | some x => match env[i]? with
    | some (.im _) => d X env fun y e => f x y fun z => E.nx (e.set i (.im z))
    | _ => False
  | none => False
structure SimIp (K : PySem.W.Frag) (f : Fn2) (r : TIp) : Prop where
  run : ∀ {F H : Hp} {x y : D} {v w : V}, Sees F H → Is K F x v → Is K F y w → ∀ (Q9 : D → Prop) (Q : VK), f x y Q9 → (∀ z u, Is K F z u → Q9 z → Q u H) → r v w H Q
theorem sim_aug {i : Nat} {d : DE} {f : Fn2} {t : TE} {u : TIp} (s : SimE K W d t) (sf : SimIp K f u) : SimS K W fr (dAug i d f) (tAug i t u) := ⟨fun {G L env σ F H X9 E D} r h q x => by
  unfold dAug at h
  split at h
  · rename_i y ey
    split at h
    · rename_i y' ey'
      have e0 : y' = y := by
        unfold look9 at ey
        dsimp only at ey
        rw [ey'] at ey
        exact Option.some.inj ey
      subst e0
      obtain ⟨v, h1, h2⟩ := r.im i _ ey'
      exact ⟨v, h1, s.run r h (fun z e w F1 H1 r1 s1 i1 k1 => sf.run r1.sees (h2.mono s1) i1 _ _ k1 fun z u hz k => q.nx _ _ F1 H1 (r1.set_im i hz) s1 k) (fun e env' c dd F' H' => x e env' σ c dd F' H')⟩
    · exact h.elim
  · exact h.elim⟩
/-! ### while -/
def dWhile (c : DT) (b : DS) : DS := fun X E env => ∃ Wh : Nat → Sls → Prop, (∃ m, Wh m env) ∧ ∀ m env, Wh m env → c X env fun k e => ifB k (b X { E with nx := fun e' => ∃ m', m' < m ∧ Wh m' e', ct := fun e' => ∃ m', m' < m ∧ Wh m' e', bk := E.nx } e) (E.nx e)
theorem sim_while {c : DT} {b : DS} {tc : TT} {t : TS} (sc : SimT K W c tc) (sb : SimS K W fr b t) : SimS K W fr (dWhile c b) (tWhile tc t) := ⟨fun {G L env σ F H X9 E D} r h q x => by
  obtain ⟨Wh, ⟨m, hm⟩, step⟩ := h
  refine ⟨fun m σ H => ∃ env F2, R K G L env σ F2 H ∧ Same F F2 ∧ Wh m env, ⟨m, env, F, r, Same.refl F, hm⟩, ?_⟩
  rintro m σ H ⟨env, F0, r, s0, hw⟩
  refine sc.run r (step m env hw) (fun k e F1 H1 r1 s1 h1 => ?_) (fun e env' c dd F' H' => x e env' σ c dd F' H')
  cases k with
  | true =>
    have q2 := q.mono (s0.trans s1)
    refine iteT ⟨fun σ' H' => ∃ m', m' < m ∧ ∃ env F2, R K G L env σ' F2 H' ∧ Same F F2 ∧ Wh m' env, fun σ' H' z => z, sb.run r1 h1 ⟨?_, q2.rt, q2.nx, ?_⟩ x⟩
    · rintro e σ2 F2 H2 r2 s2 ⟨m', l, w⟩
      exact ⟨m', l, e, F2, r2, (s0.trans s1).trans s2, w⟩
    · rintro e σ2 F2 H2 r2 s2 ⟨m', l, w⟩
      exact ⟨m', l, e, F2, r2, (s0.trans s1).trans s2, w⟩
  | false => exact iteF (q.nx e σ F1 H1 r1 (s0.trans s1) h1)⟩
/-! ### for -/
abbrev DI := XK9 → Sls → (List D → Sls → Prop) → Prop
/-- an iterator that gives these -/
def W9 (K : PySem.W.Frag) (L l0 : List (Addr × Obj)) (F : Hp) (J : It) (xs : List D) : Prop := ∃ Gd Y, Walk J xs.length Gd Y ∧ (∀ G env σ F2 H2, G.L0 = l0 → R K G L env σ F2 H2 → Same F F2 → Gd H2) ∧
  (∀ G i v env σ F2 H2 H3, G.L0 = l0 → i < xs.length → R K G L env σ F2 H2 → Same F F2 → Y i H2 v H3 → ∃ x F3, xs[i]? = some x ∧ R K G L env σ F3 H3 ∧ Same F2 F3 ∧ Is K F3 x v)
structure SimI (K : PySem.W.Frag) (W : WX) (d : DI) (wi : TI) : Prop where
  run : ∀ {G : Gh} {L : List (Addr × Obj)} {env : Sls} {σ : L2.St} {F H : Hp} {X9 : XK9} {Q9 : List D → Sls → Prop} {Q : It → Hp → Prop}, R K G L env σ F H → d X9 env Q9 →
    (∀ xs env' J F' H', R K G L env' σ F' H' → Same F F' → W9 K L G.L0 F' J xs → Q9 xs env' → Q J H') →
    (∀ e env' c dd F' H', R K G L env' σ F' H' → XR K F' H' e c dd → X9 e env' → W c dd σ H') → wi σ H Q
def forL (g : DG) (b : DS) (X : XK9) (E : E9) : List D → Sls → Prop
  | [], env => E.nx env
  | x :: xs, env => g x env fun e1 => b X { E with nx := forL g b X E xs, ct := forL g b X E xs, bk := E.nx } e1
def dFor (it : DI) (g : DG) (b : DS) : DS := fun X E env => it X env fun xs e => forL g b X E xs e
theorem sim_for {vs : List Nat} {it : DI} {g : DG} {b : DS} {wi : TI} {tg : TG} {t : TS} (si : SimI K W it wi) (sg : SimG K vs g tg) (sb : SimS K W fr b t) : SimS K W fr (dFor it g b) (tFor wi tg t) := ⟨fun {G L env σ F H X9 E D} r h q x => by
  refine si.run r h (fun xs e J F1 H1 r1 s1 w1 k1 => ?_) (fun e env' c dd F' H' => x e env' σ c dd F' H')
  obtain ⟨Gd, Y, wk, hG, hY⟩ := w1
  refine for_it wk (fun i σ H => ∃ env F, R K G L env σ F H ∧ Same F1 F ∧ forL g b X9 E (xs.drop i) env) ⟨e, F1, r1, Same.refl F1, k1⟩ (fun i σ H _ ⟨env, F, r, s, _⟩ => hG G env σ F H rfl r s) (fun i v σ H H3 hi ⟨env, F, r, s, k⟩ y => ?_) (fun σ H ⟨env, F, r, s, k⟩ => ?_)
  · obtain ⟨x0, F3, ex, r3, s3, i3⟩ := hY G i v env σ F H H3 rfl hi r s y
    have ed : xs.drop i = x0 :: xs.drop (i + 1) := by
      rw [List.drop_eq_getElem_cons hi]
      have := List.getElem?_eq_getElem hi
      rw [ex] at this
      cases this
      rfl
    rw [ed] at k
    refine sg.run r3 i3 k fun e2 σ2 F2 H2 r2 s2 _ k2 => ?_
    have q2 := q.mono (((s1.trans s).trans s3).trans s2)
    exact sb.run r2 k2 ⟨fun e4 σ4 F4 H4 r4 s4 k4 => ⟨e4, F4, r4, ((s.trans s3).trans s2).trans s4, k4⟩, q2.rt, q2.nx, fun e4 σ4 F4 H4 r4 s4 k4 => ⟨e4, F4, r4, ((s.trans s3).trans s2).trans s4, k4⟩⟩ x
  · rw [List.drop_length] at k
    exact q.nx env σ _ H r (s1.trans s) k⟩
end
end
end Dv

set_option maxHeartbeats 4000000
/-! Comprehensions, calls of defs and methods, the making of objects, a def from its value form. -/
namespace Dv
open PySem PySem.Spec PyProof.Rows L2 Sk
section
variable {K : PySem.W.Frag} {W : WX} {G : Gh} {L : List (Addr × Obj)} {env : Sls} {σ : L2.St} {F F' H H' : Hp} {p a : Addr} {o : HO} {d x : D}
/-! ### a further fact for a while -/
def Gh.plus (G : Gh) (p : Addr × HO) : Gh := { G with X := p :: G.X }
theorem R.plus (r : R K G L env σ F H) (f : Fresh K G env σ F H x a) (h : H a = some o) : R K (G.plus (a, o)) L env σ F H where
  len := r.len
  im := r.im
  ow := r.ow
  sep := r.sep
  see := r.see
  pres := r.pres
  mm := r.mm
  grow := r.grow
  base := r.base
  lk := r.lk
  lk0 := r.lk0
  ext := fun q hq => by
    rcases List.mem_cons.mp hq with e | hq
    · rw [e]
      exact ⟨h, f.f, f.sep⟩
    · exact r.ext q hq
/-- .. and behind it: what stands there is as it was, and may be changed -/
theorem R.minus (r : R K (G.plus (a, o)) L env σ F H) (h0 : G.H0 a = none) (nx : ∀ q ∈ G.X, q.1 ≠ a) : R K G L env σ F H ∧ H a = some o ∧ ∀ z, Has K F H z a → Fresh K G env σ F H z a := by
  obtain ⟨e1, e2, e3⟩ := r.ext (a, o) List.mem_cons_self
  exact ⟨⟨r.len, r.im, r.ow, r.sep, r.see, r.pres, r.mm, r.grow, r.base, r.lk, r.lk0, fun q hq => r.ext q (List.mem_cons_of_mem _ hq)⟩, e1, fun z hz => ⟨e2, h0, hz, fun hm => (r.mm a hm).2.2 h0, e3, nx⟩⟩
theorem R.updF (r : R K G L env σ F H) (f : Fresh K G env σ F H x a) (o : HO) : R K G L env σ F (upd H a o) := by
  obtain ⟨u, hu⟩ := f.has.ex
  have nF : ∀ {b : Addr} {v : HO}, F b = some v → b ≠ a := fun q z => by
    rw [z, f.f] at q
    cases q
  refine ⟨r.len, r.im, fun i m d e => ?_, r.sep, fun b v e => ?_, fun b v e m => ?_, fun b m => ⟨?_, (r.mm b m).2⟩, r.grow, r.base, fun q hq => ?_, r.lk0, fun q hq => ?_⟩
  · obtain ⟨b, h1, h2, h3, h4⟩ := r.ow i m d e
    have n : b ≠ a := fun z => f.sep i m d e (by rw [← z]; exact h1)
    exact ⟨b, h1, h2, h3, h4.mono (Same.refl F) fun v q => by rw [upd_ne n]; exact q⟩
  · have n := nF e
    rcases r.see b v e with q | ⟨ob, m, q⟩
    · exact .inl (by rw [upd_ne n]; exact q)
    · exact .inr ⟨ob, m, by rw [upd_ne n]; exact q⟩
  · have n : b ≠ a := fun z => by
      rw [z, f.h0] at e
      cases e
    rcases r.pres b v e m with q | ⟨ob, m, q⟩
    · exact .inl (by rw [upd_ne n]; exact q)
    · exact .inr ⟨ob, m, by rw [upd_ne n]; exact q⟩
  · by_cases n : b = a
    · rw [n, upd_same]
      intro z
      cases z
    · rw [upd_ne n]
      exact (r.mm b m).1
  · obtain ⟨ws, e1, e2⟩ := r.lk q hq
    exact ⟨ws, e1, by rw [upd_ne (nF e1)]; exact e2⟩
  · obtain ⟨e1, e2, e3⟩ := r.ext q hq
    exact ⟨by rw [upd_ne (f.ext q hq)]; exact e1, e2, e3⟩
theorem Fresh.upd {y : D} (f : Fresh K G env σ F H x a) (h : Has K F (upd H a o) y a) : Fresh K G env σ F (L2.upd H a o) y a := ⟨f.f, f.h0, h, f.nm, f.sep, f.ext⟩
/-! ### comprehensions -/
def wipe9 (env : Sls) : List Nat → Sls
  | [] => env
  | v :: vs => (wipe9 env vs).set v .un
theorem R.wiped (r : R K G L env σ F H) : ∀ vs : List Nat, R K G L (wipe9 env vs) (wipe σ vs) F H
  | [] => r
  | v :: vs => (r.wiped vs).forget v _
theorem Fresh.wiped (f : Fresh K G env σ F H x a) : ∀ vs : List Nat, Fresh K G (wipe9 env vs) (wipe σ vs) F H x a
  | [] => f
  | v :: vs => by
    have g := f.wiped vs
    refine ⟨g.f, g.h0, g.has, g.nm, fun i m d e z => ?_, g.ext⟩
    have e : ((wipe9 env vs).set v Sl.un)[i]? = some (.ow m d) := e
    rcases get_set e with ⟨_, q⟩ | ⟨n, q⟩
    · cases q
    · have z : ((wipe σ vs).set v none)[i]? = some (some (.ref a)) := z
      rw [List.getElem?_set_ne n] at z
      exact g.sep i m d q z
theorem wipe9_get {i : Nat} {s : Sl} : ∀ {vs : List Nat}, (wipe9 env vs)[i]? = some s → s = .un ∨ (i ∉ vs ∧ env[i]? = some s)
  | [], h => .inr ⟨by simp, h⟩
  | v :: vs, h => by
    have h : ((wipe9 env vs).set v Sl.un)[i]? = some s := h
    rcases get_set h with ⟨_, q⟩ | ⟨n, q⟩
    · exact .inl q.symm
    · rcases wipe9_get q with q | ⟨m, q⟩
      · exact .inl q
      · exact .inr ⟨fun z => (List.mem_cons.mp z).elim (fun e => n e.symm) m, q⟩
theorem wipe_get {i : Nat} : ∀ {vs : List Nat}, i ∉ vs → (wipe σ vs)[i]? = σ[i]?
  | [], _ => rfl
  | v :: vs, h => by
    show ((wipe σ vs).set v none)[i]? = _
    rw [List.getElem?_set_ne (fun e => h (by rw [e]; exact List.mem_cons_self)), wipe_get fun m => h (List.mem_cons_of_mem _ m)]
theorem R.unwipe {vs : List Nat} (r : R K G L (wipe9 env vs) (wipe σ vs) F H) : R K G L (wipe9 env vs) σ F H := by
  have key : ∀ {i : Nat} {s : Sl}, (wipe9 env vs)[i]? = some s → s ≠ .un → (wipe σ vs)[i]? = σ[i]? := fun h n => by
    rcases wipe9_get h with q | ⟨m, _⟩
    · exact absurd q n
    · exact wipe_get m
  refine ⟨by rw [r.len, wipe_length], fun i d e => ?_, fun i m d e => ?_, fun i j m n d e a hne h1 h2 h3 h4 => ?_, r.see, r.pres, r.mm, r.grow, r.base, r.lk, r.lk0, fun q hq => ?_⟩
  · rw [← key e (fun z => nomatch z)]
    exact r.im i d e
  · rw [← key e (fun z => nomatch z)]
    exact r.ow i m d e
  · rw [← key h1 (fun z => nomatch z)] at h3
    rw [← key h2 (fun z => nomatch z)] at h4
    exact r.sep i j m n d e a hne h1 h2 h3 h4
  · obtain ⟨e1, e2, e3⟩ := r.ext q hq
    refine ⟨e1, e2, fun i m d e => ?_⟩
    rw [← key e (fun z => nomatch z)]
    exact e3 i m d e
theorem Fresh.unwipe {vs : List Nat} (f : Fresh K G (wipe9 env vs) (wipe σ vs) F H x a) : Fresh K G (wipe9 env vs) σ F H x a := by
  refine ⟨f.f, f.h0, f.has, f.nm, fun i m d e z => ?_, f.ext⟩
  rcases wipe9_get e with q | ⟨n, _⟩
  · cases q
  · exact f.sep i m d e (by rw [wipe_get n]; exact z)
/-- nothing is raised -/
def W0 : WX := fun _ _ _ _ => False
def X0 : XK9 := fun _ _ => False
def lcL (g : DG) (c : DT) (el : DE) (vs : List Nat) (Q : List D → Sls → Prop) : List D → List D → Sls → Prop
  | [], acc, env => Q acc env
  | x :: xs, acc, env => g x env fun e1 => c X0 e1 fun b e2 => ifB b (el X0 e2 fun y e3 => acc.length < 16777216 ∧ lcL g c el vs Q xs (acc ++ [y]) (wipe9 e3 vs)) (lcL g c el vs Q xs acc (wipe9 e2 vs))
def dLc (it : DI) (g : DG) (c : DT) (el : DE) (vs : List Nat) : DE := fun X env Q => it X env fun xs e => lcL g c el vs (fun acc e' => Q (.lst acc) e') xs [] (wipe9 e vs)
theorem wipe_wipe {σ : L2.St} {vs : List Nat} : wipe (wipe σ vs) vs = wipe σ vs := by
  apply List.ext_getElem?
  intro i
  by_cases m : i ∈ vs
  · have key : ∀ {ws : List Nat} {τ : L2.St}, i ∈ ws → (wipe τ ws)[i]? = if i < τ.length then some none else none := by
      intro ws
      induction ws with
      | nil => intro τ h; cases h
      | cons w ws ih =>
        intro τ h
        show ((wipe τ ws).set w none)[i]? = _
        by_cases e : w = i
        · subst e
          by_cases hl : w < τ.length
          · rw [if_pos hl, List.getElem?_set_self (by rw [wipe_length]; exact hl)]
          · rw [if_neg hl, List.getElem?_eq_none (by rw [List.length_set, wipe_length]; omega)]
        · rw [List.getElem?_set_ne e]
          exact ih ((List.mem_cons.mp h).resolve_left fun z => e z.symm)
    rw [key m, key m, wipe_length]
  · rw [wipe_get m]
theorem sim_lc {it : DI} {g : DG} {c : DT} {el : DE} {vs : List Nat} {wi : TI} {tg : TG} {tt : TT} {te : TE} (si : SimI K W it wi) (sg : SimG K vs g tg) (sc : SimT K W0 c tt) (se : SimE K W0 el te) :
    SimF K W (dLc it g c el vs) (tLc wi tg tt te vs) := ⟨fun {G L env σ F H X9 Q9 Q} r h q x => by
  refine si.run r h (fun xs e J F1 H1 r1 s1 w1 k1 D hD => ?_) x
  obtain ⟨Gd, Y, wk, hG, hY⟩ := w1
  have f1 := r1.fresh (x := .lst []) hD (Has.mkL upd_same .nil)
  have r2 := r1.new hD (.lst [])
  refine lc_it wk (fun i H => ∃ e F acc, R K G L (wipe9 e vs) (wipe σ vs) F H ∧ Same F1 F ∧ Fresh K G (wipe9 e vs) (wipe σ vs) F H (.lst acc) D ∧ lcL g c el vs (fun acc e' => Q9 (.lst acc) e') (xs.drop i) acc (wipe9 e vs))
    ⟨e, F1, [], r2.wiped vs, Same.refl F1, f1.wiped vs, k1⟩ (fun i H _ ⟨e, F, acc, r, s, _, _⟩ => hG G _ _ F H rfl r s) (fun i v H H3 hi ⟨e, F, acc, r, s, f, k⟩ y => ?_) (fun H ⟨e, F, acc, r, s, f, k⟩ => ?_)
  · have h0 := f.h0
    have nx := f.ext
    obtain ⟨ws, hw, iw⟩ := f.has
    have rp := r.plus f hw
    obtain ⟨x0, F3, ex, r3, s3, i3⟩ := hY (G.plus (D, .lst ws)) i v _ _ F H H3 rfl hi rp s y
    have ed : xs.drop i = x0 :: xs.drop (i + 1) := by
      rw [List.drop_eq_getElem_cons hi]
      have := List.getElem?_eq_getElem hi
      rw [ex] at this
      cases this
      rfl
    rw [ed] at k
    refine sg.run r3 i3 k fun e2 σ2 F2 H2 r2 s2 w2 k2 => ?_
    have w2 := w2.trans wipe_wipe
    refine ⟨w2, ?_⟩
    refine sc.run r2 k2 (fun b e4 F4 H4 r4 s4 k4 => ?_) (fun _ _ _ _ _ _ _ _ z => z)
    cases b with
    | true =>
      refine iteT (se.run r4 k4 (fun y5 e5 v5 F5 H5 r5 s5 i5 k5 => ?_) (fun _ _ _ _ _ _ _ _ z => z))
      obtain ⟨r6, hD6, fr6⟩ := r5.minus (show G.H0 D = none from h0) nx
      have sm : Same F F5 := (((s3.trans s2).trans s4).trans s5)
      have iw6 := iw.mono sm
      have f6 := fr6 (.lst acc) (Has.mkL hD6 iw6)
      have r7 := (r6.updF f6 (.lst (ws ++ [v5])))
      have f7 : Fresh K G e5 σ2 F5 (upd H5 D (.lst (ws ++ [v5]))) (.lst (acc ++ [y5])) D := f6.upd (Has.mkL upd_same (iw6.append (.cons i5 .nil)))
      refine ⟨ws, hD6, by rw [sizeLine_eq, ← iw.length]; exact k5.1, e5, F5, acc ++ [y5], ?_, s.trans sm, ?_, k5.2⟩
      · have := r7.wiped vs
        rw [w2] at this
        exact this
      · have := f7.wiped vs
        rw [w2] at this
        exact this
    | false =>
      refine iteF ?_
      obtain ⟨r6, hD6, fr6⟩ := r4.minus (show G.H0 D = none from h0) nx
      have sm : Same F F4 := ((s3.trans s2).trans s4)
      have f6 := fr6 (.lst acc) (Has.mkL hD6 (iw.mono sm))
      refine ⟨e4, F4, acc, ?_, s.trans sm, ?_, k4⟩
      · have := r6.wiped vs
        rw [w2] at this
        exact this
      · have := f6.wiped vs
        rw [w2] at this
        exact this
  · rw [List.drop_length] at k
    exact q _ _ D F H r.unwipe (s1.trans s) f.unwipe k⟩
end
end Dv

set_option maxHeartbeats 4000000
/-! Defs in value form: their promises, their calls, a def from its body's value form. -/
namespace Dv
open PySem PySem.Spec PyProof.Rows L2 Sk
section
variable {K : PySem.W.Frag} {W : WX} {G : Gh} {L LL : List (Addr × Obj)} {env : Sls} {σ : L2.St} {F F' H H' : Hp} {p a : Addr} {o : HO} {d x : D}
inductive ArgsR (K : PySem.W.Frag) (F H : Hp) : List Bool → List D → List V → Prop
  | nil : ArgsR K F H [] [] []
  | im {d : D} {v : V} {ms : List Bool} {ds : List D} {vs : List V} : Is K F d v → ArgsR K F H ms ds vs → ArgsR K F H (false :: ms) (d :: ds) (v :: vs)
  | mu {d : D} {a : Addr} {ms : List Bool} {ds : List D} {vs : List V} : F a = none → Has K F H d a → ArgsR K F H ms ds vs → ArgsR K F H (true :: ms) (d :: ds) (.ref a :: vs)
def mus : List Bool → List V → List Addr
  | true :: ms, .ref a :: vs => a :: mus ms vs
  | true :: ms, _ :: vs => mus ms vs
  | false :: ms, _ :: vs => mus ms vs
  | _, _ => []
inductive MusR (K : PySem.W.Frag) (F H : Hp) : List Bool → List V → List D → Prop
  | nil : MusR K F H [] [] []
  | im {v : V} {ms : List Bool} {ds : List D} {vs : List V} : MusR K F H ms vs ds → MusR K F H (false :: ms) (v :: vs) ds
  | mu {d : D} {a : Addr} {ms : List Bool} {ds : List D} {vs : List V} : F a = none → Has K F H d a → MusR K F H ms vs ds → MusR K F H (true :: ms) (.ref a :: vs) (d :: ds)
structure Pre (K : PySem.W.Frag) (LL : List (Addr × Obj)) (ms : List Bool) (ds : List D) (vs : List V) (F H : Hp) : Prop where
  args : ArgsR K F H ms ds vs
  nd : (mus ms vs).Nodup
  see : ∀ a o, F a = some o → at9 LL H a o
  lk : ∀ q ∈ LL, ∃ ws, F q.1 = some (.dK ws) ∧ H q.1 = some (.frz q.2 (.dK ws))
structure Post (LL : List (Addr × Obj)) (A : List Addr) (F H F' H' : Hp) : Prop where
  same : Same F F'
  grow : ∀ a, F' a ≠ none → F a ≠ none ∨ H a = none
  see : ∀ a o, F' a = some o → at9 LL H' a o
  keep : ∀ a o, H a = some o → a ∉ A → H' a = some o
/-- a def's promise in value form: which parameters are changed, whether its answer is a new thing -/
structure FS where
  ms : List Bool
  fr : Bool
  sp : List D → (D → List D → Prop) → (D → List D → Prop) → Prop
def FS.to (K : PySem.W.Frag) (f : FS) : Sp := fun vs H Q E => ∃ (F : Hp) (LL : List (Addr × Obj)) (ds : List D) (Q9 E9 : D → List D → Prop), Pre K LL f.ms ds vs F H ∧ f.sp ds Q9 E9 ∧
  (∀ r nd, Q9 r nd → ∀ F' H' v, Post LL (mus f.ms vs) F H F' H' → MusR K F' H' f.ms vs nd → (if f.fr = true then ∃ a, v = .ref a ∧ F' a = none ∧ H a = none ∧ Has K F' H' r a else Is K F' r v) → Q v H') ∧
  (∀ e nd, E9 e nd → ∀ F' H' c dd, Post LL (mus f.ms vs) F H F' H' → MusR K F' H' f.ms vs nd → XR K F' H' e c dd → E c dd H')
theorem ArgsR.length {ms : List Bool} {ds : List D} {vs : List V} (h : ArgsR K F H ms ds vs) : vs.length = ms.length ∧ ds.length = ms.length := by
  induction h with
  | nil => exact ⟨rfl, rfl⟩
  | im _ _ ih => simp [ih.1, ih.2]
  | mu _ _ _ ih => simp [ih.1, ih.2]
theorem FS.len {f : FS} {n : Nat} (h : f.ms.length = n) : ∀ vs H Q E, f.to K vs H Q E → vs.length = n := fun vs H Q E ⟨F, LL, ds, _, _, p, _⟩ => by rw [← h, p.args.length.1]
theorem ArgsR.append {ms ns : List Bool} {ds es : List D} {vs ws : List V} (h : ArgsR K F H ms ds vs) (h2 : ArgsR K F H ns es ws) : ArgsR K F H (ms ++ ns) (ds ++ es) (vs ++ ws) := by
  induction h with
  | nil => exact h2
  | im h _ ih => exact .im h ih
  | mu h1 h2 _ ih => exact .mu h1 h2 ih
theorem ArgsR.ims : ∀ {ds : List D} {vs : List V}, IsL K F ds vs → ArgsR K F H (ds.map fun _ => false) ds vs
  | _, _, .nil => .nil
  | _, _, .cons h t => .im h (ArgsR.ims t)
theorem mus_append : ∀ {ms ns : List Bool} {vs ws : List V}, ms.length = vs.length → mus (ms ++ ns) (vs ++ ws) = mus ms vs ++ mus ns ws
  | [], _, [], _, _ => rfl
  | true :: ms, _, .ref a :: vs, _, h => by
    exact congrArg (a :: ·) (mus_append (by simpa using h))
  | true :: ms, _, .non :: vs, _, h => mus_append (ms := ms) (vs := vs) (by simpa using h)
  | true :: ms, _, .bl _ :: vs, _, h => mus_append (ms := ms) (vs := vs) (by simpa using h)
  | true :: ms, _, .int _ :: vs, _, h => mus_append (ms := ms) (vs := vs) (by simpa using h)
  | true :: ms, _, .str _ :: vs, _, h => mus_append (ms := ms) (vs := vs) (by simpa using h)
  | true :: ms, _, .byt _ :: vs, _, h => mus_append (ms := ms) (vs := vs) (by simpa using h)
  | true :: ms, _, .flt _ :: vs, _, h => mus_append (ms := ms) (vs := vs) (by simpa using h)
  | true :: ms, _, .ty _ :: vs, _, h => mus_append (ms := ms) (vs := vs) (by simpa using h)
  | false :: ms, _, _ :: vs, _, h => mus_append (ms := ms) (vs := vs) (by simpa using h)
theorem mus_ims : ∀ {ds : List D} {vs : List V}, mus (ds.map fun _ => false) vs = []
  | [], _ => by unfold mus; rfl
  | _ :: ds, [] => rfl
  | _ :: ds, v :: vs => mus_ims (ds := ds) (vs := vs)
/-! ### at a call -/
def isS : P9 → Bool
  | .inl _ => false
  | .inr _ => true
def slots : List P9 → List Nat
  | [] => []
  | .inl _ :: ps => slots ps
  | .inr i :: ps => i :: slots ps
def argsOf (env : Sls) : List P9 → Option (List D)
  | [] => some []
  | .inl x :: ps => match argsOf env ps with
    | some ds => some (x :: ds)
    | none => none
  | .inr i :: ps => match env[i]?, argsOf env ps with
    | some (.ow _ d), some ds => some (d :: ds)
    | _, _ => none
def setOw (env : Sls) (i : Nat) (d : D) : Sls := match env[i]? with
  | some (.ow m _) => env.set i (.ow m d)
  | _ => env
def putMus (env : Sls) : List P9 → List D → Sls
  | .inl _ :: ps, nd => putMus env ps nd
  | .inr i :: ps, d :: nd => putMus (setOw env i d) ps nd
  | _, _ => env
theorem setOw_ne {i j : Nat} (h : i ≠ j) : (setOw env i d)[j]? = env[j]? := by
  unfold setOw
  split
  · rw [List.getElem?_set_ne h]
  · rfl
theorem setOw_eq {i : Nat} {m : Bool} (h : env[i]? = some (.ow m x)) : (setOw env i d)[i]? = some (.ow m d) := by
  unfold setOw
  rw [h]
  dsimp only
  rw [List.getElem?_set_self (List.getElem?_eq_some_iff.mp h).1]
theorem setOw_len {i : Nat} : (setOw env i d).length = env.length := by
  unfold setOw
  split
  · rw [List.length_set]
  · rfl
theorem args_slots : ∀ {ps : List P9} {ds : List D}, argsOf env ps = some ds → ∀ i ∈ slots ps, ∃ m d, env[i]? = some (.ow m d)
  | [], _, _, i, h => nomatch h
  | .inl x :: ps, ds, e, i, h => by
    unfold argsOf at e
    split at e
    · rename_i e1
      exact args_slots e1 i h
    · cases e
  | .inr j :: ps, ds, e, i, h => by
    unfold argsOf at e
    split at e
    · rename_i e1 e2
      rcases List.mem_cons.mp h with rfl | h
      · exact ⟨_, _, e1⟩
      · exact args_slots e2 i h
    · cases e
/-- what is handed over -/
theorem R.args (r : R K G L env σ F H) : ∀ {ps : List P9} {vs : List V} {ds : List D}, RelPs K σ F ps vs → argsOf env ps = some ds → ArgsR K F H (ps.map isS) ds vs
  | _, _, _, .nil, e => by cases e; exact .nil
  | .inl x :: ps, _, ds, .cons h t, e => by
    unfold argsOf at e
    split at e
    · rename_i e1
      cases e
      exact .im h (r.args t e1)
    · cases e
  | .inr j :: ps, _, ds, .cons h t, e => by
    unfold argsOf at e
    split at e
    · rename_i e1 e2
      cases e
      obtain ⟨a, h1, h2, _, h4⟩ := r.ow j _ _ e1
      have h : σ[j]? = some (some _) := h
      rw [h1] at h
      cases h
      exact .mu h2 h4 (r.args t e2)
    · cases e
theorem mus_slot : ∀ {ps : List P9} {vs : List V}, RelPs K σ F ps vs → ∀ a ∈ mus (ps.map isS) vs, ∃ j ∈ slots ps, σ[j]? = some (some (.ref a))
  | _, _, .nil, a, h => nomatch h
  | .inl x :: ps, _, .cons _ t, a, h => mus_slot t a h
  | .inr j :: ps, v :: vs, .cons h t, a, hm => by
    have h : σ[j]? = some (some v) := h
    have more : a ∈ mus (ps.map isS) vs → ∃ i ∈ slots (.inr j :: ps), σ[i]? = some (some (.ref a)) := fun z => by
      obtain ⟨i, h1, h2⟩ := mus_slot t a z
      exact ⟨i, List.mem_cons_of_mem _ h1, h2⟩
    cases v with
    | ref b =>
      rcases List.mem_cons.mp (show a ∈ b :: mus (ps.map isS) vs from hm) with e | z
      · exact ⟨j, List.mem_cons_self, by rw [h, e]⟩
      · exact more z
    | _ => exact more hm
theorem slot_mus : ∀ {ps : List P9} {vs : List V}, RelPs K σ F ps vs → ∀ j ∈ slots ps, ∀ a, σ[j]? = some (some (.ref a)) → a ∈ mus (ps.map isS) vs
  | _, _, .nil, j, h, _, _ => nomatch h
  | .inl x :: ps, _, .cons _ t, j, h, a, e => slot_mus t j h a e
  | .inr i :: ps, v :: vs, .cons hh t, j, h, a, e => by
    have hh : σ[i]? = some (some v) := hh
    rcases List.mem_cons.mp h with rfl | h
    · rw [hh] at e
      cases e
      exact List.mem_cons_self
    · have z := slot_mus t j h a e
      cases v with
      | ref b => exact List.mem_cons_of_mem _ z
      | _ => exact z
theorem R.mus_nodup (r : R K G L env σ F H) : ∀ {ps : List P9} {vs : List V} {ds : List D}, RelPs K σ F ps vs → argsOf env ps = some ds → (slots ps).Nodup → (mus (ps.map isS) vs).Nodup
  | [], _, _, .nil, _, _ => List.nodup_nil
  | .inl x :: ps, v :: vs, ds, .cons h t, e, n => by
    unfold argsOf at e
    split at e
    · rename_i e1
      exact r.mus_nodup (ps := ps) (vs := vs) t e1 n
    · cases e
  | .inr j :: ps, v :: vs, ds, .cons h t, e, n => by
    have ee := e
    unfold argsOf at e
    split at e
    · rename_i e1 e2
      have h : σ[j]? = some (some v) := h
      obtain ⟨a, h1, _⟩ := r.ow j _ _ e1
      rw [h1] at h
      cases h
      obtain ⟨n1, n2⟩ := List.nodup_cons.mp n
      refine List.nodup_cons.mpr ⟨fun z => ?_, r.mus_nodup t e2 n2⟩
      obtain ⟨i, hi, hs⟩ := mus_slot t a z
      obtain ⟨m, d, hd⟩ := args_slots e2 i hi
      exact r.sep j i _ _ _ _ a (fun z => n1 (by rw [z]; exact hi)) e1 hd h1 hs
    · cases e
theorem put_len : ∀ {ps : List P9} {env : Sls} {nd : List D}, (putMus env ps nd).length = env.length
  | [], _, _ => rfl
  | .inl _ :: ps, env, nd => put_len (ps := ps) (env := env) (nd := nd)
  | .inr _ :: ps, _, [] => rfl
  | .inr i :: ps, env, d :: nd => by
    show (putMus (setOw env i d) ps nd).length = _
    rw [put_len, setOw_len]
theorem put_ne : ∀ {ps : List P9} {env : Sls} {nd : List D} {j : Nat}, j ∉ slots ps → (putMus env ps nd)[j]? = env[j]?
  | [], _, _, _, _ => rfl
  | .inl _ :: ps, env, nd, j, h => put_ne (ps := ps) (env := env) (nd := nd) h
  | .inr _ :: ps, _, [], _, _ => rfl
  | .inr i :: ps, env, d :: nd, j, h => by
    show (putMus (setOw env i d) ps nd)[j]? = _
    rw [put_ne (fun z => h (List.mem_cons_of_mem _ z)), setOw_ne (fun e => h (by rw [e]; exact List.mem_cons_self))]
theorem put_eq : ∀ {ps : List P9} {vs : List V} {env : Sls} {nd : List D}, RelPs K σ F ps vs → MusR K F' H' (ps.map isS) vs nd → (slots ps).Nodup → (∀ i ∈ slots ps, ∃ m d, env[i]? = some (.ow m d)) →
    ∀ j ∈ slots ps, ∃ m d d' a, env[j]? = some (.ow m d) ∧ (putMus env ps nd)[j]? = some (.ow m d') ∧ σ[j]? = some (some (.ref a)) ∧ F' a = none ∧ Has K F' H' d' a
  | [], _, _, _, .nil, _, _, _, j, h => nomatch h
  | .inl _ :: ps, _ :: vs, env, nd, .cons _ t, m, n, hs, j, h => by
    cases m with
    | im m => exact put_eq t m n hs j h
  | .inr i :: ps, v :: vs, env, nd, .cons hv t, m, n, hs, j, h => by
    have hv : σ[i]? = some (some v) := hv
    obtain ⟨n1, n2⟩ := List.nodup_cons.mp n
    cases m with
    | mu m1 m2 m3 =>
      rename_i d' a nd' _
      obtain ⟨m0, d0, e0⟩ := hs i List.mem_cons_self
      rcases List.mem_cons.mp h with rfl | h
      · refine ⟨m0, d0, d', a, e0, ?_, hv, m1, m2⟩
        show (putMus (setOw env j d') ps nd')[j]? = _
        rw [put_ne n1, setOw_eq e0]
      · have ne : i ≠ j := fun z => n1 (by rw [z]; exact h)
        obtain ⟨m4, d4, d5, a5, q1, q2⟩ := put_eq (env := setOw env i d') t m3 n2 (fun k hk => by
          have nk : i ≠ k := fun z => n1 (by rw [z]; exact hk)
          obtain ⟨m, d, e⟩ := hs k (List.mem_cons_of_mem _ hk)
          exact ⟨m, d, by rw [setOw_ne nk]; exact e⟩) j h
        rw [setOw_ne ne] at q1
        exact ⟨m4, d4, d5, a5, q1, q2⟩
/-- behind a call -/
theorem R.called (r : R K G L env σ F H) {ps : List P9} {vs : List V} {ds nd : List D} (rp : RelPs K σ F ps vs) (ha : argsOf env ps = some ds) (hn : (slots ps).Nodup) {A : List Addr} (hA : ∀ a ∈ A, a ∈ mus (ps.map isS) vs ∨ H a = none)
    (po : Post (L ++ G.L0) A F H F' H') (mr : MusR K F' H' (ps.map isS) vs nd) : R K G L (putMus env ps nd) σ F' H' := by
  have hs := args_slots ha
  have pe := put_eq (env := env) rp mr hn hs
  -- what is not handed over
  have nA : ∀ {a : Addr} {o : HO}, H a = some o → a ∉ mus (ps.map isS) vs → a ∉ A := fun e n z => (hA _ z).elim n fun q => by rw [e] at q; cases q
  have keepF : ∀ {a : Addr} {u : HO}, H a = some u → F a = none → F' a = none := fun {a u} e n => by
    cases q : F' a with
    | none => rfl
    | some w =>
      rcases po.grow a (by rw [q]; exact fun z => nomatch z) with z | z
      · exact absurd n z
      · rw [e] at z
        cases z
  have of_mus : ∀ {a : Addr}, a ∈ mus (ps.map isS) vs → ∃ j m d, j ∈ slots ps ∧ env[j]? = some (.ow m d) ∧ σ[j]? = some (some (.ref a)) ∧ F a = none ∧ (if m = true then a ∈ G.M ∧ G.P[j]? = some (V.ref a) else G.H0 a = none) := fun {a} h => by
    obtain ⟨j, h1, h2⟩ := mus_slot rp a h
    obtain ⟨m, d, h3⟩ := hs j h1
    obtain ⟨b, q1, q2, q3, _⟩ := r.ow j m d h3
    rw [h2] at q1
    cases q1
    exact ⟨j, m, d, h1, h3, h2, q2, q3⟩
  have back : ∀ {j : Nat} {s : Sl}, (putMus env ps nd)[j]? = some s → (env[j]? = some s ∧ j ∉ slots ps) ∨ ∃ m d d' a, s = .ow m d' ∧ env[j]? = some (.ow m d) ∧ j ∈ slots ps ∧ σ[j]? = some (some (.ref a)) ∧ F' a = none ∧ Has K F' H' d' a := fun {j s} h => by
    by_cases m : j ∈ slots ps
    · obtain ⟨m1, d1, d2, a2, q1, q2, q3, q4, q5⟩ := pe j m
      rw [h] at q2
      cases q2
      exact .inr ⟨m1, d1, d2, a2, rfl, q1, m, q3, q4, q5⟩
    · rw [put_ne m] at h
      exact .inl ⟨h, m⟩
  have owner : ∀ {j : Nat} {m : Bool} {d : D}, (putMus env ps nd)[j]? = some (.ow m d) → ∃ d', env[j]? = some (.ow m d') := fun {j m d} h => by
    rcases back h with ⟨q, _⟩ | ⟨m1, d1, d2, a2, e, q, _⟩
    · exact ⟨d, q⟩
    · cases e
      exact ⟨d1, q⟩
  refine ⟨by rw [put_len, r.len], fun i d e => ?_, fun i m d e => ?_, fun i j m n d e a hne h1 h2 h3 h4 => ?_, po.see, fun b u e m => ?_, fun b m => ?_, fun b h => ?_, r.base.trans po.same, fun q hq => ?_, r.lk0, fun q hq => ?_⟩
  · rcases back e with ⟨q, _⟩ | ⟨_, _, _, _, z, _⟩
    · obtain ⟨v, h1, h2⟩ := r.im i d q
      exact ⟨v, h1, h2.mono po.same⟩
    · cases z
  · rcases back e with ⟨q, ns⟩ | ⟨m1, d1, d2, a2, e', q, ms, q3, q4, q5⟩
    · obtain ⟨a, h1, h2, h3, h4⟩ := r.ow i m d q
      obtain ⟨u, hu⟩ := h4.ex
      have na : a ∉ mus (ps.map isS) vs := fun z => by
        obtain ⟨j, m', d', hj, ej, sj, _⟩ := of_mus z
        exact r.sep i j _ _ _ _ a (fun z => ns (by rw [z]; exact hj)) q ej h1 sj
      exact ⟨a, h1, keepF hu h2, h3, h4.mono po.same fun w hw => po.keep a w hw (nA hw na)⟩
    · cases e'
      obtain ⟨a, h1, h2, h3, h4⟩ := r.ow i _ _ q
      rw [q3] at h1
      cases h1
      exact ⟨_, q3, q4, h3, q5⟩
  · obtain ⟨_, z1⟩ := owner h1
    obtain ⟨_, z2⟩ := owner h2
    exact r.sep i j _ _ _ _ a hne z1 z2 h3 h4
  · have na : b ∉ mus (ps.map isS) vs := fun z => by
      obtain ⟨j, m', d', hj, ej, sj, _, q⟩ := of_mus z
      cases m' with
      | true => exact m (show b ∈ G.M ∧ _ from q).1
      | false =>
        have q : G.H0 b = none := q
        rw [e] at q
        cases q
    rcases r.pres b u e m with q | ⟨ob, z, q⟩
    · exact .inl (po.keep b u q (nA q na))
    · exact .inr ⟨ob, z, po.keep b _ q (nA q na)⟩
  · obtain ⟨h1, h2, h3⟩ := r.mm b m
    cases hb : H b with
    | none => exact absurd hb h1
    | some u =>
      refine ⟨?_, keepF hb h2, h3⟩
      by_cases z : b ∈ mus (ps.map isS) vs
      · obtain ⟨j, hj, sj⟩ := mus_slot rp b z
        obtain ⟨_, _, _, a2, _, _, q3, _, q5⟩ := pe j hj
        rw [sj] at q3
        cases q3
        obtain ⟨w, hw⟩ := q5.ex
        rw [hw]
        exact fun z => nomatch z
      · rw [po.keep b u hb (nA hb z)]
        exact fun z => nomatch z
  · rcases po.grow b h with z | z
    · exact r.grow b z
    · exact .inr (r.free0 z)
  · obtain ⟨ws, e1, e2⟩ := r.lk q hq
    have na : q.1 ∉ mus (ps.map isS) vs := fun z => by
      obtain ⟨_, _, _, _, _, _, n, _⟩ := of_mus z
      rw [e1] at n
      cases n
    exact ⟨ws, po.same _ _ e1, po.keep _ _ e2 (nA e2 na)⟩
  · obtain ⟨e1, e2, e3⟩ := r.ext q hq
    have na : q.1 ∉ mus (ps.map isS) vs := fun z => by
      obtain ⟨j, m', d', _, ej, sj, _⟩ := of_mus z
      exact e3 j _ _ ej sj
    refine ⟨po.keep _ _ e1 (nA e1 na), keepF e1 e2, fun i m d h => ?_⟩
    obtain ⟨_, z⟩ := owner h
    exact e3 i _ _ z
end
end Dv

set_option maxHeartbeats 4000000
/-! Calls in value form, and a def from its body's value form. -/
namespace Dv
open PySem PySem.Spec PyProof.Rows L2 Sk
section
variable {K : PySem.W.Frag} {W : WX} {G : Gh} {L LL : List (Addr × Obj)} {env : Sls} {σ : L2.St} {F F' H H' : Hp} {p a : Addr} {o : HO} {d x : D}
theorem R.pre (r : R K G L env σ F H) {ps : List P9} {vs : List V} {ds : List D} (rp : RelPs K σ F ps vs) (ha : argsOf env ps = some ds) (hn : (slots ps).Nodup) : Pre K (L ++ G.L0) (ps.map isS) ds vs F H :=
  ⟨r.args rp ha, r.mus_nodup rp ha hn, r.see, r.lk⟩
theorem R.made (r : R K G L env σ F H) {ps : List P9} {vs : List V} {ds nd : List D} (rp : RelPs K σ F ps vs) (ha : argsOf env ps = some ds) (mr : MusR K F' H' (ps.map isS) vs nd) (hn : (slots ps).Nodup) (n1 : F' a = none) (n2 : H a = none) (h : Has K F' H' x a) :
    Fresh K G (putMus env ps nd) σ F' H' x a where
  f := n1
  h0 := r.free0 n2
  nm := fun z => (r.mm a z).1 n2
  has := h
  sep := fun i m d e z => by
    have ow : ∃ m d, env[i]? = some (.ow m d) := by
      by_cases hm : i ∈ slots ps
      · exact args_slots ha i hm
      · rw [put_ne hm] at e
        exact ⟨m, d, e⟩
    obtain ⟨m, d, e⟩ := ow
    obtain ⟨b, h1, _, _, h4⟩ := r.ow i m d e
    rw [z] at h1
    cases h1
    obtain ⟨u, hu⟩ := h4.ex
    rw [n2] at hu
    cases hu
  ext := fun q hq z => by
    have e := (r.ext q hq).1
    rw [z, n2] at e
    cases e
/-- what an operand is, ahead of a run -/
def opS : Op9 → Bool
  | .e _ => false
  | .s _ => true
def opSlots : List Op9 → List Nat
  | [] => []
  | .e _ :: os => opSlots os
  | .s i :: os => i :: opSlots os
theorem SimOs.run2 {X9 : XK9} {os : List Op9} {t : TA} (s : SimOs K W os t) (x : ∀ e env' c dd F' H', R K G L env' σ F' H' → XR K F' H' e c dd → X9 e env' → W c dd σ H') :
    ∀ {env : Sls} {F H : Hp} {k : List P9 → Sls → Prop} {Q : List V → Hp → Prop}, R K G L env σ F H → evs os X9 env k →
    (∀ p env' v F' H', R K G L env' σ F' H' → Same F F' → RelPs K σ F' p v → p.map isS = os.map opS → slots p = opSlots os → k p env' → Q v H') → t σ H Q := by
  induction s with
  | nil => exact fun {env F H k Q} r h q => q [] env [] F H r (Same.refl F) .nil rfl rfl h
  | cons ho _ ih =>
    intro env F H k Q r h q
    cases ho with
    | e s =>
      have h : evs (_ :: _) X9 env k := h
      exact s.run r h (fun y e1 v F1 H1 r1 s1 i1 h1 => ih r1 h1 fun ps e2 vs F2 H2 r2 s2 p2 m2 l2 h2 => q (.inl y :: ps) e2 (v :: vs) F2 H2 r2 (s1.trans s2) (.cons (i1.mono s2) p2) (by show false :: _ = false :: _; rw [m2]) l2 h2) x
    | s i =>
      have h : (match look9 env (.inr i) with
        | some _ => evs _ X9 env fun ps e' => k (.inr i :: ps) e'
        | none => False) := h
      cases e : look9 env (.inr i) with
      | none =>
        rw [e] at h
        exact h.elim
      | some y =>
        rw [e] at h
        have fin : ∀ v, σ[i]? = some (some v) → tCons (tVar i) _ σ H Q := fun v hv => ⟨v, hv, ih r h fun ps e2 vs F2 H2 r2 s2 p2 m2 l2 h2 => q (.inr i :: ps) e2 (v :: vs) F2 H2 r2 s2 (.cons hv p2) (by show true :: _ = true :: _; rw [m2]) (by show i :: _ = i :: _; rw [l2]) h2⟩
        rcases look_slot e with e | ⟨m, d9, e, _⟩
        · obtain ⟨u, h1, h2⟩ := r.im i y e
          exact fin u h1
        · obtain ⟨a, h1, _⟩ := r.ow i m d9 e
          exact fin _ h1
/-- the run of operands, told of any tree -/
def Run2 (K : PySem.W.Frag) (W : WX) (os : List Op9) (t : TA) : Prop := ∀ {G : Gh} {L : List (Addr × Obj)} {σ : L2.St} {X9 : XK9} (_ : ∀ e env' c dd F' H', R K G L env' σ F' H' → XR K F' H' e c dd → X9 e env' → W c dd σ H')
    {env : Sls} {F H : Hp} {k : List P9 → Sls → Prop} {Q : List V → Hp → Prop}, R K G L env σ F H → evs os X9 env k →
    (∀ p env' v F' H', R K G L env' σ F' H' → Same F F' → RelPs K σ F' p v → p.map isS = os.map opS → slots p = opSlots os → k p env' → Q v H') → t σ H Q
theorem SimOs.to2 {os : List Op9} {t : TA} (s : SimOs K W os t) : Run2 K W os t := fun {_ _ _ _} x {_ _ _ _ _} r h q => s.run2 x r h q
theorem argsR_app {ms : List Bool} {ds dds : List D} {vs dvs : List V} (h : ArgsR K F H ms ds vs) (hd : ∀ F, IsL K F dds dvs) : ArgsR K F H (ms ++ dds.map fun _ => false) (ds ++ dds) (vs ++ dvs) := h.append (.ims (hd F))
theorem MusR.cut {ms : List Bool} {vs dvs : List V} {dds nd : List D} (hd : dds.length = dvs.length) : ms.length = vs.length → MusR K F H (ms ++ dds.map fun _ => false) (vs ++ dvs) nd → MusR K F H ms vs nd := by
  induction ms generalizing vs nd with
  | nil =>
    intro hl h
    cases vs with
    | nil =>
      have key : ∀ {dds : List D} {dvs : List V} {nd : List D}, MusR K F H (dds.map fun _ => false) dvs nd → nd = [] := by
        intro dds
        induction dds with
        | nil => intro dvs nd h; cases h; rfl
        | cons _ _ ih => intro dvs nd h; cases h with | im h => exact ih h
      rw [key h]
      exact .nil
    | cons _ _ => simp at hl
  | cons m ms ih =>
    intro hl h
    cases vs with
    | nil => simp at hl
    | cons v vs =>
      cases h with
      | im h => exact .im (ih (by simpa using hl) h)
      | mu h1 h2 h => exact .mu h1 h2 (ih (by simpa using hl) h)
/-- f(..): the defaults dds behind -/
def dCall (f : FS) (os : List Op9) (dds : List D) : DE := fun X env Q => evs os X env fun ps e => match argsOf e ps with
  | some ds => f.sp (ds ++ dds) (fun r nd => Q r (putMus e ps nd)) (fun _ _ => False)
  | none => False
theorem call_core {f : FS} {os : List Op9} {t : TA} {dvs : List V} {dds : List D} {E : XK} {X9 : XK9} {Q9 : D → Sls → Prop} {Q : VK} (so : Run2 K W os t) (hm : f.ms = os.map opS ++ dds.map fun _ => false) (hd : ∀ F, IsL K F dds dvs) (hn : (opSlots os).Nodup)
    (hE : ∀ c dd σ H', W0 c dd σ H' → E c dd H')
    (r : R K G L env σ F H) (h : dCall f os dds X9 env Q9) (q : ∀ (y : D) (e : Sls) (v : V) (F2 H2 : Hp), R K G L e σ F2 H2 → Same F F2 → (if f.fr = true then ∃ a, v = .ref a ∧ Fresh K G e σ F2 H2 y a else Is K F2 y v) → Q9 y e → Q v H2)
    (x : ∀ e env' c dd F' H', R K G L env' σ F' H' → XR K F' H' e c dd → X9 e env' → W c dd σ H') : tCall (f.to K) dvs E t σ H Q := by
  refine so x r h fun ps e vs F1 H1 r1 s1 p1 m1 l1 h1 => ?_
  split at h1
  · rename_i ds eds
    have hn1 : (slots ps).Nodup := by rw [l1]; exact hn
    have pr := r1.pre p1 eds hn1
    have len := pr.args.length.1
    have hdl : dds.length = dvs.length := (hd F1).length
    have em : mus f.ms (vs ++ dvs) = mus (ps.map isS) vs := by rw [hm, ← m1, mus_append len.symm, mus_ims, List.append_nil]
    refine ⟨F1, L ++ G.L0, ds ++ dds, _, _, ⟨by rw [hm, ← m1]; exact argsR_app pr.args hd, by rw [em]; exact pr.nd, pr.see, pr.lk⟩, h1, fun y nd k F2 H2 v po mr hv => ?_, fun y nd k F2 H2 c dd po mr hx => ?_⟩
    · rw [em] at po
      rw [hm, ← m1] at mr
      have mr := mr.cut hdl len.symm
      refine q y _ v F2 H2 (r1.called p1 eds hn1 (fun a z => .inl z) po mr) (s1.trans po.same) ?_ k
      split at hv
      · obtain ⟨a, e1, e2, e3, e4⟩ := hv
        rename_i hf
        rw [if_pos hf]
        exact ⟨a, e1, r1.made p1 eds mr hn1 e2 e3 e4⟩
      · rename_i hf
        rw [if_neg hf]
        exact hv
    · exact k.elim
  · exact h1.elim
theorem sim_call {f : FS} {os : List Op9} {t : TA} {dvs : List V} {dds : List D} {E : XK} (so : SimOs K W os t) (hm : f.ms = os.map opS ++ dds.map fun _ => false) (hd : ∀ F, IsL K F dds dvs) (hn : (opSlots os).Nodup)
    (hE : ∀ c dd σ H', W0 c dd σ H' → E c dd H') (hf : f.fr = false) : SimE K W (dCall f os dds) (tCall (f.to K) dvs E t) := ⟨fun {G L env σ F H X9 Q9 Q} r h q x => by
  refine call_core so.to2 hm hd hn hE r h (fun y e v F2 H2 r2 s2 hv k => q y e v F2 H2 r2 s2 ?_ k) x
  rw [hf] at hv
  exact hv⟩
theorem sim_callF {f : FS} {os : List Op9} {t : TA} {dvs : List V} {dds : List D} {E : XK} (so : SimOs K W os t) (hm : f.ms = os.map opS ++ dds.map fun _ => false) (hd : ∀ F, IsL K F dds dvs) (hn : (opSlots os).Nodup)
    (hE : ∀ c dd σ H', W0 c dd σ H' → E c dd H') (hf : f.fr = true) : SimF K W (dCall f os dds) (tCall (f.to K) dvs E t) := ⟨fun {G L env σ F H X9 Q9 Q} r h q x => by
  refine call_core so.to2 hm hd hn hE r h (fun y e v F2 H2 r2 s2 hv k => ?_) x
  rw [hf] at hv
  obtain ⟨a, rfl, fr⟩ := hv
  exact q y e a F2 H2 r2 s2 fr k⟩
theorem hE0 : ∀ c dd σ H', W0 c dd σ H' → C8.E0 c dd H' := fun _ _ _ _ z => z
/-! ### o.m(..) -/
def dMeth (c m : Str) (f : FS) (o : Op9) (os : List Op9) (dds : List D) : DE := fun X env Q => o.ev X env fun p e => match look9 e p with
  | some (.obj c' fs) => (c' = c ∧ fs.lookup m = none) ∧ evs os X e fun ps e2 => match argsOf e2 (p :: ps) with
    | some ds => f.sp (ds ++ dds) (fun r nd => Q r (putMus e2 (p :: ps) nd)) (fun _ _ => False)
    | none => False
  | _ => False
theorem IsF.lookup_none {F : Hp} {f : Str} : ∀ {fs : List (Str × D)} {ws : List (Str × V)}, IsF K F fs ws → fs.lookup f = none → ws.lookup f = none
  | _, _, .nil, _ => rfl
  | _, _, .cons (k := k) (xs := xs) h t, e => by
    by_cases n : f = k
    · subst n
      simp [List.lookup] at e
    · have z : (f == k) = false := by simpa using n
      have e2 : List.lookup f xs = none := by
        unfold List.lookup at e
        rw [z] at e
        exact e
      unfold List.lookup
      rw [z]
      exact IsF.lookup_none t e2
theorem SimO.run2 {X9 : XK9} {o : Op9} {t : TE} {k : P9 → Sls → Prop} {Q : V → Hp → Prop} (s : SimO K W o t) (r : R K G L env σ F H) (h : o.ev X9 env k)
    (q : ∀ p env' v F' H', R K G L env' σ F' H' → Same F F' → RelP K σ F' p v → isS p = opS o → slots [p] = opSlots [o] → k p env' → Q v H') (x : ∀ e env' c dd F' H', R K G L env' σ F' H' → XR K F' H' e c dd → X9 e env' → W c dd σ H') : t σ H Q := by
  cases s with
  | e s => exact s.run r h (fun y env' v F' H' r' sm hi k => q (.inl y) env' v F' H' r' sm hi rfl rfl k) x
  | s i =>
    have h : (match look9 env (.inr i) with
      | some _ => k (.inr i) env
      | none => False) := h
    cases e : look9 env (.inr i) with
    | none =>
      rw [e] at h
      exact h.elim
    | some y =>
      rw [e] at h
      rcases look_slot e with e | ⟨m, d9, e, _⟩
      · obtain ⟨u, h1, h2⟩ := r.im i y e
        exact ⟨u, h1, q (.inr i) env u F H r (Same.refl F) h1 rfl rfl h⟩
      · obtain ⟨a, h1, _⟩ := r.ow i m d9 e
        exact ⟨_, h1, q (.inr i) env _ F H r (Same.refl F) h1 rfl rfl h⟩
theorem slots_cons (p : P9) (ps : List P9) : slots (p :: ps) = slots [p] ++ slots ps := by cases p <;> rfl
theorem opSlots_cons (o : Op9) (os : List Op9) : opSlots (o :: os) = opSlots [o] ++ opSlots os := by cases o <;> rfl
theorem meth_core {c m : Str} {f : FS} {o : Op9} {os : List Op9} {to : TE} {t : TA} {dvs : List V} {dds : List D} {E : XK} {X9 : XK9} {Q9 : D → Sls → Prop} {Q : VK} (s : SimO K W o to) (so : SimOs K W os t) (hm : f.ms = (o :: os).map opS ++ dds.map fun _ => false) (hd : ∀ F, IsL K F dds dvs) (hn : (opSlots (o :: os)).Nodup)
    (hE : ∀ c dd σ H', W0 c dd σ H' → E c dd H')
    (r : R K G L env σ F H) (h : dMeth c m f o os dds X9 env Q9) (q : ∀ (y : D) (e : Sls) (v : V) (F2 H2 : Hp), R K G L e σ F2 H2 → Same F F2 → (if f.fr = true then ∃ a, v = .ref a ∧ Fresh K G e σ F2 H2 y a else Is K F2 y v) → Q9 y e → Q v H2)
    (x : ∀ e env' c dd F' H', R K G L env' σ F' H' → XR K F' H' e c dd → X9 e env' → W c dd σ H') : tMeth (He.ga K c) m (f.to K) dvs E to t σ H Q := by
  refine s.run2 r h (fun p e0 v0 F0 H0 r0 s0 p0 m0 l0 h0 => ?_) x
  split at h0
  · rename_i c' fs ex
    obtain ⟨⟨ec, hlk⟩, h0⟩ := h0
    subst ec
    obtain ⟨a, dx, ws, rfl, ha, hw⟩ := (r0.pk p0 ex).obj r0.sees
    refine ⟨a, dx, ws, rfl, ha, hw.lookup_none hlk, ?_⟩
    refine so.run2 x r0 h0 fun ps e vs F1 H1 r1 s1 p1 m1 l1 h1 => ?_
    split at h1
    · rename_i ds eds
      have p2 : RelPs K σ F1 (p :: ps) (.ref a :: vs) := .cons (p0.mono s1) p1
      have hn1 : (slots (p :: ps)).Nodup := by rw [slots_cons, l0, l1, ← opSlots_cons]; exact hn
      have pr := r1.pre p2 eds hn1
      have len := pr.args.length.1
      have hdl : dds.length = dvs.length := (hd F1).length
      have hm2 : f.ms = (p :: ps).map isS ++ dds.map fun _ => false := by rw [hm]; show opS o :: os.map opS ++ _ = isS p :: ps.map isS ++ _; rw [m0, m1]
      have em : mus f.ms (.ref a :: (vs ++ dvs)) = mus ((p :: ps).map isS) (.ref a :: vs) := by rw [hm2, ← List.cons_append, mus_append len.symm, mus_ims, List.append_nil]
      refine ⟨F1, L ++ G.L0, ds ++ dds, _, _, ⟨by rw [hm2]; exact argsR_app pr.args hd, by rw [em]; exact pr.nd, pr.see, pr.lk⟩, h1, fun y nd k F2 H2 v po mr hv => ?_, fun y nd k F2 H2 c dd po mr hx => ?_⟩
      · rw [em] at po
        rw [hm2] at mr
        have mr := mr.cut (vs := .ref a :: vs) hdl len.symm
        refine q y _ v F2 H2 (r1.called p2 eds hn1 (fun a z => .inl z) po mr) ((s0.trans s1).trans po.same) ?_ k
        split at hv
        · obtain ⟨a, e1, e2, e3, e4⟩ := hv
          rename_i hf
          rw [if_pos hf]
          exact ⟨a, e1, r1.made p2 eds mr hn1 e2 e3 e4⟩
        · rename_i hf
          rw [if_neg hf]
          exact hv
      · exact k.elim
    · exact h1.elim
  · exact h0.elim
theorem sim_meth {c m : Str} {f : FS} {o : Op9} {os : List Op9} {to : TE} {t : TA} {dvs : List V} {dds : List D} {E : XK} (s : SimO K W o to) (so : SimOs K W os t) (hm : f.ms = (o :: os).map opS ++ dds.map fun _ => false) (hd : ∀ F, IsL K F dds dvs) (hn : (opSlots (o :: os)).Nodup)
    (hE : ∀ c dd σ H', W0 c dd σ H' → E c dd H') (hf : f.fr = false) : SimE K W (dMeth c m f o os dds) (tMeth (He.ga K c) m (f.to K) dvs E to t) := ⟨fun {G L env σ F H X9 Q9 Q} r h q x => by
  refine meth_core s so hm hd hn hE r h (fun y e v F2 H2 r2 s2 hv k => q y e v F2 H2 r2 s2 ?_ k) x
  rw [hf] at hv
  exact hv⟩
theorem sim_methF {c m : Str} {f : FS} {o : Op9} {os : List Op9} {to : TE} {t : TA} {dvs : List V} {dds : List D} {E : XK} (s : SimO K W o to) (so : SimOs K W os t) (hm : f.ms = (o :: os).map opS ++ dds.map fun _ => false) (hd : ∀ F, IsL K F dds dvs) (hn : (opSlots (o :: os)).Nodup)
    (hE : ∀ c dd σ H', W0 c dd σ H' → E c dd H') (hf : f.fr = true) : SimF K W (dMeth c m f o os dds) (tMeth (He.ga K c) m (f.to K) dvs E to t) := ⟨fun {G L env σ F H X9 Q9 Q} r h q x => by
  refine meth_core s so hm hd hn hE r h (fun y e v F2 H2 r2 s2 hv k => ?_) x
  rw [hf] at hv
  obtain ⟨a, rfl, fr⟩ := hv
  exact q y e a F2 H2 r2 s2 fr k⟩
/-! ### C(..) -/
def dMake (c : Str) (f : FS) (os : List Op9) (dds : List D) : DE := fun X env Q => evs os X env fun ps e => match argsOf e ps with
  | some ds => f.sp (.obj c [] :: (ds ++ dds)) (fun r nd => match r, nd with
    | .non, z :: nd' => Q z (putMus e ps nd')
    | _, _ => False) (fun _ _ => False)
  | none => False
theorem Has.to_obj {c : Str} {fs : List (Str × D)} : Has K F H (.obj c fs) a → ∃ dx ws, H a = some (.ins (He.ga K c) dx ws) ∧ IsF K F fs ws := id
theorem make_core {c : Str} {f : FS} {os : List Op9} {t : TA} {dvs : List V} {dds : List D} {E : XK} {X9 : XK9} {Q9 : D → Sls → Prop} {Q : VK} (so : Run2 K W os t) (hm : f.ms = true :: os.map opS ++ dds.map fun _ => false) (hd : ∀ F, IsL K F dds dvs) (hn : (opSlots os).Nodup)
    (hE : ∀ c dd σ H', W0 c dd σ H' → E c dd H') (hf : f.fr = false)
    (r : R K G L env σ F H) (h : dMake c f os dds X9 env Q9) (q : ∀ (y : D) (e : Sls) (a : Addr) (F2 H2 : Hp), R K G L e σ F2 H2 → Same F F2 → Fresh K G e σ F2 H2 y a → Q9 y e → Q (.ref a) H2)
    (x : ∀ e env' c dd F' H', R K G L env' σ F' H' → XR K F' H' e c dd → X9 e env' → W c dd σ H') : tMake (He.ga K c) (f.to K) dvs E t σ H Q := by
  refine so x r h fun ps e vs F1 H1 r1 s1 p1 m1 l1 h1 => ?_
  split at h1
  · rename_i ds eds
    intro ax dx hax hdx hne
    have hn1 : (slots ps).Nodup := by rw [l1]; exact hn
    have r2 : R K G L e σ F1 (upd H1 dx (.own ax)) := r1.new hdx _
    have hax2 : (upd H1 dx (.own ax)) ax = none := by rw [upd_ne (Ne.symm hne)]; exact hax
    have r3 : R K G L e σ F1 (upd (upd H1 dx (.own ax)) ax (.ins (He.ga K c) dx [])) := r2.new hax2 _
    have hF : F1 ax = none := r1.free hax
    have pr := r3.pre p1 eds hn1
    have len := pr.args.length.1
    have hdl : dds.length = dvs.length := (hd F1).length
    have has0 : Has K F1 (upd (upd H1 dx (.own ax)) ax (.ins (He.ga K c) dx [])) (.obj c []) ax := Has.mkO upd_same .nil
    have hm2 : f.ms = (true :: ps.map isS) ++ dds.map fun _ => false := by rw [hm, m1]
    have em : mus f.ms (.ref ax :: (vs ++ dvs)) = ax :: mus (ps.map isS) vs := by rw [hm2]; show ax :: mus (ps.map isS ++ _) (vs ++ dvs) = _; rw [mus_append len.symm, mus_ims, List.append_nil]
    have nin : ax ∉ mus (ps.map isS) vs := fun z => by
      obtain ⟨j, hj, sj⟩ := mus_slot p1 ax z
      obtain ⟨m, d, ed⟩ := args_slots eds j hj
      obtain ⟨b, q1, _, _, q4⟩ := r1.ow j m d ed
      rw [sj] at q1
      cases q1
      obtain ⟨u, hu⟩ := q4.ex
      rw [hax] at hu
      cases hu
    have toH : ∀ {b : Addr} {u : HO}, H1 b = some u → (upd (upd H1 dx (.own ax)) ax (.ins (He.ga K c) dx [])) b = some u := fun e => by
      rw [upd_ne (ne_of_none e hax), upd_ne (ne_of_none e hdx)]
      exact e
    have post : ∀ {F2 H2 : Hp}, Post (L ++ G.L0) (ax :: mus (ps.map isS) vs) F1 (upd (upd H1 dx (.own ax)) ax (.ins (He.ga K c) dx [])) F2 H2 → Post (L ++ G.L0) (ax :: mus (ps.map isS) vs) F1 H1 F2 H2 := fun po =>
      ⟨po.same, fun b h => (po.grow b h).elim .inl fun z => .inr (by
        cases e : H1 b with
        | none => rfl
        | some u =>
          rw [toH e] at z
          cases z), po.see, fun b u e n => po.keep b u (toH e) n⟩
    have hA : ∀ b ∈ ax :: mus (ps.map isS) vs, b ∈ mus (ps.map isS) vs ∨ H1 b = none := fun b hb => (List.mem_cons.mp hb).elim (fun e => .inr (by rw [e]; exact hax)) .inl
    refine ⟨F1, L ++ G.L0, .obj c [] :: (ds ++ dds), _, _, ⟨by rw [hm2]; exact .mu hF has0 (argsR_app pr.args hd), by rw [em]; exact List.nodup_cons.mpr ⟨nin, pr.nd⟩, pr.see, pr.lk⟩, h1, fun y nd k F2 H2 v po mr hv => ?_, fun y nd k F2 H2 cc dd po mr hx => ?_⟩
    · rw [em] at po
      rw [hm2] at mr
      rw [hf] at hv
      have hv : Is K F2 y v := hv
      cases mr with
      | @mu z a ms nd' us n1 n2 mr =>
        have mr := mr.cut hdl len.symm
        cases y with
        | non =>
          cases hv
          exact ⟨rfl, q z _ ax F2 H2 (r1.called p1 eds hn1 hA (post po) mr) (s1.trans po.same) (r1.made p1 eds mr hn1 n1 hax n2) k⟩
        | _ => exact k.elim
    · exact k.elim
  · exact h1.elim
theorem sim_make {c : Str} {f : FS} {os : List Op9} {t : TA} {dvs : List V} {dds : List D} {E : XK} (so : SimOs K W os t) (hm : f.ms = true :: os.map opS ++ dds.map fun _ => false) (hd : ∀ F, IsL K F dds dvs) (hn : (opSlots os).Nodup)
    (hE : ∀ c dd σ H', W0 c dd σ H' → E c dd H') (hf : f.fr = false) : SimF K W (dMake c f os dds) (tMake (He.ga K c) (f.to K) dvs E t) := ⟨fun {G L env σ F H X9 Q9 Q} r h q x => make_core so.to2 hm hd hn hE hf r h q x⟩
/-! ### a def from its body -/
def start9 : List Bool → List D → Nat → Sls
  | _, _, 0 => []
  | m :: ms, d :: ds, n + 1 => (if m = true then .ow true d else .im d) :: start9 ms ds n
  | _, _, n + 1 => .un :: start9 [] [] n
def musOf : List Bool → Sls → Option (List D)
  | [], _ => some []
  | false :: ms, _ :: env => musOf ms env
  | true :: ms, .ow true d :: env => match musOf ms env with
    | some l => some (d :: l)
    | none => none
  | _, _ => none
/-- what is wanted behind a body -/
def ends9 (f : FS) (Q : D → List D → Prop) : E9 where
  nx := fun env => f.fr = false ∧ match musOf f.ms env with
    | some l => Q .non l
    | none => False
  rt := fun y env => match musOf f.ms env with
    | some l => Q y l
    | none => False
  bk := fun _ => False
  ct := fun _ => False
theorem start9_len : ∀ (ms : List Bool) (ds : List D) (n : Nat), (start9 ms ds n).length = n
  | _, _, 0 => by unfold start9; rfl
  | [], _, n + 1 => by
    show (start9 [] [] n).length + 1 = n + 1
    rw [start9_len]
  | _ :: _, [], n + 1 => by
    show (start9 [] [] n).length + 1 = n + 1
    rw [start9_len]
  | _ :: ms, _ :: ds, n + 1 => by
    show (start9 ms ds n).length + 1 = n + 1
    rw [start9_len]
theorem start_get : ∀ {N : List Str} {vs : List V} {i : Nat} {v : V}, vs.length ≤ N.length → vs[i]? = some v → (L2.start N vs)[i]? = some (some v) := fun {N vs i v} h e => by
  unfold L2.start
  rw [List.getElem?_append_left (by rw [List.length_map]; exact (List.getElem?_eq_some_iff.mp e).1), List.getElem?_map, e]
  rfl
theorem start9_get {ms : List Bool} {ds : List D} {vs : List V} (h : ArgsR K F H ms ds vs) : ∀ {n i : Nat} {s : Sl}, ms.length ≤ n → (start9 ms ds n)[i]? = some s → s = .un ∨ ∃ v, vs[i]? = some v ∧ ((∃ d, s = .im d ∧ Is K F d v) ∨ ∃ d a, s = .ow true d ∧ v = .ref a ∧ F a = none ∧ Has K F H d a ∧ a ∈ mus ms vs) := by
  have un : ∀ {n i : Nat} {s : Sl}, (start9 [] [] n)[i]? = some s → s = .un := by
    intro n
    induction n with
    | zero => intro i s h; simp [start9] at h
    | succ n ih =>
      intro i s h
      cases i with
      | zero => simpa [start9] using h.symm
      | succ i => exact ih (i := i) (by simpa [start9] using h)
  induction h with
  | nil => exact fun _ h => .inl (un h)
  | im hd _ ih =>
    intro n i s hl h
    cases n with
    | zero => simp [start9] at h
    | succ n =>
      cases i with
      | zero =>
        simp [start9] at h
        exact .inr ⟨_, rfl, .inl ⟨_, h.symm, hd⟩⟩
      | succ i =>
        rcases ih (n := n) (i := i) (by simpa using hl) (by simpa [start9] using h) with z | ⟨v, e, z | ⟨d, a, z1, z2, z3, z4, z5⟩⟩
        · exact .inl z
        · exact .inr ⟨v, by simpa using e, .inl z⟩
        · exact .inr ⟨v, by simpa using e, .inr ⟨d, a, z1, z2, z3, z4, z5⟩⟩
  | mu n1 n2 _ ih =>
    intro n i s hl h
    cases n with
    | zero => simp [start9] at h
    | succ n =>
      cases i with
      | zero =>
        simp [start9] at h
        exact .inr ⟨_, rfl, .inr ⟨_, _, h.symm, rfl, n1, n2, List.mem_cons_self⟩⟩
      | succ i =>
        rcases ih (n := n) (i := i) (by simpa using hl) (by simpa [start9] using h) with z | ⟨v, e, z | ⟨d, a, z1, z2, z3, z4, z5⟩⟩
        · exact .inl z
        · exact .inr ⟨v, by simpa using e, .inl z⟩
        · exact .inr ⟨v, by simpa using e, .inr ⟨d, a, z1, z2, z3, z4, List.mem_cons_of_mem _ z5⟩⟩
/-- at the end: the parameters that were changed -/
theorem mus_end (r : R K G L env σ F H) : ∀ {ms : List Bool} {vs : List V} {nd : List D} {k : Nat}, ms.length = vs.length → musOf ms (env.drop k) = some nd → (∀ i v, vs[i]? = some v → G.P[k + i]? = some v) → MusR K F H ms vs nd
  | [], [], nd, k, _, e, _ => by
    cases e
    exact .nil
  | false :: ms, v :: vs, nd, k, hl, e, hp => by
    cases q : env.drop k with
    | nil => rw [q] at e; cases e
    | cons s rest =>
      rw [q] at e
      have e : musOf ms rest = some nd := e
      have er : rest = env.drop (k + 1) := by rw [← List.drop_drop, q]; rfl
      rw [er] at e
      exact .im (mus_end r (by simpa using hl) e fun i v h => by
        have := hp (i + 1) v (by simpa using h)
        rw [show k + (i + 1) = k + 1 + i by omega] at this
        exact this)
  | true :: ms, v :: vs, nd, k, hl, e, hp => by
    cases q : env.drop k with
    | nil => rw [q] at e; cases e
    | cons s rest =>
      rw [q] at e
      cases s with
      | un => cases e
      | im d => cases e
      | ow m d =>
        cases m with
        | false => cases e
        | true =>
          have er : rest = env.drop (k + 1) := by rw [← List.drop_drop, q]; rfl
          have e : (match musOf ms rest with
            | some l => some (d :: l)
            | none => none) = some nd := e
          split at e
          · rename_i l el
            cases e
            rw [er] at el
            have ek : env[k]? = some (.ow true d) := by
              have : (env.drop k)[0]? = some (.ow true d) := by rw [q]; rfl
              rw [List.getElem?_drop] at this
              simpa using this
            obtain ⟨a, h1, h2, h3, h4⟩ := r.ow k true d ek
            have h3 : a ∈ G.M ∧ G.P[k]? = some (V.ref a) := h3
            have hv := hp 0 v rfl
            rw [Nat.add_zero, h3.2] at hv
            cases hv
            exact .mu h2 h4 (mus_end r (by simpa using hl) el fun i v h => by
              have := hp (i + 1) v (by simpa using h)
              rw [show k + (i + 1) = k + 1 + i by omega] at this
              exact this)
          · cases e
theorem start9_ms : ∀ {ms : List Bool} {ds : List D} {n i : Nat} {m : Bool} {d : D}, (start9 ms ds n)[i]? = some (.ow m d) → ms[i]? = some true
  | _, _, 0, _, _, _, h => by simp [start9] at h
  | [], _, n + 1, 0, _, _, h => by simp [start9] at h
  | [], _, n + 1, i + 1, _, _, h => by
    have := start9_ms (ms := []) (ds := []) (n := n) (i := i) (by simpa [start9] using h)
    simp at this
  | _ :: _, [], n + 1, 0, _, _, h => by simp [start9] at h
  | _ :: _, [], n + 1, i + 1, _, _, h => by
    have := start9_ms (ms := []) (ds := []) (n := n) (i := i) (by simpa [start9] using h)
    simp at this
  | b :: ms, _ :: ds, n + 1, 0, _, _, h => by
    cases b with
    | true => rfl
    | false => simp [start9] at h
  | b :: ms, _ :: ds, n + 1, i + 1, _, _, h => by
    have := start9_ms (ms := ms) (ds := ds) (n := n) (i := i) (by simpa [start9] using h)
    simpa using this
theorem mus_at : ∀ {ms : List Bool} {vs : List V} {i : Nat} {a : Addr}, ms[i]? = some true → vs[i]? = some (.ref a) → a ∈ mus ms vs
  | [], _, _, _, h, _ => by simp at h
  | _ :: _, [], _, _, _, h => by simp at h
  | true :: ms, v :: vs, 0, a, _, h => by
    simp at h
    subst h
    exact List.mem_cons_self
  | false :: ms, v :: vs, 0, a, h, _ => by simp at h
  | true :: ms, v :: vs, i + 1, a, h1, h2 => by
    have := mus_at (ms := ms) (vs := vs) (i := i) (by simpa using h1) (by simpa using h2)
    cases v with
    | ref b => exact List.mem_cons_of_mem _ this
    | _ => exact this
  | false :: ms, v :: vs, i + 1, a, h1, h2 => mus_at (ms := ms) (vs := vs) (i := i) (by simpa using h1) (by simpa using h2)
theorem mus_inj : ∀ {ms : List Bool} {vs : List V} {i j : Nat} {a : Addr}, (mus ms vs).Nodup → ms[i]? = some true → ms[j]? = some true → vs[i]? = some (.ref a) → vs[j]? = some (.ref a) → i = j
  | [], _, _, _, _, _, h, _, _, _ => by simp at h
  | _ :: _, [], _, _, _, _, _, _, h, _ => by simp at h
  | m :: ms, v :: vs, 0, 0, a, _, _, _, _, _ => rfl
  | m :: ms, v :: vs, 0, j + 1, a, hn, h1, h2, h3, h4 => by
    simp at h1 h3
    subst h1 h3
    obtain ⟨n1, _⟩ := List.nodup_cons.mp (show (a :: mus ms vs).Nodup from hn)
    exact absurd (mus_at (by simpa using h2) (by simpa using h4)) n1
  | m :: ms, v :: vs, i + 1, 0, a, hn, h1, h2, h3, h4 => by
    simp at h2 h4
    subst h2 h4
    obtain ⟨n1, _⟩ := List.nodup_cons.mp (show (a :: mus ms vs).Nodup from hn)
    exact absurd (mus_at (by simpa using h1) (by simpa using h3)) n1
  | m :: ms, v :: vs, i + 1, j + 1, a, hn, h1, h2, h3, h4 => by
    have hn2 : (mus ms vs).Nodup := by
      cases m with
      | false => exact hn
      | true =>
        cases v with
        | ref b => exact (List.nodup_cons.mp (show (b :: mus ms vs).Nodup from hn)).2
        | _ => exact hn
    exact congrArg (· + 1) (mus_inj (a := a) hn2 (by simpa using h1) (by simpa using h2) (by simpa using h3) (by simpa using h4))
theorem mus_has {ms : List Bool} {ds : List D} {vs : List V} (h : ArgsR K F H ms ds vs) : ∀ a ∈ mus ms vs, F a = none ∧ H a ≠ none := by
  induction h with
  | nil => intro a h; exact nomatch h
  | im _ _ ih => exact ih
  | mu n1 n2 _ ih =>
    intro a h
    rcases List.mem_cons.mp h with e | h
    · rw [e]
      obtain ⟨o, ho⟩ := n2.ex
      exact ⟨n1, by rw [ho]; exact fun z => nomatch z⟩
    · exact ih a h
theorem R.begin {ms : List Bool} {ds : List D} {vs : List V} {N : List Str} (p : Pre K LL ms ds vs F H) (hN : ms.length ≤ N.length) :
    R K { H0 := H, F0 := F, M := mus ms vs, L0 := LL, X := [], P := vs } [] (start9 ms ds N.length) (L2.start N vs) F H := by
  obtain ⟨l1, l2⟩ := p.args.length
  have hl : vs.length ≤ N.length := by omega
  have at_ : ∀ {i : Nat} {m : Bool} {d : D}, (start9 ms ds N.length)[i]? = some (.ow m d) → ∃ a, m = true ∧ vs[i]? = some (.ref a) ∧ F a = none ∧ Has K F H d a ∧ a ∈ mus ms vs := fun {i m d} e => by
    rcases start9_get p.args hN e with z | ⟨v, ev, ⟨d', z, _⟩ | ⟨d', a, z, rfl, n1, n2, n3⟩⟩
    · cases z
    · cases z
    · cases z
      exact ⟨a, rfl, ev, n1, n2, n3⟩
  refine ⟨?_, fun i d e => ?_, fun i m d e => ?_, fun i j m n d e a hne h1 h2 h3 h4 => ?_, fun a o e => p.see a o e, fun a o e _ => .inl e, fun a h => ⟨(mus_has p.args a h).2, (mus_has p.args a h).1, (mus_has p.args a h).2⟩, fun a h => .inl h, Same.refl F, fun q hq => p.lk q (by simpa using hq), (fun q hq => nomatch hq), (fun q hq => nomatch hq)⟩
  · rw [start9_len]
    unfold L2.start
    rw [List.length_append, List.length_map, List.length_replicate]
    omega
  · rcases start9_get p.args hN e with z | ⟨v, ev, ⟨d', z, hd⟩ | ⟨d', a, z, _⟩⟩
    · cases z
    · cases z
      exact ⟨v, start_get hl ev, hd⟩
    · cases z
  · obtain ⟨a, rfl, ev, n1, n2, n3⟩ := at_ e
    exact ⟨a, start_get hl ev, n1, ⟨n3, ev⟩, n2⟩
  · obtain ⟨b, _, e1, _, _, _⟩ := at_ h1
    obtain ⟨c, _, e2, _, _, _⟩ := at_ h2
    rw [start_get hl e1] at h3
    rw [start_get hl e2] at h4
    cases h3
    cases h4
    exact hne (mus_inj p.nd (start9_ms h1) (start9_ms h2) e1 e2)
/-- a def that raises nothing -/
theorem body_ok0 {f : FS} {N : List Str} {vs : List V} {Q : VK} {E : XK} {t : TS} {d : DS} (S : SimS K W0 f.fr d t) (hN : f.ms.length ≤ N.length) (h : ∀ ds Q9 E9, f.sp ds Q9 E9 → d X0 (ends9 f Q9) (start9 f.ms ds N.length)) (q : f.to K vs H Q E) :
    t { nx := fun _ H' => Q .non H', rt := Q } (L2.start N vs) H := by
  obtain ⟨F, LL, ds, Q9, E9, pr, hs, hq, _⟩ := q
  have r0 := R.begin pr hN
  have hl := pr.args.length
  have post : ∀ {env : Sls} {σ : L2.St} {F' H' : Hp}, R K { H0 := H, F0 := F, M := mus f.ms vs, L0 := LL, X := [], P := vs } [] env σ F' H' → Post LL (mus f.ms vs) F H F' H' := fun r =>
    ⟨r.base, r.grow, r.see, fun a o e n => (r.pres a o e n).elim id fun ⟨_, z, _⟩ => nomatch z⟩
  have fin : ∀ {env : Sls} {σ : L2.St} {F' H' : Hp} {nd : List D}, R K { H0 := H, F0 := F, M := mus f.ms vs, L0 := LL, X := [], P := vs } [] env σ F' H' → musOf f.ms env = some nd → MusR K F' H' f.ms vs nd := fun r e =>
    mus_end (k := 0) r (by omega) (by simpa using e) fun i v h => by simpa using h
  refine S.run r0 (h ds Q9 E9 hs) ⟨fun env σ F' H' r s k => ?_, fun y env σ F' H' v r s hv k => ?_, fun env σ F' H' r s k => k.elim, fun env σ F' H' r s k => k.elim⟩ (fun _ _ _ _ _ _ _ _ _ z => z)
  · obtain ⟨hf, k⟩ := k
    split at k
    · rename_i l el
      exact hq _ _ k F' H' .non (post r) (fin r el) (by rw [hf]; exact .non)
    · exact k.elim
  · have k : (match musOf f.ms env with
      | some l => Q9 y l
      | none => False) := k
    split at k
    · rename_i l el
      refine hq _ _ k F' H' v (post r) (fin r el) ?_
      split
      · rename_i hf
        rw [if_pos hf] at hv
        obtain ⟨a, e, fr⟩ := hv
        exact ⟨a, e, fr.f, fr.h0, fr.has⟩
      · rename_i hf
        rw [if_neg hf] at hv
        exact hv
    · exact k.elim
end
end Dv

set_option maxHeartbeats 4000000
/-! sum(x, start=i): the walk put one turn later, so that the first turn is the start -/
namespace SkW
open PySem PySem.Spec PyProof.Rows PySem.Builtin PySem.Builtin.Builtins
section
variable {prog : Program} {w : World} {A : Around} {E : Value → Shared → Prop} {s : Shared}
def latP (P : Nat → Value → Prop) (S0 : Int) : Nat → Value → Prop
  | 0, v => ∃ t, v = .int S0 t
  | i + 1, v => P i v
def latS (St : Nat → Heap → Prop) : Nat → Heap → Prop
  | 0, _ => False
  | i + 1, h => St i h
def latV (val : Nat → Int) (S0 : Int) : Nat → Int
  | 0 => S0
  | i + 1 => val i
theorem Walks.later {I : Addr} {fp wr : List Addr} {n : Nat} {P : Nat → Value → Prop} {St : Nat → Heap → Prop} (W : Walks prog w A I fp wr n P St) (S0 : Int) : Walks prog w A I fp wr (n + 1) (latP P S0) (latS St) where
  sub := W.sub
  frame := fun i h h' st k => match i, st with
    | i + 1, st => W.frame i h h' st k
  item := fun i s Q E hi st hQ => match i, st with
    | i + 1, st => W.item i s Q E (by omega) st hQ
  done := fun s Q E st hQ => W.done s Q E st hQ
  self := fun i s Q E st q => match i, st with
    | i + 1, st => W.self i s Q E st q
theorem preSum_later (val : Nat → Int) (S0 : Int) : ∀ n, preSum (latV val S0) (n + 1) = S0 + preSum val n
  | 0 => by simp [preSum, latV]
  | n + 1 => by
    rw [preSum, preSum_later val S0 n]
    show S0 + preSum val n + val n = S0 + (preSum val n + val n)
    omega
theorem args_sum_start (a v : Value) : argsOk "sum" ⟨[a], [(Str.ofString "start", v)]⟩ := by unfold argsOk; kernel_rfl
theorem call_sum_start {x : Value} {S0 : Int} {ts : Tok} {Q : Value → Shared → Prop}
    (h : wpAny (model prog w) A.in1 (pyIter x) (fun it s₂ => ∃ I fp wr n P St val, it = .ref I ∧ Walks prog w A.in1 I fp wr n P St ∧ St 0 s₂.heap ∧ (∀ b ∈ fp, b < s₂.heap.objs.size) ∧
      (∀ i v, P i v → ∃ t, v = .int (val i) t) ∧
      ∀ h' tk t', (∀ b o, b ∉ wr → s₂.heap.get? b = some o → h'.get? b = some o) → Q (.int (S0 + preSum val n) t') { s₂ with heap := h', toks := tk }) E s) :
    wpAny (model prog w) A (call (.builtin "sum") [x] [(Str.ofString "start", .int S0 ts)]) Q E s := by
  refine PyProof.Rows.kmk_tree F.kind_sum F.plain_sum F.entry_sum (args_sum_start _ _) ?_
  unfold Builtin.«sum»
  simp only [List.length_cons, List.length_nil]
  rw [if_neg (by decide)]
  refine wpAny_bind (wpAny_of_eq (show Builtin.Builtins.bindParams "sum" ["start"] 0 ⟨[], [(Str.ofString "start", .int S0 ts)]⟩ = pure [some (.int S0 ts)] from rfl) ?_)
  refine wpAny_bind (wpAny_mono h (fun it s₂ h₂ => ?_) fun _ _ e => e)
  obtain ⟨I, fp, wr, n, P, St, val, rfl, W, hst, hfp, hval, hQ⟩ := h₂
  have rest : ∀ (tok : Tok) (stage : Int) (k : Nat), (stage = 0 ∨ stage = 2) → wpAny (model prog w) A.in1 (do
      let S ← newObj (.type "list") (.seq #[.int S0 tok])
      again (.builtin "sum.loop" ⟨[.ref I, S, rawInt stage, rawInt 0], []⟩)) (fun fin s' => match fin with
      | .done f => (match (Except.ok f : Result) with | .ok (.ret v) => Q v s' | .ok _ => False | .error e => E e s')
      | .again c' => c'.quiet = true ∧ codeAny (model prog w) A c' (fun r s' => match r with | .ok (.ret v) => Q v s' | .ok _ => False | .error e => E e s') s') E { s₂ with toks := k } := by
    intro tok stage k hst2
    refine wpAny_bind (wpAny_newObj_type ?_)
    have hSf : s₂.heap.objs.size ∉ fp := fun hm => Nat.lt_irrefl _ (hfp _ hm)
    refine wpAny_pure ⟨plainId_quiet F.plain_sum_loop _, codeAny_sum_loopG (SkW.Walks.later W S0) (latV val S0) (fun i v hp => match i, hp with | 0, hp => hp | i + 1, hp => hval i v hp) s₂.heap.objs.size hSf n 1 _ tok 0 stage hst2 (by omega) (by omega)
      (W.frame _ _ _ hst fun b _ o e => Heap.get?_push_of_some _ e) ?_ fun h' tk t' hk => ?_⟩
    · have e : preSum (latV val S0) 1 = S0 := by simp [preSum, latV]
      rw [e]
      exact Heap.get?_push_size _ rfl
    · rw [preSum_later]
      exact hQ h' tk t' fun b o hbw e => hk b o hbw (Nat.ne_of_lt (Heap.lt_size e)) (Heap.get?_push_of_some _ e)
  refine wpAny_ite_split (fun _ => ?_) (fun _ => ?_)
  · refine wpAny_bind (wpAny_rule (wpAny_bind (wpAny_mkInt ?_)))
    refine wpAny_bind (wpAny_pure ?_)
    simp only [List.forIn_cons, List.forIn_nil]
    refine wpAny_bind (wpAny_bind (wpAny_bind (wpAny_isInstance (T := "int") (b := false) (typeIs_int _ _ _) PySem.sub_int_str ?_)))
    simp only [Bool.false_eq_true, if_false]
    refine wpAny_pure (wpAny_bind (wpAny_bind (wpAny_isInstance (T := "int") (b := false) (typeIs_int _ _ _) sub_int_bytes ?_)))
    simp only [Bool.false_eq_true, if_false]
    refine wpAny_pure (wpAny_bind (wpAny_bind (wpAny_isInstance (T := "int") (b := false) (typeIs_int _ _ _) sub_int_bytearray ?_)))
    simp only [Bool.false_eq_true, if_false]
    refine wpAny_pure (wpAny_pure ?_)
    exact rest _ _ _ (Or.inl rfl)
  · refine wpAny_bind (wpAny_pure ?_)
    simp only [List.forIn_cons, List.forIn_nil]
    refine wpAny_bind (wpAny_bind (wpAny_bind (wpAny_isInstance (T := "int") (b := false) (typeIs_int _ _ _) PySem.sub_int_str ?_)))
    simp only [Bool.false_eq_true, if_false]
    refine wpAny_pure (wpAny_bind (wpAny_bind (wpAny_isInstance (T := "int") (b := false) (typeIs_int _ _ _) sub_int_bytes ?_)))
    simp only [Bool.false_eq_true, if_false]
    refine wpAny_pure (wpAny_bind (wpAny_bind (wpAny_isInstance (T := "int") (b := false) (typeIs_int _ _ _) sub_int_bytearray ?_)))
    simp only [Bool.false_eq_true, if_false]
    refine wpAny_pure (wpAny_pure ?_)
    exact rest _ _ _ (Or.inr rfl)
end
end SkW

set_option maxHeartbeats 4000000
/-! What loops walk; built-ins; lists, dicts and texts by their methods; all in value form. -/
namespace Dv
open PySem PySem.Spec PyProof.Rows L2 Sk
section
variable {K : PySem.W.Frag} {W : WX} {G : Gh} {L LL : List (Addr × Obj)} {env : Sls} {σ : L2.St} {F F' H H' : Hp} {p a b : Addr} {o : HO} {d x : D} {xs : List D} {vs : List V}
/-! ### what is walked -/
theorem seesL (r : R K G L env σ F H) (h : F a = some (.lst vs)) : H a = some (.lst vs) := r.sees.see _ _ h fun _ z => nomatch z
theorem seesT (r : R K G L env σ F H) (h : SqT K F a vs) : SqT K H a vs := r.sees.sqT h
theorem w9_list (hF : F a = some (.lst vs)) (h : IsL K F xs vs) : W9 K L LL F (Itl K a) xs := by
  refine ⟨fun H => SqL K H a vs, YAt vs, by rw [h.length]; exact walk_list, fun G env σ F2 H2 el r s => SqL.of (seesL r (s _ _ hF)), fun G i v env σ F2 H2 H3 el hi r s ⟨e, y⟩ => ?_⟩
  subst e
  obtain ⟨x, h1, h2⟩ := h.got y
  exact ⟨x, F2, h1, r, Same.refl F2, h2.mono s⟩
theorem w9_scr {ns : List Int} (hF : SqL K F a (ns.map V.int)) : W9 K L LL F (Itl K a) (ns.map D.int) := by
  refine ⟨fun H => SqL K H a (ns.map V.int), YAt (ns.map V.int), by rw [List.length_map, ← List.length_map (f := V.int)]; exact walk_list, fun G env σ F2 H2 el r s => ?_, fun G i v env σ F2 H2 H3 el hi r s ⟨e, y⟩ => ?_⟩
  · obtain ⟨b, e, h⟩ := Pk.scr r.sees (K := K) (v := .ref a) (.inl (.scr (s.seq hF)))
    cases e
    exact h
  · subst e
    rw [List.getElem?_map] at y
    cases q : ns[i]? with
    | none => rw [q] at y; cases y
    | some n =>
      rw [q] at y
      cases y
      exact ⟨.int n, F2, by rw [List.getElem?_map, q]; rfl, r, Same.refl F2, .int⟩
def diList (d : DE) : DI := fun X env Q => d X env fun x e => match x with
  | .lst xs => Q xs e
  | .scr ns => Q (ns.map D.int) e
  | _ => False
theorem simi_list {d : DE} {t : TE} (s : SimE K W d t) : SimI K W (diList d) (iList K t) := ⟨fun {G L env σ F H X9 Q9 Q} r h q x => s.run r h (fun y e v F1 H1 r1 s1 i1 h1 => by
  split at h1
  · cases i1 with
    | lst e1 i => exact ⟨_, rfl, ⟨_, SqL.of (seesL r1 e1)⟩, q _ e _ F1 H1 r1 s1 (w9_list e1 i) h1⟩
  · cases i1 with
    | scr e1 =>
      obtain ⟨b, e, h⟩ := Pk.scr r1.sees (K := K) (v := .ref _) (.inl (.scr e1))
      cases e
      exact ⟨_, rfl, ⟨_, h⟩, q _ _ _ F1 H1 r1 s1 (w9_scr e1) h1⟩
  · exact h1.elim) x⟩
theorem w9_tup (hF : SqT K F a vs) (h : IsL K F xs vs) : W9 K L LL F (Itt K a) xs := by
  refine ⟨fun H => SqT K H a vs, YAt vs, by rw [h.length]; exact walk_tup, fun G env σ F2 H2 el r s => seesT r (SqT.ext hF s), fun G i v env σ F2 H2 H3 el hi r s ⟨e, y⟩ => ?_⟩
  subst e
  obtain ⟨x, h1, h2⟩ := h.got y
  exact ⟨x, F2, h1, r, Same.refl F2, h2.mono s⟩
def diTup (d : DE) : DI := fun X env Q => d X env fun x e => match x with
  | .tup xs => Q xs e
  | _ => False
theorem simi_tup {d : DE} {t : TE} (s : SimE K W d t) : SimI K W (diTup d) (iTup K t) := ⟨fun {G L env σ F H X9 Q9 Q} r h q x => s.run r h (fun y e v F1 H1 r1 s1 i1 h1 => by
  split at h1
  · cases i1 with
    | tup e1 i => exact ⟨_, rfl, ⟨_, seesT r1 e1⟩, q _ e _ F1 H1 r1 s1 (w9_tup e1 i) h1⟩
  · exact h1.elim) x⟩
def rng9 (lo : Int) (n : Nat) : List D := (List.range n).map fun (i : Nat) => D.int (lo + (i : Int))
theorem w9_range {lo : Int} {n : Nat} : W9 K L LL F (Itr lo n) (rng9 lo n) := by
  have e : (rng9 lo n).length = n := by unfold rng9; rw [List.length_map, List.length_range]
  refine ⟨fun _ => True, YFn fun i => .int (lo + i), by rw [e]; exact walk_range, fun _ _ _ _ _ _ _ _ => trivial, fun G i v env σ F2 H2 H3 el hi r s ⟨e1, y⟩ => ?_⟩
  subst e1 y
  rw [e] at hi
  exact ⟨.int (lo + i), F2, by unfold rng9; rw [List.getElem?_map, List.getElem?_range hi]; rfl, r, Same.refl F2, .int⟩
def diRng1 (os : List Op9) : DI := fun X env Q => evs os X env fun ps e => match looks e ps with
  | some [.int j] => (-(2 ^ 62) ≤ j ∧ j < 2 ^ 62) ∧ Q (rng9 0 j.toNat) e
  | _ => False
theorem PkL.int1 {i : Int} (h : PkL K F H [.int i] vs) : vs = [.int i] := by
  cases h with
  | cons h t =>
    cases t
    rw [h.int]
theorem PkL.int2 {i j : Int} (h : PkL K F H [.int i, .int j] vs) : vs = [.int i, .int j] := by
  cases h with
  | cons h t =>
    rw [h.int, t.int1]
theorem simi_rng1 {os : List Op9} {t : TA} (so : SimOs K W os t) : SimI K W (diRng1 os) (iRng1 t) := ⟨fun {G L env σ F H X9 Q9 Q} r h q x => so.run x r h fun ps e vs F1 H1 r1 s1 p1 h1 => by
  split at h1
  · rename_i j ej
    have := (r1.pks p1 ej).int1
    subst this
    exact ⟨_, rfl, h1.1.1, h1.1.2, q _ e _ F1 H1 r1 s1 w9_range h1.2⟩
  · exact h1.elim⟩
def diRng2 (os : List Op9) : DI := fun X env Q => evs os X env fun ps e => match looks e ps with
  | some [.int i, .int j] => (-(2 ^ 62) ≤ i ∧ i < 2 ^ 62 ∧ -(2 ^ 62) ≤ j ∧ j < 2 ^ 62) ∧ Q (rng9 i (j - i).toNat) e
  | _ => False
theorem simi_rng2 {os : List Op9} {t : TA} (so : SimOs K W os t) : SimI K W (diRng2 os) (iRng2 t) := ⟨fun {G L env σ F H X9 Q9 Q} r h q x => so.run x r h fun ps e vs F1 H1 r1 s1 p1 h1 => by
  split at h1
  · rename_i j ej
    have := (r1.pks p1 ej).int2
    subst this
    exact ⟨_, _, rfl, h1.1, q _ e _ F1 H1 r1 s1 w9_range h1.2⟩
  · exact h1.elim⟩
/-- the signs of a text -/
def signs9 (z : Str) : List D := z.cps.toList.map fun c => D.str ⟨#[c]⟩
theorem w9_str {z : Str} : W9 K L LL F (Its z) (signs9 z) := by
  have e : (signs9 z).length = z.cps.size := by unfold signs9; rw [List.length_map]; simp
  refine ⟨fun _ => True, _, by rw [e]; exact walk_str, fun _ _ _ _ _ _ _ _ => trivial, fun G i v env σ F2 H2 H3 el hi r s yy => ?_⟩
  obtain ⟨e1, c, hc, y⟩ := yy
  subst e1 y
  exact ⟨.str ⟨#[c]⟩, F2, by unfold signs9; rw [List.getElem?_map, Array.getElem?_toList, hc]; rfl, r, Same.refl F2, .str⟩
def diStr (d : DE) : DI := fun X env Q => d X env fun x e => match x with
  | .str z => Q (signs9 z) e
  | _ => False
theorem simi_str {d : DE} {t : TE} (s : SimE K W d t) : SimI K W (diStr d) (iStr t) := ⟨fun {G L env σ F H X9 Q9 Q} r h q x => s.run r h (fun y e v F1 H1 r1 s1 i1 h1 => by
  split at h1
  · exact ⟨_, i1.ofS, q _ e _ F1 H1 r1 s1 w9_str h1⟩
  · exact h1.elim) x⟩
/-- a new pair at each turn -/
theorem pair_new {T : Addr} {x y : V} {dx dy : D} (r : R K G L env σ F H) (hT : H T = none) (h1 : Is K F dx x) (h2 : Is K F dy y) : ∃ F3, R K G L env σ F3 (upd H T (.tup [x, y])) ∧ Same F F3 ∧ Is K F3 (.tup [dx, dy]) (.ref T) := by
  have sm := same_upd (o := HO.tup [x, y]) (r.free hT)
  exact ⟨_, r.newK hT _, sm, .tup (SqT.of upd_same) (.cons (h1.mono sm) (.cons (h2.mono sm) .nil))⟩
def enum9 : Nat → List D → List D
  | _, [] => []
  | n, x :: xs => .tup [.int n, x] :: enum9 (n + 1) xs
theorem enum9_len : ∀ (n : Nat) (xs : List D), (enum9 n xs).length = xs.length
  | _, [] => rfl
  | n, _ :: xs => by simp [enum9, enum9_len]
theorem enum9_get : ∀ {xs : List D} {n i : Nat} {x : D}, xs[i]? = some x → (enum9 n xs)[i]? = some (.tup [.int ((n + i : Nat) : Int), x])
  | [], _, _, _, h => by simp at h
  | y :: xs, n, 0, x, h => by simp at h; subst h; rfl
  | y :: xs, n, i + 1, x, h => by
    have := enum9_get (n := n + 1) (by simpa using h)
    rw [show n + 1 + i = n + (i + 1) by omega] at this
    simpa [enum9] using this
theorem w9_enum (hF : F a = some (.lst vs)) (h : IsL K F xs vs) : W9 K L LL F (Ite K a) (enum9 0 xs) := by
  refine ⟨fun H => SqL K H a vs, _, by rw [enum9_len, h.length]; exact walk_enum, fun G env σ F2 H2 el r s => SqL.of (seesL r (s _ _ hF)), fun G i v env σ F2 H2 H3 el hi r s yy => ?_⟩
  obtain ⟨T, x, y, e1, e2, e3, e4, e5⟩ := yy
  subst e1 e3
  cases e4
  obtain ⟨d, h1, h2⟩ := h.got e5
  obtain ⟨F3, r3, s3, i3⟩ := pair_new r e2 (dx := .int (i : Nat)) .int (h2.mono s)
  exact ⟨_, F3, enum9_get h1, r3, s3, by rw [Nat.zero_add]; exact i3⟩
def diEnum (d : DE) : DI := fun X env Q => d X env fun x e => match x with
  | .lst xs => Q (enum9 0 xs) e
  | _ => False
theorem simi_enum {d : DE} {t : TE} (s : SimE K W d t) : SimI K W (diEnum d) (iEnum K (tCons t tNil)) := ⟨fun {G L env σ F H X9 Q9 Q} r h q x => s.run r h (fun y e v F1 H1 r1 s1 i1 h1 => by
  split at h1
  · cases i1 with
    | lst e1 i => exact ⟨_, _, rfl, SqL.of (seesL r1 e1), q _ e _ F1 H1 r1 s1 (w9_enum e1 i) h1⟩
  · exact h1.elim) x⟩
def zip9 : List D → List D → List D
  | x :: xs, y :: ys => .tup [x, y] :: zip9 xs ys
  | _, _ => []
theorem zip9_len : ∀ (xs ys : List D), (zip9 xs ys).length = min xs.length ys.length
  | [], ys => by simp [zip9]
  | _ :: _, [] => by simp [zip9]
  | _ :: xs, _ :: ys => by simp [zip9, zip9_len xs ys]
theorem zip9_get : ∀ {xs ys : List D} {i : Nat} {x y : D}, xs[i]? = some x → ys[i]? = some y → (zip9 xs ys)[i]? = some (.tup [x, y])
  | [], _, _, _, _, h, _ => by simp at h
  | _ :: _, [], _, _, _, _, h => by simp at h
  | _ :: xs, _ :: ys, 0, x, y, h1, h2 => by simp at h1 h2; subst h1 h2; rfl
  | _ :: xs, _ :: ys, i + 1, x, y, h1, h2 => by
    have := zip9_get (xs := xs) (ys := ys) (i := i) (by simpa using h1) (by simpa using h2)
    simpa [zip9] using this
/-! dicts: items, keys, values, while the dict is locked -/
def keyD (k : Key) : D := match k with
  | .inl i => .int i
  | .inr z => .str z
theorem IsK.gets : ∀ {kvs : List (Key × D)} {ws : List (Key × V)} {i : Nat} {k : Key} {v : V}, IsK K F kvs ws → ws[i]? = some (k, v) → ∃ x, kvs[i]? = some (k, x) ∧ Is K F x v
  | _, _, _, _, _, .nil, e => by simp at e
  | _, _, 0, _, _, .cons h _, e => by simp at e; obtain ⟨rfl, rfl⟩ := e; exact ⟨_, rfl, h⟩
  | _, _, i + 1, _, _, .cons _ t, e => by
    obtain ⟨x, h1, h2⟩ := IsK.gets (i := i) t (by simpa using e)
    exact ⟨x, by simpa using h1, h2⟩
theorem w9_items {ws : List (Key × V)} {kvs : List (Key × D)} {od : Obj} (hF : F a = some (.dK ws)) (h : IsK K F kvs ws) (hL : (a, od) ∈ L ++ LL) : W9 K L LL F (Iti a od ws) (kvs.map fun kv => .tup [keyD kv.1, kv.2]) := by
  refine ⟨fun H => H a = some (.frz od (.dK ws)), _, by rw [List.length_map, h.length]; exact walk_items, fun G env σ F2 H2 el r s => ?_, fun G i v env σ F2 H2 H3 el hi r s yy => ?_⟩
  · obtain ⟨ws', e1, e2⟩ := r.lk (a, od) (by rw [el]; exact hL)
    have e1 : F2 a = some (.dK ws') := e1
    rw [s _ _ hF] at e1
    cases e1
    exact e2
  · obtain ⟨T, x, y, e1, e2, e3, e4, e5⟩ := yy
    subst e1 e3
    have e4 : (ws[i]?.map fun kv => kV kv.1) = some x := e4
    have e5 : ws[i]?.map Prod.snd = some y := e5
    cases q : ws[i]? with
    | none => rw [q] at e4; cases e4
    | some kv =>
      obtain ⟨k, u⟩ := kv
      rw [q] at e4 e5
      cases e4
      cases e5
      obtain ⟨z, h1, h2⟩ := h.gets q
      cases k with
      | inl n =>
        obtain ⟨F3, r3, s3, i3⟩ := pair_new r e2 (x := .int n) (dx := .int n) .int (h2.mono s)
        exact ⟨_, F3, by rw [List.getElem?_map, h1]; rfl, r3, s3, i3⟩
      | inr n =>
        obtain ⟨F3, r3, s3, i3⟩ := pair_new r e2 (x := .str n) (dx := .str n) .str (h2.mono s)
        exact ⟨_, F3, by rw [List.getElem?_map, h1]; rfl, r3, s3, i3⟩
theorem is_key (k : Key) : Is K F (keyD k) (kV k) := by
  cases k with
  | inl i => exact .int
  | inr z => exact .str
theorem w9_keys {ws : List (Key × V)} {kvs : List (Key × D)} {od : Obj} (hF : F a = some (.dK ws)) (h : IsK K F kvs ws) (hL : (a, od) ∈ L ++ LL) : W9 K L LL F (Itk a od ws) (kvs.map fun kv => keyD kv.1) := by
  refine ⟨fun H => H a = some (.frz od (.dK ws)), _, by rw [List.length_map, h.length]; exact walk_keys, fun G env σ F2 H2 el r s => ?_, fun G i v env σ F2 H2 H3 el hi r s yy => ?_⟩
  · obtain ⟨ws', e1, e2⟩ := r.lk (a, od) (by rw [el]; exact hL)
    have e1 : F2 a = some (.dK ws') := e1
    rw [s _ _ hF] at e1
    cases e1
    exact e2
  · obtain ⟨e1, k, u, e2, e3⟩ := yy
    subst e1 e3
    obtain ⟨z, h1, h2⟩ := h.gets e2
    exact ⟨keyD k, F2, by rw [List.getElem?_map, h1]; rfl, r, Same.refl F2, is_key k⟩
theorem w9_values {ws : List (Key × V)} {kvs : List (Key × D)} {od : Obj} (hF : F a = some (.dK ws)) (h : IsK K F kvs ws) (hL : (a, od) ∈ L ++ LL) : W9 K L LL F (Itd a od ws) (kvs.map fun kv => kv.2) := by
  refine ⟨fun H => H a = some (.frz od (.dK ws)), _, by rw [List.length_map, h.length]; exact walk_values, fun G env σ F2 H2 el r s => ?_, fun G i v env σ F2 H2 H3 el hi r s yy => ?_⟩
  · obtain ⟨ws', e1, e2⟩ := r.lk (a, od) (by rw [el]; exact hL)
    have e1 : F2 a = some (.dK ws') := e1
    rw [s _ _ hF] at e1
    cases e1
    exact e2
  · obtain ⟨e1, k, e2⟩ := yy
    subst e1
    obtain ⟨z, h1, h2⟩ := h.gets e2
    exact ⟨z, F2, by rw [List.getElem?_map, h1]; rfl, r, Same.refl F2, h2.mono s⟩
/-- where a dict stands that is walked: a name, or a field of one -/
inductive Pl9 where
  | s (i : Nat) | fd (c f : Str) (i : Nat)
def Pl9.at (env : Sls) : Pl9 → Option D
  | .s i => match env[i]? with
    | some (.im d) => some d
    | _ => none
  | .fd c f i => match look9 env (.inr i) with
    | some (.obj c' fs) => if c' = c then fs.lookup f else none
    | _ => none
/-- the reading of the place gives just that dict, at any later heap -/
structure SimP (K : PySem.W.Frag) (p : Pl9) (t : TE) : Prop where
  run : ∀ {G : Gh} {L : List (Addr × Obj)} {env : Sls} {σ : L2.St} {F H : Hp} {kvs : List (Key × D)}, R K G L env σ F H → p.at env = some (.dic kvs) → ∃ a ws, F a = some (.dK ws) ∧ IsK K F kvs ws ∧
    ∀ H', (∀ b o, b ≠ a → H b = some o → H' b = some o) → ∀ Q : VK, Q (.ref a) H' → t σ H' Q
theorem simp_s (i : Nat) : SimP K (.s i) (tVar i) := ⟨fun {G L env σ F H kvs} r e => by
  have e : (match env[i]? with
    | some (.im d) => some d
    | _ => none) = some (.dic kvs) := e
  split at e
  · rename_i d ed
    cases e
    obtain ⟨v, h1, h2⟩ := r.im i _ ed
    cases h2 with
    | dic h2 h3 => exact ⟨_, _, h2, h3, fun H' _ Q q => ⟨_, h1, q⟩⟩
  · cases e⟩
theorem simp_f {c f : Str} {i : Nat} (cl : Cls K (He.ga K c)) (na : NoAttr K (He.ga K c) f) : SimP K (.fd c f i) (tFld K (tVar i) f) := ⟨fun {G L env σ F H kvs} r e0 => by
  have e : (match look9 env (.inr i) with
    | some (.obj c' fs) => if c' = c then fs.lookup f else none
    | _ => none) = some (.dic kvs) := e0
  clear e0
  split at e
  · rename_i c' fs ed
    split at e
    · rename_i ec
      subst ec
      have hs : ∃ v, σ[i]? = some (some v) := by
        rcases look_slot ed with q | ⟨m, d9, q, _⟩
        · obtain ⟨v, h1, _⟩ := r.im i _ q
          exact ⟨v, h1⟩
        · obtain ⟨a, h1, _⟩ := r.ow i _ _ q
          exact ⟨_, h1⟩
      obtain ⟨v, hv⟩ := hs
      obtain ⟨a, dx, ws, rfl, ha, hw⟩ := (r.pk (p := .inr i) hv ed).obj r.sees
      obtain ⟨u, hu, hi⟩ := hw.lookup e
      cases hi with
      | dic h2 h3 =>
        rename_i b ks
        have hb : ∃ w, H b = some w ∧ ∀ fs', w ≠ .ins (He.ga K c') dx fs' := by
          rcases r.see _ _ h2 with q | ⟨ob, _, q⟩
          · exact ⟨_, q, fun _ z => nomatch z⟩
          · exact ⟨_, q, fun _ z => nomatch z⟩
        have n : a ≠ b := fun z => by
          obtain ⟨w, hw1, hw2⟩ := hb
          rw [← z, ha] at hw1
          cases hw1
          exact hw2 _ rfl
        exact ⟨b, ks, h2, h3, fun H' k Q q => ⟨_, hv, a, _, dx, ws, _, rfl, k a _ n ha, cl, na, hu, q⟩⟩
    · cases e
  · cases e⟩
end
end Dv

set_option maxHeartbeats 4000000
/-! Locks, dicts, lists by their methods, built-ins, texts; in value form. -/
namespace Dv
open PySem PySem.Spec PyProof.Rows L2 Sk
section
variable {K : PySem.W.Frag} {W : WX} {G : Gh} {L LL : List (Addr × Obj)} {env : Sls} {σ : L2.St} {F F' H H' : Hp} {p a b : Addr} {o : HO} {d x : D} {xs : List D} {vs : List V} {fr : Bool}
/-! ### loops over dicts -/
def frzAt (L : List (Addr × Obj)) (a : Addr) (od : Obj) : List (Addr × Obj) := (a, od) :: L
/-- the way of a walk over a dict: items, keys, values -/
inductive Dw where
  | items | keys | values
def Dw.of : Dw → List (Key × D) → List D
  | .items, kvs => kvs.map fun kv => .tup [keyD kv.1, kv.2]
  | .keys, kvs => kvs.map fun kv => keyD kv.1
  | .values, kvs => kvs.map fun kv => kv.2
/-- the reading of a walk over the locked dict at a -/
structure SimD (K : PySem.W.Frag) (w : Dw) (p : Pl9) (wi : TI) : Prop where
  run : ∀ {G : Gh} {L : List (Addr × Obj)} {env : Sls} {σ : L2.St} {F H : Hp} {kvs : List (Key × D)}, R K G L env σ F H → p.at env = some (.dic kvs) → ∃ a ws, F a = some (.dK ws) ∧ IsK K F kvs ws ∧
    ∀ od H', (∀ b o, b ≠ a → H b = some o → H' b = some o) → H' a = some (.frz od (.dK ws)) → ∀ Q : It → Hp → Prop, (∀ J, (∀ L' l0, (a, od) ∈ L' ++ l0 → W9 K L' l0 F J (w.of kvs)) → Q J H') → wi σ H' Q
theorem simd_items {p : Pl9} {t : TE} (s : SimP K p t) : SimD K .items p (iItems t) := ⟨fun {G L env σ F H kvs} r e => by
  obtain ⟨a, ws, h1, h2, h3⟩ := s.run r e
  exact ⟨a, ws, h1, h2, fun od H' k ha Q q => h3 H' k _ ⟨a, od, ws, rfl, ha, q _ fun L' l0 m => w9_items h1 h2 m⟩⟩⟩
theorem simd_keys {p : Pl9} {t : TE} (s : SimP K p t) : SimD K .keys p (iKeys t) := ⟨fun {G L env σ F H kvs} r e => by
  obtain ⟨a, ws, h1, h2, h3⟩ := s.run r e
  exact ⟨a, ws, h1, h2, fun od H' k ha Q q => h3 H' k _ ⟨a, od, rfl, .inl ⟨ws, ha, q _ fun L' l0 m => w9_keys h1 h2 m⟩⟩⟩⟩
theorem simd_values {p : Pl9} {t : TE} (s : SimP K p t) : SimD K .values p (iVals t) := ⟨fun {G L env σ F H kvs} r e => by
  obtain ⟨a, ws, h1, h2, h3⟩ := s.run r e
  exact ⟨a, ws, h1, h2, fun od H' k ha Q q => h3 H' k _ ⟨a, od, ws, rfl, ha, q _ fun L' l0 m => w9_values h1 h2 m⟩⟩⟩
/-- the dict of a slot is known from here on, before it is walked -/
def froz (env : Sls) (i : Nat) : Sls := match env[i]? with
  | some (.ow false d) => env.set i (.im d)
  | _ => env
def dForD (w : Dw) (p : Pl9) (g : DG) (b : DS) : DS := fun X E env => match p.at env with
  | some (.dic kvs) => forL g b X E (w.of kvs) env
  | _ => False
/-- a dict that is walked: locked here, or locked already -/
def tLockA (t : TS) : TS := fun D σ H => tLock t D σ H ∨ t D σ H
def tLockEA (t : TE) : TE := fun σ H Q => tLockE t σ H Q ∨ t σ H Q
theorem ps_lockA {X : Cx} {st : Stmt} {t : TS} (h : PS X st t) : PS X st (tLockA t) := ⟨fun pins s σ H D I q => q.elim (fun q => (ps_lock h).run pins s σ H D I q) fun q => h.run pins s σ H D I q⟩
theorem pe_lockA {X : Cx} {e : Expr} {t : TE} (h : PE X e t) : PE X e (tLockEA t) := ⟨fun pins s σ H D I q => q.elim (fun q => (pe_lock h).run pins s σ H D I q) fun q => h.run pins s σ H D I q⟩
theorem R.locked (r : R K G L env σ F H) {ws : List (Key × V)} (h : F a = some (.dK ws)) : H a = some (.dK ws) ∨ ∃ od, (a, od) ∈ L ++ G.L0 ∧ H a = some (.frz od (.dK ws)) := r.see _ _ h
theorem Fresh.unl {ws : List (Key × V)} (f : Fresh K G env σ F H x b) (h : F a = some (.dK ws)) : Fresh K G env σ F (L2.upd H a (.dK ws)) x b := by
  have nb : b ≠ a := fun z => by
    have := f.f
    rw [z, h] at this
    cases this
  exact ⟨f.f, f.h0, f.has.mono (Same.refl _) fun o ho => by rw [upd_ne nb]; exact ho, f.nm, f.sep, f.ext⟩
theorem forL_step {A B : List (Addr × Obj)} {xs : List D} {F0 : Hp} {X9 : XK9} {E : E9} {D : Ends} {J : It} {g : DG} {b : DS} {tg : TG} {t : TS} {gs : List Nat} (w9 : W9 K L G.L0 F0 J xs) (sg : SimG K gs g tg) (sb : SimS K W fr b t) (r : R K G L env σ F0 H) (h : forL g b X9 E xs env)
    (q : Ends9 K G L fr F0 E D) (x : ∀ e env' σ' c dd F' H', R K G L env' σ' F' H' → XR K F' H' e c dd → X9 e env' → W c dd σ' H') :
    ∃ W : Nat → Nat → L2.St → Hp → Prop, (∃ m, W 0 m σ H) ∧ ∀ i m σ H, W i m σ H →
      (J.stop i H ∧ D.nx σ H) ∨ (J.go i H ∧ ∃ N : L2.St → Hp → Prop, (∀ σ' H', N σ' H' → ∃ m', m' < m ∧ W (i + 1) m' σ' H') ∧ ∀ x H', J.yld i H x H' → tg x σ H' fun σ2 H2 => t { D with nx := N, ct := N, bk := D.nx } σ2 H2) := by
  obtain ⟨Gd, Y, wk, hG, hY⟩ := w9
  refine for_it wk (fun i σ H => ∃ env F2, R K G L env σ F2 H ∧ Same F0 F2 ∧ forL g b X9 E (xs.drop i) env) ⟨env, F0, r, Same.refl F0, h⟩ (fun i σ H _ ⟨env, F2, r, s, _⟩ => hG G env σ F2 H rfl r s) (fun i v σ H H3 hi ⟨env, F2, r, s, k⟩ y => ?_) (fun σ H ⟨env, F2, r, s, k⟩ => ?_)
  · obtain ⟨x0, F3, ex, r3, s3, i3⟩ := hY G i v env σ F2 H H3 rfl hi r s y
    have ed : xs.drop i = x0 :: xs.drop (i + 1) := by
      rw [List.drop_eq_getElem_cons hi]
      have := List.getElem?_eq_getElem hi
      rw [ex] at this
      cases this
      rfl
    rw [ed] at k
    refine sg.run r3 i3 k fun e2 σ2 F4 H2 r2 s2 _ k2 => ?_
    have s4 : Same F0 F4 := (s.trans s3).trans s2
    have q2 := q.mono s4
    exact sb.run r2 k2 ⟨fun e4 σ4 F5 H4 r4 s5 k4 => ⟨e4, F5, r4, s4.trans s5, k4⟩, q2.rt, q2.nx, fun e4 σ4 F5 H4 r4 s5 k4 => ⟨e4, F5, r4, s4.trans s5, k4⟩⟩ x
  · rw [List.drop_length] at k
    exact q.nx env σ F2 _ r s k
theorem XR.unl {e : D} {c : Value} {dd : Option Addr} {H2 : Hp} (h : XR K F H e c dd) : XR K F H2 e c dd := h
/-- a loop over a dict -/
theorem sim_forD {w : Dw} {p : Pl9} {gs : List Nat} {g : DG} {b : DS} {wi : TI} {tg : TG} {t : TS} (sd : SimD K w p wi) (sg : SimG K gs g tg) (sb : SimS K W0 fr b t) : SimS K W0 fr (dForD w p g b) (tLockA (tFor wi tg t)) := ⟨fun {G L env σ F H X9 E D} r h q x => by
  unfold dForD at h
  split at h
  · rename_i kvs ek
    obtain ⟨a, ws, hF, hk, run⟩ := sd.run r ek
    rcases r.locked hF with hH | ⟨od, hm, hH⟩
    · refine .inl ⟨a, .dK ws, hH, trivial, fun od => ?_⟩
      obtain ⟨r1, nl⟩ := r.lock (od := od) hF hH
      refine run od _ (fun b o n e => by rw [upd_ne n]; exact e) upd_same _ fun J w9 => ?_
      refine forL_step (w9 ((a, od) :: L) G.L0 (by simp)) sg sb r1 h ⟨fun e5 σ5 F5 H5 r5 s5 k5 => ?_, fun y e5 σ5 F5 H5 v5 r5 s5 hv k5 => ?_, fun e5 σ5 F5 H5 r5 s5 k5 => ?_, fun e5 σ5 F5 H5 r5 s5 k5 => ?_⟩ (fun e env' σ' c dd F' H' r5 hx k => ?_) (A := []) (B := [])
      · obtain ⟨u1, u2⟩ := r5.unlock (s5 _ _ hF) nl
        exact ⟨u1, q.nx e5 σ5 F5 _ u2 s5 k5⟩
      · obtain ⟨u1, u2⟩ := r5.unlock (s5 _ _ hF) nl
        refine ⟨u1, q.rt y e5 σ5 F5 _ v5 u2 s5 ?_ k5⟩
        split at hv
        · rename_i hf
          rw [if_pos hf]
          obtain ⟨b, e, f⟩ := hv
          exact ⟨b, e, f.unl (s5 _ _ hF)⟩
        · rename_i hf
          rw [if_neg hf]
          exact hv
      · obtain ⟨u1, u2⟩ := r5.unlock (s5 _ _ hF) nl
        exact ⟨u1, q.bk e5 σ5 F5 _ u2 s5 k5⟩
      · obtain ⟨u1, u2⟩ := r5.unlock (s5 _ _ hF) nl
        exact ⟨u1, q.ct e5 σ5 F5 _ u2 s5 k5⟩
      · obtain ⟨ws', e1, e2⟩ := r5.lk (a, od) (by simp)
        obtain ⟨u1, u2⟩ := r5.unlock e1 nl
        exact (show False from x e env' σ' c dd F' (L2.upd H' a (.dK ws')) u2 hx.unl k).elim
    · exact .inr (run od H (fun b o n e => e) hH _ fun J w9 => forL_step (w9 L G.L0 hm) sg sb r h q x (A := []) (B := []))
  · exact h.elim⟩
/-! a comprehension over a dict -/
def dLcD (w : Dw) (p : Pl9) (g : DG) (c : DT) (el : DE) (gs : List Nat) : DE := fun X env Q => match p.at env with
  | some (.dic kvs) => lcL g c el gs (fun acc e' => Q (.lst acc) e') (w.of kvs) [] (wipe9 env gs)
  | _ => False
theorem lc_step {xs : List D} {F0 H1 : Hp} {J : It} {g : DG} {c : DT} {el : DE} {gs : List Nat} {tg : TG} {tt : TT} {te : TE} {DD : Addr} {Qc : List D → Sls → Prop} {Q : VK} (w9 : W9 K L G.L0 F0 J xs) (sg : SimG K gs g tg) (sc : SimT K W0 c tt) (se : SimE K W0 el te) (r1 : R K G L env σ F0 H1) (hD : H1 DD = none)
    (k1 : lcL g c el gs Qc xs [] (wipe9 env gs)) (q : ∀ acc e F H, R K G L e σ F H → Same F0 F → Fresh K G e σ F H (.lst acc) DD → Qc acc e → Q (.ref DD) H) :
    ∃ W : Nat → Nat → Hp → Prop, (∃ m, W 0 m (upd H1 DD (.lst []))) ∧ ∀ i m H, W i m H →
      (J.stop i H ∧ Q (.ref DD) H) ∨ (J.go i H ∧ ∃ Nx : Hp → Prop, (∀ H', Nx H' → ∃ m', m' < m ∧ W (i + 1) m' H') ∧ ∀ x H', J.yld i H x H' → tg x (wipe σ gs) H' fun σ2 H2 => wipe σ2 gs = wipe σ gs ∧ tt σ2 H2 fun b H3 =>
        if b = true then te σ2 H3 fun y H4 => ∃ acc, H4 DD = some (.lst acc) ∧ acc.length < sizeLine ∧ Nx (upd H4 DD (.lst (acc ++ [y]))) else Nx H3) := by
  obtain ⟨Gd, Y, wk, hG, hY⟩ := w9
  have f1 := r1.fresh (x := .lst []) hD (Has.mkL upd_same .nil)
  have r2 := r1.new hD (.lst [])
  refine lc_it wk (fun i H => ∃ e F acc, R K G L (wipe9 e gs) (wipe σ gs) F H ∧ Same F0 F ∧ Fresh K G (wipe9 e gs) (wipe σ gs) F H (.lst acc) DD ∧ lcL g c el gs Qc (xs.drop i) acc (wipe9 e gs))
    ⟨env, F0, [], r2.wiped gs, Same.refl F0, f1.wiped gs, k1⟩ (fun i H _ ⟨e, F, acc, r, s, _, _⟩ => hG G _ _ F H rfl r s) (fun i v H H3 hi ⟨e, F, acc, r, s, f, k⟩ y => ?_) (fun H ⟨e, F, acc, r, s, f, k⟩ => ?_)
  · have h0 := f.h0
    have nx := f.ext
    obtain ⟨ws, hw, iw⟩ := f.has
    have rp := r.plus f hw
    obtain ⟨x0, F3, ex, r3, s3, i3⟩ := hY (G.plus (DD, .lst ws)) i v _ _ F H H3 rfl hi rp s y
    have ed : xs.drop i = x0 :: xs.drop (i + 1) := by
      rw [List.drop_eq_getElem_cons hi]
      have := List.getElem?_eq_getElem hi
      rw [ex] at this
      cases this
      rfl
    rw [ed] at k
    refine sg.run r3 i3 k fun e2 σ2 F2 H2 r2 s2 w2 k2 => ?_
    have w2 := w2.trans wipe_wipe
    refine ⟨w2, ?_⟩
    refine sc.run r2 k2 (fun b e4 F4 H4 r4 s4 k4 => ?_) (fun _ _ _ _ _ _ _ _ z => z)
    cases b with
    | true =>
      refine iteT (se.run r4 k4 (fun y5 e5 v5 F5 H5 r5 s5 i5 k5 => ?_) (fun _ _ _ _ _ _ _ _ z => z))
      obtain ⟨r6, hD6, fr6⟩ := r5.minus (show G.H0 DD = none from h0) nx
      have sm : Same F F5 := (((s3.trans s2).trans s4).trans s5)
      have iw6 := iw.mono sm
      have f6 := fr6 (.lst acc) (Has.mkL hD6 iw6)
      have r7 := (r6.updF f6 (.lst (ws ++ [v5])))
      have f7 : Fresh K G e5 σ2 F5 (upd H5 DD (.lst (ws ++ [v5]))) (.lst (acc ++ [y5])) DD := f6.upd (Has.mkL upd_same (iw6.append (.cons i5 .nil)))
      refine ⟨ws, hD6, by rw [sizeLine_eq, ← iw.length]; exact k5.1, e5, F5, acc ++ [y5], ?_, s.trans sm, ?_, k5.2⟩
      · have := r7.wiped gs
        rw [w2] at this
        exact this
      · have := f7.wiped gs
        rw [w2] at this
        exact this
    | false =>
      refine iteF ?_
      obtain ⟨r6, hD6, fr6⟩ := r4.minus (show G.H0 DD = none from h0) nx
      have sm : Same F F4 := ((s3.trans s2).trans s4)
      have f6 := fr6 (.lst acc) (Has.mkL hD6 (iw.mono sm))
      refine ⟨e4, F4, acc, ?_, s.trans sm, ?_, k4⟩
      · have := r6.wiped gs
        rw [w2] at this
        exact this
      · have := f6.wiped gs
        rw [w2] at this
        exact this
  · rw [List.drop_length] at k
    exact q acc _ F H r.unwipe s f.unwipe k
theorem sim_lcD {w : Dw} {p : Pl9} {gs : List Nat} {g : DG} {c : DT} {el : DE} {wi : TI} {tg : TG} {tt : TT} {te : TE} (sd : SimD K w p wi) (sg : SimG K gs g tg) (sc : SimT K W0 c tt) (se : SimE K W0 el te) : SimF K W (dLcD w p g c el gs) (tLockEA (tLc wi tg tt te gs)) := ⟨fun {G L env σ F H X9 Q9 Q} r h q x => by
  unfold dLcD at h
  split at h
  · rename_i kvs ek
    obtain ⟨a, ws, hF, hk, run⟩ := sd.run r ek
    rcases r.locked hF with hH | ⟨od, hm, hH⟩
    · refine .inl ⟨a, .dK ws, hH, trivial, fun od => ?_⟩
      obtain ⟨r1, nl⟩ := r.lock (od := od) hF hH
      refine run od _ (fun b o n e => by rw [upd_ne n]; exact e) upd_same _ fun J w9 DD hD => ?_
      refine lc_step (Q := fun v H' => H' a = some (.frz od (.dK ws)) ∧ Q v (L2.upd H' a (.dK ws))) (w9 ((a, od) :: L) G.L0 (by simp)) sg sc se r1 hD h fun acc e5 F5 H5 r5 s5 f5 k5 => ?_
      obtain ⟨u1, u2⟩ := r5.unlock (s5 _ _ hF) nl
      exact ⟨u1, q _ e5 DD F5 _ u2 s5 (f5.unl (s5 _ _ hF)) k5⟩
    · exact .inr (run od H (fun b o n e => e) hH _ fun J w9 DD hD => lc_step (w9 L G.L0 hm) sg sc se r hD h fun acc e5 F5 H5 r5 s5 f5 k5 => q _ e5 DD F5 H5 r5 s5 f5 k5)
  · exact h.elim⟩
/-! ### dicts -/
def keyOf : D → Option Key
  | .int i => some (.inl i)
  | .str z => some (.inr z)
  | _ => none
theorem keyOf_ok {v : V} {k : Key} (h : Pk K F H x v) (e : keyOf x = some k) : v = kV k := by
  cases x with
  | int i => cases e; rw [h.int]; rfl
  | str z => cases e; rw [h.str]; rfl
  | _ => cases e
def valD (kvs : List (Key × D)) (k : Key) : Option D := (kvs.find? fun kv => decide (kv.1 = k)).map (·.2)
def putD (kvs : List (Key × D)) (k : Key) (v : D) : List (Key × D) := if (kvs.any fun kv => decide (kv.1 = k)) = true then kvs.map (fun kv => if kv.1 = k then (kv.1, v) else kv) else kvs ++ [(k, v)]
def dropD (kvs : List (Key × D)) (k : Key) : List (Key × D) := kvs.filter fun kv => decide (kv.1 ≠ k)
theorem IsK.val {k : Key} : ∀ {kvs : List (Key × D)} {ws : List (Key × V)}, IsK K F kvs ws → (∀ x, valD kvs k = some x → ∃ v, valV ws k = some v ∧ Is K F x v) ∧ (valD kvs k = none → valV ws k = none)
  | _, _, .nil => ⟨(fun x e => nomatch e), fun _ => rfl⟩
  | _, _, .cons (k := k') (xs := xs) (vs := vs) h t => by
    by_cases e : k' = k
    · subst e
      exact ⟨fun x q => by
        simp [valD] at q
        subst q
        exact ⟨_, by simp [valV], h⟩, fun q => by simp [valD] at q⟩
    · have i := IsK.val (k := k) t
      have e1 : ∀ y : D, valD ((k', y) :: xs) k = valD xs k := fun y => by simp [valD, e]
      have e2 : ∀ y : V, valV ((k', y) :: vs) k = valV vs k := fun y => valV_neg e
      rw [e1, e2]
      exact i
theorem IsK.any {k : Key} : ∀ {kvs : List (Key × D)} {ws : List (Key × V)}, IsK K F kvs ws → (ws.any fun kv => decide (kv.1 = k)) = kvs.any fun kv => decide (kv.1 = k)
  | _, _, .nil => rfl
  | _, _, .cons h t => by simp only [List.any_cons, IsK.any t]
theorem IsK.append : ∀ {kvs ls : List (Key × D)} {ws us : List (Key × V)}, IsK K F kvs ws → IsK K F ls us → IsK K F (kvs ++ ls) (ws ++ us)
  | _, _, _, _, .nil, h => h
  | _, _, _, _, .cons h t, g => .cons h (IsK.append t g)
theorem IsK.put {k : Key} {v : V} (hv : Is K F x v) {kvs : List (Key × D)} {ws : List (Key × V)} (h : IsK K F kvs ws) : IsK K F (putD kvs k x) (putK ws k v) := by
  have key : ∀ {kvs : List (Key × D)} {ws : List (Key × V)}, IsK K F kvs ws → IsK K F (kvs.map fun kv => if kv.1 = k then (kv.1, x) else kv) (ws.map fun kv => if kv.1 = k then (kv.1, v) else kv) := by
    intro kvs
    induction kvs with
    | nil => intro ws h; cases h; exact .nil
    | cons kv r ih =>
      intro ws h
      cases h with
      | cons h t =>
        rename_i k' _ _ _
        by_cases e : k' = k
        · simp only [List.map_cons, if_pos e]
          exact .cons hv (ih t)
        · simp only [List.map_cons, if_neg e]
          exact .cons h (ih t)
  unfold putD putK
  rw [h.any]
  split
  · exact key h
  · exact h.append (.cons hv .nil)
theorem IsK.drop {k : Key} : ∀ {kvs : List (Key × D)} {ws : List (Key × V)}, IsK K F kvs ws → IsK K F (dropD kvs k) (dropK ws k)
  | _, _, .nil => .nil
  | _, _, .cons (k := k') h t => by
    unfold dropD dropK
    by_cases e : k' = k
    · rw [List.filter_cons_of_neg (by simpa using e), List.filter_cons_of_neg (by simpa using e)]
      exact IsK.drop t
    · rw [List.filter_cons_of_pos (by simpa using e), List.filter_cons_of_pos (by simpa using e)]
      exact .cons h (IsK.drop t)
def fDGet : Fn2 := fun x y Q => match x, keyOf y with
  | .dic kvs, some k => some9 (valD kvs k) Q
  | _, _ => False
theorem dget_of {ws : List (Key × V)} {k : Key} (h : Rd H a (.dK ws)) : DGet H a (kV k) (valV ws k) := .inl ⟨ws, k, h, rfl, rfl⟩
def dDGet (a b : Op9) : DE := dOp2 fDGet a b
theorem sim_dget {a b : Op9} {ta tb : TE} (ha : SimO K W a ta) (hb : SimO K W b tb) : SimE K W (dDGet a b) (tDGet ta tb) := by
  have s : Sim2 K fDGet (fun x y H Q => ∃ a v, x = .ref a ∧ DGet H a y (some v) ∧ Q v H) := ⟨fun {F H x y v w} s hx hy Q9 Q f k => by
    unfold fDGet at f
    split at f
    · rename_i kvs kk ek
      obtain ⟨z, ez, f⟩ := some9_ex f
      obtain ⟨a, ws, rfl, h1, h2⟩ := hx.dic s
      obtain ⟨u, e1, e2⟩ := h2.val.1 z ez
      exact ⟨a, u, rfl, by rw [keyOf_ok hy ek, ← e1]; exact dget_of h1, k z u e2 f⟩
    · exact f.elim⟩
  exact ⟨(sim_op2 s ha hb).run⟩
def fDIn (neg : Bool) : Fn2 := fun y x Q => match x, keyOf y with
  | .dic kvs, some k => Q (.bl (if neg then !(valD kvs k).isSome else (valD kvs k).isSome))
  | _, _ => False
theorem val_some {kvs : List (Key × D)} {ws : List (Key × V)} {k : Key} (h : IsK K F kvs ws) : (valV ws k).isSome = (valD kvs k).isSome := by
  cases e : valD kvs k with
  | none => rw [h.val.2 e]; rfl
  | some x =>
    obtain ⟨v, e1, _⟩ := h.val.1 x e
    rw [e1]
    rfl
theorem sim_din {a b : Op9} {ta tb : TE} (ha : SimO K W a ta) (hb : SimO K W b tb) : SimE K W (dOp2 (fDIn false) a b) (tDIn ta tb) := by
  have s : Sim2 K (fDIn false) (fun y x H Q => ∃ a o, x = .ref a ∧ DGet H a y o ∧ Q (.bl o.isSome) H) := ⟨fun {F H y x w v} s hy hx Q9 Q f k => by
    unfold fDIn at f
    split at f
    · rename_i kvs kk ek
      obtain ⟨a, ws, rfl, h1, h2⟩ := hx.dic s
      exact ⟨a, _, rfl, by rw [keyOf_ok hy ek]; exact dget_of h1, by rw [val_some h2]; exact k _ _ .bl f⟩
    · exact f.elim⟩
  exact ⟨(sim_op2 s ha hb).run⟩
theorem sim_dnotin {a b : Op9} {ta tb : TE} (ha : SimO K W a ta) (hb : SimO K W b tb) : SimE K W (dOp2 (fDIn true) a b) (tDNotIn ta tb) := by
  have s : Sim2 K (fDIn true) (fun y x H Q => ∃ a o, x = .ref a ∧ DGet H a y o ∧ Q (.bl (!o.isSome)) H) := ⟨fun {F H y x w v} s hy hx Q9 Q f k => by
    unfold fDIn at f
    split at f
    · rename_i kvs kk ek
      obtain ⟨a, ws, rfl, h1, h2⟩ := hx.dic s
      exact ⟨a, _, rfl, by rw [keyOf_ok hy ek]; exact dget_of h1, by rw [val_some h2]; exact k _ _ .bl f⟩
    · exact f.elim⟩
  exact ⟨(sim_op2 s ha hb).run⟩
/-- d.get(k, x) -/
def dDGet2 (d k : Op9) (z : DE) : DE := fun X env Q => d.ev X env fun p e1 => match look9 e1 p with
  | some (.dic _) => k.ev X e1 fun q e2 => z X e2 fun w e3 => match look9 e3 p, look9 e3 q with
    | some (.dic kvs), some y => match keyOf y with
      | some kk => Q ((valD kvs kk).getD w) e3
      | none => False
    | _, _ => False
  | _ => False
theorem sim_dget2 {a b : Op9} {c : DE} {ta tb tc : TE} (ha : SimO K W a ta) (hb : SimO K W b tb) (hc : SimE K W c tc) : SimE K W (dDGet2 a b c) (tDGet2 ta tb tc) := ⟨fun {G L env σ F H X9 Q9 Q} r h q x => by
  refine ha.run r h (fun p e1 v F1 H1 r1 s1 p1 h1 => ?_) x
  split at h1
  · rename_i kvs0 ek0
    obtain ⟨a, ws0, rfl, d1, d2⟩ := (r1.pk p1 ek0).dic r1.sees
    refine ⟨a, rfl, .inl ⟨ws0, d1⟩, hb.run r1 h1 (fun p2 e2 w F2 H2 r2 s2 rp2 h2 => hc.run r2 h2 (fun z e3 u F3 H3 r3 s3 i3 h3 => ?_) x) x⟩
    split at h3
    · rename_i kvs y e4 e5
      split at h3
      · rename_i kk ek
        obtain ⟨a', ws, ea, d3, d4⟩ := (r3.pk ((p1.mono s2).mono s3) e4).dic r3.sees
        cases ea
        refine ⟨_, by rw [keyOf_ok (r3.pk (rp2.mono s3) e5) ek]; exact dget_of d3, q _ e3 _ F3 H3 r3 ((s1.trans s2).trans s3) ?_ h3⟩
        cases ev : valD kvs kk with
        | none => rw [d4.val.2 ev]; exact i3
        | some z2 =>
          obtain ⟨v2, e6, e7⟩ := d4.val.1 z2 ev
          rw [e6]
          exact e7
      · exact h3.elim
    · exact h3.elim
  · exact h1.elim⟩
/-- {} -/
def dDNew : DE := fun _ env Q => Q (.dic []) env
theorem sim_dnew : SimF K W dDNew tDNewK := ⟨fun {G L env σ F H X9 Q9 Q} r h q x p hp => q _ env p F _ (r.new hp _) (Same.refl F) (r.fresh hp (Has.mkD upd_same .nil)) h⟩
/-- d[k] = v, d in slot i -/
def dDPut (i : Nat) (k : Op9) (v : DE) : DS := fun X E env => v X env fun z e1 => match look9 e1 (.inr i) with
  | some _ => k.ev X e1 fun q e2 => match e2[i]?, look9 e2 q with
    | some (.ow m (.dic kvs)), some y => match keyOf y with
      | some kk => kvs.length < 16777216 ∧ E.nx (e2.set i (.ow m (.dic (putD kvs kk z))))
      | none => False
    | _, _ => False
  | none => False
theorem slot_val {i : Nat} (r : R K G L env σ F H) (e : look9 env (.inr i) = some x) : ∃ v, σ[i]? = some (some v) := by
  rcases look_slot e with q | ⟨m, d9, q, _⟩
  · obtain ⟨v, h1, _⟩ := r.im i _ q
    exact ⟨v, h1⟩
  · obtain ⟨a, h1, _⟩ := r.ow i _ _ q
    exact ⟨_, h1⟩
theorem sim_dput {i : Nat} {b : Op9} {c : DE} {tb tc : TE} (hb : SimO K W b tb) (hc : SimE K W c tc) : SimS K W fr (dDPut i b c) (sDPut (tVar i) tb tc) := ⟨fun {G L env σ F H X9 E D} r h q x => by
  refine hc.run r h (fun z e1 u F1 H1 r1 s1 i1 h1 => ?_) (fun e env' c dd F' H' => x e env' σ c dd F' H')
  split at h1
  · rename_i x0 e0
    obtain ⟨v0, hv0⟩ := slot_val r1 e0
    refine ⟨v0, hv0, hb.run r1 h1 (fun p2 e2 w F2 H2 r2 s2 rp2 h2 => ?_) (fun e env' c dd F' H' => x e env' σ c dd F' H')⟩
    split at h2
    · rename_i m kvs y e4 e5
      split at h2
      · rename_i kk ek
        obtain ⟨a, o1, o2, o3, ws, o4, o5⟩ := r2.ow i m _ e4
        rw [hv0] at o1
        cases o1
        refine ⟨a, _, rfl, .inl ⟨ws, kk, o4, keyOf_ok (r2.pk rp2 e5) ek, by rw [sizeLine_eq, ← o5.length]; exact h2.1, rfl⟩, q.nx _ _ F2 _ (r2.mut e4 hv0 (Has.mkD upd_same (o5.put (i1.mono s2)))) (s1.trans s2) h2.2⟩
      · exact h2.elim
    · exact h2.elim
  · exact h1.elim⟩
/-! ### lists by their methods, the list in slot i -/
abbrev FnM := List D → List D → (D → List D → Prop) → Prop
structure SimM (K : PySem.W.Frag) (f : FnM) (r : V → List V → Hp → VK → Prop) : Prop where
  run : ∀ {F H : Hp} {a : Addr} {xs ds : List D} {ws vs : List V}, Sees F H → H a = some (.lst ws) → IsL K F xs ws → IsL K F ds vs → ∀ (Q9 : D → List D → Prop) (Q : VK), f xs ds Q9 →
    (∀ z u xs' ws', Is K F z u → IsL K F xs' ws' → Q9 z xs' → Q u (upd H a (.lst ws'))) → r (.ref a) vs H Q
def dMut (i : Nat) (f : FnM) (a : DA) : DE := fun X env Q => match env[i]? with
  | some (.ow _ (.lst _)) => a X env fun ds e => match e[i]? with
    | some (.ow m (.lst xs)) => f xs ds fun z xs' => Q z (e.set i (.ow m (.lst xs')))
    | _ => False
  | _ => False
theorem sim_mut {i : Nat} {f : FnM} {r : V → List V → Hp → VK → Prop} {a : DA} {t : TA} (s : SimM K f r) (sa : SimA K W a t) : SimE K W (dMut i f a) (tBM K "list" r (tVar i) t) := ⟨fun {G L env σ F H X9 Q9 Q} r h q x => by
  unfold dMut at h
  split at h
  · rename_i m0 xs0 e0
    obtain ⟨a, o1, o2, o3, ws, o4, o5⟩ := r.ow i m0 _ e0
    refine ⟨_, o1, .inl ⟨rfl, ws, SqL.of o4⟩, sa.run r h (fun ds e1 vs F1 H1 r1 s1 i1 h1 => ?_) x⟩
    split at h1
    · rename_i m xs e2
      obtain ⟨a', p1, p2, p3, ws', p4, p5⟩ := r1.ow i m _ e2
      rw [o1] at p1
      cases p1
      exact s.run r1.sees p4 p5 i1 _ _ h1 fun z u xs' ws2 hz hx k => q z _ u F1 _ (r1.mut e2 o1 (Has.mkL upd_same hx)) s1 hz k
    · exact h1.elim
  · exact h.elim⟩
theorem sim_mut0 {i : Nat} {f : FnM} {r : V → List V → Hp → VK → Prop} (s : SimM K f r) : SimE K W (dMut i f dNil) (tBM0 K "list" r (tVar i)) := ⟨fun {G L env σ F H X9 Q9 Q} r h q x => by
  unfold dMut at h
  split at h
  · rename_i m0 xs0 e0
    obtain ⟨a, o1, o2, o3, ws, o4, o5⟩ := r.ow i m0 _ e0
    refine ⟨_, o1, .inl ⟨rfl, ws, SqL.of o4⟩, ?_⟩
    have h : (match env[i]? with
      | some (.ow m (.lst xs)) => f xs [] fun z xs' => Q9 z (env.set i (.ow m (.lst xs')))
      | _ => False) := h
    rw [e0] at h
    exact s.run r.sees o4 o5 .nil _ _ h fun z u xs' ws2 hz hx k => q z _ u F _ (r.mut e0 o1 (Has.mkL upd_same hx)) (Same.refl F) hz k
  · exact h.elim⟩
def fAppend : FnM := fun xs ds Q => match ds with
  | [y] => xs.length < 16777216 ∧ Q .non (xs ++ [y])
  | _ => False
theorem sm_append : SimM K fAppend rAppend := ⟨fun {F H a xs ds ws vs} s h hx hd Q9 Q f k => by
  unfold fAppend at f
  split at f
  · cases hd with
    | cons h1 h2 =>
      cases h2
      exact ⟨a, ws, _, rfl, rfl, h, by rw [sizeLine_eq, ← hx.length]; exact f.1, k _ _ _ _ .non (hx.append (.cons h1 .nil)) f.2⟩
  · exact f.elim⟩
def fPopAt : FnM := fun xs ds Q => match ds with
  | [.int i] => (-(2 ^ 63) ≤ i ∧ i < 2 ^ 63) ∧ some9 (seqIndex? i xs.length) fun n => some9 xs[n]? fun y => Q y (xs.eraseIdx n)
  | _ => False
theorem sm_popAt : SimM K fPopAt rPopAt := ⟨fun {F H a xs ds ws vs} s h hx hd Q9 Q f k => by
  unfold fPopAt at f
  split at f
  · cases hd with
    | cons h1 h2 =>
      cases h2
      cases h1
      obtain ⟨f1, f2⟩ := f
      obtain ⟨n, en, f2⟩ := some9_ex f2
      obtain ⟨y, ey, f2⟩ := some9_ex f2
      obtain ⟨u, hu, iu⟩ := hx.get ey
      exact ⟨a, ws, _, n, u, rfl, rfl, h, f1.1, f1.2, by rw [← hx.length]; exact en, hu, k _ _ _ _ iu (hx.eraseIdx n) f2⟩
  · exact f.elim⟩
end
end Dv

set_option maxHeartbeats 4000000
/-! Built-ins, slices, texts in value form. -/
namespace Dv
open PySem PySem.Spec PyProof.Rows L2 Sk
section
variable {K : PySem.W.Frag} {W : WX} {G : Gh} {L LL : List (Addr × Obj)} {env : Sls} {σ : L2.St} {F F' H H' : Hp} {p a b : Addr} {o : HO} {d x : D} {xs : List D} {vs : List V} {fr : Bool}
theorem PkL.one {y : D} (h : PkL K F H [y] vs) : ∃ v, vs = [v] ∧ Pk K F H y v := by
  cases h with
  | cons h t =>
    cases t
    exact ⟨_, rfl, h⟩
theorem PkL.two {y z : D} (h : PkL K F H [y, z] vs) : ∃ v w, vs = [v, w] ∧ Pk K F H y v ∧ Pk K F H z w := by
  cases h with
  | cons h t =>
    obtain ⟨w, e, q⟩ := t.one
    subst e
    exact ⟨_, _, rfl, h, q⟩
/-! len -/
def fLen : FnC := fun xs Q => match xs with
  | [.lst ys] => Q (.int ys.length)
  | [.tup ys] => Q (.int ys.length)
  | [.scr ns] => Q (.int ns.length)
  | _ => False
theorem sc_len : SimC K fLen (rLenSeq K) := ⟨fun {F H xs vs} s hp Q9 Q f k => by
  unfold fLen at f
  split at f
  · obtain ⟨v, rfl, q⟩ := hp.one
    obtain ⟨a, ws, rfl, h1, h2⟩ := q.lst s
    exact ⟨a, ws, rfl, .inl (SqL.of h1), by rw [← h2.length]; exact k _ _ .int f⟩
  · obtain ⟨v, rfl, q⟩ := hp.one
    obtain ⟨a, ws, rfl, h1, h2⟩ := q.tup s
    exact ⟨a, ws, rfl, .inr h1, by rw [← h2.length]; exact k _ _ .int f⟩
  · obtain ⟨v, rfl, q⟩ := hp.one
    obtain ⟨a, rfl, h1⟩ := q.scr s
    exact ⟨a, _, rfl, .inl h1, by rw [List.length_map]; exact k _ _ .int f⟩
  · exact f.elim⟩
def fLenS : FnC := fun xs Q => match xs with
  | [.str z] => z.length ≤ 16777216 ∧ Q (.int z.length)
  | _ => False
theorem sc_lenS : SimC K fLenS (fun xs H Q => ∃ z, xs = [.str z] ∧ z.length ≤ sizeLine ∧ Q (.int z.length) H) := ⟨fun {F H xs vs} s hp Q9 Q f k => by
  unfold fLenS at f
  split at f
  · obtain ⟨v, rfl, q⟩ := hp.one
    exact ⟨_, by rw [q.str], by rw [sizeLine_eq]; exact f.1, k _ _ .int f.2⟩
  · exact f.elim⟩
def fStrI : FnC := fun xs Q => match xs with
  | [.int i] => i.natAbs.log2 < 1920 ∧ Q (.str (toString i))
  | _ => False
theorem sc_strI : SimC K fStrI (fun xs H Q => ∃ i, xs = [.int i] ∧ i.natAbs.log2 < 1920 ∧ Q (.str (toString i)) H) := ⟨fun {F H xs vs} s hp Q9 Q f k => by
  unfold fStrI at f
  split at f
  · obtain ⟨v, rfl, q⟩ := hp.one
    exact ⟨_, by rw [q.int], f.1, k _ _ .str f.2⟩
  · exact f.elim⟩
def fStrS : FnC := fun xs Q => match xs with
  | [.str i] => Q (.str i)
  | _ => False
theorem sc_strS : SimC K fStrS (fun xs H Q => ∃ a, xs = [.str a] ∧ Q (.str a) H) := ⟨fun {F H xs vs} s hp Q9 Q f k => by
  unfold fStrS at f
  split at f
  · obtain ⟨v, rfl, q⟩ := hp.one
    exact ⟨_, by rw [q.str], k _ _ .str f⟩
  · exact f.elim⟩
def fInt : FnC := fun xs Q => match xs with
  | [.int i] => Q (.int i)
  | [.bl b] => Q (.int (if b then 1 else 0))
  | _ => False
theorem sc_int : SimC K fInt (fun xs H Q => (∃ i, xs = [.int i] ∧ Q (.int i) H) ∨ ∃ k, xs = [.bl k] ∧ Q (.int (if k then 1 else 0)) H) := ⟨fun {F H xs vs} s hp Q9 Q f k => by
  unfold fInt at f
  split at f
  · obtain ⟨v, rfl, q⟩ := hp.one
    exact .inl ⟨_, by rw [q.int], k _ _ .int f⟩
  · obtain ⟨v, rfl, q⟩ := hp.one
    exact .inr ⟨_, by rw [q.bl], k _ _ .int f⟩
  · exact f.elim⟩
def fIntS : FnC := fun xs Q => match xs with
  | [.str z] => some9 (PySem.intText? z) fun n => z.length ≤ 640 ∧ Q (.int n)
  | _ => False
theorem sc_intS : SimC K fIntS (fun xs H Q => ∃ a n, xs = [.str a] ∧ PySem.intText? a = some n ∧ a.length ≤ 640 ∧ Q (.int n) H) := ⟨fun {F H xs vs} s hp Q9 Q f k => by
  unfold fIntS at f
  split at f
  · obtain ⟨n, e, f⟩ := some9_ex f
    obtain ⟨v, rfl, q⟩ := hp.one
    exact ⟨_, _, by rw [q.str], e, f.1, k _ _ .int f.2⟩
  · exact f.elim⟩
def fMin2 : FnC := fun xs Q => match xs with
  | [.int i, .int j] => Q (.int (if j < i then j else i))
  | _ => False
theorem sc_min2 : SimC K fMin2 (fun xs H Q => ∃ i j, xs = [.int i, .int j] ∧ Q (.int (if j < i then j else i)) H) := ⟨fun {F H xs vs} s hp Q9 Q f k => by
  unfold fMin2 at f
  split at f
  · exact ⟨_, _, hp.int2, k _ _ .int f⟩
  · exact f.elim⟩
def fMax2 : FnC := fun xs Q => match xs with
  | [.int i, .int j] => Q (.int (if j > i then j else i))
  | _ => False
theorem sc_max2 : SimC K fMax2 (fun xs H Q => ∃ i j, xs = [.int i, .int j] ∧ Q (.int (if j > i then j else i)) H) := ⟨fun {F H xs vs} s hp Q9 Q f k => by
  unfold fMax2 at f
  split at f
  · exact ⟨_, _, hp.int2, k _ _ .int f⟩
  · exact f.elim⟩
/-! lists of one kind -/
theorem isL_ints : ∀ {ns : List Int} {ws : List V}, IsL K F (ns.map D.int) ws → ws = ns.map V.int
  | [], _, .nil => rfl
  | _ :: ns, _, .cons h t => by rw [h.ofI, isL_ints t]; rfl
theorem isL_strs : ∀ {ns : List Str} {ws : List V}, IsL K F (ns.map D.str) ws → ws = ns.map V.str
  | [], _, .nil => rfl
  | _ :: ns, _, .cons h t => by rw [h.ofS, isL_strs t]; rfl
theorem isL_bls : ∀ {ns : List Bool} {ws : List V}, IsL K F (ns.map D.bl) ws → ws = ns.map V.bl
  | [], _, .nil => rfl
  | _ :: ns, _, .cons h t => by rw [h.ofB, isL_bls t]; rfl
theorem ints_isL : ∀ (ns : List Int), IsL K F (ns.map D.int) (ns.map V.int)
  | [] => .nil
  | _ :: ns => .cons .int (ints_isL ns)
theorem strs_isL : ∀ (ns : List Str), IsL K F (ns.map D.str) (ns.map V.str)
  | [] => .nil
  | _ :: ns => .cons .str (strs_isL ns)
def fAll : FnC := fun xs Q => ∃ bs : List Bool, xs = [.lst (bs.map D.bl)] ∧ Q (.bl (bs.all id))
theorem sc_all : SimC K fAll (rAll K) := ⟨fun {F H xs vs} s hp Q9 Q f k => by
  obtain ⟨bs, rfl, f⟩ := f
  obtain ⟨v, rfl, q⟩ := hp.one
  obtain ⟨a, ws, rfl, h1, h2⟩ := q.lst s
  exact ⟨a, bs, rfl, by rw [← isL_bls h2]; exact SqL.of h1, k _ _ .bl f⟩⟩
def fAny : FnC := fun xs Q => ∃ bs : List Bool, xs = [.lst (bs.map D.bl)] ∧ Q (.bl (bs.any id))
theorem sc_any : SimC K fAny (rAny K) := ⟨fun {F H xs vs} s hp Q9 Q f k => by
  obtain ⟨bs, rfl, f⟩ := f
  obtain ⟨v, rfl, q⟩ := hp.one
  obtain ⟨a, ws, rfl, h1, h2⟩ := q.lst s
  exact ⟨a, bs, rfl, by rw [← isL_bls h2]; exact SqL.of h1, k _ _ .bl f⟩⟩
def fSum : FnC := fun xs Q => ∃ ns : List Int, xs = [.lst (ns.map D.int)] ∧ Q (.int ns.sum)
theorem sc_sum : SimC K fSum (rSum K) := ⟨fun {F H xs vs} s hp Q9 Q f k => by
  obtain ⟨bs, rfl, f⟩ := f
  obtain ⟨v, rfl, q⟩ := hp.one
  obtain ⟨a, ws, rfl, h1, h2⟩ := q.lst s
  exact ⟨a, bs, rfl, by rw [← isL_ints h2]; exact SqL.of h1, k _ _ .int f⟩⟩
def fMax : FnC := fun xs Q => ∃ ns : List Int, xs = [.lst (ns.map D.int)] ∧ 0 < ns.length ∧ ∀ m, m ∈ ns → (∀ y, y ∈ ns → y ≤ m) → Q (.int m)
theorem sc_max : SimC K fMax (rMax K) := ⟨fun {F H xs vs} s hp Q9 Q f k => by
  obtain ⟨bs, rfl, hl, f⟩ := f
  obtain ⟨v, rfl, q⟩ := hp.one
  obtain ⟨a, ws, rfl, h1, h2⟩ := q.lst s
  exact ⟨a, bs, rfl, by rw [← isL_ints h2]; exact SqL.of h1, hl, fun m e1 e2 => k _ _ .int (f m e1 e2)⟩⟩
/-- sorted of texts; of a dict's text keys -/
def fSorted : FnC := fun xs Q => ∃ ns : List Str, xs = [.lst (ns.map D.str)] ∧ ns.length < 64 ∧ ∀ ys : List Str, ys.Perm ns → sortedS ys = true → Q (.lst (ys.map D.str))
theorem sc_sorted : SimCN K fSorted (rSortedS K) := ⟨fun {F H xs vs} s hp Q9 Q f k => by
  obtain ⟨bs, rfl, hl, f⟩ := f
  obtain ⟨v, rfl, q⟩ := hp.one
  obtain ⟨a, ws, rfl, h1, h2⟩ := q.lst s
  exact ⟨a, bs, rfl, by rw [← isL_strs h2]; exact SqL.of h1, hl, fun ys p e1 e2 hp => k _ p _ hp (Has.mkL upd_same (strs_isL ys)) (f ys e1 e2)⟩⟩
def fSortedD : FnC := fun xs Q => match xs with
  | [.dic kvs] => ∃ ns : List Str, kvs.map (·.1) = ns.map Sum.inr ∧ ns.length < 64 ∧ ∀ ys : List Str, ys.Perm ns → sortedS ys = true → Q (.lst (ys.map D.str))
  | _ => False
theorem IsK.keys : ∀ {kvs : List (Key × D)} {ws : List (Key × V)}, IsK K F kvs ws → ws.map (·.1) = kvs.map (·.1)
  | _, _, .nil => rfl
  | _, _, .cons _ t => by simp [IsK.keys t]
theorem sc_sortedD : SimCN K fSortedD (fun xs H Q => ∃ (a : Addr) (kvs : List (Key × V)) (ks : List Str), xs = [.ref a] ∧ Rd H a (.dK kvs) ∧ kvs.map (·.1) = ks.map Sum.inr ∧ ks.length < 64 ∧
    ∀ ys p, ys.Perm ks → sortedS ys = true → H p = none → Q (.ref p) (upd H p (.lst (ys.map V.str)))) := ⟨fun {F H xs vs} s hp Q9 Q f k => by
  unfold fSortedD at f
  split at f
  · obtain ⟨ns, e, hl, f⟩ := f
    obtain ⟨v, rfl, q⟩ := hp.one
    obtain ⟨a, ws, rfl, h1, h2⟩ := q.dic s
    exact ⟨a, ws, ns, rfl, h1, by rw [h2.keys, e], hl, fun ys p e1 e2 hp => k _ p _ hp (Has.mkL upd_same (strs_isL ys)) (f ys e1 e2)⟩
  · exact f.elim⟩
/-- list(x), dict(d), tuple(x) -/
def fList : FnC := fun xs Q => match xs with
  | [.lst ys] => Q (.lst ys)
  | [.tup ys] => Q (.lst ys)
  | _ => False
theorem sc_list : SimCN K fList (rListOf K) := ⟨fun {F H xs vs} s hp Q9 Q f k => by
  unfold fList at f
  split at f
  · obtain ⟨v, rfl, q⟩ := hp.one
    obtain ⟨a, ws, rfl, h1, h2⟩ := q.lst s
    exact ⟨a, ws, rfl, .inl (SqL.of h1), fun l hl => k _ l _ hl (Has.mkL upd_same h2) f⟩
  · obtain ⟨v, rfl, q⟩ := hp.one
    obtain ⟨a, ws, rfl, h1, h2⟩ := q.tup s
    exact ⟨a, ws, rfl, .inr h1, fun l hl => k _ l _ hl (Has.mkL upd_same h2) f⟩
  · exact f.elim⟩
def fDict : FnC := fun xs Q => match xs with
  | [.dic kvs] => Q (.dic kvs)
  | _ => False
theorem sc_dict : SimCN K fDict (fun xs H Q => ∃ (a : Addr) (kvs : List (Key × V)), xs = [.ref a] ∧ Rd H a (.dK kvs) ∧ ∀ p, H p = none → Q (.ref p) (upd H p (.dK kvs))) := ⟨fun {F H xs vs} s hp Q9 Q f k => by
  unfold fDict at f
  split at f
  · obtain ⟨v, rfl, q⟩ := hp.one
    obtain ⟨a, ws, rfl, h1, h2⟩ := q.dic s
    exact ⟨a, ws, rfl, h1, fun l hl => k _ l _ hl (Has.mkD upd_same h2) f⟩
  · exact f.elim⟩
def fTuple : FnC := fun xs Q => match xs with
  | [.lst ys] => Q (.tup ys)
  | [.tup ys] => Q (.tup ys)
  | _ => False
/-- tuple(x): the reading's own form; a value -/
theorem sim_tupleOf {os : List Op9} {t : TA} (so : SimOs K W os t) : SimE K W (dCB fTuple os) (tCB (fun xs H Q => ∃ p ys, xs = [V.ref p] ∧ ((SqL K H p ys ∧ ∀ l, H l = none → Q (.ref l) (upd H l (.tup ys))) ∨ (SqT K H p ys ∧ Q (.ref p) H))) t) := ⟨fun {G L env σ F H X9 Q9 Q} r h q x => so.run x r h fun ps e vs F1 H1 r1 s1 p1 h1 => by
  split at h1
  · rename_i xs ex
    unfold fTuple at h1
    have pk := r1.pks p1 ex
    split at h1
    · obtain ⟨v, rfl, qq⟩ := pk.one
      obtain ⟨a, ws, rfl, g1, g2⟩ := qq.lst r1.sees
      exact ⟨a, ws, rfl, .inl ⟨SqL.of g1, fun l hl => q _ e _ _ _ (r1.newK hl _) (s1.trans (same_upd (r1.free hl))) (.tup (SqT.of upd_same) (g2.mono (same_upd (r1.free hl)))) h1⟩⟩
    · obtain ⟨v, rfl, qq⟩ := pk.one
      obtain ⟨a, ws, rfl, g1, g2⟩ := qq.tup r1.sees
      rcases qq with qq | ⟨_, _, _, z⟩
      · exact ⟨a, ws, rfl, .inr ⟨g1, q _ e _ F1 H1 r1 s1 qq h1⟩⟩
      · exact z.elim
    · exact h1.elim
  · exact h1.elim⟩
/-! slices -/
abbrev DO := XK9 → Sls → (Option Int → Sls → Prop) → Prop
structure SimPt (K : PySem.W.Frag) (W : WX) (d : DO) (t : TO) : Prop where
  run : ∀ {G : Gh} {L : List (Addr × Obj)} {env : Sls} {σ : L2.St} {F H : Hp} {X9 : XK9} {Q9 : Option Int → Sls → Prop} {Q : Option Int → Hp → Prop}, R K G L env σ F H → d X9 env Q9 →
    (∀ x env' F' H', R K G L env' σ F' H' → Same F F' → Q9 x env' → Q x H') →
    (∀ e env' c dd F' H', R K G L env' σ F' H' → XR K F' H' e c dd → X9 e env' → W c dd σ H') → t σ H Q
def dNoPart : DO := fun _ env Q => Q none env
def dPart (d : DE) : DO := fun X env Q => d X env fun x e => match x with
  | .int i => Q (some i) e
  | _ => False
theorem sim_noPart : SimPt K W dNoPart tNoPart := ⟨fun {G L env σ F H X9 Q9 Q} r h q x => q _ env F H r (Same.refl F) h⟩
theorem sim_part {d : DE} {t : TE} (s : SimE K W d t) : SimPt K W (dPart d) (tPart t) := ⟨fun {G L env σ F H X9 Q9 Q} r h q x => s.run r h (fun y e v F1 H1 r1 s1 i1 h1 => by
  split at h1
  · exact ⟨_, i1.ofI, q _ e F1 H1 r1 s1 h1⟩
  · exact h1.elim) x⟩
def cutD (xs : List D) (lo hi : Option Int) : List D := (xs.drop (HT.sIx xs.length 0 lo)).take (HT.sIx xs.length xs.length hi - HT.sIx xs.length 0 lo)
theorem IsL.cut {ws : List V} {lo hi : Option Int} (h : IsL K F xs ws) : IsL K F (cutD xs lo hi) (cutV ws lo hi) := by
  unfold cutD cutV
  rw [h.length]
  exact (h.drop _).take _
def dSlL (o : Op9) (l u : DO) : DE := fun X env Q => o.ev X env fun p e1 => l X e1 fun lo e2 => u X e2 fun hi e3 => match look9 e3 p with
  | some (.lst xs) => Q (.lst (cutD xs lo hi)) e3
  | _ => False
theorem sim_slL {o : Op9} {l u : DO} {t : TE} {tl tu : TO} (so : SimO K W o t) (sl : SimPt K W l tl) (su : SimPt K W u tu) : SimF K W (dSlL o l u) (tSl (rSlL K) t tl tu) := ⟨fun {G L env σ F H X9 Q9 Q} r h q x =>
  so.run r h (fun p e1 v F1 H1 r1 s1 p1 h1 => sl.run r1 h1 (fun lo e2 F2 H2 r2 s2 h2 => su.run r2 h2 (fun hi e3 F3 H3 r3 s3 h3 => by
    split at h3
    · rename_i xs ex
      obtain ⟨a, ws, rfl, g1, g2⟩ := (r3.pk ((p1.mono s2).mono s3) ex).lst r3.sees
      exact ⟨a, ws, rfl, SqL.of g1, fun l hl => q _ e3 l F3 _ (r3.new hl _) ((s1.trans s2).trans s3) (r3.fresh hl (Has.mkL upd_same g2.cut)) h3⟩
    · exact h3.elim) x) x) x⟩
def dSlS (o : Op9) (l u : DO) : DE := fun X env Q => o.ev X env fun p e1 => l X e1 fun lo e2 => u X e2 fun hi e3 => match look9 e3 p with
  | some (.str z) => z.length ≤ 16777216 ∧ Q (.str (cutS z lo hi)) e3
  | _ => False
theorem sim_slS {o : Op9} {l u : DO} {t : TE} {tl tu : TO} (so : SimO K W o t) (sl : SimPt K W l tl) (su : SimPt K W u tu) : SimE K W (dSlS o l u) (tSl rSlS t tl tu) := ⟨fun {G L env σ F H X9 Q9 Q} r h q x =>
  so.run r h (fun p e1 v F1 H1 r1 s1 p1 h1 => sl.run r1 h1 (fun lo e2 F2 H2 r2 s2 h2 => su.run r2 h2 (fun hi e3 F3 H3 r3 s3 h3 => by
    split at h3
    · rename_i z ex
      exact ⟨z, (r3.pk ((p1.mono s2).mono s3) ex).str, by rw [sizeLine_eq]; exact h3.1, q _ e3 _ F3 H3 r3 ((s1.trans s2).trans s3) .str h3.2⟩
    · exact h3.elim) x) x) x⟩
/-! f-strings -/
def fmt9 : D → (Str → Prop) → Prop
  | .str y, k => y.length ≤ 16777216 ∧ k y
  | .int i, k => i.natAbs.log2 < 1920 ∧ k (toString i)
  | _, _ => False
def dFmt (d : DE) : DE := fun X env Q => d X env fun x e => fmt9 x fun y => Q (.str y) e
theorem sim_fmt {d : DE} {t : TE} (s : SimE K W d t) : SimE K W (dFmt d) (tFmt t) := ⟨fun {G L env σ F H X9 Q9 Q} r h q x => s.run r h (fun y e v F1 H1 r1 s1 i1 h1 => by
  unfold fmt9 at h1
  split at h1
  · exact .inl ⟨_, i1.ofS, by rw [sizeLine_eq]; exact h1.1, q _ e _ F1 H1 r1 s1 .str h1.2⟩
  · exact .inr ⟨_, i1.ofI, h1.1, q _ e _ F1 H1 r1 s1 .str h1.2⟩
  · exact h1.elim) x⟩
def js9 : List DE → Str → XK9 → Sls → (Str → Sls → Prop) → Prop
  | [], acc, _, env, Q => Q acc env
  | d :: ds, acc, X, env, Q => d X env fun x e => match x with
    | .str y => (acc ++ y).length ≤ 16777216 ∧ js9 ds (acc ++ y) X e Q
    | _ => False
def dJs (ds : List DE) : DE := fun X env Q => js9 ds Str.empty X env fun z e => Q (.str z) e
inductive SimJs (K : PySem.W.Frag) (W : WX) : List DE → List TE → Prop
  | nil : SimJs K W [] []
  | cons {d : DE} {t : TE} {ds : List DE} {ts : List TE} : SimE K W d t → SimJs K W ds ts → SimJs K W (d :: ds) (t :: ts)
theorem sim_js {ds : List DE} {ts : List TE} (s : SimJs K W ds ts) : SimE K W (dJs ds) (fun σ H Q => tJs ts Str.empty σ H fun out H1 => Q (.str out) H1) := by
  have key : ∀ {ds : List DE} {ts : List TE}, SimJs K W ds ts → ∀ {G : Gh} {L : List (Addr × Obj)} {env : Sls} {σ : L2.St} {F H : Hp} {X9 : XK9} {Q9 : Str → Sls → Prop} {Q : Str → Hp → Prop} {acc : Str}, R K G L env σ F H → js9 ds acc X9 env Q9 →
      (∀ z env' F' H', R K G L env' σ F' H' → Same F F' → Q9 z env' → Q z H') → (∀ e env' c dd F' H', R K G L env' σ F' H' → XR K F' H' e c dd → X9 e env' → W c dd σ H') → tJs ts acc σ H Q := by
    intro ds ts s
    induction s with
    | nil => exact fun {G L env σ F H X9 Q9 Q acc} r h q x => q acc env F H r (Same.refl F) h
    | cons s1 _ ih =>
      intro G L env σ F H X9 Q9 Q acc r h q x
      refine s1.run r h (fun y e v F1 H1 r1 s1 i1 h1 => ?_) x
      split at h1
      · exact ⟨_, i1.ofS, by rw [sizeLine_eq]; exact h1.1, ih r1 h1.2 (fun z e2 F2 H2 r2 s2 k => q z e2 F2 H2 r2 (s1.trans s2) k) x⟩
      · exact h1.elim
  exact ⟨fun {G L env σ F H X9 Q9 Q} r h q x => key s r h (fun z e F' H' r' s' k => q _ e _ F' H' r' s' .str k) x⟩
/-! join, split -/
def dJoin (a : DE) (b : Op9) : DE := fun X env Q => a X env fun x e1 => match x with
  | .str z => b.ev X e1 fun p e2 => match look9 e2 p with
    | some (.lst xs) => ∃ ys : List Str, xs = ys.map D.str ∧ (ys.map (·.length)).sum + ys.length * z.length ≤ 16777216 ∧ Q (.str (Txt.join z ys)) e2
    | some (.tup xs) => ∃ ys : List Str, xs = ys.map D.str ∧ (ys.map (·.length)).sum + ys.length * z.length ≤ 16777216 ∧ Q (.str (Txt.join z ys)) e2
    | _ => False
  | _ => False
theorem sim_join {a : DE} {b : Op9} {ta tb : TE} (sa : SimE K W a ta) (sb : SimO K W b tb) : SimE K W (dJoin a b) (tM1 (rJoin K) ta tb) := ⟨fun {G L env σ F H X9 Q9 Q} r h q x => sa.run r h (fun y e v F1 H1 r1 s1 i1 h1 => by
  split at h1
  · refine ⟨⟨_, i1.ofS⟩, sb.run r1 h1 (fun p e2 w F2 H2 r2 s2 p2 h2 => ?_) x⟩
    split at h2
    · rename_i xs ex
      obtain ⟨ys, rfl, hl, h2⟩ := h2
      obtain ⟨b, ws, rfl, g1, g2⟩ := (r2.pk p2 ex).lst r2.sees
      exact ⟨_, b, ys, i1.ofS, rfl, .inl (by rw [← isL_strs g2]; exact SqL.of g1), hl, q _ e2 _ F2 H2 r2 (s1.trans s2) .str h2⟩
    · rename_i xs ex
      obtain ⟨ys, rfl, hl, h2⟩ := h2
      obtain ⟨b, ws, rfl, g1, g2⟩ := (r2.pk p2 ex).tup r2.sees
      exact ⟨_, b, ys, i1.ofS, rfl, .inr (by rw [← isL_strs g2]; exact g1), hl, q _ e2 _ F2 H2 r2 (s1.trans s2) .str h2⟩
    · exact h2.elim
  · exact h1.elim) x⟩
def dSplit (a b : DE) : DE := fun X env Q => a X env fun x e1 => match x with
  | .str z => b X e1 fun y e2 => match y with
    | .str c => ((c.length == 0) = false ∧ z.length + 2 ≤ 16777216) ∧ Q (.lst ((Txt.split z c).map D.str)) e2
    | _ => False
  | _ => False
theorem sim_split {a b : DE} {ta tb : TE} (sa : SimE K W a ta) (sb : SimE K W b tb) : SimF K W (dSplit a b) (tM1 (fun x xs H Q => ∃ a b, x = .str a ∧ xs = [.str b] ∧ (b.length == 0) = false ∧ a.length + 2 ≤ sizeLine ∧ rNewStrs (Txt.split a b) H Q) ta tb) := ⟨fun {G L env σ F H X9 Q9 Q} r h q x => sa.run r h (fun y e v F1 H1 r1 s1 i1 h1 => by
  split at h1
  · refine ⟨⟨_, i1.ofS⟩, sb.run r1 h1 (fun z e2 w F2 H2 r2 s2 i2 h2 => ?_) x⟩
    split at h2
    · exact ⟨_, _, i1.ofS, by rw [i2.ofS], h2.1.1, by rw [sizeLine_eq]; exact h2.1.2, fun l hl => q _ e2 l F2 _ (r2.new hl _) (s1.trans s2) (r2.fresh hl (Has.mkL upd_same (strs_isL _))) h2.2⟩
    · exact h2.elim
  · exact h1.elim) x⟩
/-! x in a list or tuple of flat things -/
def vFlat : D → Option V
  | .non => some .non
  | .bl b => some (.bl b)
  | .int i => some (.int i)
  | .str z => some (.str z)
  | _ => none
theorem vFlat_ok {v w : V} (h : Is K F x v) (e : vFlat x = some w) : v = w ∧ flatV v = true := by
  cases x with
  | non => cases e; cases h; exact ⟨rfl, rfl⟩
  | bl b => cases e; cases h; exact ⟨rfl, rfl⟩
  | int b => cases e; cases h; exact ⟨rfl, rfl⟩
  | str b => cases e; cases h; exact ⟨rfl, rfl⟩
  | _ => cases e
def vFlats : List D → Option (List V)
  | [] => some []
  | x :: xs => match vFlat x, vFlats xs with
    | some v, some vs => some (v :: vs)
    | _, _ => none
theorem vFlats_ok : ∀ {xs : List D} {vs ws : List V}, IsL K F xs vs → vFlats xs = some ws → vs = ws ∧ vs.all flatV = true
  | _, _, _, .nil, e => by cases e; exact ⟨rfl, rfl⟩
  | _, _, _, .cons h t, e => by
    unfold vFlats at e
    split at e
    · rename_i e1 e2
      cases e
      obtain ⟨a1, a2⟩ := vFlat_ok h e1
      obtain ⟨b1, b2⟩ := vFlats_ok t e2
      subst a1 b1
      exact ⟨rfl, by rw [List.all_cons, a2, b2]; rfl⟩
    · cases e
def fIn (neg : Bool) : Fn2 := fun x y Q => ∃ v vs, vFlat x = some v ∧ (match y with
    | .lst ys => vFlats ys = some vs
    | .tup ys => vFlats ys = some vs
    | _ => False) ∧ Q (.bl (if neg then !inV v vs else inV v vs))
theorem s2_in {neg : Bool} : Sim2 K (fIn neg) (rIn K neg) := ⟨fun {F H x y v w} s hx hy Q9 Q f k => by
  obtain ⟨v0, vs0, e1, e2, f⟩ := f
  have hx : Is K F x v := by
    rcases hx with h | ⟨_, _, _, h⟩
    · exact h
    · cases x <;> first | exact h.elim | cases e1
  obtain ⟨rfl, fx⟩ := vFlat_ok hx e1
  split at e2
  · obtain ⟨a, ws, rfl, h1, h2⟩ := hy.lst s
    obtain ⟨rfl, fw⟩ := vFlats_ok h2 e2
    exact ⟨a, ws, rfl, .inl (SqL.of h1), fx, fw, k _ _ .bl f⟩
  · obtain ⟨a, ws, rfl, h1, h2⟩ := hy.tup s
    obtain ⟨rfl, fw⟩ := vFlats_ok h2 e2
    exact ⟨a, ws, rfl, .inr h1, fx, fw, k _ _ .bl f⟩
  · exact e2.elim⟩
/-! name op= e -/
theorem si_I {g : Int → Int → Int} : SimIp K (fI0 fun i j => .int (g i j)) (ipI g) := ⟨fun {F H x y v w} s hx hy Q9 Q f k => by
  unfold fI0 at f
  split at f
  · exact ⟨_, _, hx.ofI, hy.ofI, k _ _ .int f⟩
  · exact f.elim⟩
/-! counts: dicts of ints by texts -/
def dcs (cs : List (Str × Int)) : D := .dic (cs.map fun p => (Sum.inr p.1, D.int p.2))
theorem isK_cs : ∀ {cs : List (Str × Int)} {ws : List (Key × V)}, IsK K F (cs.map fun p => (Sum.inr p.1, D.int p.2)) ws → ws = kvS cs
  | [], _, .nil => rfl
  | _ :: cs, _, .cons h t => by rw [h.ofI, isK_cs t]; rfl
theorem cs_isK : ∀ (cs : List (Str × Int)), IsK K F (cs.map fun p => (Sum.inr p.1, D.int p.2)) (kvS cs)
  | [] => .nil
  | _ :: cs => .cons .int (cs_isK cs)
def fEqD (neg : Bool) : Fn2 := fun x y Q => ∃ ks ls, x = dcs ks ∧ y = dcs ls ∧ Q (.bl (if neg then !sameC ks ls else sameC ks ls))
end
end Dv

set_option maxHeartbeats 4000000
/-! Further rules in value form. -/
namespace Dv
open PySem PySem.Spec PyProof.Rows L2 Sk
section
variable {K : PySem.W.Frag} {W : WX} {G : Gh} {L LL : List (Addr × Obj)} {env : Sls} {σ : L2.St} {F F' H H' : Hp} {p a b : Addr} {o : HO} {d x : D} {xs : List D} {vs : List V} {fr : Bool}
/-! a, b = e, f -/
def dPar (i j : Nat) (a : DA) : DS := fun X E env => a X env fun xs e => match xs with
  | [x, y] => E.nx ((e.set i (.im x)).set j (.im y))
  | _ => False
theorem sim_par {i j : Nat} {a : DA} {t : TA} (s : SimA K W a t) : SimS K W fr (dPar i j a) (tPar i j t) := ⟨fun {G L env σ F H X9 E D} r h q x => s.run r h (fun ys e vs F1 H1 r1 s1 i1 h1 => by
  split at h1
  · cases i1 with
    | cons h2 i2 =>
      cases i2 with
      | cons h3 i3 =>
        cases i3
        exact ⟨_, _, rfl, q.nx _ _ F1 H1 ((r1.set_im i h2).set_im j h3) s1 h1⟩
  · exact h1.elim) (fun e env' c dd F' H' => x e env' σ c dd F' H')⟩
def dPar3 (i j l : Nat) (a : DA) : DS := fun X E env => a X env fun xs e => match xs with
  | [x, y, z] => E.nx (((e.set i (.im x)).set j (.im y)).set l (.im z))
  | _ => False
theorem sim_par3 {i j l : Nat} {a : DA} {t : TA} (s : SimA K W a t) : SimS K W fr (dPar3 i j l a) (tPar3 i j l t) := ⟨fun {G L env σ F H X9 E D} r h q x => s.run r h (fun ys e vs F1 H1 r1 s1 i1 h1 => by
  split at h1
  · cases i1 with
    | cons h2 i2 =>
      cases i2 with
      | cons h3 i3 =>
        cases i3 with
        | cons h4 i4 =>
          cases i4
          exact ⟨_, _, _, rfl, q.nx _ _ F1 H1 (((r1.set_im i h2).set_im j h3).set_im l h4) s1 h1⟩
  · exact h1.elim) (fun e env' c dd F' H' => x e env' σ c dd F' H')⟩
/-! o.f = e, the object in slot i -/
def putD9 (f : Str) (v : D) : List (Str × D) → List (Str × D)
  | [] => [(f, v)]
  | (g, x) :: r => if g = f then (g, v) :: r else (g, x) :: putD9 f v r
theorem IsF.putF {f : Str} {v : V} (hv : Is K F x v) : ∀ {fs : List (Str × D)} {ws : List (Str × V)}, IsF K F fs ws → IsF K F (putD9 f x fs) (putF f v ws)
  | _, _, .nil => .cons hv .nil
  | _, _, .cons (k := k) (xs := xs) (vs := vs) (x := y) (v := u) h t => by
    by_cases e : k = f
    · have e1 : putD9 f x ((k, y) :: xs) = (k, x) :: xs := by unfold putD9; rw [if_pos e]
      have e2 : L2.putF f v ((k, u) :: vs) = (k, v) :: vs := by unfold L2.putF; rw [if_pos e]
      rw [e1, e2]
      exact .cons hv t
    · have e1 : putD9 f x ((k, y) :: xs) = (k, y) :: putD9 f x xs := by rw [putD9]; rw [if_neg e]
      have e2 : L2.putF f v ((k, u) :: vs) = (k, u) :: L2.putF f v vs := by rw [L2.putF]; rw [if_neg e]
      rw [e1, e2]
      exact .cons h (IsF.putF hv t)
def dFldSet (c f : Str) (i : Nat) (v : DE) : DS := fun X E env => v X env fun z e => match e[i]? with
  | some (.ow m (.obj c' fs)) => (c' = c ∧ fs.length < 1000) ∧ E.nx (e.set i (.ow m (.obj c' (putD9 f z fs))))
  | _ => False
theorem sim_fldset {c f : Str} {i : Nat} {v : DE} {tv : TE} (cl : Cls K (He.ga K c)) (na : NoAttr K (He.ga K c) f) (s : SimE K W v tv) : SimS K W fr (dFldSet c f i v) (sFld K (tVar i) tv f) := ⟨fun {G L env σ F H X9 E D} r h q x => s.run r h (fun z e u F1 H1 r1 s1 i1 h1 => by
  split at h1
  · rename_i m c' fs e0
    obtain ⟨⟨ec, hl⟩, h1⟩ := h1
    subst ec
    obtain ⟨a, o1, o2, o3, dx, ws, o4, o5⟩ := r1.ow i m _ e0
    exact ⟨_, o1, a, _, dx, ws, rfl, o4, cl, na, by rw [← o5.length]; exact hl, q.nx _ _ F1 _ (r1.mut e0 o1 (Has.mkO upd_same (IsF.putF i1 o5))) s1 h1⟩
  · exact h1.elim) (fun e env' c dd F' H' => x e env' σ c dd F' H')⟩
/-- o.f op= e (whole numbers), the object in slot i -/
def dFldAug (c f : Str) (i : Nat) (v : DE) (g : Int → Int → Int) : DS := fun X E env => match look9 env (.inr i) with
  | some (.obj c0 fs0) => match fs0.lookup f with
    | some (.int k) => c0 = c ∧ v X env fun z e => match z with
      | .int n => match e[i]? with
        | some (.ow m (.obj c' fs)) => (c' = c ∧ fs.length < 1000) ∧ E.nx (e.set i (.ow m (.obj c' (putD9 f (.int (g k n)) fs))))
        | _ => False
      | _ => False
    | _ => False
  | _ => False
theorem sim_fldaug {c f : Str} {i : Nat} {v : DE} {tv : TE} {g : Int → Int → Int} {rd : V → V → Hp → VK → Prop} (hrd : ∀ k n H Q, Q (.int (g k n)) H → rd (.int k) (.int n) H Q) (cl : Cls K (He.ga K c)) (na : NoAttr K (He.ga K c) f) (s : SimE K W v tv) :
    SimS K W fr (dFldAug c f i v g) (sFldAug K (tVar i) tv rd f) := ⟨fun {G L env σ F H X9 E D} r h q x => by
  unfold dFldAug at h
  split at h
  · rename_i c0 fs0 e0
    split at h
    · rename_i k ek
      obtain ⟨ec0, h⟩ := h
      subst ec0
      obtain ⟨v0, hv0⟩ := slot_val r e0
      obtain ⟨a, dx, ws, rfl, ha, hw⟩ := (r.pk (p := .inr i) hv0 e0).obj r.sees
      obtain ⟨u, hu, hi⟩ := hw.lookup ek
      cases hi
      refine ⟨_, hv0, a, _, dx, ws, _, rfl, ha, cl, na, hu, s.run r h (fun z e u F1 H1 r1 s1 i1 h1 => ?_) (fun e env' c dd F' H' => x e env' σ c dd F' H')⟩
      split at h1
      · cases i1
        split at h1
        · rename_i m c' fs e1
          obtain ⟨⟨ec, hl⟩, h1⟩ := h1
          subst ec
          obtain ⟨a', o1, o2, o3, dx', ws', o4, o5⟩ := r1.ow i m _ e1
          rw [hv0] at o1
          cases o1
          exact hrd _ _ _ _ ⟨dx', ws', o4, by rw [← o5.length]; exact hl, q.nx _ _ F1 _ (r1.mut e1 hv0 (Has.mkO upd_same (IsF.putF .int o5))) s1 h1⟩
        · exact h1.elim
      · exact h1.elim
    · exact h.elim
  · exact h.elim⟩
/-! x[i] = e, the list in slot n -/
def dSetItem (n : Nat) (v i : DE) : DS := fun X E env => v X env fun z e1 => match look9 e1 (.inr n) with
  | some _ => i X e1 fun k e2 => match k, e2[n]? with
    | .int j, some (.ow m (.lst xs)) => some9 (ixN xs.length j) fun jj => E.nx (e2.set n (.ow m (.lst (xs.set jj z))))
    | _, _ => False
  | none => False
theorem sim_setItem {n : Nat} {v i : DE} {tv ti : TE} (sv : SimE K W v tv) (si : SimE K W i ti) : SimS K W fr (dSetItem n v i) (tAsg tv (gSub (tVar n) ti rSetL)) := ⟨fun {G L env σ F H X9 E D} r h q x => sv.run r h (fun z e1 u F1 H1 r1 s1 i1 h1 => by
  split at h1
  · rename_i x0 e0
    obtain ⟨v0, hv0⟩ := slot_val r1 e0
    refine ⟨v0, hv0, si.run r1 h1 (fun k e2 w F2 H2 r2 s2 i2 h2 => ?_) (fun e env' c dd F' H' => x e env' σ c dd F' H')⟩
    split at h2
    · rename_i j m xs e3
      obtain ⟨jj, ej, h2⟩ := some9_ex h2
      obtain ⟨a, o1, o2, o3, ws, o4, o5⟩ := r2.ow n m _ e3
      rw [hv0] at o1
      cases o1
      exact ⟨a, ws, j, jj, rfl, i2.ofI, o4, by rw [← o5.length]; exact ej, q.nx _ _ F2 _ (r2.mut e3 hv0 (Has.mkL upd_same (o5.set (i1.mono s2) jj))) (s1.trans s2) h2⟩
    · exact h2.elim
  · exact h1.elim) (fun e env' c dd F' H' => x e env' σ c dd F' H')⟩
/-! {x!r} -/
def dFmtR (d : DE) : DE := fun X env Q => d X env fun x e => match x with
  | .str y => (reprText y).length ≤ 16777216 ∧ Q (.str (reprText y)) e
  | .int i => i.natAbs.log2 < 1920 ∧ Q (.str (toString i)) e
  | _ => False
theorem sim_fmtR {d : DE} {t : TE} (s : SimE K W d t) : SimE K W (dFmtR d) (tFmtR t) := ⟨fun {G L env σ F H X9 Q9 Q} r h q x => s.run r h (fun y e v F1 H1 r1 s1 i1 h1 => by
  split at h1
  · exact .inl ⟨_, i1.ofS, by rw [sizeLine_eq]; exact h1.1, q _ e _ F1 H1 r1 s1 .str h1.2⟩
  · exact .inr ⟨_, i1.ofI, h1.1, q _ e _ F1 H1 r1 s1 .str h1.2⟩
  · exact h1.elim) x⟩
/-! == of counts -/
theorem Pk.dcs {cs : List (Str × Int)} {v : V} (s : Sees F H) (h : Pk K F H (dcs cs) v) (n : ∀ a, v = .ref a → ∀ od ws, H a ≠ some (.frz od ws)) : ∃ a, v = .ref a ∧ H a = some (.dK (kvS cs)) := by
  obtain ⟨a, ws, rfl, h1, h2⟩ := Pk.dic s h
  have := isK_cs h2
  subst this
  rcases h1 with h1 | ⟨od, h1⟩
  · exact ⟨a, rfl, h1⟩
  · exact absurd h1 (n a rfl od _)
/-! own __len__, __str__, __repr__, by the built-in words -/
/-- self's own method, called by a word on a known object -/
theorem own_core {c : Str} {f : FS} {x : D} {v : V} {Q9 : D → Sls → Prop} {X9 : XK9} {Q : VK} (r : R K G L env σ F H) (hi : Is K F x v) (hm : f.ms = [false]) (hf : f.fr = false) (h : f.sp [x] (fun y _ => Q9 y env) (fun z _ => X9 z env))
    (q : ∀ (y : D) (u : V) (F2 H2 : Hp), R K G L env σ F2 H2 → Same F F2 → Is K F2 y u → Q9 y env → Q u H2) (x9 : ∀ e env' c dd F' H', R K G L env' σ F' H' → XR K F' H' e c dd → X9 e env' → W0 c dd σ H') : f.to K [v] H Q C8.E0 := by
  have rp : RelPs K σ F [.inl x] [v] := .cons (show RelP K σ F (.inl x) v from hi) .nil
  have em : mus f.ms [v] = mus ([(Sum.inl x : P9)].map isS) [v] := by rw [hm]; rfl
  refine ⟨F, L ++ G.L0, [x], _, _, by rw [hm]; exact r.pre rp rfl List.nodup_nil, h, fun y nd k F2 H2 u po mr hv => ?_, fun y nd k F2 H2 cc dd po mr hx => ?_⟩
  · rw [em] at po
    rw [hm] at mr
    rw [hf] at hv
    exact q y u F2 H2 (r.called rp rfl List.nodup_nil (fun a z => .inl z) po mr) po.same hv k
  · rw [em] at po
    rw [hm] at mr
    exact x9 y env cc dd F2 H2 (r.called rp rfl List.nodup_nil (fun a z => .inl z) po mr) hx k
def dOwnLen (c : Str) (f : FS) (d : DE) : DE := fun X env Q => d X env fun x e => match x with
  | .obj c' _ => c' = c ∧ f.sp [x] (fun y _ => match y with
    | .int n => (0 ≤ n ∧ n < 2 ^ 63) ∧ Q (.int n) e
    | _ => False) (fun z _ => X z e)
  | _ => False
theorem sim_ownLen {c : Str} {f : FS} {d : DE} {t : TE} (s : SimE K W0 d t) (hm : f.ms = [false]) (hf : f.fr = false) : SimE K W0 (dOwnLen c f d) (tCB (rLenOwn (He.ga K c) (f.to K)) (tCons t tNil)) := ⟨fun {G L env σ F H X9 Q9 Q} r h q x => s.run r h (fun y e v F1 H1 r1 s1 i1 h1 => by
  split at h1
  · rename_i c' fs
    obtain ⟨ec, h1⟩ := h1
    subst ec
    obtain ⟨a, dx, ws, rfl, ha, hw⟩ := Pk.obj r1.sees (.inl i1)
    refine ⟨a, dx, ws, rfl, ha, own_core (c := c') (Q9 := fun y e => match y with
      | .int n => (0 ≤ n ∧ n < 2 ^ 63) ∧ Q9 (.int n) e
      | _ => False) r1 i1 hm hf h1 (fun y u F2 H2 r2 s2 i2 k => ?_) x⟩
    split at k
    · cases i2
      exact ⟨_, rfl, k.1.1, k.1.2, q _ e _ F2 H2 r2 (s1.trans s2) .int k.2⟩
    · exact k.elim
  · exact h1.elim) x⟩
def dOwnStr (c : Str) (f : FS) (d : DE) : DE := fun X env Q => d X env fun x e => match x with
  | .obj c' _ => c' = c ∧ f.sp [x] (fun y _ => match y with
    | .str n => Q (.str n) e
    | _ => False) (fun z _ => X z e)
  | _ => False
theorem sim_ownStr {c : Str} {f : FS} {d : DE} {t : TE} (s : SimE K W0 d t) (hm : f.ms = [false]) (hf : f.fr = false) : SimE K W0 (dOwnStr c f d) (tCB (rStrOwn (He.ga K c) (f.to K)) (tCons t tNil)) := ⟨fun {G L env σ F H X9 Q9 Q} r h q x => s.run r h (fun y e v F1 H1 r1 s1 i1 h1 => by
  split at h1
  · rename_i c' fs
    obtain ⟨ec, h1⟩ := h1
    subst ec
    obtain ⟨a, dx, ws, rfl, ha, hw⟩ := Pk.obj r1.sees (.inl i1)
    refine ⟨a, dx, ws, rfl, ha, own_core (c := c') (Q9 := fun y e => match y with
      | .str n => Q9 (.str n) e
      | _ => False) r1 i1 hm hf h1 (fun y u F2 H2 r2 s2 i2 k => ?_) x⟩
    split at k
    · cases i2
      exact ⟨_, rfl, q _ e _ F2 H2 r2 (s1.trans s2) .str k⟩
    · exact k.elim
  · exact h1.elim) x⟩
/-! x == y, x != y by the own __eq__ of x's class, y of the same class or a plain thing -/
/-- what isinstance and == may know of a thing -/
inductive Ty9 : D → String → Prop
  | non : Ty9 .non "NoneType" | bl {b : Bool} : Ty9 (.bl b) "bool" | int {i : Int} : Ty9 (.int i) "int" | str {z : Str} : Ty9 (.str z) "str" | lst {xs : List D} : Ty9 (.lst xs) "list" | tup {xs : List D} : Ty9 (.tup xs) "tuple" | dic {xs : List (Key × D)} : Ty9 (.dic xs) "dict"
/-! own __eq__: both known objects of the class -/
def dOwnEq (neg : Bool) (c : Str) (f : FS) (a b : DE) : DE := fun X env Q => a X env fun x e1 => b X e1 fun y e2 => match x, y with
  | .obj c1 _, .obj c2 _ => (c1 = c ∧ c2 = c) ∧ f.sp [x, y] (fun z _ => match z with
    | .bl k => Q (.bl (if neg then !k else k)) e2
    | _ => False) (fun z _ => X z e2)
  | _, _ => False
theorem sim_ownEq {neg : Bool} {c : Str} {f : FS} {a b : DE} {ta tb : TE} (ic : IsiC K (He.ga K c)) (sa : SimE K W0 a ta) (sb : SimE K W0 b tb) (hm : f.ms = [false, false]) (hf : f.fr = false) : SimE K W0 (dOwnEq neg c f a b) (tOp (rEqOwn K (He.ga K c) (f.to K) neg) ta tb) := ⟨fun {G L env σ F H X9 Q9 Q} r h q x => sa.run r h (fun y e1 v F1 H1 r1 s1 i1 h1 => sb.run r1 h1 (fun z e2 w F2 H2 r2 s2 i2 h2 => by
  split at h2
  · rename_i c1 fs1 c2 fs2
    obtain ⟨⟨e3, e4⟩, h2⟩ := h2
    subst e3
    subst e4
    have i1 := i1.mono s2
    obtain ⟨a, dx, ws, rfl, ha, hw⟩ := Pk.obj r2.sees (.inl i1)
    obtain ⟨b, dy, us, rfl, hb, hu⟩ := Pk.obj r2.sees (.inl i2)
    refine ⟨a, dx, ws, _, rfl, ha, ic.ty hb, by simp [PySem.W.notFirst], ?_⟩
    have rp : RelPs K σ F2 [.inl (.obj c2 fs1), .inl (.obj c2 fs2)] [.ref a, .ref b] := .cons (show RelP K σ F2 (.inl (.obj c2 fs1)) (.ref a) from i1) (.cons (show RelP K σ F2 (.inl (.obj c2 fs2)) (.ref b) from i2) .nil)
    have em : mus f.ms [.ref a, .ref b] = mus ([(Sum.inl (.obj c2 fs1) : P9), .inl (.obj c2 fs2)].map isS) [.ref a, .ref b] := by rw [hm]; rfl
    refine ⟨F2, L ++ G.L0, _, _, _, by rw [hm]; exact r2.pre rp rfl List.nodup_nil, h2, fun y nd k F3 H3 u po mr hv => ?_, fun y nd k F3 H3 cc dd po mr hx => ?_⟩
    · rw [em] at po
      rw [hm] at mr
      rw [hf] at hv
      have r3 := r2.called rp rfl List.nodup_nil (fun a z => .inl z) po mr
      split at k
      · have hv : Is K F3 (.bl _) u := hv
        cases hv
        exact ⟨_, rfl, q _ e2 _ F3 H3 r3 ((s1.trans s2).trans po.same) .bl k⟩
      · exact k.elim
    · rw [em] at po
      rw [hm] at mr
      exact x y e2 cc dd F3 H3 (r2.called rp rfl List.nodup_nil (fun a z => .inl z) po mr) hx k
  · exact h2.elim) x) x⟩
end
end Dv

set_option maxHeartbeats 4000000
/-! Loops by induction. -/
namespace Dv
open PySem PySem.Spec PyProof.Rows L2 Sk
section
variable {g : DG} {b : DS} {X : XK9} {E : E9} {env : Sls}
/-- what a turn goes on with -/
def nx9 (g : DG) (b : DS) (X : XK9) (E : E9) (xs : List D) : E9 := { E with nx := forL g b X E xs, ct := forL g b X E xs, bk := E.nx }
theorem forL_ind {xs : List D} (P : List D → Sls → Prop) (h0 : P xs env) (hs : ∀ x ys env, P (x :: ys) env → (∀ e, P ys e → forL g b X E ys e) → g x env fun e1 => b X { E with nx := forL g b X E ys, ct := forL g b X E ys, bk := E.nx } e1) (hn : ∀ env, P [] env → E.nx env) : forL g b X E xs env := by
  induction xs generalizing env with
  | nil => exact hn env h0
  | cons x xs ih => exact hs x xs env h0 fun e he => ih he
/-- over things of one form: done and to come -/
theorem forL_map {α : Type} {f : α → D} {l : List α} (P : List α → List α → Sls → Prop) (h0 : P [] l env) (hs : ∀ done x ys env, l = done ++ x :: ys → P done (x :: ys) env → (∀ e, P (done ++ [x]) ys e → forL g b X E (ys.map f) e) →
    g (f x) env fun e1 => b X { E with nx := forL g b X E (ys.map f), ct := forL g b X E (ys.map f), bk := E.nx } e1) (hn : ∀ env, P l [] env → E.nx env) : forL g b X E (l.map f) env := by
  have key : ∀ (ys done : List α) (env : Sls), l = done ++ ys → P done ys env → forL g b X E (ys.map f) env := by
    intro ys
    induction ys with
    | nil =>
      intro done env e h
      rw [List.append_nil] at e
      exact hn env (e ▸ h)
    | cons x ys ih =>
      intro done env e h
      exact hs done x ys env e h fun e' he => ih (done ++ [x]) e' (by rw [e]; simp) he
  exact key l [] env rfl h0
theorem rng9_eq (lo : Int) (n : Nat) : rng9 lo n = (List.range n).map fun (i : Nat) => D.int (lo + (i : Int)) := rfl
/-- over a range: the turn's number -/
theorem forL_rng {lo : Int} {n : Nat} (P : Nat → Sls → Prop) (h0 : P 0 env) (hs : ∀ i env, i < n → P i env → ∀ (rest : Sls → Prop), (∀ e, P (i + 1) e → rest e) → g (.int (lo + (i : Int))) env fun e1 => b X { E with nx := rest, ct := rest, bk := E.nx } e1) (hn : ∀ env, P n env → E.nx env) : forL g b X E (rng9 lo n) env := by
  have key : ∀ (k i : Nat) (env : Sls), i + k = n → P i env → forL g b X E ((List.range' i k).map fun (i : Nat) => D.int (lo + (i : Int))) env := by
    intro k
    induction k with
    | zero =>
      intro i env e h
      have : i = n := by omega
      exact hn env (this ▸ h)
    | succ k ih =>
      intro i env e h
      exact hs i env (by omega) h _ fun e' he => ih (i + 1) e' (by omega) he
  have := key n 0 env (by omega) h0
  rw [← List.range_eq_range'] at this
  exact this
section
variable {c : DT} {el : DE} {vs : List Nat} {Q : List D → Sls → Prop}
theorem lcL_ind {xs acc : List D} (P : List D → List D → Sls → Prop) (h0 : P xs acc env) (hs : ∀ x ys acc env, P (x :: ys) acc env → ∀ (rest : List D → Sls → Prop), (∀ acc e, P ys acc e → rest acc e) →
    g x env fun e1 => c X0 e1 fun k e2 => ifB k (el X0 e2 fun y e3 => acc.length < 16777216 ∧ rest (acc ++ [y]) (wipe9 e3 vs)) (rest acc (wipe9 e2 vs))) (hn : ∀ acc env, P [] acc env → Q acc env) : lcL g c el vs Q xs acc env := by
  induction xs generalizing env acc with
  | nil => exact hn acc env h0
  | cons x xs ih => exact hs x xs acc env h0 (fun acc e => lcL g c el vs Q xs acc e) fun acc e he => ih he
/-- over things of one form -/
theorem lcL_map {α : Type} {f : α → D} {l : List α} (P : List α → List D → Sls → Prop) (h0 : P l [] env) (hs : ∀ x ys acc env, x ∈ l → P (x :: ys) acc env → ∀ (rest : List D → Sls → Prop), (∀ acc e, P ys acc e → rest acc e) →
    g (f x) env fun e1 => c X0 e1 fun k e2 => ifB k (el X0 e2 fun y e3 => acc.length < 16777216 ∧ rest (acc ++ [y]) (wipe9 e3 vs)) (rest acc (wipe9 e2 vs))) (hn : ∀ acc env, P [] acc env → Q acc env) : lcL g c el vs Q (l.map f) [] env := by
  have key : ∀ (ys : List α) (acc : List D) (env : Sls), (∀ y ∈ ys, y ∈ l) → P ys acc env → lcL g c el vs Q (ys.map f) acc env := by
    intro ys
    induction ys with
    | nil => intro acc env _ h; exact hn acc env h
    | cons x ys ih =>
      intro acc env hm h
      exact hs x ys acc env (hm x List.mem_cons_self) h (fun acc e => lcL g c el vs Q (ys.map f) acc e) fun acc e he => ih acc e (fun y hy => hm y (List.mem_cons_of_mem _ hy)) he
  exact key l [] env (fun _ h => h) h0
theorem lcL_rng {lo : Int} {n : Nat} (P : Nat → List D → Sls → Prop) (h0 : P 0 [] env) (hs : ∀ i acc env, i < n → P i acc env → ∀ (rest : List D → Sls → Prop), (∀ acc e, P (i + 1) acc e → rest acc e) →
    g (.int (lo + (i : Int))) env fun e1 => c X0 e1 fun k e2 => ifB k (el X0 e2 fun y e3 => acc.length < 16777216 ∧ rest (acc ++ [y]) (wipe9 e3 vs)) (rest acc (wipe9 e2 vs))) (hn : ∀ acc env, P n acc env → Q acc env) : lcL g c el vs Q (rng9 lo n) [] env := by
  have key : ∀ (k i : Nat) (acc : List D) (env : Sls), i + k = n → P i acc env → lcL g c el vs Q ((List.range' i k).map fun (i : Nat) => D.int (lo + (i : Int))) acc env := by
    intro k
    induction k with
    | zero =>
      intro i acc env e h
      have : i = n := by omega
      exact hn acc env (this ▸ h)
    | succ k ih =>
      intro i acc env e h
      exact hs i acc env (by omega) h (fun acc e => lcL g c el vs Q ((List.range' (i + 1) k).map fun (i : Nat) => D.int (lo + (i : Int))) acc e) fun acc e' he => ih (i + 1) acc e' (by omega) he
  have := key n 0 [] env (by omega) h0
  rw [← List.range_eq_range'] at this
  exact this
/-- each turn gives h x and leaves all as it is -/
theorem lcL_fun {α : Type} {f : α → D} {l : List α} (h : α → D) (hl : l.length ≤ 16777216) (hs : ∀ x, x ∈ l → ∀ (acc : List D) (rest : List D → Sls → Prop), rest (acc ++ [h x]) env → acc.length < 16777216 →
    g (f x) env fun e1 => c X0 e1 fun k e2 => ifB k (el X0 e2 fun y e3 => acc.length < 16777216 ∧ rest (acc ++ [y]) (wipe9 e3 vs)) (rest acc (wipe9 e2 vs))) (hn : Q (l.map h) env) : lcL g c el vs Q (l.map f) [] env := by
  refine lcL_map (fun ys acc e => e = env ∧ ∃ done, l = done ++ ys ∧ acc = done.map h) ⟨rfl, [], rfl, rfl⟩ (fun x ys acc e hx hp rest hr => ?_) (fun acc e hp => ?_)
  · obtain ⟨rfl, done, e1, rfl⟩ := hp
    have e2 := congrArg List.length e1
    rw [List.length_append] at e2
    refine hs x hx _ rest (hr _ _ ⟨rfl, done ++ [x], by rw [e1]; simp, by simp⟩) ?_
    rw [List.length_map]
    simp at e2
    omega
  · obtain ⟨rfl, done, e1, rfl⟩ := hp
    rw [List.append_nil] at e1
    rw [← e1]
    exact hn
end
end
end Dv

set_option maxHeartbeats 4000000
/-! Names, words of bags, their counts: the mathematics. -/
namespace Sk
open PySem PySem.Spec PyProof.Rows L2
abbrev tl (z : Str) : List Nat := z.cps.toList
def isLet (c : Nat) : Bool := decide (97 ≤ c) && decide (c ≤ 122)
def isFig (c : Nat) : Bool := decide (48 ≤ c) && decide (c ≤ 57)
def headLet : List Nat → Bool
  | [] => false
  | c :: _ => isLet c
def isNm (l : List Nat) : Bool := decide (1 ≤ l.length) && (decide (l.length ≤ 8) && (headLet l && l.all fun c => isLet c || isFig c))
def isName (z : Str) : Bool := isNm (tl z)
theorem letters_tl : tl (Str.ofString "abcdefghijklmnopqrstuvwxyz") = (List.range 26).map (97 + ·) := by decide +kernel
theorem figures_tl : tl (Str.ofString "0123456789") = (List.range 10).map (48 + ·) := by decide +kernel
theorem in_letters (c : Nat) : decide (c ∈ tl (Str.ofString "abcdefghijklmnopqrstuvwxyz")) = isLet c := by
  rw [letters_tl]
  unfold isLet
  rw [← Bool.decide_and]
  refine decide_eq_decide.mpr ⟨fun h => ?_, fun h => ?_⟩
  · obtain ⟨k, hk, e⟩ := List.mem_map.mp h
    have := List.mem_range.mp hk
    omega
  · exact List.mem_map.mpr ⟨c - 97, List.mem_range.mpr (by omega), by omega⟩
theorem in_figures (c : Nat) : decide (c ∈ tl (Str.ofString "0123456789")) = isFig c := by
  rw [figures_tl]
  unfold isFig
  rw [← Bool.decide_and]
  refine decide_eq_decide.mpr ⟨fun h => ?_, fun h => ?_⟩
  · obtain ⟨k, hk, e⟩ := List.mem_map.mp h
    have := List.mem_range.mp hk
    omega
  · exact List.mem_map.mpr ⟨c - 48, List.mem_range.mpr (by omega), by omega⟩
/-- the truths of a text's signs, as a list of the walk's -/
theorem all_range (l : List Nat) (p : Nat → Bool) : ((List.range l.length).map fun i => p (l.getD i 0)).all id = l.all p := by
  have e : (List.range l.length).map (fun i => p (l.getD i 0)) = l.map p := by
    apply List.ext_getElem (by simp)
    intro i h1 h2
    have h3 : i < l.length := by simpa using h2
    simp [List.getD, h3]
  rw [e, List.all_map]
  rfl

/-! ### a text cut at a sign -/
theorem spl1 (s : Nat) : ∀ (l acc : List Nat), TL.spl [s] 0 acc l ≠ [] ∧ (TL.spl [s] 0 acc l).length ≤ l.length + 1 ∧ ∀ p ∈ TL.spl [s] 0 acc l, p.length ≤ acc.length + l.length
  | [], acc => by
    rw [TL.spl_nil]
    refine ⟨by simp, by simp, fun p hp => ?_⟩
    rw [List.mem_singleton.mp hp]
    simp
  | c :: r, acc => by
    cases h : TL.pre [s] (c :: r) with
    | true =>
      rw [TL.spl_hit h]
      obtain ⟨h1, h2, h3⟩ := spl1 s r []
      refine ⟨by simp, by simp only [List.length_cons, List.length_nil] at *; exact Nat.succ_le_succ h2, fun p hp => ?_⟩
      rcases List.mem_cons.mp hp with e | hp
      · rw [e]
        omega
      · have := h3 p hp
        simp only [List.length_cons, List.length_nil] at *
        omega
    | false =>
      rw [TL.spl_miss h]
      obtain ⟨h1, h2, h3⟩ := spl1 s r (acc ++ [c])
      refine ⟨h1, by simp only [List.length_cons] at *; omega, fun p hp => ?_⟩
      have := h3 p hp
      simp only [List.length_append, List.length_cons, List.length_nil] at *
      omega
theorem tl_star : tl (Str.ofString "*") = [42] := by decide +kernel
theorem tl_blank : tl (Str.ofString " ") = [32] := by decide +kernel
theorem split_one {y : Str} {s : Nat} (e : tl y = [s]) (hk : y.cps.all (· < 256) = true) (w : Str) : Txt.split w y ≠ [] ∧ (Txt.split w y).length ≤ w.length + 1 ∧ ∀ p ∈ Txt.split w y, p.length ≤ w.length := by
  have q := TL.split_spl w y (by rw [show TL.tl y = [s] from e]; simp) (TL.kind_ok hk)
  rw [show TL.tl y = [s] from e] at q
  obtain ⟨h1, h2, h3⟩ := spl1 s (TL.tl w) []
  rw [← q] at h1 h2 h3
  rw [← TL.len_tl w] at h2
  refine ⟨fun z => h1 (by rw [z]; rfl), by simpa using h2, fun p hp => ?_⟩
  have := h3 (TL.tl p) (List.mem_map.mpr ⟨p, hp, rfl⟩)
  rw [← TL.len_tl, ← TL.len_tl] at this
  simpa using this
theorem star256 : (Str.ofString "*").cps.all (· < 256) = true := by decide +kernel
theorem blank256 : (Str.ofString " ").cps.all (· < 256) = true := by decide +kernel
/-! ### a word of a bag -/
def figsOk (f : Str) : Bool := decide (1 ≤ f.length) && (decide (f.length ≤ 3) && (!decide ((tl f).head? = some 48) && (tl f).all isFig))
def figV (f : Str) : Int := ((NumText.digitsVal (tl f) : Nat) : Int)
def parseP : List Str → Option (Str × Int)
  | [n] => if isName n = true then some (n, 1) else none
  | [n, f] => if (isName n && figsOk f) = true then some (n, figV f) else none
  | _ => none
def parseW (w : Str) : Option (Str × Int) := parseP (Txt.split w (Str.ofString "*"))
theorem figsOk_int {f : Str} (h : figsOk f = true) : intText? f = some (figV f) := by
  unfold figsOk at h
  simp only [Bool.and_eq_true, decide_eq_true_eq] at h
  obtain ⟨h1, h2, _, h4⟩ := h
  refine intText_digits (x := f) (fun c hc => ?_) (fun e => ?_) (by omega)
  · have := List.all_eq_true.mp h4 c hc
    unfold isFig at this
    simpa using this
  · have : f.length = (tl f).length := by simp [Str.length]
    rw [show tl f = [] from e] at this
    simp at this
    omega
theorem one_sign (c d : Nat) (z : Str) (e : tl z = [d]) : decide (V.str ⟨#[c]⟩ = V.str z) = decide (c = d) := by
  refine decide_eq_decide.mpr ⟨fun h => ?_, fun h => ?_⟩
  · injection h with h
    have : tl (⟨#[c]⟩ : Str) = tl z := by rw [h]
    rw [e] at this
    exact List.head_eq_of_cons_eq (show [c] = [d] from this)
  · rw [h]
    have : (⟨#[d]⟩ : Str) = z := TL.ext_tl (by rw [show TL.tl z = [d] from e])
    rw [this]
theorem one_zero (c : Nat) : decide (V.str ⟨#[c]⟩ = V.str (Str.ofString "0")) = decide (c = 48) := one_sign c 48 _ (by decide +kernel)
/-! ### the words of a bag -/
def addC (cs : List (Str × Int)) (n : Str) (c : Int) : List (Str × Int) := put cs n ((look cs n).getD 0 + c)
def countsL : Nat → List Str → List (Str × Int) → Int → Except Nat (List (Str × Int))
  | _, [], cs, _ => .ok cs
  | i, w :: r, cs, t => match parseW w with
    | none => .error i
    | some (n, c) => if 400 < t + c then .error i else countsL (i + 1) r (addC cs n c) (t + c)
theorem countsL_ok {i : Nat} {w : Str} {r : List Str} {cs fin : List (Str × Int)} {t : Int} (h : countsL i (w :: r) cs t = .ok fin) : ∃ n c, parseW w = some (n, c) ∧ ¬ 400 < t + c ∧ countsL (i + 1) r (addC cs n c) (t + c) = .ok fin := by
  unfold countsL at h
  cases e : parseW w with
  | none => rw [e] at h; cases h
  | some p =>
    obtain ⟨n, c⟩ := p
    rw [e] at h
    by_cases q : 400 < t + c
    · simp only [if_pos q] at h
      cases h
    · simp only [if_neg q] at h
      exact ⟨n, c, rfl, q, h⟩
/-! ### texts put in order -/
def leB (a b : Str) : Bool := !decide (tl b < tl a)
def srt (ks : List Str) : List Str := ks.mergeSort leB
theorem leB_iff (a b : Str) : leB a b = true ↔ tl a ≤ tl b := by
  unfold leB
  simp
theorem leB_trans (a b c : Str) (h1 : leB a b = true) (h2 : leB b c = true) : leB a c = true := (leB_iff a c).mpr (List.le_trans ((leB_iff a b).mp h1) ((leB_iff b c).mp h2))
theorem leB_total (a b : Str) : (leB a b || leB b a) = true := by
  rcases List.le_total (tl a) (tl b) with h | h
  · rw [(leB_iff a b).mpr h, Bool.true_or]
  · rw [(leB_iff b a).mpr h, Bool.or_true]
theorem leB_anti {a b : Str} (h1 : leB a b = true) (h2 : leB b a = true) : a = b := TL.ext_tl (List.le_antisymm ((leB_iff a b).mp h1) ((leB_iff b a).mp h2))
theorem rising_pw : ∀ (l : List Str) (p : Str), risingS p l = true → (∀ x ∈ l, leB p x = true) ∧ l.Pairwise (fun a b => leB a b = true)
  | [], _, _ => ⟨fun _ h => (nomatch h), .nil⟩
  | y :: r, p, h => by
    have h2 : (!ltCps (tl y) (tl p) && risingS y r) = true := h
    obtain ⟨h3, h4⟩ := He.ba h2
    have h5 : leB p y = true := by
      unfold leB
      rw [ltCps_eq] at h3
      exact h3
    obtain ⟨i1, i2⟩ := rising_pw r y h4
    refine ⟨fun x hx => ?_, List.pairwise_cons.mpr ⟨i1, i2⟩⟩
    rcases List.mem_cons.mp hx with e | hx
    · rw [e]
      exact h5
    · exact leB_trans _ _ _ h5 (i1 x hx)
theorem sorted_pw {l : List Str} (h : sortedS l = true) : l.Pairwise (fun a b => leB a b = true) := by
  cases l with
  | nil => exact .nil
  | cons p r =>
    obtain ⟨h1, h2⟩ := rising_pw r p h
    exact List.pairwise_cons.mpr ⟨h1, h2⟩
theorem srt_pw (ks : List Str) : (srt ks).Pairwise (fun a b => leB a b = true) := List.pairwise_mergeSort leB_trans leB_total ks
theorem srt_perm (ks : List Str) : (srt ks).Perm ks := List.mergeSort_perm ks leB
theorem srt_of {ys ks : List Str} (hp : ys.Perm ks) (hs : sortedS ys = true) : ys = srt ks :=
  List.Perm.eq_of_pairwise (le := fun a b => leB a b = true) (fun _ _ _ _ h1 h2 => leB_anti h1 h2) (sorted_pw hs) (srt_pw ks) (hp.trans (srt_perm ks).symm)
theorem srt_eq {ks ls : List Str} (hp : ks.Perm ls) : srt ks = srt ls :=
  List.Perm.eq_of_pairwise (le := fun a b => leB a b = true) (fun _ _ _ _ h1 h2 => leB_anti h1 h2) (srt_pw ks) (srt_pw ls) ((srt_perm ks).trans (hp.trans (srt_perm ls).symm))
theorem mem_srt {ks : List Str} {x : Str} : x ∈ srt ks ↔ x ∈ ks := (srt_perm ks).mem_iff
theorem length_srt (ks : List Str) : (srt ks).length = ks.length := (srt_perm ks).length_eq
/-! ### bags -/
def keysOf (cs : List (Str × Int)) : List Str := cs.map (·.1)
def sumC (cs : List (Str × Int)) : Int := (cs.map (·.2)).sum
def numT (c : Int) : Str := Str.ofString (toString c)
def wordOf (n : Str) (c : Int) : Str := if c = 1 then n else n ++ Str.ofString "*" ++ numT c
def textOf (cs : List (Str × Int)) : Str := Txt.join (Str.ofString " ") ((srt (keysOf cs)).map fun n => wordOf n ((look cs n).getD 0))
structure GoodC (cs : List (Str × Int)) : Prop where
  few : cs.length < 64
  nd : (keysOf cs).Nodup
  nm : ∀ p ∈ cs, isName p.1 = true
  pos : ∀ p ∈ cs, 1 ≤ p.2
  sum : sumC cs ≤ 100000
theorem look_mem {cs : List (Str × Int)} {n : Str} {c : Int} (h : look cs n = some c) : (n, c) ∈ cs := by
  induction cs with
  | nil => cases h
  | cons p r ih =>
    rw [look_cons] at h
    by_cases e : p.1 = n
    · rw [if_pos e] at h
      have : p = (n, c) := Prod.ext e (Option.some.inj h)
      rw [this]
      exact List.mem_cons_self
    · rw [if_neg e] at h
      exact List.mem_cons_of_mem _ (ih h)
theorem look_of {cs : List (Str × Int)} (nd : (keysOf cs).Nodup) {n : Str} {c : Int} (h : (n, c) ∈ cs) : look cs n = some c := by
  induction cs with
  | nil => cases h
  | cons p r ih =>
    have nd2 : p.1 ∉ keysOf r ∧ (keysOf r).Nodup := List.nodup_cons.mp nd
    rw [look_cons]
    rcases List.mem_cons.mp h with e | h
    · rw [← e, if_pos rfl]
    · rw [if_neg, ih nd2.2 h]
      intro e
      exact nd2.1 (by rw [e]; exact List.mem_map.mpr ⟨_, h, rfl⟩)
theorem look_none {cs : List (Str × Int)} {n : Str} : look cs n = none ↔ n ∉ keysOf cs := by
  induction cs with
  | nil => simp [look, keysOf]
  | cons p r ih =>
    rw [look_cons]
    by_cases e : p.1 = n
    · rw [if_pos e]
      simp [keysOf, e]
    · rw [if_neg e, ih]
      simp [keysOf, Ne.symm e]
theorem isName_len {n : Str} (h : isName n = true) : 1 ≤ n.length ∧ n.length ≤ 8 := by
  unfold isName isNm at h
  obtain ⟨h1, h⟩ := He.ba h
  obtain ⟨h2, _⟩ := He.ba h
  rw [show n.length = (tl n).length by simp [Str.length]]
  exact ⟨of_decide_eq_true h1, of_decide_eq_true h2⟩
theorem sumC_le {cs : List (Str × Int)} (pos : ∀ p ∈ cs, 1 ≤ p.2) : ∀ p ∈ cs, p.2 ≤ sumC cs := by
  induction cs with
  | nil => intro p hp; cases hp
  | cons q r ih =>
    intro p hp
    have h1 := pos q List.mem_cons_self
    have h2 : 0 ≤ sumC r := by
      have pr : ∀ p ∈ r, 1 ≤ p.2 := fun p hp => pos p (List.mem_cons_of_mem _ hp)
      clear ih hp h1 pos
      induction r with
      | nil => exact Int.le_refl 0
      | cons a r ih =>
        have h1 := pr a List.mem_cons_self
        have h2 := ih fun p hp => pr p (List.mem_cons_of_mem _ hp)
        show 0 ≤ a.2 + sumC r
        omega
    show p.2 ≤ q.2 + sumC r
    rcases List.mem_cons.mp hp with e | hp
    · rw [e]
      omega
    · have := ih (fun p hp => pos p (List.mem_cons_of_mem _ hp)) p hp
      omega
theorem GoodC.le {cs : List (Str × Int)} (g : GoodC cs) : ∀ p ∈ cs, p.2 ≤ 100000 := fun p hp => Int.le_trans (sumC_le g.pos p hp) g.sum
end Sk

set_option maxHeartbeats 4000000
/-! texts of bags: words, their lengths, split and join again -/
namespace Sk
open PySem PySem.Spec PyProof.Rows L2
theorem append_len (a b : Str) : (a ++ b).length = a.length + b.length := Str.length_append a b
theorem empty_app (n : Str) : Str.empty ++ n = n := by
  cases n
  show (⟨#[] ++ _⟩ : Str) = _
  simp
theorem app_empty (n : Str) : n ++ Str.ofString "" = n := by
  cases n
  show (⟨_ ++ #[]⟩ : Str) = _
  simp
theorem app_assoc (a b c : Str) : a ++ b ++ c = a ++ (b ++ c) := by
  cases a; cases b; cases c
  show (⟨(_ ++ _) ++ _⟩ : Str) = ⟨_ ++ (_ ++ _)⟩
  simp
theorem tl_app (a b : Str) : tl (a ++ b) = tl a ++ tl b := by
  cases a; cases b
  show ((_ ++ _ : Array Nat)).toList = _
  simp [tl]
theorem log_small {c : Int} (h0 : 0 ≤ c) (h : c ≤ 1000000) : c.natAbs.log2 < 1920 := by
  have h1 : c.natAbs < 2 ^ 1920 := Nat.lt_of_le_of_lt (show c.natAbs ≤ 1000000 by omega) (by decide +kernel)
  exact PySem.Flt.log2_lt_of (by omega) h1
theorem numT_len {c : Int} (h0 : 0 ≤ c) (h : c < 1000000) : (numT c).length ≤ 6 := toString_length_le h0 (by omega) (by omega)
theorem wordOf_len {n : Str} {c : Int} (hn : n.length ≤ 8) (h0 : 0 ≤ c) (h : c < 1000000) : (wordOf n c).length ≤ 15 := by
  unfold wordOf
  split
  · omega
  · rw [append_len, append_len]
    have := numT_len h0 h
    have : (Str.ofString "*").length = 1 := by decide +kernel
    omega
theorem sum_le {α : Type} {m : Nat} (f : α → Nat) : ∀ (l : List α), (∀ x ∈ l, f x ≤ m) → (l.map f).sum ≤ l.length * m
  | [], _ => Nat.zero_le _
  | x :: r, h => by
    have h1 := h x List.mem_cons_self
    have h2 := sum_le f r fun y hy => h y (List.mem_cons_of_mem _ hy)
    rw [List.map_cons, List.sum_cons, List.length_cons, Nat.add_mul]
    omega
theorem words_size {ws : List Str} {a : Str} (ha : a.length ≤ 1) (hn : ws.length ≤ 1000) (h : ∀ x ∈ ws, x.length ≤ 15) : (ws.map (·.length)).sum + ws.length * a.length ≤ 16000 := by
  have h1 := sum_le (m := 15) (fun x : Str => x.length) ws h
  have h2 : ws.length * a.length ≤ ws.length * 1 := Nat.mul_le_mul_left _ ha
  omega
end Sk

set_option maxHeartbeats 4000000
/-! names that a law makes: letters, cuts, lists of unlike names; heaps but for one object -/
namespace Sk
open PySem PySem.Spec PyProof.Rows L2
theorem But.mut {d p : Addr} {H H1 : Hp} {o : HO} (a : But d H H1) (h : H p = Option.none) : But d H (L2.upd H1 p o) := fun c u n e => by
  have := a c u n e
  rw [upd_ne (ne_of_none e h)]
  exact this
theorem But.free {d p : Addr} {H H1 : Hp} (a : But d H H1) (n : p ≠ d) (h : H1 p = Option.none) : H p = Option.none := by
  cases e : H p with
  | none => rfl
  | some o =>
    rw [a p o n e] at h
    cases h
theorem But.at {d p : Addr} {H H1 : Hp} {o : HO} (a : But d H H1) (n : p ≠ d) (h : H p = some o) : H1 p = some o := a p o n h
theorem But.seqL {K : PySem.W.Frag} {d a : Addr} {H H1 : Hp} {xs : List V} (b : But d H H1) (n : a ≠ d) (h : SqL K H a xs) : SqL K H1 a xs :=
  h.elim (fun h => .inl (h.elim (fun h => .inl (b _ _ n h)) fun ⟨o, h⟩ => .inr ⟨o, b _ _ n h⟩)) fun h => .inr h
def okC (c : Nat) : Bool := isLet c || isFig c
def chk (z : Str) : Bool := (tl z).all okC
def letters : Str := Str.ofString "abcdefghijklmnopqrstuvwxyz"
def signs : Str := Str.ofString "abcdefghijklmnopqrstuvwxyz" ++ Str.ofString "0123456789"
theorem at_letter {v : Int} (h0 : 0 ≤ v) (h1 : v < 26) : ∃ c, atI (Str.ofString "abcdefghijklmnopqrstuvwxyz").cps.toList v = some c ∧ isLet c = true := by
  obtain ⟨k, rfl⟩ := Int.eq_ofNat_of_zero_le h0
  have hk : k < 26 := by omega
  refine ⟨97 + k, atI_nat (show (tl (Str.ofString "abcdefghijklmnopqrstuvwxyz"))[k]? = _ from ?_), ?_⟩
  · rw [letters_tl]
    simp [hk]
  · unfold isLet
    simp
    omega
theorem signs_tl : tl signs = (List.range 26).map (97 + ·) ++ (List.range 10).map (48 + ·) := by
  unfold signs
  rw [tl_app, letters_tl, figures_tl]
theorem at_sign {v : Int} (h0 : 0 ≤ v) (h1 : v < 36) : ∃ c, atI (Str.ofString "abcdefghijklmnopqrstuvwxyz" ++ Str.ofString "0123456789").cps.toList v = some c ∧ okC c = true := by
  obtain ⟨k, rfl⟩ := Int.eq_ofNat_of_zero_le h0
  have hk : k < 36 := by omega
  by_cases h : k < 26
  · refine ⟨97 + k, atI_nat (show (tl signs)[k]? = _ from ?_), ?_⟩
    · rw [signs_tl, List.getElem?_append_left (by simpa using h)]
      simp [h]
    · unfold okC isLet
      simp
      omega
  · refine ⟨48 + (k - 26), atI_nat (show (tl signs)[k]? = _ from ?_), ?_⟩
    · rw [signs_tl, List.getElem?_append_right (by simpa using h)]
      have : k - 26 < 10 := by omega
      simp [this]
    · unfold okC isFig
      simp
      omega
theorem joinL_nil_mem {c : Nat} : ∀ {ps : List (List Nat)}, c ∈ TL.joinL [] ps → ∃ p ∈ ps, c ∈ p
  | [], h => by cases h
  | [p], h => ⟨p, List.mem_cons_self, h⟩
  | p :: q :: r, h => by
    rcases List.mem_append.mp (show c ∈ p ++ ([] ++ TL.joinL [] (q :: r)) from h) with h | h
    · exact ⟨p, List.mem_cons_self, h⟩
    · obtain ⟨x, hx, e⟩ := joinL_nil_mem (ps := q :: r) h
      exact ⟨x, List.mem_cons_of_mem _ hx, e⟩
theorem joinL_nil_len : ∀ {ps : List (List Nat)}, (∀ p ∈ ps, p.length ≤ 1) → (TL.joinL [] ps).length ≤ ps.length
  | [], _ => Nat.zero_le _
  | [p], h => h p List.mem_cons_self
  | p :: q :: r, h => by
    have h1 := h p List.mem_cons_self
    have h2 := joinL_nil_len (ps := q :: r) fun x hx => h x (List.mem_cons_of_mem _ hx)
    show (p ++ ([] ++ TL.joinL [] (q :: r))).length ≤ _
    rw [List.length_append, List.nil_append, List.length_cons]
    omega
theorem tl_len (z : Str) : (tl z).length = z.length := by simp [Str.length, tl]
theorem join_chk {ps : List Str} (h : ∀ p ∈ ps, p.length ≤ 1 ∧ chk p = true) : chk (Txt.join (Str.ofString "") ps) = true ∧ (Txt.join (Str.ofString "") ps).length ≤ ps.length := by
  rw [TL.join_eq]
  have e : tl (Str.join (Str.ofString "") ps) = TL.joinL [] (ps.map tl) := TL.tl_join (Str.ofString "") ps
  refine ⟨?_, ?_⟩
  · unfold chk
    rw [e, List.all_eq_true]
    intro c hc
    obtain ⟨p, hp, hcp⟩ := joinL_nil_mem hc
    obtain ⟨q, hq, rfl⟩ := List.mem_map.mp hp
    exact List.all_eq_true.mp (h q hq).2 c hcp
  · rw [← tl_len, e]
    have := joinL_nil_len (ps := ps.map tl) fun p hp => by
      obtain ⟨q, hq, rfl⟩ := List.mem_map.mp hp
      rw [tl_len]
      exact (h q hq).1
    rw [List.length_map] at this
    exact this
theorem tl_cut (z : Str) (lo hi : Option Int) : tl (cutS z lo hi) = ((tl z).drop (HT.sIx z.length 0 lo)).take (HT.sIx z.length z.length hi - HT.sIx z.length 0 lo) := rfl
theorem made_name {h l : Nat} {b : Str} {k : Nat} (hh : isLet h = true) (hl : isLet l = true) (hb : chk b = true) (n : b.length ≤ 6) : isName (⟨#[h]⟩ ++ cutS b none (some (k : Int)) ++ ⟨#[l]⟩ ++ cutS b (some (k : Int)) none) = true := by
  have e : tl (⟨#[h]⟩ ++ cutS b none (some (k : Int)) ++ ⟨#[l]⟩ ++ cutS b (some (k : Int)) none : Str) = h :: ((tl b).take (min k b.length) ++ [l] ++ (tl b).drop (min k b.length)) := by
    rw [tl_app, tl_app, tl_app, tl_cut, tl_cut, HT.sIx_nat, HT.sIx_nat, HT.sIx_none, HT.sIx_none]
    have e1 : ((tl b).drop (min k b.length)).take (b.length - min k b.length) = (tl b).drop (min k b.length) := List.take_of_length_le (by rw [List.length_drop, tl_len]; omega)
    rw [e1]
    simp [tl]
  have len : (h :: ((tl b).take (min k b.length) ++ [l] ++ (tl b).drop (min k b.length))).length ≤ 8 := by
    simp only [List.length_cons, List.length_append, List.length_take, List.length_drop, tl_len, List.length_nil]
    omega
  unfold isName isNm
  rw [e]
  have hb' := List.all_eq_true.mp hb
  have a1 : ((h :: ((tl b).take (min k b.length) ++ [l] ++ (tl b).drop (min k b.length))).all fun c => isLet c || isFig c) = true := by
    rw [List.all_eq_true]
    intro c hc
    rcases List.mem_cons.mp hc with rfl | hc
    · rw [hh]; rfl
    · rcases List.mem_append.mp hc with hc | hc
      · rcases List.mem_append.mp hc with hc | hc
        · exact hb' c (List.mem_of_mem_take hc)
        · rw [List.mem_singleton.mp hc, hl]; rfl
      · exact hb' c (List.mem_of_mem_drop hc)
  rw [a1, decide_eq_true (show 1 ≤ (h :: ((tl b).take (min k b.length) ++ [l] ++ (tl b).drop (min k b.length))).length by simp), decide_eq_true len]
  show (true && (true && (isLet h && true))) = true
  rw [hh]
  rfl
structure GoodN (ns : List Str) : Prop where
  nm : ∀ z ∈ ns, isName z = true
  nd : ns.Nodup
theorem GoodN.one {z : Str} (h : isName z = true) : GoodN [z] := ⟨fun x hx => by rw [List.mem_singleton.mp hx]; exact h, by simp⟩
theorem GoodN.snoc {ns : List Str} {z : Str} (g : GoodN ns) (h : isName z = true) (hn : z ∉ ns) : GoodN (ns ++ [z]) := by
  refine ⟨fun x hx => ?_, ?_⟩
  · rcases List.mem_append.mp hx with hx | hx
    · exact g.nm x hx
    · rw [List.mem_singleton.mp hx]; exact h
  · rw [List.nodup_append]
    refine ⟨g.nd, by simp, fun a ha b hb e => ?_⟩
    rw [List.mem_singleton.mp hb] at e
    rw [e] at ha
    exact hn ha
theorem GoodN.take {ns : List Str} (g : GoodN ns) (k : Nat) : GoodN (ns.take k) := ⟨fun x hx => g.nm x (List.mem_of_mem_take hx), g.nd.sublist (List.take_sublist _ _)⟩
theorem inV_str (z : Str) (ns : List Str) : inV (.str z) (ns.map V.str) = decide (z ∈ ns) := by
  induction ns with
  | nil => rfl
  | cons a r ih =>
    show (eqV (.str a) (.str z) || inV (.str z) (r.map V.str)) = _
    rw [ih]
    show ((a == z) || decide (z ∈ r)) = _
    by_cases e : a = z
    · subst e
      simp
    · have e2 : (a == z) = false := by simp [e]
      rw [e2, Bool.false_or]
      have : z ∈ a :: r ↔ z ∈ r := by simp [Ne.symm e]
      simp [this]
theorem flat_strs (ns : List Str) : (ns.map V.str).all flatV = true := by
  rw [List.all_eq_true]
  intro x hx
  obtain ⟨z, _, rfl⟩ := List.mem_map.mp hx
  rfl
end Sk

set_option maxHeartbeats 4000000
/-! The law's draws, in value form. -/
namespace Sk
open PySem PySem.Spec PyProof.Rows L2 Dv
theorem small_mul {i j : Int} (hi : i.natAbs < 2 ^ 200) (hj : j.natAbs < 2 ^ 200) : CMulW i j := wide_mul hi hj (by omega) (by omega) (by omega)
theorem nat_small {i : Int} (h0 : 0 ≤ i) (h : i ≤ 1267650600228229401496703205376) : i.natAbs < 2 ^ 200 := by
  have e : (1267650600228229401496703205376 : Nat) < 2 ^ 200 := by decide +kernel
  omega
theorem mul2 {i j : Int} (h0 : 0 ≤ i) (h1 : i ≤ 1267650600228229401496703205376) (h2 : 0 ≤ j) (h3 : j ≤ 1267650600228229401496703205376) : CMulW i j := small_mul (nat_small h0 h1) (nat_small h2 h3)
theorem mul_bd {i j a b : Int} (h0 : 0 ≤ i) (h1 : i ≤ a) (h2 : 0 ≤ j) (h3 : j ≤ b) : 0 ≤ i * j ∧ i * j ≤ a * b := ⟨Int.mul_nonneg h0 h2, Int.mul_le_mul h1 h3 h2 (Int.le_trans h0 h1)⟩
theorem small_div {i j : Int} (h : 0 < j) (hj : j < 2 ^ 60) : CDivW i j := wide_div (b := 60) h (by omega) (by omega) (by omega)
/-- a state of draws: at most n mixed ones so far -/
def dr (n : Nat) (x : D) : Prop := ∃ a b c : Int, x = .lst [.int a, .int b, .int c] ∧ 0 ≤ a ∧ 0 ≤ b ∧ b < 2 ^ 33 ∧ 0 ≤ c ∧ c ≤ n
theorem dr.mono {n m : Nat} {x : D} (h : dr n x) (l : n ≤ m) : dr m x := by
  obtain ⟨a, b, c, e, h1, h2, h3, h4, h5⟩ := h
  exact ⟨a, b, c, e, h1, h2, h3, h4, by omega⟩
def fs__law_draws : FS := ⟨[false, false], true, fun ds Q _ => ∃ (ns : List Int) (i : Nat), ds = [.scr ns, .int i] ∧ ns.length ≤ 1000 ∧ i ≤ 1000 ∧ ∀ st, dr 0 st → Q st []⟩
def fs__law_draw : FS := ⟨[true, false], false, fun ds Q _ => ∃ (st : D) (m : Int) (n : Nat), ds = [st, .int m] ∧ dr n st ∧ n ≤ 1000000000 ∧ 1 ≤ m ∧ m ≤ 1000000000 ∧ ∀ (v : Int) st', 0 ≤ v → v < m → dr (n + 1) st' → Q (.int v) [st']⟩
section
variable {P : Program} {w : World} {K : PySem.W.Frag} {mg : Str → Option Value} {base : Heap}
theorem cal__law_draws (Y : Yes K mg) : C8.Cal P w K mg base 1 "_law_draws" (fs__law_draws.to K) [] := by
  obtain ⟨fd, F⟩ := Y.f__law_draws
  refine calD F Y.g__law_draws sc__law_draws (fun _ _ _ _ _ _ us hl => match us, hl with | [_, _], _ => rfl) (FS.len rfl) (fun cdv A outer s H vs Q E hr h => ?_)
  have hu := hu_of hr
  refine ⟨_, (pss_cons (ps_set (i := 2) sc__law_draws.nd rfl (.inl rfl) (pe_ifExp (pt_cmpR op_lt (pv 1) (pe_callB (call_lenK K) (by rfl) Y.n_len (by decide +kernel) (pa_cons (pv 0) pa_nil)) (nomark _)) (pe_ix (ix_listK K) (pv 0) (pv 1) (fun _ _ => rfl)) pe_int))
  (pss_one (ps_ret (pe_lst (pa_cons (pe_ifExp (pt_cmpR op_ge (pv 2) (pe_op op_pow pe_int pe_int) (nomark _)) (pv 2) pe_int) (pa_cons (pe_op op_add (pe_op op_add (pe_op op_mod (pv 2) pe_int) (pe_op op_mulW pe_int (pv 1))) pe_int) (pa_cons pe_int pa_nil))))))),
    body_ok0 (f := fs__law_draws) (sim_seq (sim_set (sim_if (sim_test (sim_op2 s2_lt (.s 1) (.e (sim_cb sc_len (.cons (.s 0) .nil))))) (sim_op2 s2_ixL (.s 0) (.s 1)) sim_int))
  (sim_retF (sim_lst (sim_cons (sim_if (sim_test (sim_op2 s2_ge (.s 2) (.e (sim_op2 s2_pow (.e sim_int) (.e sim_int))))) (sim_var 2) sim_int) (sim_cons (sim_op2 s2_add (.e (sim_op2 s2_add (.e (sim_op2 s2_mod (.s 2) (.e sim_int))) (.e (sim_op2 s2_mulW (.e sim_int) (.s 1))))) (.e sim_int)) (sim_cons sim_int sim_nil))))))
    (by decide) (fun ds Q9 E9 h => ?_) h⟩
  obtain ⟨ns, i, rfl, hl, hi, k⟩ := h
  have rest : ∀ c : Int, (dRet
      (dLst
        (dCons
          (dIf
            (dTest
              (dOp2 (fI0 fun i j => D.bl (decide (j ≤ i))) (Op9.s 2)
                (Op9.e
                  (dOp2 (fII CPow fun i j => D.int (i ^ j.toNat)) (Op9.e (dC (D.int 10))) (Op9.e (dC (D.int 18)))))))
            (dVar 2) (dC (D.int 0)))
          (dCons
            (dOp2 (fI0 fun i j => D.int (i + j))
              (Op9.e
                (dOp2 (fI0 fun i j => D.int (i + j))
                  (Op9.e
                    (dOp2 (fII (fun x j => 0 < j) fun i j => D.int (i % j)) (Op9.s 2) (Op9.e (dC (D.int 2147483399)))))
                  (Op9.e (dOp2 (fII CMulW fun i j => D.int (i * j)) (Op9.e (dC (D.int 6007))) (Op9.s 1)))))
              (Op9.e (dC (D.int 3))))
            (dCons (dC (D.int 0)) dNil))))) X0 (ends9 fs__law_draws Q9) [.im (.scr ns), .im (.int i), .im (.int c)] := fun c => by
    have e18 : (10 : Int) ^ Int.toNat 18 = 1000000000000000000 := by decide +kernel
    refine ⟨⟨by omega, by omega, by decide⟩, ifD (fun hc => ?_) (fun hc => ?_)⟩
    · rw [e18] at hc
      exact ⟨by omega, mul2 (by omega) (by omega) (by omega) (by omega), by simp, k _ ⟨_, _, _, rfl, by omega, by omega, by omega, by omega, by omega⟩⟩
    · exact ⟨by omega, mul2 (by omega) (by omega) (by omega) (by omega), by simp, k _ ⟨_, _, _, rfl, by omega, by omega, by omega, by omega, by omega⟩⟩
  refine ifD (fun h1 => ?_) (fun h1 => rest 0)
  exact some9_of (atI_nat (List.getElem?_eq_getElem (by omega))) (rest _)
theorem cal__law_draw (Y : Yes K mg) : C8.Cal P w K mg base 1 "_law_draw" (fs__law_draw.to K) [] := by
  obtain ⟨fd, F⟩ := Y.f__law_draw
  refine calD F Y.g__law_draw sc__law_draw (fun _ _ _ _ _ _ us hl => match us, hl with | [_, _], _ => rfl) (FS.len rfl) (fun cdv A outer s H vs Q E hr h => ?_)
  have hu := hu_of hr
  refine ⟨_, (pss_cons (ps_if (pt_cmpR op_gt (pe_ix (ix_listK K) (pv 0) pe_int (fun _ _ => rfl)) pe_int (nomark _)) (pss_cons (ps_set (i := 2) sc__law_draw.nd rfl (.inl rfl) (pe_op op_mod (pe_ix (ix_listK K) (pv 0) pe_int (fun _ _ => rfl)) (pv 1)))
  (pss_cons (ps_asg (pe_op op_fdivW (pe_ix (ix_listK K) (pv 0) pe_int (fun _ _ => rfl)) (pv 1)) (pg_sub (pv 0) pe_int set_list))
  (pss_one (ps_ret (pv 2))))) pss_nil)
  (pss_cons (ps_asg (pe_op op_add (pe_ix (ix_listK K) (pv 0) pe_int (fun _ _ => rfl)) pe_int) (pg_sub (pv 0) pe_int set_list))
  (pss_cons (ps_set (i := 3) sc__law_draw.nd rfl (.inl rfl) (pe_op op_add (pe_op op_mulW (pe_ix (ix_listK K) (pv 0) pe_int (fun _ _ => rfl)) (pe_op op_add (pe_op op_mulW pe_int (pe_ix (ix_listK K) (pv 0) pe_int (fun _ _ => rfl))) pe_int)) (pe_op op_mulW pe_int (pe_ix (ix_listK K) (pv 0) pe_int (fun _ _ => rfl)))))
  (pss_cons (ps_for PassesOwn.never rfl (pi_listK K (pe_lst (pa_cons pe_int (pa_cons pe_int (pa_cons pe_int (pa_cons pe_int pa_nil)))))) (pg_name (i := 4) sc__law_draw.nd rfl (.inl rfl))
  (pss_one (ps_set (i := 3) sc__law_draw.nd rfl (.inl rfl) (pe_op op_mod (pe_op op_add (pe_op op_add (pe_op op_mulW (pv 3) (pv 3)) (pe_op op_mulW pe_int (pe_ix (ix_listK K) (pv 0) pe_int (fun _ _ => rfl)))) pe_int) (pv 4)))))
  (pss_one (ps_ret (pe_op op_mod (pe_op op_fdivW (pv 3) pe_int) (pv 1)))))))),
    body_ok0 (f := fs__law_draw) (sim_seq (sim_ifS (sim_test (sim_op2 s2_gt (.e (sim_op2 s2_ixL (.s 0) (.e sim_int))) (.e sim_int))) (sim_seq (sim_set (sim_op2 s2_mod (.e (sim_op2 s2_ixL (.s 0) (.e sim_int))) (.s 1)))
  (sim_seq (sim_setItem (sim_op2 s2_fdivW (.e (sim_op2 s2_ixL (.s 0) (.e sim_int))) (.s 1)) sim_int)
  (sim_ret (sim_var 2)))) sim_next)
  (sim_seq (sim_setItem (sim_op2 s2_add (.e (sim_op2 s2_ixL (.s 0) (.e sim_int))) (.e sim_int)) sim_int)
  (sim_seq (sim_set (sim_op2 s2_add (.e (sim_op2 s2_mulW (.e (sim_op2 s2_ixL (.s 0) (.e sim_int))) (.e (sim_op2 s2_add (.e (sim_op2 s2_mulW (.e sim_int) (.e (sim_op2 s2_ixL (.s 0) (.e sim_int))))) (.e sim_int))))) (.e (sim_op2 s2_mulW (.e sim_int) (.e (sim_op2 s2_ixL (.s 0) (.e sim_int)))))))
  (sim_seq (sim_for (simi_list ((sim_lst (sim_cons sim_int (sim_cons sim_int (sim_cons sim_int (sim_cons sim_int sim_nil)))))).e) (simg_name (vs := [4]) 4 (by decide))
  (sim_set (sim_op2 s2_mod (.e (sim_op2 s2_add (.e (sim_op2 s2_add (.e (sim_op2 s2_mulW (.s 3) (.s 3))) (.e (sim_op2 s2_mulW (.e sim_int) (.e (sim_op2 s2_ixL (.s 0) (.e sim_int))))))) (.e sim_int))) (.s 4))))
  (sim_ret (sim_op2 s2_mod (.e (sim_op2 s2_fdivW (.s 3) (.e sim_int))) (.s 1)))))))
    (by decide) (fun ds Q9 E9 h => ?_) h⟩
  obtain ⟨st, m, n, rfl, ⟨a, b, c, rfl, ha, hb0, hb1, hc0, hc1⟩, hn, hm0, hm1, k⟩ := h
  refine ifD (fun h1 => ?_) (fun h1 => ?_)
  · exact ⟨by omega, small_div (by omega) (by omega), k _ _ (Int.emod_nonneg _ (by omega)) (Int.emod_lt_of_pos _ (by omega)) ⟨_, _, _, rfl, Int.ediv_nonneg ha (by omega), by omega, by omega, by omega, by omega⟩⟩
  · obtain ⟨m1, m2⟩ := mul_bd (i := b) (a := 2 ^ 33) (j := 2 * (c + 1) + 5) (b := 4000000000) hb0 (by omega) (by omega) (by omega)
    refine ⟨mul2 (by omega) (by omega) (by omega) (by omega), mul2 (by omega) (by omega) (by omega) (by omega), mul2 (by omega) (by omega) (by omega) (by omega), by simp, ?_⟩
    refine forL_map (α := Int) (f := D.int) (l := [2147483647, 2147483629, 2147483587, 2147483579]) (fun _ _ env => ∃ x y4, env = [.ow true (.lst [.int a, .int b, .int (c + 1)]), .im (.int m), .un, .im (.int x), y4] ∧ 0 ≤ x ∧ x ≤ 1000000000000000000000000) ⟨_, _, rfl, by omega, by omega⟩ (fun done p ys env e h ih => ?_) (fun env h => ?_)
    · obtain ⟨x, y4, rfl, h0, h1⟩ := h
      have hp : 0 < p ∧ p ≤ 2147483647 := by
        have : p ∈ ([2147483647, 2147483629, 2147483587, 2147483579] : List Int) := by rw [e]; simp
        simp at this
        omega
      obtain ⟨p1, p2⟩ := mul_bd h0 h1 h0 h1
      exact ⟨mul2 (by omega) (by omega) (by omega) (by omega), mul2 (by omega) (by omega) (by omega) (by omega), hp.1, ih _ ⟨_, _, rfl, Int.emod_nonneg _ (by omega), Int.le_trans (Int.le_of_lt (Int.emod_lt_of_pos _ hp.1)) (by omega)⟩⟩
    · obtain ⟨x, y4, rfl, h0, h1⟩ := h
      exact ⟨small_div (by omega) (by omega), by omega, k _ _ (Int.emod_nonneg _ (by omega)) (Int.emod_lt_of_pos _ (by omega)) ⟨_, _, _, rfl, by omega, by omega, by omega, by omega, by omega⟩⟩
end
end Sk

set_option maxHeartbeats 4000000
/-! isinstance; comprehensions of two clauses; sums of counts. -/
namespace Dv
open PySem PySem.Spec PyProof.Rows L2 Sk
section
variable {K : PySem.W.Frag} {W : WX} {G : Gh} {L LL : List (Addr × Obj)} {env : Sls} {σ : L2.St} {F F' H H' : Hp} {p a b : Addr} {o : HO} {d x : D} {xs : List D} {vs : List V} {fr : Bool}
/-! isinstance -/
def ty9 : D → Option String
  | .non => some "NoneType"
  | .bl _ => some "bool"
  | .int _ => some "int"
  | .str _ => some "str"
  | .lst _ => some "list"
  | .tup _ => some "tuple"
  | .dic _ => some "dict"
  | _ => none
theorem ty9_ok {v : V} {t : String} (s : Sees F H) (h : Pk K F H x v) (e : ty9 x = some t) : TyX K H v (.type t) := by
  cases x with
  | non => cases e; rw [h.non]; exact .base .non
  | bl b => cases e; rw [h.bl]; exact .base (.bl _)
  | int b => cases e; rw [h.int]; exact .base (.int _)
  | str b => cases e; rw [h.str]; exact .base (.str _)
  | lst l => cases e; obtain ⟨a, ws, rfl, h1, _⟩ := h.lst s; exact .base (.lst h1)
  | tup l => cases e; obtain ⟨a, ws, rfl, h1, _⟩ := h.tup s; exact (h1.elim (fun h => h.elim (fun h => .base (.tup h)) fun ⟨o, h⟩ => .fTuple h) fun ⟨o, _, _, e, c, _⟩ => .kTuple e c)
  | dic l =>
    cases e
    obtain ⟨a, ws, rfl, h1, _⟩ := h.dic s
    rcases h1 with h1 | ⟨od, h1⟩
    · exact .base (.dK h1)
    · exact .fDict h1
  | _ => cases e
/-- with a built-in class -/
def fIsiT : FnC := fun xs Q => match xs with
  | [x, .ty n] => match ty9 x with
    | some t => some9 (kitB t n) fun b => Q (.bl b)
    | none => False
  | _ => False
theorem Pk.ty {n : String} {v : V} (h : Pk K F H (.ty n) v) : v = .ty n := by
  rcases h with h | ⟨a, rfl, _, h⟩
  · cases h; rfl
  · exact h.elim
theorem Pk.ref {v : V} (h : Pk K F H (.ref a) v) : v = .ref a := by
  rcases h with h | ⟨a, rfl, _, h⟩
  · cases h; rfl
  · exact h.elim
theorem sc_isiT : SimC K fIsiT (rIsi K) := ⟨fun {F H xs vs} s hp Q9 Q f k => by
  unfold fIsiT at f
  split at f
  · split at f
    · rename_i t et
      obtain ⟨b, eb, f⟩ := some9_ex f
      obtain ⟨v, w, rfl, h1, h2⟩ := hp.two
      exact ⟨v, w, .type t, _, b, rfl, by rw [h2.ty]; exact .ty _, ty9_ok s h1 et, kit_ty eb, k _ _ .bl f⟩
    · exact f.elim
  · exact f.elim⟩
/-- with an own class -/
def fIsiO (c : Str) (C : Addr) : FnC := fun xs Q => match xs with
  | [.obj c' _, .ref C'] => (c' = c ∧ C' = C) ∧ Q (.bl true)
  | [x, .ref C'] => match ty9 x with
    | some t => (C' = C ∧ t ∈ ["NoneType", "bool", "int", "str", "list", "tuple", "dict"]) ∧ Q (.bl false)
    | none => False
  | _ => False
theorem sc_isiO {c : Str} (ic : IsiC K (He.ga K c)) : SimC K (fIsiO c (He.ga K c)) (rIsi K) := ⟨fun {F H xs vs} s hp Q9 Q f k => by
  unfold fIsiO at f
  split at f
  · obtain ⟨⟨e1, e2⟩, f⟩ := f
    subst e1
    subst e2
    obtain ⟨v, w, rfl, h1, h2⟩ := hp.two
    obtain ⟨a, dx, ws, rfl, ha, _⟩ := h1.obj s
    exact ⟨_, w, _, _, true, rfl, by rw [h2.ref]; exact .own _, ic.ty ha, ic.me, k _ _ .bl f⟩
  · split at f
    · rename_i t et
      obtain ⟨⟨e1, e2⟩, f⟩ := f
      subst e1
      obtain ⟨v, w, rfl, h1, h2⟩ := hp.two
      exact ⟨v, w, .type t, _, false, rfl, by rw [h2.ref]; exact .own _, ty9_ok s h1 et, ic.no t e2, k _ _ .bl f⟩
    · exact f.elim
  · exact f.elim⟩
/-! comprehensions of two clauses -/
def lc2I (g : DG) (c : DT) (el : DE) (gs : List Nat) (Q : List D → Sls → Prop) : List D → List D → Sls → Prop
  | [], acc, env => Q acc env
  | x :: xs, acc, env => g x env fun e1 => c X0 e1 fun b e2 => ifB b (el X0 e2 fun y e3 => acc.length < 16777216 ∧ lc2I g c el gs Q xs (acc ++ [y]) (wipe9 e3 gs)) (lc2I g c el gs Q xs acc (wipe9 e2 gs))
def lc2O (g : DG) (c : DT) (it1 : DI) (g1 : DG) (c1 : DT) (el : DE) (gs gs1 : List Nat) (Q : List D → Sls → Prop) : List D → List D → Sls → Prop
  | [], acc, env => Q acc env
  | x :: xs, acc, env => g x env fun e1 => c X0 e1 fun b e2 => ifB b (it1 X0 e2 fun ys e3 => lc2I g1 c1 el gs1 (fun acc e => lc2O g c it1 g1 c1 el gs gs1 Q xs acc (wipe9 e gs)) ys acc (wipe9 e3 gs1)) (lc2O g c it1 g1 c1 el gs gs1 Q xs acc (wipe9 e2 gs))
theorem wipe_sub {σ : L2.St} {gs gs1 : List Nat} (h : ∀ i ∈ gs1, i ∈ gs) : wipe (wipe σ gs1) gs = wipe σ gs := by
  apply List.ext_getElem?
  intro i
  by_cases m : i ∈ gs
  · have key : ∀ {ws : List Nat} {τ : L2.St}, i ∈ ws → (wipe τ ws)[i]? = if i < τ.length then some none else none := by
      intro ws
      induction ws with
      | nil => intro τ h; cases h
      | cons w ws ih =>
        intro τ h
        show ((wipe τ ws).set w none)[i]? = _
        by_cases e : w = i
        · subst e
          by_cases hl : w < τ.length
          · rw [if_pos hl, List.getElem?_set_self (by rw [wipe_length]; exact hl)]
          · rw [if_neg hl, List.getElem?_eq_none (by rw [List.length_set, wipe_length]; omega)]
        · rw [List.getElem?_set_ne e]
          exact ih ((List.mem_cons.mp h).resolve_left fun z => e z.symm)
    rw [key m, key m, wipe_length]
  · rw [wipe_get m, wipe_get m, wipe_get (fun z => m (h i z))]
theorem lc2_step {xs : List D} {F0 H1 : Hp} {J : It} {g g1 : DG} {c c1 : DT} {it1 : DI} {el : DE} {gs gs1 : List Nat} {tg tg1 : TG} {wi1 : TI} {tt tt1 : TT} {te : TE} {DD : Addr} {Qc : List D → Sls → Prop} {Q : VK} (hsub : ∀ i ∈ gs1, i ∈ gs) (w9 : W9 K L G.L0 F0 J xs) (sg : SimG K gs g tg) (sc : SimT K W0 c tt) (si1 : SimI K W0 it1 wi1) (sg1 : SimG K gs1 g1 tg1) (sc1 : SimT K W0 c1 tt1) (se : SimE K W0 el te) (r1 : R K G L env σ F0 H1) (hD : H1 DD = none)
    (k1 : lc2O g c it1 g1 c1 el gs gs1 Qc xs [] (wipe9 env gs)) (q : ∀ acc e F H, R K G L e σ F H → Same F0 F → Fresh K G e σ F H (.lst acc) DD → Qc acc e → Q (.ref DD) H) :
    ∃ W : Nat → Nat → Hp → Prop, (∃ m, W 0 m (upd H1 DD (.lst []))) ∧ ∀ i m H, W i m H →
      (J.stop i H ∧ Q (.ref DD) H) ∨ (J.go i H ∧ ∃ Nx : Hp → Prop, (∀ H', Nx H' → ∃ m', m' < m ∧ W (i + 1) m' H') ∧ ∀ x H', J.yld i H x H' → tg x (wipe σ gs) H' fun σ2 H2 => wipe σ2 gs = wipe σ gs ∧ tt σ2 H2 fun b H3 =>
        if b = true then wi1 σ2 H3 fun J1 H4 => ∃ W1 : Nat → Nat → Hp → Prop, (∃ m, W1 0 m H4) ∧ ∀ j k H, W1 j k H →
          (J1.stop j H ∧ Nx H) ∨ (J1.go j H ∧ ∃ Nx1 : Hp → Prop, (∀ H', Nx1 H' → ∃ k', k' < k ∧ W1 (j + 1) k' H') ∧ ∀ x H', J1.yld j H x H' → tg1 x (wipe σ2 gs1) H' fun σ3 H5 => wipe σ3 gs1 = wipe σ2 gs1 ∧ tt1 σ3 H5 fun b H6 =>
            if b = true then te σ3 H6 fun y H7 => ∃ acc, H7 DD = some (.lst acc) ∧ acc.length < sizeLine ∧ Nx1 (upd H7 DD (.lst (acc ++ [y]))) else Nx1 H6)
        else Nx H3) := by
  obtain ⟨Gd, Y, wk, hG, hY⟩ := w9
  have f1 := r1.fresh (x := .lst []) hD (Has.mkL upd_same .nil)
  have r2 := r1.new hD (.lst [])
  refine lc2_out wk (fun i H => ∃ e F acc, R K G L (wipe9 e gs) (wipe σ gs) F H ∧ Same F0 F ∧ Fresh K G (wipe9 e gs) (wipe σ gs) F H (.lst acc) DD ∧ lc2O g c it1 g1 c1 el gs gs1 Qc (xs.drop i) acc (wipe9 e gs))
    ⟨env, F0, [], r2.wiped gs, Same.refl F0, f1.wiped gs, k1⟩ (fun i H _ ⟨e, F, acc, r, s, _, _⟩ => hG G _ _ F H rfl r s) (fun i v H H3 hi ⟨e, F, acc, r, s, f, k⟩ y => ?_) (fun H ⟨e, F, acc, r, s, f, k⟩ => ?_)
  · have h0 := f.h0
    have nx := f.ext
    obtain ⟨ws, hw, iw⟩ := f.has
    have rp := r.plus f hw
    obtain ⟨x0, F3, ex, r3, s3, i3⟩ := hY (G.plus (DD, .lst ws)) i v _ _ F H H3 rfl hi rp s y
    have ed : xs.drop i = x0 :: xs.drop (i + 1) := by
      rw [List.drop_eq_getElem_cons hi]
      have := List.getElem?_eq_getElem hi
      rw [ex] at this
      cases this
      rfl
    rw [ed] at k
    refine sg.run r3 i3 k fun e2 σ2 F2 H2 r2 s2 w2 k2 => ?_
    have w2 := w2.trans wipe_wipe
    refine ⟨w2, ?_⟩
    refine sc.run r2 k2 (fun b e4 F4 H4 r4 s4 k4 => ?_) (fun _ _ _ _ _ _ _ _ z => z)
    have sm4 : Same F F4 := ((s3.trans s2).trans s4)
    cases b with
    | true =>
      refine iteT (si1.run r4 k4 (fun ys e5 J1 F5 H5 r5 s5 w91 k5 => ?_) (fun _ _ _ _ _ _ _ _ z => z))
      obtain ⟨r6, hD6, fr6⟩ := r5.minus (show G.H0 DD = none from h0) nx
      obtain ⟨Gd1, Y1, wk1, hG1, hY1⟩ := w91
      have sm5 := sm4.trans s5
      refine lc2_out wk1 (fun j H => ∃ e F acc, R K G L (wipe9 e gs1) (wipe σ2 gs1) F H ∧ Same F5 F ∧ Fresh K G (wipe9 e gs1) (wipe σ2 gs1) F H (.lst acc) DD ∧ lc2I g1 c1 el gs1 (fun acc e => lc2O g c it1 g1 c1 el gs gs1 Qc (xs.drop (i + 1)) acc (wipe9 e gs)) (ys.drop j) acc (wipe9 e gs1))
        ⟨e5, F5, acc, r6.wiped gs1, Same.refl F5, (fr6 (.lst acc) (Has.mkL hD6 (iw.mono sm5))).wiped gs1, k5⟩ (fun j H _ ⟨e, F, acc, r, s, _, _⟩ => hG1 G _ _ F H rfl r s) (fun j v1 H7 H8 hj ⟨e7, F7, acc7, r7, s7, f7, k7⟩ y7 => ?_) (fun H7 ⟨e7, F7, acc7, r7, s7, f7, k7⟩ => ?_)
      · have h0' := f7.h0
        have nx' := f7.ext
        obtain ⟨ws7, hw7, iw7⟩ := f7.has
        have rp7 := r7.plus f7 hw7
        obtain ⟨x8, F8, ex8, r8, s8, i8⟩ := hY1 (G.plus (DD, .lst ws7)) j v1 _ _ F7 H7 H8 rfl hj rp7 s7 y7
        have ed8 : ys.drop j = x8 :: ys.drop (j + 1) := by
          rw [List.drop_eq_getElem_cons hj]
          have := List.getElem?_eq_getElem hj
          rw [ex8] at this
          cases this
          rfl
        rw [ed8] at k7
        refine sg1.run r8 i8 k7 fun e9 σ9 F9 H9 r9 s9 w9 k9 => ?_
        have w9 := w9.trans wipe_wipe
        refine ⟨w9, ?_⟩
        refine sc1.run r9 k9 (fun b1 e10 F10 H10 r10 s10 k10 => ?_) (fun _ _ _ _ _ _ _ _ z => z)
        cases b1 with
        | true =>
          refine iteT (se.run r10 k10 (fun y11 e11 v11 F11 H11 r11 s11 i11 k11 => ?_) (fun _ _ _ _ _ _ _ _ z => z))
          obtain ⟨r12, hD12, fr12⟩ := r11.minus (show G.H0 DD = none from h0') nx'
          have sm : Same F7 F11 := (((s8.trans s9).trans s10).trans s11)
          have iw12 := iw7.mono sm
          have f12 := fr12 (.lst acc7) (Has.mkL hD12 iw12)
          have r13 := (r12.updF f12 (.lst (ws7 ++ [v11])))
          have f13 : Fresh K G e11 σ9 F11 (upd H11 DD (.lst (ws7 ++ [v11]))) (.lst (acc7 ++ [y11])) DD := f12.upd (Has.mkL upd_same (iw12.append (.cons i11 .nil)))
          refine ⟨ws7, hD12, by rw [sizeLine_eq, ← iw7.length]; exact k11.1, e11, F11, acc7 ++ [y11], ?_, s7.trans sm, ?_, k11.2⟩
          · have := r13.wiped gs1
            rw [w9] at this
            exact this
          · have := f13.wiped gs1
            rw [w9] at this
            exact this
        | false =>
          refine iteF ?_
          obtain ⟨r12, hD12, fr12⟩ := r10.minus (show G.H0 DD = none from h0') nx'
          have sm : Same F7 F10 := ((s8.trans s9).trans s10)
          have f12 := fr12 (.lst acc7) (Has.mkL hD12 (iw7.mono sm))
          refine ⟨e10, F10, acc7, ?_, s7.trans sm, ?_, k10⟩
          · have := r12.wiped gs1
            rw [w9] at this
            exact this
          · have := f12.wiped gs1
            rw [w9] at this
            exact this
      · rw [List.drop_length] at k7
        have e0 : wipe (wipe σ2 gs1) gs = wipe σ gs := (wipe_sub hsub).trans w2
        refine ⟨wipe9 e7 gs1, F7, acc7, ?_, (s.trans sm5).trans s7, ?_, k7⟩
        · have := r7.wiped gs
          rw [e0] at this
          exact this
        · have := f7.wiped gs
          rw [e0] at this
          exact this
    | false =>
      refine iteF ?_
      obtain ⟨r6, hD6, fr6⟩ := r4.minus (show G.H0 DD = none from h0) nx
      have f6 := fr6 (.lst acc) (Has.mkL hD6 (iw.mono sm4))
      refine ⟨e4, F4, acc, ?_, s.trans sm4, ?_, k4⟩
      · have := r6.wiped gs
        rw [w2] at this
        exact this
      · have := f6.wiped gs
        rw [w2] at this
        exact this
  · rw [List.drop_length] at k
    exact q acc _ F H r.unwipe s f.unwipe k
def dLc2 (it : DI) (g : DG) (c : DT) (it1 : DI) (g1 : DG) (c1 : DT) (el : DE) (gs gs1 : List Nat) : DE := fun X env Q => it X env fun xs e => lc2O g c it1 g1 c1 el gs gs1 (fun acc e' => Q (.lst acc) e') xs [] (wipe9 e gs)
theorem sim_lc2 {it it1 : DI} {g g1 : DG} {c c1 : DT} {el : DE} {gs gs1 : List Nat} {wi wi1 : TI} {tg tg1 : TG} {tt tt1 : TT} {te : TE} (hsub : ∀ i ∈ gs1, i ∈ gs) (si : SimI K W it wi) (sg : SimG K gs g tg) (sc : SimT K W0 c tt) (si1 : SimI K W0 it1 wi1) (sg1 : SimG K gs1 g1 tg1) (sc1 : SimT K W0 c1 tt1) (se : SimE K W0 el te) :
    SimF K W (dLc2 it g c it1 g1 c1 el gs gs1) (tLc2 wi tg tt wi1 tg1 tt1 te gs gs1) := ⟨fun {G L env σ F H X9 Q9 Q} r h q x => si.run r h (fun xs e J F1 H1 r1 s1 w1 k1 DD hD =>
  lc2_step hsub w1 sg sc si1 sg1 sc1 se r1 hD k1 fun acc e5 F5 H5 r5 s5 f5 k5 => q _ e5 DD F5 H5 r5 (s1.trans s5) f5 k5) x⟩
def dLcD2 (w : Dw) (p : Pl9) (g : DG) (c : DT) (it1 : DI) (g1 : DG) (c1 : DT) (el : DE) (gs gs1 : List Nat) : DE := fun X env Q => match p.at env with
  | some (.dic kvs) => lc2O g c it1 g1 c1 el gs gs1 (fun acc e' => Q (.lst acc) e') (w.of kvs) [] (wipe9 env gs)
  | _ => False
theorem sim_lcD2 {w : Dw} {p : Pl9} {it1 : DI} {g g1 : DG} {c c1 : DT} {el : DE} {gs gs1 : List Nat} {wi wi1 : TI} {tg tg1 : TG} {tt tt1 : TT} {te : TE} (hsub : ∀ i ∈ gs1, i ∈ gs) (sd : SimD K w p wi) (sg : SimG K gs g tg) (sc : SimT K W0 c tt) (si1 : SimI K W0 it1 wi1) (sg1 : SimG K gs1 g1 tg1) (sc1 : SimT K W0 c1 tt1) (se : SimE K W0 el te) :
    SimF K W (dLcD2 w p g c it1 g1 c1 el gs gs1) (tLockEA (tLc2 wi tg tt wi1 tg1 tt1 te gs gs1)) := ⟨fun {G L env σ F H X9 Q9 Q} r h q x => by
  unfold dLcD2 at h
  split at h
  · rename_i kvs ek
    obtain ⟨a, ws, hF, hk, run⟩ := sd.run r ek
    rcases r.locked hF with hH | ⟨od, hm, hH⟩
    · refine .inl ⟨a, .dK ws, hH, trivial, fun od => ?_⟩
      obtain ⟨r1, nl⟩ := r.lock (od := od) hF hH
      refine run od _ (fun b o n e => by rw [upd_ne n]; exact e) upd_same _ fun J w9 DD hD => ?_
      refine lc2_step (Q := fun v H' => H' a = some (.frz od (.dK ws)) ∧ Q v (L2.upd H' a (.dK ws))) hsub (w9 ((a, od) :: L) G.L0 (by simp)) sg sc si1 sg1 sc1 se r1 hD h fun acc e5 F5 H5 r5 s5 f5 k5 => ?_
      obtain ⟨u1, u2⟩ := r5.unlock (s5 _ _ hF) nl
      exact ⟨u1, q _ e5 DD F5 _ u2 s5 (f5.unl (s5 _ _ hF)) k5⟩
    · exact .inr (run od H (fun b o n e => e) hH _ fun J w9 DD hD => lc2_step hsub (w9 L G.L0 hm) sg sc si1 sg1 sc1 se r hD h fun acc e5 F5 H5 r5 s5 f5 k5 => q _ e5 DD F5 H5 r5 s5 f5 k5)
  · exact h.elim⟩
theorem lc2O_map {α : Type} {f : α → D} {l : List α} {it1 : DI} {g g1 : DG} {c c1 : DT} {el : DE} {gs gs1 : List Nat} {Q : List D → Sls → Prop} (P : List α → List D → Sls → Prop) (h0 : P l [] env) (hs : ∀ x ys acc env, x ∈ l → P (x :: ys) acc env → ∀ (rest : List D → Sls → Prop), (∀ acc e, P ys acc e → rest acc e) →
    g (f x) env fun e1 => c X0 e1 fun b e2 => ifB b (it1 X0 e2 fun zs e3 => lc2I g1 c1 el gs1 (fun acc e => rest acc (wipe9 e gs)) zs acc (wipe9 e3 gs1)) (rest acc (wipe9 e2 gs))) (hn : ∀ acc env, P [] acc env → Q acc env) : lc2O g c it1 g1 c1 el gs gs1 Q (l.map f) [] env := by
  have key : ∀ (ys : List α) (acc : List D) (env : Sls), (∀ y ∈ ys, y ∈ l) → P ys acc env → lc2O g c it1 g1 c1 el gs gs1 Q (ys.map f) acc env := by
    intro ys
    induction ys with
    | nil => intro acc env _ h; exact hn acc env h
    | cons x ys ih =>
      intro acc env hm h
      exact hs x ys acc env (hm x List.mem_cons_self) h (fun acc e => lc2O g c it1 g1 c1 el gs gs1 Q (ys.map f) acc e) fun acc e he => ih acc e (fun y hy => hm y (List.mem_cons_of_mem _ hy)) he
  exact key l [] env (fun _ h => h) h0
theorem lc2I_rng {lo : Int} {n : Nat} {acc0 : List D} {g : DG} {c : DT} {el : DE} {gs : List Nat} {Q : List D → Sls → Prop} (P : Nat → List D → Sls → Prop) (h0 : P 0 acc0 env) (hs : ∀ i acc env, i < n → P i acc env → ∀ (rest : List D → Sls → Prop), (∀ acc e, P (i + 1) acc e → rest acc e) →
    g (.int (lo + (i : Int))) env fun e1 => c X0 e1 fun k e2 => ifB k (el X0 e2 fun y e3 => acc.length < 16777216 ∧ rest (acc ++ [y]) (wipe9 e3 gs)) (rest acc (wipe9 e2 gs))) (hn : ∀ acc env, P n acc env → Q acc env) : lc2I g c el gs Q (rng9 lo n) acc0 env := by
  have key : ∀ (k i : Nat) (acc : List D) (env : Sls), i + k = n → P i acc env → lc2I g c el gs Q ((List.range' i k).map fun (i : Nat) => D.int (lo + (i : Int))) acc env := by
    intro k
    induction k with
    | zero =>
      intro i acc env e h
      have : i = n := by omega
      exact hn acc env (this ▸ h)
    | succ k ih =>
      intro i acc env e h
      exact hs i acc env (by omega) h (fun acc e => lc2I g c el gs Q ((List.range' (i + 1) k).map fun (i : Nat) => D.int (lo + (i : Int))) acc e) fun acc e' he => ih (i + 1) acc e' (by omega) he
  have := key n 0 acc0 env (by omega) h0
  rw [← List.range_eq_range'] at this
  exact this
end
end Dv

set_option maxHeartbeats 4000000
/-! words of bags: what they tell together -/
namespace Sk
open PySem PySem.Spec PyProof.Rows L2
def tot (ps : List (Str × Int)) (n : Str) : Int := (ps.map fun p => if p.1 = n then p.2 else 0).sum
theorem tot_nil (n : Str) : tot [] n = 0 := rfl
theorem tot_cons (p : Str × Int) (ps : List (Str × Int)) (n : Str) : tot (p :: ps) n = (if p.1 = n then p.2 else 0) + tot ps n := by
  unfold tot
  rw [List.map_cons, List.sum_cons]
theorem tot_app (a b : List (Str × Int)) (n : Str) : tot (a ++ b) n = tot a n + tot b n := by
  unfold tot
  rw [List.map_append, List.sum_append]
theorem sumC_cons (p : Str × Int) (ps : List (Str × Int)) : sumC (p :: ps) = p.2 + sumC ps := by
  unfold sumC
  rw [List.map_cons, List.sum_cons]
theorem sumC_app (a b : List (Str × Int)) : sumC (a ++ b) = sumC a + sumC b := by
  unfold sumC
  rw [List.map_append, List.sum_append]
theorem keysOf_app (a b : List (Str × Int)) : keysOf (a ++ b) = keysOf a ++ keysOf b := by
  unfold keysOf
  rw [List.map_append]
theorem put_new {cs : List (Str × Int)} {n : Str} {c : Int} (h : n ∉ keysOf cs) : put cs n c = cs ++ [(n, c)] := by
  unfold put
  rw [if_neg]
  intro e
  obtain ⟨p, hp, q⟩ := List.any_eq_true.mp e
  exact h (List.mem_map.mpr ⟨p, hp, of_decide_eq_true q⟩)
theorem keys_put {cs : List (Str × Int)} {n : Str} {c : Int} (h : n ∈ keysOf cs) : keysOf (put cs n c) = keysOf cs := by
  unfold put
  have e : (cs.any fun p => decide (p.1 = n)) = true := by
    obtain ⟨p, hp, q⟩ := List.mem_map.mp h
    exact List.any_eq_true.mpr ⟨p, hp, decide_eq_true q⟩
  rw [if_pos e]
  unfold keysOf
  rw [List.map_map]
  refine List.map_congr_left fun p _ => ?_
  show (if p.1 = n then (p.1, c) else p).1 = p.1
  split <;> rfl
theorem nodup_put {cs : List (Str × Int)} {n : Str} {c : Int} (h : (keysOf cs).Nodup) : (keysOf (put cs n c)).Nodup := by
  by_cases hn : n ∈ keysOf cs
  · rw [keys_put hn]
    exact h
  · rw [put_new hn, keysOf_app, List.nodup_append]
    refine ⟨h, by simp [keysOf], fun a ha b hb e => ?_⟩
    rw [show b = n from List.mem_singleton.mp hb] at e
    rw [e] at ha
    exact hn ha
theorem mem_put {cs : List (Str × Int)} {n : Str} {c : Int} {p : Str × Int} (h : p ∈ put cs n c) : p ∈ cs ∨ p = (n, c) := by
  unfold put at h
  split at h
  · obtain ⟨q, hq, e⟩ := List.mem_map.mp h
    by_cases z : q.1 = n
    · rw [if_pos z] at e
      exact .inr (by rw [← e, z])
    · rw [if_neg z] at e
      exact .inl (by rw [← e]; exact hq)
  · rcases List.mem_append.mp h with h | h
    · exact .inl h
    · exact .inr (List.mem_singleton.mp h)
/-- all of ps put to acc -/
def accAll (acc ps : List (Str × Int)) : List (Str × Int) := ps.foldl (fun a p => addC a p.1 p.2) acc
theorem accAll_cons (acc : List (Str × Int)) (p : Str × Int) (ps : List (Str × Int)) : accAll acc (p :: ps) = accAll (addC acc p.1 p.2) ps := rfl
theorem look_addC (cs : List (Str × Int)) (n m : Str) (c : Int) : (look (addC cs n c) m).getD 0 = (look cs m).getD 0 + if n = m then c else 0 := by
  unfold addC
  rw [look_put]
  by_cases e : m = n
  · subst e
    rw [if_pos rfl, if_pos rfl]
    rfl
  · rw [if_neg e, if_neg fun z => e z.symm]
    omega
theorem look_accAll (ps : List (Str × Int)) : ∀ (acc : List (Str × Int)) (n : Str), (look (accAll acc ps) n).getD 0 = (look acc n).getD 0 + tot ps n := by
  induction ps with
  | nil => intro acc n; rw [tot_nil]; show (look acc n).getD 0 = _; omega
  | cons p r ih =>
    intro acc n
    rw [accAll_cons, ih, look_addC, tot_cons]
    omega
theorem nodup_accAll (ps : List (Str × Int)) : ∀ (acc : List (Str × Int)), (keysOf acc).Nodup → (keysOf (accAll acc ps)).Nodup := by
  induction ps with
  | nil => intro acc h; exact h
  | cons p r ih =>
    intro acc h
    rw [accAll_cons]
    exact ih _ (nodup_put h)
theorem look_pos {cs : List (Str × Int)} (h : ∀ p ∈ cs, 1 ≤ p.2) (n : Str) : 0 ≤ (look cs n).getD 0 := by
  cases e : look cs n with
  | none => exact Int.le_refl 0
  | some c =>
    have h1 : (1 : Int) ≤ c := h _ (look_mem e)
    show 0 ≤ c
    omega
theorem pos_accAll (ps : List (Str × Int)) : ∀ (acc : List (Str × Int)), (∀ p ∈ ps, 1 ≤ p.2) → (∀ p ∈ acc, 1 ≤ p.2) → ∀ p ∈ accAll acc ps, 1 ≤ p.2 := by
  induction ps with
  | nil => intro acc _ h; exact h
  | cons p r ih =>
    intro acc h ha
    rw [accAll_cons]
    refine ih _ (fun q hq => h q (List.mem_cons_of_mem _ hq)) fun q hq => ?_
    rcases mem_put hq with hq | hq
    · exact ha q hq
    · rw [hq]
      have h1 := h p List.mem_cons_self
      have h2 := look_pos ha p.1
      show 1 ≤ (look acc p.1).getD 0 + p.2
      omega
theorem countsL_acc : ∀ (ws : List Str) (ps : List (Str × Int)) (i : Nat) (acc : List (Str × Int)) (t : Int), ws.map parseW = ps.map some → (∀ p ∈ ps, 1 ≤ p.2) → t + sumC ps ≤ 400 → countsL i ws acc t = .ok (accAll acc ps)
  | [], [], i, acc, t, _, _, _ => rfl
  | [], _ :: _, _, _, _, h, _, _ => by cases h
  | _ :: _, [], _, _, _, h, _, _ => by cases h
  | w :: ws, p :: ps, i, acc, t, h, pos, le => by
    rw [List.map_cons, List.map_cons] at h
    injection h with h1 h2
    have hs : 0 ≤ sumC ps := by
      have pr : ∀ q ∈ ps, 1 ≤ q.2 := fun q hq => pos q (List.mem_cons_of_mem _ hq)
      clear h2 le pos h1
      induction ps with
      | nil => exact Int.le_refl 0
      | cons a r ih =>
        rw [sumC_cons]
        have h1 := pr a List.mem_cons_self
        have h2 := ih fun q hq => pr q (List.mem_cons_of_mem _ hq)
        omega
    rw [sumC_cons] at le
    obtain ⟨n, c⟩ := p
    unfold countsL
    rw [h1]
    show (if 400 < t + c then _ else _) = _
    rw [if_neg (by simp only at le; omega)]
    exact countsL_acc ws ps (i + 1) (addC acc n c) (t + c) h2 (fun q hq => pos q (List.mem_cons_of_mem _ hq)) (by simp only at le; omega)
/-! ### the same counts in another order -/
theorem nodup_of_keys {cs : List (Str × Int)} (h : (keysOf cs).Nodup) : cs.Nodup := by
  induction cs with
  | nil => simp
  | cons p r ih =>
    have h2 : p.1 ∉ keysOf r ∧ (keysOf r).Nodup := List.nodup_cons.mp h
    exact List.nodup_cons.mpr ⟨fun hp => h2.1 (List.mem_map.mpr ⟨p, hp, rfl⟩), ih h2.2⟩
theorem perm_of_look {a b : List (Str × Int)} (na : (keysOf a).Nodup) (nb : (keysOf b).Nodup) (pa : ∀ p ∈ a, 1 ≤ p.2) (pb : ∀ p ∈ b, 1 ≤ p.2) (h : ∀ n, (look a n).getD 0 = (look b n).getD 0) : a.Perm b := by
  have key : ∀ {a b : List (Str × Int)}, (keysOf a).Nodup → (∀ p ∈ a, 1 ≤ p.2) → (∀ n, (look a n).getD 0 = (look b n).getD 0) → ∀ p, p ∈ a → p ∈ b := by
    intro a b na pa h p hp
    obtain ⟨n, c⟩ := p
    have e := look_of na hp
    have q := h n
    have c1 : (1 : Int) ≤ c := pa _ hp
    rw [e] at q
    cases e2 : look b n with
    | none =>
      rw [e2] at q
      have q : c = 0 := q
      omega
    | some c2 =>
      rw [e2] at q
      have q : c = c2 := q
      rw [q]
      exact look_mem e2
  exact (List.perm_ext_iff_of_nodup (nodup_of_keys na) (nodup_of_keys nb)).mpr fun p => ⟨key na pa h p, key nb pb (fun n => (h n).symm) p⟩
theorem perm_keys {a b : List (Str × Int)} (h : a.Perm b) : (keysOf a).Perm (keysOf b) := h.map _
theorem perm_sumC {a b : List (Str × Int)} (h : a.Perm b) : sumC a = sumC b := by
  induction h with
  | nil => rfl
  | cons p _ ih => rw [sumC_cons, sumC_cons, ih]
  | swap p q r => rw [sumC_cons, sumC_cons, sumC_cons, sumC_cons]; omega
  | trans _ _ i1 i2 => rw [i1, i2]
theorem perm_look {a b : List (Str × Int)} (h : a.Perm b) (na : (keysOf a).Nodup) (n : Str) : look a n = look b n := by
  have nb : (keysOf b).Nodup := (perm_keys h).nodup_iff.mp na
  cases e : look a n with
  | none =>
    have h1 := look_none.mp e
    exact (look_none.mpr fun z => h1 ((perm_keys h).mem_iff.mpr z)).symm
  | some c => exact (look_of nb (h.mem_iff.mp (look_mem e))).symm
theorem perm_text {a b : List (Str × Int)} (h : a.Perm b) (na : (keysOf a).Nodup) : textOf a = textOf b := by
  unfold textOf
  rw [srt_eq (perm_keys h)]
  congr 1
  refine List.map_congr_left fun n _ => ?_
  rw [perm_look h na]
theorem perm_good {a b : List (Str × Int)} (h : a.Perm b) (g : GoodC a) : GoodC b :=
  ⟨by rw [← h.length_eq]; exact g.few, (perm_keys h).nodup_iff.mp g.nd, fun p hp => g.nm p (h.mem_iff.mpr hp), fun p hp => g.pos p (h.mem_iff.mpr hp), by rw [← perm_sumC h]; exact g.sum⟩
theorem perm_same {a b : List (Str × Int)} (h : a.Perm b) (na : (keysOf a).Nodup) : sameC a b = true := by
  unfold sameC
  rw [h.length_eq, beq_self_eq_true, Bool.true_and, List.all_eq_true]
  intro p hp
  refine decide_eq_true ?_
  rw [← perm_look h na]
  exact look_of na hp
theorem keys_kvS (cs : List (Str × Int)) : (kvS cs).map (·.1) = (keysOf cs).map Sum.inr := by simp [kvS, keysOf]
/-! ### words -/
theorem name_signs {n : Str} (h : isName n = true) : ∀ c ∈ tl n, okC c = true := by
  unfold isName isNm at h
  obtain ⟨_, h⟩ := He.ba h
  obtain ⟨_, h⟩ := He.ba h
  obtain ⟨_, h⟩ := He.ba h
  exact fun c hc => List.all_eq_true.mp h c hc
theorem okC_ne {c : Nat} (h : okC c = true) : c ≠ 42 ∧ c ≠ 32 := by
  refine ⟨fun e => ?_, fun e => ?_⟩ <;> (subst e; revert h; decide)
theorem num_all : ((List.range 1000).all fun k => decide (k = 0) || (figsOk (numT (k : Int)) && (decide (figV (numT (k : Int)) = (k : Int)) && (tl (numT (k : Int))).all okC))) = true := by decide +kernel
theorem num_fig {c : Int} (h0 : 1 ≤ c) (h1 : c ≤ 999) : figsOk (numT c) = true ∧ figV (numT c) = c ∧ (tl (numT c)).all okC = true := by
  obtain ⟨k, rfl⟩ := Int.eq_ofNat_of_zero_le (show 0 ≤ c by omega)
  have q := List.all_eq_true.mp num_all k (List.mem_range.mpr (by omega))
  rw [decide_eq_false (by omega), Bool.false_or] at q
  obtain ⟨q1, q⟩ := He.ba q
  obtain ⟨q2, q3⟩ := He.ba q
  exact ⟨q1, of_decide_eq_true q2, q3⟩
theorem parse_name {n : Str} (h : isName n = true) : parseW n = some (n, 1) := by
  have e : Txt.join (Str.ofString "*") [n] = n := by rw [TL.join_eq]; rfl
  have s := TL.split_join (y := Str.ofString "*") (s := 42) (S := []) tl_star star256 (parts := [n]) (by simp) fun p hp => by
    rw [List.mem_singleton.mp hp]
    exact fun z => (okC_ne (name_signs h 42 z)).1 rfl
  rw [e] at s
  unfold parseW
  rw [s]
  show (if isName n = true then some (n, (1 : Int)) else none) = _
  rw [if_pos h]
theorem parse_two {n : Str} {c : Int} (h : isName n = true) (h0 : 1 ≤ c) (h1 : c ≤ 999) : parseW (n ++ Str.ofString "*" ++ numT c) = some (n, c) := by
  obtain ⟨f1, f2, f3⟩ := num_fig h0 h1
  have e : Txt.join (Str.ofString "*") [n, numT c] = n ++ Str.ofString "*" ++ numT c := by rw [TL.join_eq]; rfl
  have s := TL.split_join (y := Str.ofString "*") (s := 42) (S := []) tl_star star256 (parts := [n, numT c]) (by simp) fun p hp => by
    rcases List.mem_cons.mp hp with rfl | hp
    · exact fun z => (okC_ne (name_signs h 42 z)).1 rfl
    · rw [List.mem_singleton.mp hp]
      exact fun z => (okC_ne (List.all_eq_true.mp f3 42 z)).1 rfl
  rw [e] at s
  unfold parseW
  rw [s]
  show (if (isName n && figsOk (numT c)) = true then some (n, figV (numT c)) else none) = _
  rw [h, f1, f2]
  rfl
/-- a word that tells of n c things, by its text -/
structure WordIs (w : Str) (p : Str × Int) : Prop where
  parse : parseW w = some p
  blank : 32 ∉ tl w
  ne : w ≠ Str.ofString ""
  len : w.length ≤ 12
  sgn : ∀ c ∈ tl w, okC c = true ∨ c = 42
theorem name_ne {n r : Str} (h : isName n = true) : n ++ r ≠ Str.ofString "" := fun e => by
  have h1 := (isName_len h).1
  have h2 : (n ++ r).length = 0 := by rw [e]; decide +kernel
  rw [append_len] at h2
  omega
theorem word_name {n : Str} (h : isName n = true) : WordIs n (n, 1) :=
  ⟨parse_name h, fun z => (okC_ne (name_signs h 32 z)).2 rfl, fun e => by have := name_ne (r := Str.ofString "") h; rw [app_empty] at this; exact this e, Nat.le_trans (isName_len h).2 (by omega), fun c hc => .inl (name_signs h c hc)⟩
theorem word_two {n : Str} {c : Int} (h : isName n = true) (h0 : 1 ≤ c) (h1 : c ≤ 999) : WordIs (n ++ Str.ofString "*" ++ numT c) (n, c) := by
  obtain ⟨f1, f2, f3⟩ := num_fig h0 h1
  refine ⟨parse_two h h0 h1, fun z => ?_, by rw [app_assoc]; exact name_ne h, ?_, fun c hc => ?_⟩
  · rw [tl_app, tl_app, tl_star] at z
    rcases List.mem_append.mp z with z | z
    · rcases List.mem_append.mp z with z | z
      · exact (okC_ne (name_signs h 32 z)).2 rfl
      · have := List.mem_singleton.mp z
        omega
    · exact (okC_ne (List.all_eq_true.mp f3 32 z)).2 rfl
  · rw [append_len, append_len]
    have l1 := (isName_len h).2
    have l2 : (numT c).length ≤ 3 := by
      unfold figsOk at f1
      obtain ⟨_, f1⟩ := He.ba f1
      obtain ⟨f1, _⟩ := He.ba f1
      exact of_decide_eq_true f1
    have l3 : (Str.ofString "*").length = 1 := by decide +kernel
    omega
  · rw [tl_app, tl_app, tl_star] at hc
    rcases List.mem_append.mp hc with z | z
    · rcases List.mem_append.mp z with z | z
      · exact .inl (name_signs h c z)
      · exact .inr (List.mem_singleton.mp z)
    · exact .inl (List.all_eq_true.mp f3 c z)
theorem word_of {n : Str} {c : Int} (h : isName n = true) (h0 : 1 ≤ c) (h1 : c ≤ 999) : WordIs (wordOf n c) (n, c) := by
  unfold wordOf
  split
  · rename_i e
    rw [e]
    exact word_name h
  · exact word_two h h0 h1
theorem joinL_len (S : List Nat) : ∀ (ps : List (List Nat)) (m : Nat), (∀ p ∈ ps, p.length ≤ m) → (TL.joinL S ps).length ≤ ps.length * (m + S.length)
  | [], _, _ => Nat.zero_le _
  | [p], m, h => by
    have := h p List.mem_cons_self
    show p.length ≤ 1 * _
    omega
  | p :: q :: r, m, h => by
    have h1 := h p List.mem_cons_self
    have h2 := joinL_len S (q :: r) m fun x hx => h x (List.mem_cons_of_mem _ hx)
    show (p ++ (S ++ TL.joinL S (q :: r))).length ≤ (r.length + 1 + 1) * _
    rw [List.length_append, List.length_append, Nat.add_mul]
    have h2 : (TL.joinL S (q :: r)).length ≤ (r.length + 1) * (m + S.length) := h2
    omega
theorem join_len {ws : List Str} {m : Nat} (h : ∀ x ∈ ws, x.length ≤ m) : (Txt.join (Str.ofString " ") ws).length ≤ ws.length * (m + 1) := by
  rw [TL.join_eq, ← tl_len, show tl (Str.join (Str.ofString " ") ws) = TL.joinL (tl (Str.ofString " ")) (ws.map tl) from TL.tl_join _ _, tl_blank]
  have := joinL_len [32] (ws.map tl) m fun p hp => by
    obtain ⟨z, hz, rfl⟩ := List.mem_map.mp hp
    rw [tl_len]
    exact h z hz
  rw [List.length_map] at this
  exact this
def wordsOf (z : Str) : List Str := if z = Str.ofString "" then [] else Txt.split z (Str.ofString " ")
def bagOf (z : Str) : Except Nat (List (Str × Int)) := countsL 0 (wordsOf z) [] 0
theorem bag_none : bagOf (Str.ofString "") = .ok [] := by
  unfold bagOf wordsOf
  rw [if_pos rfl]
  rfl
/-- words ws that tell ps -/
structure WordsAre (ws : List Str) (ps : List (Str × Int)) : Prop where
  len : ws.length = ps.length
  at_ : ∀ (i : Nat) (w : Str) (p : Str × Int), ws[i]? = some w → ps[i]? = some p → WordIs w p
theorem WordsAre.nil : WordsAre [] [] := ⟨rfl, fun _ _ _ h => by simp at h⟩
theorem WordsAre.snoc {ws : List Str} {ps : List (Str × Int)} {w : Str} {p : Str × Int} (h : WordsAre ws ps) (q : WordIs w p) : WordsAre (ws ++ [w]) (ps ++ [p]) := by
  refine ⟨by rw [List.length_append, List.length_append, h.len]; rfl, fun i x y e1 e2 => ?_⟩
  by_cases hi : i < ws.length
  · rw [List.getElem?_append_left hi] at e1
    rw [List.getElem?_append_left (by rw [← h.len]; exact hi)] at e2
    exact h.at_ i x y e1 e2
  · rw [List.getElem?_append_right (by omega)] at e1
    rw [List.getElem?_append_right (by rw [← h.len]; omega), ← h.len] at e2
    cases e : i - ws.length with
    | zero =>
      rw [e] at e1 e2
      cases e1
      cases e2
      exact q
    | succ k =>
      rw [e] at e1
      simp at e1
theorem WordsAre.each {ws : List Str} {ps : List (Str × Int)} (h : WordsAre ws ps) {w : Str} (hw : w ∈ ws) : ∃ p ∈ ps, WordIs w p := by
  obtain ⟨i, hi, e⟩ := List.mem_iff_getElem.mp hw
  have h2 : i < ps.length := by rw [← h.len]; exact hi
  exact ⟨ps[i], List.getElem_mem h2, h.at_ i w ps[i] (by rw [List.getElem?_eq_getElem hi, e]) (List.getElem?_eq_getElem h2)⟩
theorem WordsAre.parse {ws : List Str} {ps : List (Str × Int)} (h : WordsAre ws ps) : ws.map parseW = ps.map some := by
  refine List.ext_getElem? fun i => ?_
  rw [List.getElem?_map, List.getElem?_map]
  by_cases hi : i < ws.length
  · have h2 : i < ps.length := by rw [← h.len]; exact hi
    have q := h.at_ i ws[i] ps[i] (List.getElem?_eq_getElem hi) (List.getElem?_eq_getElem h2)
    rw [List.getElem?_eq_getElem hi, List.getElem?_eq_getElem h2]
    show some (parseW ws[i]) = some (some ps[i])
    rw [q.parse]
  · rw [List.getElem?_eq_none (by omega), List.getElem?_eq_none (by rw [← h.len]; omega)]
    rfl
theorem WordsAre.split {ws : List Str} {ps : List (Str × Int)} (h : WordsAre ws ps) : wordsOf (Txt.join (Str.ofString " ") ws) = ws := by
  unfold wordsOf
  cases ws with
  | nil =>
    rw [if_pos]
    rw [TL.join_eq]
    rfl
  | cons w r =>
    rw [if_neg]
    · refine TL.split_join tl_blank blank256 (by simp) fun p hp => ?_
      obtain ⟨q, _, hq⟩ := h.each hp
      exact hq.blank
    · intro e
      obtain ⟨q, _, hq⟩ := h.each (w := w) List.mem_cons_self
      have h1 : tl (Txt.join (Str.ofString " ") (w :: r)) = [] := by rw [e]; decide +kernel
      rw [TL.join_eq, show tl (Str.join (Str.ofString " ") (w :: r)) = TL.joinL (tl (Str.ofString " ")) ((w :: r).map tl) from TL.tl_join _ _] at h1
      have h2 : tl w = [] := by
        cases r with
        | nil => exact h1
        | cons x r => exact (List.append_eq_nil_iff.mp (show tl w ++ _ = [] from h1)).1
      have h3 : w.length = 0 := by rw [← tl_len, h2]; rfl
      refine hq.ne ?_
      cases w with
      | mk cps =>
        have : cps = #[] := by
          apply Array.eq_empty_of_size_eq_zero
          exact h3
        rw [this]
        rfl
/-- the words tell the counts cs, in some order -/
structure WordsFor (cs : List (Str × Int)) (ws : List Str) (ps : List (Str × Int)) : Prop where
  are : WordsAre ws ps
  pos : ∀ p ∈ ps, 1 ≤ p.2
  tot : ∀ n, tot ps n = (look cs n).getD 0
  sum : sumC ps = sumC cs
  few : ws.length ≤ 60
theorem WordsFor.bag {cs : List (Str × Int)} {ws : List Str} {ps : List (Str × Int)} (h : WordsFor cs ws ps) (g : GoodC cs) (m : sumC cs ≤ 400) : ∃ ds, bagOf (Txt.join (Str.ofString " ") ws) = .ok ds ∧ cs.Perm ds := by
  refine ⟨accAll [] ps, ?_, ?_⟩
  · unfold bagOf
    rw [h.are.split]
    exact countsL_acc ws ps 0 [] 0 h.are.parse h.pos (by rw [h.sum]; omega)
  · refine perm_of_look g.nd (nodup_accAll ps [] (by simp [keysOf])) g.pos (pos_accAll ps [] h.pos fun _ z => nomatch z) fun n => ?_
    rw [look_accAll, h.tot]
    show _ = 0 + _
    omega
theorem WordsFor.size {cs : List (Str × Int)} {ws : List Str} {ps : List (Str × Int)} (h : WordsFor cs ws ps) : (Txt.join (Str.ofString " ") ws).length ≤ 800 := by
  have h1 := join_len (ws := ws) (m := 12) fun x hx => by
    obtain ⟨p, _, q⟩ := h.are.each hx
    exact q.len
  have h2 := h.few
  omega
end Sk

set_option maxHeartbeats 4000000
/-! lists of texts and of pairs, compared -/
namespace Sk
open PySem PySem.Spec PyProof.Rows L2
theorem depth_all_le {m : Nat} : ∀ {ds : List PyData}, (∀ d ∈ ds, d.depth ≤ m) → PyData.depthAll ds ≤ m
  | [], _ => by simp [PyData.depthAll]
  | d :: r, h => by
    have h1 := h d List.mem_cons_self
    have h2 := depth_all_le (ds := r) fun x hx => h x (List.mem_cons_of_mem _ hx)
    simp only [PyData.depthAll]
    omega
theorem lay_all : ∀ {ds : List PyData}, (∀ d ∈ ds, d.canLay0 = true) → PyData.canLayAll0 ds = true
  | [], _ => by simp [PyData.canLayAll0]
  | d :: r, h => by
    have h1 := h d List.mem_cons_self
    have h2 := lay_all (ds := r) fun x hx => h x (List.mem_cons_of_mem _ hx)
    simp only [PyData.canLayAll0]
    rw [h1, h2]
    rfl
theorem shaped_list {ds : List PyData} (h1 : ∀ d ∈ ds, d.canLay0 = true) (h2 : ∀ d ∈ ds, d.depth ≤ 63) : SeqAt.shaped (.list ds) = true := by
  unfold SeqAt.shaped
  have a : (PyData.list ds).canLay0 = true := by simp only [PyData.canLay0]; exact lay_all h1
  have b : (PyData.list ds).depth ≤ 64 := by
    simp only [PyData.depth]
    have := depth_all_le h2
    omega
  rw [a, decide_eq_true b]
  rfl
def dPair (p : Str × Int) : PyData := .tuple [.str p.1, .int p.2]
theorem strOk_of {z : Str} (h : ∀ c ∈ tl z, okC c = true) : PyData.strOk z = true := by
  unfold PyData.strOk
  rw [← Array.all_toList, List.all_eq_true]
  intro c hc
  have := h c hc
  unfold okC isLet isFig at this
  simp at this
  exact decide_eq_true (by omega)
theorem strOk_name {n : Str} (h : isName n = true) : PyData.strOk n = true := strOk_of (name_signs h)
theorem lay_pair {p : Str × Int} (h : isName p.1 = true) : (dPair p).canLay0 = true ∧ (dPair p).depth ≤ 63 := by
  unfold dPair
  simp [PyData.canLay0, PyData.canLayAll0, PyData.depth, PyData.depthAll, strOk_name h]
theorem shaped_pairs {ps : List (Str × Int)} (h : ∀ p ∈ ps, isName p.1 = true) : SeqAt.shaped (.list (ps.map dPair)) = true :=
  shaped_list (fun d hd => by obtain ⟨p, hp, rfl⟩ := List.mem_map.mp hd; exact (lay_pair (h p hp)).1) fun d hd => by obtain ⟨p, hp, rfl⟩ := List.mem_map.mp hd; exact (lay_pair (h p hp)).2
theorem shaped_nil : SeqAt.shaped (.list []) = true := by decide +kernel
theorem eqv_nil (ds : List PyData) : PyData.eqv (.list ds) (.list []) = ds.isEmpty := by
  cases ds <;> simp [PyData.eqv, PyData.eqvAll]
theorem shaped_strs {zs : List Str} (h : ∀ z ∈ zs, PyData.strOk z = true) : SeqAt.shaped (.list (zs.map .str)) = true :=
  shaped_list (fun d hd => by obtain ⟨z, hz, rfl⟩ := List.mem_map.mp hd; simp [PyData.canLay0, h z hz]) fun d hd => by obtain ⟨z, hz, rfl⟩ := List.mem_map.mp hd; simp [PyData.depth]
theorem eqv_strs : ∀ (a b : List Str), PyData.eqvAll (a.map .str) (b.map .str) = decide (a = b)
  | [], [] => by simp [PyData.eqvAll]
  | [], _ :: _ => by simp [PyData.eqvAll]
  | _ :: _, [] => by simp [PyData.eqvAll]
  | x :: r, y :: s => by
    show (PyData.eqv (.str x) (.str y) && PyData.eqvAll (r.map .str) (s.map .str)) = _
    rw [eqv_strs r s]
    show ((x == y) && decide (r = s)) = _
    by_cases e : x = y
    · subst e
      simp
    · simp [e]
theorem dp_strs {K : PySem.W.Frag} {H : Hp} {a : Addr} {zs : List Str} (h : SqL K H a (zs.map V.str)) : Dp K H (.ref a) (.list (zs.map .str)) := by
  refine .lst h ?_
  clear h
  induction zs with
  | nil => exact .nil
  | cons z r ih => exact .cons (.str z) ih
/-- tuples of a text and a number, at ts -/
def TupsAt (H : Hp) (ts : List Addr) (ps : List (Str × Int)) : Prop := ts.length = ps.length ∧ ∀ (i : Nat) (t : Addr) (p : Str × Int), ts[i]? = some t → ps[i]? = some p → H t = some (.tup [.str p.1, .int p.2])
theorem TupsAt.nil {H : Hp} : TupsAt H [] [] := ⟨rfl, fun _ _ _ h => by simp at h⟩
theorem TupsAt.snoc {H : Hp} {ts : List Addr} {ps : List (Str × Int)} {t : Addr} {p : Str × Int} (h : TupsAt H ts ps) (q : H t = some (.tup [.str p.1, .int p.2])) : TupsAt H (ts ++ [t]) (ps ++ [p]) := by
  refine ⟨by rw [List.length_append, List.length_append, h.1]; rfl, fun i x y e1 e2 => ?_⟩
  by_cases hi : i < ts.length
  · rw [List.getElem?_append_left hi] at e1
    rw [List.getElem?_append_left (by rw [← h.1]; exact hi)] at e2
    exact h.2 i x y e1 e2
  · rw [List.getElem?_append_right (by omega)] at e1
    rw [List.getElem?_append_right (by rw [← h.1]; omega), ← h.1] at e2
    cases e : i - ts.length with
    | zero =>
      rw [e] at e1 e2
      cases e1
      cases e2
      exact q
    | succ k =>
      rw [e] at e1
      simp at e1
theorem TupsAt.keep {H H' : Hp} {ts : List Addr} {ps : List (Str × Int)} (h : TupsAt H ts ps) (k : ∀ t a b, H t = some (.tup [.str a, .int b]) → H' t = some (.tup [.str a, .int b])) : TupsAt H' ts ps :=
  ⟨h.1, fun i t p e1 e2 => k t _ _ (h.2 i t p e1 e2)⟩
theorem TupsAt.erase {H : Hp} {ts : List Addr} {ps : List (Str × Int)} (h : TupsAt H ts ps) (k : Nat) : TupsAt H (ts.eraseIdx k) (ps.eraseIdx k) := by
  refine ⟨by rw [List.length_eraseIdx, List.length_eraseIdx, h.1], fun i t p e1 e2 => ?_⟩
  rw [List.getElem?_eraseIdx] at e1 e2
  by_cases hi : i < k
  · rw [if_pos hi] at e1 e2
    exact h.2 i t p e1 e2
  · rw [if_neg hi] at e1 e2
    exact h.2 (i + 1) t p e1 e2
theorem TupsAt.dp {K : PySem.W.Frag} {H : Hp} : ∀ {ts : List Addr} {ps : List (Str × Int)}, TupsAt H ts ps → DpAll K H (ts.map V.ref) (ps.map dPair)
  | [], [], _ => .nil
  | [], _ :: _, h => by cases h.1
  | _ :: _, [], h => by cases h.1
  | t :: ts, p :: ps, h => by
    refine .cons ?_ (TupsAt.dp ⟨Nat.succ.inj h.1, fun i x y e1 e2 => h.2 (i + 1) x y e1 e2⟩)
    exact .tup (SqT.of (h.2 0 t p rfl rfl)) (.cons (.str _) (.cons (.int _) .nil))
theorem TupsAt.setL {H : Hp} {ts : List Addr} {ps : List (Str × Int)} {l : Addr} {xs : List V} {o : HO} (h : TupsAt H ts ps) (e : H l = some (.lst xs)) : TupsAt (upd H l o) ts ps :=
  h.keep fun t a b q => by
    rw [upd_ne (ne_of q e (by intro z; cases z))]
    exact q
theorem TupsAt.but {H H' : Hp} {ts : List Addr} {ps : List (Str × Int)} {d : Addr} {xs : List V} (h : TupsAt H ts ps) (e : H d = some (.lst xs)) (b : But d H H') : TupsAt H' ts ps :=
  h.keep fun t x y q => b.at (ne_of q e (by intro z; cases z)) q
theorem TupsAt.same {H H' : Hp} {ts : List Addr} {ps : List (Str × Int)} (h : TupsAt H ts ps) (s : Same H H') : TupsAt H' ts ps := h.keep fun _ _ _ q => s _ _ q
def pairsOf (cs : List (Str × Int)) : List (Str × Int) := (srt (keysOf cs)).map fun m => (m, (look cs m).getD 0)
theorem pairs_perm {cs : List (Str × Int)} (nd : (keysOf cs).Nodup) : (pairsOf cs).Perm cs := by
  have h1 : (pairsOf cs).Perm ((keysOf cs).map fun m => (m, (look cs m).getD 0)) := (srt_perm (keysOf cs)).map _
  have h2 : ((keysOf cs).map fun m => (m, (look cs m).getD 0)) = cs := by
    unfold keysOf
    rw [List.map_map]
    refine (List.map_congr_left fun p hp => ?_).trans (List.map_id cs)
    obtain ⟨n, c⟩ := p
    show (n, (look cs n).getD 0) = _
    rw [look_of nd hp]
    rfl
  rw [h2] at h1
  exact h1
theorem perm_tot {a b : List (Str × Int)} (h : a.Perm b) (n : Str) : tot a n = tot b n := by
  induction h with
  | nil => rfl
  | cons p _ ih => rw [tot_cons, tot_cons, ih]
  | swap p q r => rw [tot_cons, tot_cons, tot_cons, tot_cons]; omega
  | trans _ _ i1 i2 => rw [i1, i2]
theorem tot_absent {cs : List (Str × Int)} {n : Str} (h : n ∉ keysOf cs) : tot cs n = 0 := by
  induction cs with
  | nil => rfl
  | cons p r ih =>
    have h2 : ¬ (n = p.1 ∨ n ∈ keysOf r) := fun z => h (List.mem_cons.mpr z)
    rw [tot_cons, if_neg fun e => h2 (.inl e.symm), ih fun z => h2 (.inr z)]
    rfl
theorem tot_look {cs : List (Str × Int)} (nd : (keysOf cs).Nodup) (n : Str) : tot cs n = (look cs n).getD 0 := by
  induction cs with
  | nil => rfl
  | cons p r ih =>
    have nd2 : p.1 ∉ keysOf r ∧ (keysOf r).Nodup := List.nodup_cons.mp nd
    rw [tot_cons, look_cons]
    by_cases e : p.1 = n
    · rw [if_pos e, if_pos e, tot_absent (by rw [← e]; exact nd2.1)]
      show p.2 + 0 = p.2
      omega
    · rw [if_neg e, if_neg e, ih nd2.2]
      omega
theorem tot_erase : ∀ (ps : List (Str × Int)) (k : Nat) (p : Str × Int) (n : Str), ps[k]? = some p → tot ps n = (if p.1 = n then p.2 else 0) + tot (ps.eraseIdx k) n
  | [], _, _, _, h => by simp at h
  | q :: r, 0, p, n, h => by
    cases h
    rw [tot_cons]
    rfl
  | q :: r, k + 1, p, n, h => by
    rw [tot_cons, tot_erase r k p n h, List.eraseIdx_cons_succ, tot_cons]
    omega
theorem sumC_erase : ∀ (ps : List (Str × Int)) (k : Nat) (p : Str × Int), ps[k]? = some p → sumC ps = p.2 + sumC (ps.eraseIdx k)
  | [], _, _, h => by simp at h
  | q :: r, 0, p, h => by
    cases h
    rw [sumC_cons]
    rfl
  | q :: r, k + 1, p, h => by
    rw [sumC_cons, sumC_erase r k p h, List.eraseIdx_cons_succ, sumC_cons]
    omega
end Sk

set_option maxHeartbeats 4000000
/-! == of data at any depth, of counts; in value form. -/
namespace Sk
open PySem PySem.Spec PyProof.Rows L2
section
variable {X : Cx}
def rEqDR (neg : Bool) : R2 := fun x y H Q => ∃ a b ks ls, x = .ref a ∧ y = .ref b ∧ Rd H a (.dK (kvS ks)) ∧ Rd H b (.dK (kvS ls)) ∧ Q (.bl (if neg then !sameC ks ls else sameC ks ls)) H
theorem op_eqDictR (hu : X.A.units < cLine) : OpR X (compareOp .Eq) (rEqDR false) := by
  intro pins s σ H x y v u Q I rx ry h
  obtain ⟨a, b, ks, ls, rfl, rfl, ea, eb, q⟩ := h
  obtain rfl : v = Value.ref a := rx
  obtain rfl : u = Value.ref b := ry
  obtain ⟨_, ya, va, ra, da⟩ := (show ObjOk X.prog X.w H s.heap a (.dK (kvS ks)) from ea.ok I.hok)
  obtain ⟨_, yb, vb, rb, db⟩ := (show ObjOk X.prog X.w H s.heap b (.dK (kvS ls)) from eb.ok I.hok)
  have la : va.length = ks.length := by rw [← ra.length]; simp [kvS]
  have lb : vb.length = ls.length := by rw [← rb.length]; simp [kvS]
  exact PySem.W.keq_eq (knd := mixKind X.prog X.w) ya yb da db hu (fun _ => hits_ints rb ra) ⟨.bl _, H, I, by rw [la, lb]; rfl, q⟩
theorem op_neDictR (hu : X.A.units < cLine) : OpR X (compareOp .NotEq) (rEqDR true) := by
  intro pins s σ H x y v u Q I rx ry h
  obtain ⟨a, b, ks, ls, rfl, rfl, ea, eb, q⟩ := h
  obtain rfl : v = Value.ref a := rx
  obtain rfl : u = Value.ref b := ry
  obtain ⟨_, ya, va, ra, da⟩ := (show ObjOk X.prog X.w H s.heap a (.dK (kvS ks)) from ea.ok I.hok)
  obtain ⟨_, yb, vb, rb, db⟩ := (show ObjOk X.prog X.w H s.heap b (.dK (kvS ls)) from eb.ok I.hok)
  have la : va.length = ks.length := by rw [← ra.length]; simp [kvS]
  have lb : vb.length = ls.length := by rw [← rb.length]; simp [kvS]
  exact PySem.W.keq_ne (knd := mixKind X.prog X.w) ya yb da db hu (fun _ => hits_ints rb ra) ⟨.bl _, H, I, by rw [la, lb]; rfl, q⟩
end
end Sk
namespace Dv
open PySem PySem.Spec PyProof.Rows L2 Sk
section
variable {K : PySem.W.Frag} {W : WX} {F H : Hp} {x : D}
mutual
def pyd : D → Option PyData
  | .non => some .none
  | .bl b => some (.bool b)
  | .int i => some (.int i)
  | .str z => some (.str z)
  | .lst xs => (pyds xs).map .list
  | .tup xs => (pyds xs).map .tuple
  | _ => none
def pyds : List D → Option (List PyData)
  | [] => some []
  | x :: xs => match pyd x, pyds xs with
    | some d, some ds => some (d :: ds)
    | _, _ => none
end
mutual
theorem Is.dp (s : Sees F H) : ∀ {d : D} {v : V} {p : PyData}, Is K F d v → pyd d = some p → Dp K H v p
  | .non, _, _, .non, e => by cases e; exact .non
  | .bl b, _, _, .bl, e => by cases e; exact .bl b
  | .int b, _, _, .int, e => by cases e; exact .int b
  | .str b, _, _, .str, e => by cases e; exact .str b
  | .lst xs, _, _, .lst h r, e => by
    unfold pyd at e
    cases q : pyds xs with
    | none => rw [q] at e; cases e
    | some ds =>
      rw [q] at e
      cases e
      exact .lst (SqL.of (s.see _ _ h fun _ z => nomatch z)) (IsL.dp s r q)
  | .tup xs, _, _, .tup h r, e => by
    unfold pyd at e
    cases q : pyds xs with
    | none => rw [q] at e; cases e
    | some ds =>
      rw [q] at e
      cases e
      exact .tup (s.sqT h) (IsL.dp s r q)
theorem IsL.dp (s : Sees F H) : ∀ {d : List D} {v : List V} {p : List PyData}, IsL K F d v → pyds d = some p → DpAll K H v p
  | [], _, _, .nil, e => by cases e; exact .nil
  | x :: xs, _, _, .cons h r, e => by
    unfold pyds at e
    split at e
    · rename_i e1 e2
      cases e
      exact .cons (Is.dp s h e1) (IsL.dp s r e2)
    · cases e
end
theorem Pk.dp {v : V} {p : PyData} (s : Sees F H) (h : Pk K F H x v) (e : pyd x = some p) : Dp K H v p := by
  rcases h with h | ⟨a, rfl, _, h⟩
  · exact h.dp s e
  · cases x with
    | lst xs =>
      obtain ⟨vs, h1, h2⟩ := h
      unfold pyd at e
      cases q : pyds xs with
      | none => rw [q] at e; cases e
      | some ds =>
        rw [q] at e
        cases e
        exact .lst (SqL.of h1) (h2.dp s q)
    | dic _ => cases e
    | obj _ _ => cases e
    | pin _ _ => cases e
    | _ => exact h.elim
def fEqDp (neg : Bool) : Fn2 := fun x y Q => ∃ d e, pyd x = some d ∧ pyd y = some e ∧ SeqAt.shaped d = true ∧ SeqAt.shaped e = true ∧ Q (.bl (if neg then !PyData.eqv d e else PyData.eqv d e))
theorem s2_eqDp : Sim2 K (fEqDp false) (rEqD K) := ⟨fun {F H x y v w} s hx hy Q9 Q f k => by
  obtain ⟨d, e, h1, h2, h3, h4, f⟩ := f
  exact ⟨d, e, hx.dp s h1, hy.dp s h2, h3, h4, k _ _ .bl f⟩⟩
theorem s2_neDp : Sim2 K (fEqDp true) (rNeD K) := ⟨fun {F H x y v w} s hx hy Q9 Q f k => by
  obtain ⟨d, e, h1, h2, h3, h4, f⟩ := f
  exact ⟨d, e, hx.dp s h1, hy.dp s h2, h3, h4, k _ _ .bl f⟩⟩
theorem s2_eqCs {neg : Bool} : Sim2 K (fEqD neg) (rEqDR neg) := ⟨fun {F H x y v w} s hx hy Q9 Q f k => by
  obtain ⟨ks, ls, rfl, rfl, f⟩ := f
  obtain ⟨a, ws, rfl, h1, h2⟩ := Pk.dic s hx
  obtain ⟨b, us, rfl, h3, h4⟩ := Pk.dic s hy
  have e1 := isK_cs h2
  have e2 := isK_cs h4
  subst e1
  subst e2
  exact ⟨a, b, ks, ls, rfl, rfl, h1, h3, k _ _ .bl f⟩⟩
theorem pyds_map {α : Type} {f : α → D} {g : α → PyData} (h : ∀ x, pyd (f x) = some (g x)) : ∀ l : List α, pyds (l.map f) = some (l.map g)
  | [] => rfl
  | x :: l => by
    show (match pyd (f x), pyds (l.map f) with
      | some d, some ds => some (d :: ds)
      | _, _ => none) = _
    rw [h, pyds_map h l]
    rfl
end
end Dv

set_option maxHeartbeats 4000000
/-! Bags, in value form. -/
namespace Sk
open PySem PySem.Spec PyProof.Rows L2 Dv
def fs_is_name : FS := ⟨[false], false, fun ds Q _ => ∃ x, ds = [x] ∧ ((∃ z : Str, x = .str z ∧ z.length ≤ 100000 ∧ Q (.bl (isName z)) []) ∨ (∃ t, ty9 x = some t ∧ kitB t "str" = some false ∧ Q (.bl false) []))⟩
def fs_word_count : FS := ⟨[false], false, fun ds Q _ => ∃ w : Str, ds = [.str w] ∧ w.length ≤ 10000 ∧ (parseW w = none → Q .non []) ∧ ∀ n c, parseW w = some (n, c) → Q (.tup [.str n, .int c]) []⟩
def fs_counts_of : FS := ⟨[false], true, fun ds Q _ => ∃ (ws : List Str) (cs : List (Str × Int)), ds = [.lst (ws.map D.str)] ∧ ws.length ≤ 10000 ∧ (∀ x ∈ ws, x.length ≤ 10000) ∧ countsL 0 ws [] 0 = .ok cs ∧ Q (dcs cs) []⟩
/-- a bag of counts -/
def bagD (cs : List (Str × Int)) : D := .obj "Bag" [("own", dcs cs)]
def fs_Bag_init : FS := ⟨[true, false], false, fun ds Q _ => ∃ (z : Str) (cs : List (Str × Int)), ds = [.obj "Bag" [], .str z] ∧ z.length ≤ 9000 ∧ bagOf z = .ok cs ∧ Q .non [bagD cs]⟩
def fs_Bag_names : FS := ⟨[false], true, fun ds Q _ => ∃ cs, ds = [bagD cs] ∧ cs.length < 64 ∧ Q (.lst ((srt (keysOf cs)).map D.str)) []⟩
def fs_Bag_count_of : FS := ⟨[false, false], false, fun ds Q _ => ∃ cs n, ds = [bagD cs, .str n] ∧ Q (.int ((look cs n).getD 0)) []⟩
def fs_Bag_len : FS := ⟨[false], false, fun ds Q _ => ∃ cs, ds = [bagD cs] ∧ GoodC cs ∧ Q (.int (sumC cs)) []⟩
def fs_Bag_str : FS := ⟨[false], false, fun ds Q _ => ∃ cs, ds = [bagD cs] ∧ GoodC cs ∧ Q (.str (textOf cs)) []⟩
theorem in_fig (c : Nat) : decide (c ∈ (Str.ofString "0123456789").cps.toList) = isFig c := in_figures c
theorem in_let (c : Nat) : decide (c ∈ (Str.ofString "abcdefghijklmnopqrstuvwxyz").cps.toList) = isLet c := in_letters c
theorem valD_cs (cs : List (Str × Int)) (n : Str) : valD (cs.map fun p => (Sum.inr p.1, D.int p.2)) (Sum.inr n) = (look cs n).map D.int := by
  induction cs with
  | nil => rfl
  | cons p r ih =>
    by_cases e : p.1 = n
    · simp [look, valD, e]
    · have h1 : ¬ (Sum.inr p.1 : Key) = Sum.inr n := fun q => e (Sum.inr.inj q)
      have e1 : valD ((Sum.inr p.1, D.int p.2) :: r.map fun p => (Sum.inr p.1, D.int p.2)) (Sum.inr n) = valD (r.map fun p => (Sum.inr p.1, D.int p.2)) (Sum.inr n) := by simp [valD, h1]
      show valD ((Sum.inr p.1, D.int p.2) :: r.map fun p => (Sum.inr p.1, D.int p.2)) (Sum.inr n) = _
      rw [e1, ih]
      simp [look, e]
theorem putD_cs (cs : List (Str × Int)) (n : Str) (c : Int) : putD (cs.map fun p => (Sum.inr p.1, D.int p.2)) (Sum.inr n) (D.int c) = (put cs n c).map fun p => (Sum.inr p.1, D.int p.2) := by
  have key : ∀ p : Str × Int, decide ((Sum.inr p.1 : Key) = Sum.inr n) = decide (p.1 = n) := fun p => decide_eq_decide.mpr ⟨fun e => Sum.inr.inj e, fun e => by rw [e]⟩
  have e1 : ((cs.map fun p => ((Sum.inr p.1, D.int p.2) : Key × D)).any fun kv => decide (kv.1 = (Sum.inr n : Key))) = cs.any fun p => decide (p.1 = n) := by
    rw [List.any_map]
    exact congrArg cs.any (funext key)
  unfold putD put
  rw [e1]
  split
  · rw [List.map_map, List.map_map]
    refine List.map_congr_left fun p _ => ?_
    show (if (Sum.inr p.1 : Key) = Sum.inr n then _ else _) = _
    by_cases e : p.1 = n
    · rw [if_pos (by rw [e])]
      simp [e]
    · rw [if_neg fun q => e (Sum.inr.inj q)]
      simp [e]
  · rw [List.map_append]
    rfl
theorem getD_int (o : Option Int) (d : Int) : (o.map D.int).getD (.int d) = .int (o.getD d) := by cases o <;> rfl
/-- a comprehension of truths over the signs of a text -/
theorem lcL_signs {g : DG} {c : DT} {el : DE} {vs : List Nat} {Q : List D → Sls → Prop} {z : Str} {env : Sls} (p : Nat → Bool) (hz : z.length ≤ 100000) (hs : ∀ (ch : Nat) (acc : List D) (rest : List D → Sls → Prop), rest (acc ++ [.bl (p ch)]) env → acc.length < 16777216 →
    g (.str ⟨#[ch]⟩) env fun e1 => c X0 e1 fun k e2 => ifB k (el X0 e2 fun y e3 => acc.length < 16777216 ∧ rest (acc ++ [y]) (wipe9 e3 vs)) (rest acc (wipe9 e2 vs))) (hn : Q ((z.cps.toList.map p).map D.bl) env) : lcL g c el vs Q (signs9 z) [] env := by
  have hl : z.cps.toList.length = z.length := by simp [Str.length]
  refine lcL_map (α := Nat) (f := fun c => D.str ⟨#[c]⟩) (l := z.cps.toList) (fun ys acc e => e = env ∧ ∃ done, z.cps.toList = done ++ ys ∧ acc = (done.map p).map D.bl) ⟨rfl, [], rfl, rfl⟩ (fun x ys acc e hx h rest hr => ?_) (fun acc e h => ?_)
  · obtain ⟨rfl, done, e1, rfl⟩ := h
    have e2 := congrArg List.length e1
    rw [List.length_append, hl] at e2
    refine hs x _ rest (hr _ _ ⟨rfl, done ++ [x], by rw [e1]; simp, by simp⟩) ?_
    rw [List.length_map, List.length_map]
    simp at e2
    omega
  · obtain ⟨rfl, done, e1, rfl⟩ := h
    rw [List.append_nil] at e1
    rw [← e1]
    exact hn
section
variable {P : Program} {w : World} {K : PySem.W.Frag} {mg : Str → Option Value} {base : Heap}
theorem cal_is_name (Y : Yes K mg) : C8.Cal P w K mg base 1 "is_name" (fs_is_name.to K) [] := by
  obtain ⟨fd, F⟩ := Y.f_is_name
  refine calD F Y.g_is_name sc_is_name (fun _ _ _ _ _ _ us hl => match us, hl with | [_], _ => rfl) (FS.len rfl) (fun cdv A outer s H vs Q E hr h => ?_)
  have hu := hu_of hr
  refine ⟨_, (pss_cons (ps_if (PW.pt (pw_or (pt_not (pt_val (pe_callB (call_isiK K) (by rfl) Y.n_isinstance (by decide +kernel) (pa_cons (pv 0) (pa_cons (pe_bltn (v := .ty "str") rfl Y.n_str (by decide +kernel) rfl) pa_nil))))) (pw_or (pt_not (pt_chain op_le op_le pe_int (pe_callB call_len_str (by rfl) Y.n_len (by decide +kernel) (pa_cons (pv 0) pa_nil)) (C8.pe_gc rfl Y.c_MOST_SIGNS))) (pw_or1 (pt_cmpR op_notIn_sign (pe_ix (ix_str) (pv 0) pe_int (fun _ _ => rfl)) (C8.pe_gc rfl Y.c_LETTERS) rfl))))) (pss_one (ps_ret pe_bl)) pss_nil)
  (pss_one (ps_ret (pe_callB (cr_allK K rfl) (by rfl) Y.n_all (by decide +kernel) (pa_cons (pe_lc (own := [("sign", 1)]) (g := gName 1) (tt := tYes) rfl sc_is_name.nd (pi_str (pv 0)) (blkOk_by (N := ["thing", "sign"]) (own := [("sign", 1)]) (sc := (defScope s_is_name)) (by decide +kernel)) (fun _ _ _ _ _ => (pg_name (i := 1) sc_is_name.nd rfl (.inl rfl))) (fun _ _ _ _ _ => pts_nil) (fun _ _ _ _ _ => (pe_or (pe_cmpR op_in_sign (pv 1) (C8.pe_gc rfl Y.c_LETTERS) rfl) (pe_one (pe_cmpR op_in_sign (pv 1) (C8.pe_gc rfl Y.c_FIGURES) rfl))))) pa_nil))))),
    body_ok0 (f := fs_is_name) (sim_seq (sim_ifS (sim_or (sim_not (sim_B (sim_cb sc_isiT (.cons (.s 0) (.cons (.e (sim_c fun _ => .ty)) .nil))))) (sim_or (sim_not (sim_test (sim_chain s2_le s2_le (.e sim_int) (.e (sim_cb sc_lenS (.cons (.s 0) .nil))) (.e sim_int)))) (sim_test (sim_op2 s2_notInSign (.e (sim_op2 s2_ixS (.s 0) (.e sim_int))) (.e sim_str))))) (sim_ret sim_bl) sim_next)
  (sim_ret (sim_cb sc_all (.cons (.e ((sim_lc (simi_str (sim_var 0)) (simg_name (vs := [1]) 1 (by decide)) sim_yes (sim_orV (sim_op2 s2_inSign (.s 1) (.e sim_str)) (sim_op2 s2_inSign (.s 1) (.e sim_str))))).e) .nil))))
    (by decide) (fun ds Q9 E9 h => ?_) h⟩
  obtain ⟨x, rfl, ⟨z, rfl, hz, k⟩ | ⟨t, ty, kt, k⟩⟩ := h
  · have hl : z.length = (tl z).length := by simp [Str.length]
    refine ⟨by omega, ifD (fun c1 => ?_) (fun c1 => ?_)⟩
    · refine ifDN (fun c2 => ?_) (fun c2 => ?_)
      · cases e : tl z with
        | nil =>
          rw [e] at hl
          simp at hl
          omega
        | cons c r =>
          have h0 : (tl z)[0]? = some c := by rw [e]; rfl
          have e1 : isName z = (isLet c && (tl z).all fun c => isLet c || isFig c) := by
            unfold isName isNm
            rw [← hl, decide_eq_true (show 1 ≤ z.length by omega), decide_eq_true (show z.length ≤ 8 by omega), e]
            rfl
          refine some9_of (atI_nat (j := 0) h0) ⟨by omega, ?_⟩
          show ifB (!decide (c ∈ _)) _ _
          rw [in_let]
          cases el : isLet c with
          | false =>
            rw [e1, el] at k
            exact k
          | true =>
            rw [e1, el] at k
            refine lcL_signs (fun c => isLet c || isFig c) hz (fun ch acc rest hr ha => ?_) ⟨_, rfl, ?_⟩
            · show ifB (decide (ch ∈ _)) _ _
              rw [in_let]
              cases el2 : isLet ch with
              | true =>
                rw [el2] at hr
                exact ⟨ha, hr⟩
              | false =>
                rw [el2] at hr
                refine ⟨ha, ?_⟩
                rw [if_neg (by decide), in_fig]
                exact hr
            · rw [List.all_map]
              exact k
      · have e1 : isName z = false := by
          unfold isName isNm
          rw [← hl, decide_eq_false (show ¬ z.length ≤ 8 by omega), Bool.false_and, Bool.and_false]
        rw [e1] at k
        exact k
    · have e1 : isName z = false := by
        unfold isName isNm
        rw [← hl, decide_eq_false (show ¬ 1 ≤ z.length by omega), Bool.false_and]
      rw [e1] at k
      exact k
  · cases x <;> cases ty <;> first | exact k | exact absurd kt (by decide +kernel)
theorem cal_word_count (Y : Yes K mg) : C8.Cal P w K mg base 2 "word_count" (fs_word_count.to K) [] := by
  obtain ⟨fd, F⟩ := Y.f_word_count
  refine calD F Y.g_word_count sc_word_count (fun _ _ _ _ _ _ us hl => match us, hl with | [_], _ => rfl) (FS.len rfl) (fun cdv A outer s H vs Q E hr h => ?_)
  have hu := hu_of hr
  refine ⟨_, (pss_cons (ps_asg (pe_split (pv 0) pe_str) (pg_star2 rfl (pgs_cons (pg_name (i := 1) sc_word_count.nd rfl (.inl rfl)) (pgs_consS (pg_name (i := 2) sc_word_count.nd rfl (.inl rfl)) pgs_nil))))
  (pss_cons (ps_if (PW.pt (pw_or (pt_not (pt_val (C8.pe_c (cal_is_name Y) hr (by decide) rfl (pa_cons (pv 1) pa_nil)))) (pw_or1 (pt_cmpR op_gt (pe_callB (call_lenK K) (by rfl) Y.n_len (by decide +kernel) (pa_cons (pv 2) pa_nil)) pe_int (nomark _))))) (pss_one (ps_ret pe_non)) pss_nil)
  (pss_cons (ps_set (i := 3) sc_word_count.nd rfl (.inl rfl) pe_int)
  (pss_cons (ps_for PassesOwn.never rfl (pi_listK K (pv 2)) (pg_name (i := 4) sc_word_count.nd rfl (.inl rfl))
  (pss_cons (ps_if (PW.pt (pw_or (pt_not (pt_chain op_le op_le pe_int (pe_callB call_len_str (by rfl) Y.n_len (by decide +kernel) (pa_cons (pv 4) pa_nil)) pe_int)) (pw_or (pt_cmpR op_eq (pe_ix (ix_str) (pv 4) pe_int (fun _ _ => rfl)) pe_str (nomark _)) (pw_or1 (pt_not (pt_val (pe_callB (cr_allK K rfl) (by rfl) Y.n_all (by decide +kernel) (pa_cons (pe_lc (own := [("sign", 5)]) (g := gName 5) (tt := tYes) rfl sc_word_count.nd (pi_str (pv 4)) (blkOk_by (N := ["word", "name", "more", "count", "figures", "sign"]) (own := [("sign", 5)]) (sc := (defScope s_word_count)) (by decide +kernel)) (fun _ _ _ _ _ => (pg_name (i := 5) sc_word_count.nd rfl (.inl rfl))) (fun _ _ _ _ _ => pts_nil) (fun _ _ _ _ _ => (pe_cmpR op_in_sign (pv 5) (C8.pe_gc rfl Y.c_FIGURES) rfl))) pa_nil)))))))) (pss_one (ps_ret pe_non)) pss_nil)
  (pss_one (ps_set (i := 3) sc_word_count.nd rfl (.inl rfl) (pe_callTy call_int_str (by rfl) Y.n_int (by decide +kernel) (pa_cons (pv 4) pa_nil))))))
  (pss_one (ps_ret (pe_tup (pa_cons (pv 1) (pa_cons (pv 3) pa_nil))))))))),
    body_ok0 (f := fs_word_count) (sim_seq (sim_asg ((sim_split (sim_var 0) sim_str)).e (simg_star2 (simg_cons (simg_name (vs := [1, 2]) 1 (by decide)) (simg_cons (simg_name (vs := [1, 2]) 2 (by decide)) simg_nil))))
  (sim_seq (sim_ifS (sim_or (sim_not (sim_B (sim_call (.cons (.e (sim_var 1)) .nil) rfl (fun _ => .nil) (by decide) hE0 rfl))) (sim_test (sim_op2 s2_gt (.e (sim_cb sc_len (.cons (.s 2) .nil))) (.e sim_int)))) (sim_ret sim_non) sim_next)
  (sim_seq (sim_set sim_int)
  (sim_seq (sim_for (simi_list (sim_var 2)) (simg_name (vs := [4]) 4 (by decide))
  (sim_seq (sim_ifS (sim_or (sim_not (sim_test (sim_chain s2_le s2_le (.e sim_int) (.e (sim_cb sc_lenS (.cons (.s 4) .nil))) (.e sim_int)))) (sim_or (sim_test (sim_op2 s2_eq (.e (sim_op2 s2_ixS (.s 4) (.e sim_int))) (.e sim_str))) (sim_not (sim_B (sim_cb sc_all (.cons (.e ((sim_lc (simi_str (sim_var 4)) (simg_name (vs := [5]) 5 (by decide)) sim_yes (sim_op2 s2_inSign (.s 5) (.e sim_str)))).e) .nil)))))) (sim_ret sim_non) sim_next)
  (sim_set (sim_cb sc_intS (.cons (.s 4) .nil)))))
  (sim_ret (sim_tup (sim_cons (sim_var 1) (sim_cons (sim_var 3) sim_nil))))))))
    (by decide) (fun ds Q9 E9 h => ?_) h⟩
  obtain ⟨x, rfl, hz, kn, kS⟩ := h
  obtain ⟨s1, s2, s3⟩ := split_one tl_star star256 x
  refine ⟨⟨by decide +kernel, by omega⟩, ?_⟩
  have e0 : parseW x = parseP (Txt.split x (Str.ofString "*")) := rfl
  rw [e0] at kn kS
  cases e : Txt.split x (Str.ofString "*") with
  | nil => exact absurd e s1
  | cons n rest =>
    rw [e] at s2 s3 kn kS
    have s2 : rest.length + 1 ≤ x.length + 1 := s2
    have hn := s3 n List.mem_cons_self
    refine ⟨by rw [List.length_map]; omega, .str n, rfl, .inl ⟨n, rfl, by omega, ?_⟩⟩
    cases en : isName n with
    | false =>
      refine kn ?_
      unfold parseP
      split
      · rw [if_neg]
        rename_i q
        injection q with q1 q2
        rw [← q1, en]
        decide
      · rw [if_neg]
        rename_i q
        injection q with q1 q2
        rw [← q1, en, Bool.false_and]
        decide
      · rfl
    | true =>
      match rest, kn, kS with
      | a :: b :: r, kn, kS =>
        refine ifD_t (by simp only [List.length_cons, List.length_map]; omega) ?_
        exact kn rfl
      | [], kn, kS =>
        refine ⟨by simp, kS n 1 ?_⟩
        show (if isName n = true then some (n, (1 : Int)) else none) = _
        rw [en, if_pos rfl]
      | [f], kn, kS =>
        have hf : f.length ≤ x.length := s3 f (by simp)
        have hfl : f.length = (tl f).length := by simp [Str.length]
        have bad : figsOk f = false → Q9 .non [] := fun q => by
          refine kn ?_
          show (if (isName n && figsOk f) = true then some (n, figV f) else none) = none
          rw [q, Bool.and_false, if_neg (by decide)]
        have eok : figsOk f = (decide (1 ≤ f.length) && (decide (f.length ≤ 3) && (!decide ((tl f).head? = some 48) && (tl f).all isFig))) := rfl
        refine ⟨by omega, ifD (fun c1 => ?_) (fun c1 => ?_)⟩
        · refine ifDN (fun c2 => ?_) (fun c2 => ?_)
          · cases e : tl f with
            | nil =>
              rw [e] at hfl
              simp at hfl
              omega
            | cons c r =>
              have h0 : (tl f)[0]? = some c := by rw [e]; rfl
              have ehd : decide ((tl f).head? = some 48) = decide (c = 48) := by rw [e]; simp
              rw [decide_eq_true (show 1 ≤ f.length by omega), decide_eq_true (show f.length ≤ 3 by omega), ehd, Bool.true_and, Bool.true_and] at eok
              refine some9_of (atI_nat (j := 0) h0) ⟨by omega, ?_⟩
              show ifB (decide ((⟨#[c]⟩ : Str) = Str.ofString "0")) _ _
              have e48 : decide ((⟨#[c]⟩ : Str) = Str.ofString "0") = decide (c = 48) := by
                have := one_zero c
                rw [← this]
                exact decide_eq_decide.mpr ⟨fun z => by rw [z], fun z => by injection z⟩
              rw [e48]
              refine ifD (fun c3 => ?_) (fun c3 => ?_)
              · exact bad (by rw [eok, decide_eq_true c3]; rfl)
              · rw [decide_eq_false c3] at eok
                refine lcL_signs isFig (by omega) (fun ch acc rest hr ha => ⟨ha, ?_⟩) ⟨_, rfl, ?_⟩
                · rw [if_neg (by decide), in_fig]
                  exact hr
                · rw [List.all_map]
                  have eok2 : figsOk f = f.cps.toList.all isFig := eok
                  have eo3 : f.cps.toList.all (id ∘ isFig) = figsOk f := eok2.symm
                  rw [eo3]
                  cases q : figsOk f with
                  | false => exact bad q
                  | true =>
                    refine some9_of (figsOk_int q) ⟨by omega, by simp, kS n _ ?_⟩
                    show (if (isName n && figsOk f) = true then some (n, figV f) else none) = _
                    rw [en, q]
                    rfl
          · exact bad (by rw [eok, decide_eq_false (show ¬ f.length ≤ 3 by omega), Bool.false_and, Bool.and_false])
        · exact bad (by rw [eok, decide_eq_false (show ¬ 1 ≤ f.length by omega), Bool.false_and])
theorem cal_counts_of (Y : Yes K mg) : C8.Cal P w K mg base 3 "counts_of" (fs_counts_of.to K) [] := by
  obtain ⟨fd, F⟩ := Y.f_counts_of
  refine calD F Y.g_counts_of sc_counts_of (fun _ _ _ _ _ _ us hl => match us, hl with | [_], _ => rfl) (FS.len rfl) (fun cdv A outer s H vs Q E hr h => ?_)
  have hu := hu_of hr
  refine ⟨_, (pss_cons (ps_set (i := 1) sc_counts_of.nd rfl (.inl rfl) pe_dnewK)
  (pss_cons (ps_set (i := 2) sc_counts_of.nd rfl (.inl rfl) pe_int)
  (pss_cons (ps_for PassesOwn.never rfl (pi_enum (by rfl) Y.n_enumerate (pa_cons (pv 0) pa_nil)) (pg_tup rfl (pgs_cons (pg_name (i := 3) sc_counts_of.nd rfl (.inl rfl)) (pgs_cons (pg_name (i := 4) sc_counts_of.nd rfl (.inl rfl)) pgs_nil)))
  (pss_cons (ps_set (i := 5) sc_counts_of.nd rfl (.inl rfl) (C8.pe_c (cal_word_count Y) hr (by decide) rfl (pa_cons (pv 4) pa_nil)))
  (pss_cons (ps_if (pt_cmpR op_isN (pv 5) pe_non (nomark _)) (pss_one ps_never) pss_nil)
  (pss_cons (ps_asg (pv 5) (pg_tup rfl (pgs_cons (pg_name (i := 6) sc_counts_of.nd rfl (.inl rfl)) (pgs_cons (pg_name (i := 7) sc_counts_of.nd rfl (.inl rfl)) pgs_nil))))
  (pss_cons (ps_aug (i := 2) sc_counts_of.nd rfl (.inl rfl) (pv 7) ip_add)
  (pss_cons (ps_if (pt_cmpR op_gt (pv 2) (C8.pe_gc rfl Y.c_MOST_READ) (nomark _)) (pss_one ps_never) pss_nil)
  (pss_one (ps_dput hu (pv 1) (pv 6) (pe_op op_add (pe_dget2 hu (pv 1) (pv 6) pe_int ⟨rfl, rfl, rfl, rfl⟩) (pv 7)) rfl))))))))
  (pss_one (ps_ret (pv 1)))))),
    body_ok0 (f := fs_counts_of) (sim_seq (sim_setO sim_dnew)
  (sim_seq (sim_set sim_int)
  (sim_seq (sim_for (simi_enum (sim_var 0)) (simg_tup (simg_cons (simg_name (vs := [3, 4]) 3 (by decide)) (simg_cons (simg_name (vs := [3, 4]) 4 (by decide)) simg_nil)))
  (sim_seq (sim_set (sim_call (.cons (.e (sim_var 4)) .nil) rfl (fun _ => .nil) (by decide) hE0 rfl))
  (sim_seq (sim_ifS (sim_test (sim_op2 s2_isN (.s 5) (.e sim_non))) sim_never sim_next)
  (sim_seq (sim_asg (sim_var 5) (simg_tup (simg_cons (simg_name (vs := [6, 7]) 6 (by decide)) (simg_cons (simg_name (vs := [6, 7]) 7 (by decide)) simg_nil))))
  (sim_seq (sim_aug (sim_var 7) si_I)
  (sim_seq (sim_ifS (sim_test (sim_op2 s2_gt (.s 2) (.e sim_int))) sim_never sim_next)
  (sim_dput (.s 6) (sim_op2 s2_add (.e (sim_dget2 (.s 1) (.s 6) sim_int)) (.s 7)))))))))
  (sim_retO 1))))
    (by decide) (fun ds Q9 E9 h => ?_) h⟩
  obtain ⟨ws, cs, rfl, hl, hw, hok, k⟩ := h
  refine forL_ind (fun ys env => ∃ i zs acc tot y3 y4 y5 y6 y7 d, ys = enum9 i (zs.map D.str) ∧ env = [.im (.lst (ws.map D.str)), .ow false d, .im (.int tot), y3, y4, y5, y6, y7] ∧ d = dcs acc ∧ (∀ z ∈ zs, z ∈ ws) ∧ acc.length + zs.length ≤ 10000 ∧ countsL i zs acc tot = .ok cs)
    ⟨0, ws, [], 0, _, _, _, _, _, _, rfl, rfl, rfl, fun _ h => h, by simpa using hl, hok⟩ (fun x ys env h ih => ?_) (fun env h => ?_)
  · obtain ⟨i, zs, acc, tot, y3, y4, y5, y6, y7, d, e, rfl, rfl, hm, hl2, hc⟩ := h
    cases zs with
    | nil => cases e
    | cons z zs =>
      cases e
      obtain ⟨n, c, ep, hle, hc⟩ := countsL_ok hc
      refine ⟨rfl, z, rfl, hw _ (hm _ List.mem_cons_self), fun e => (by rw [ep] at e; cases e), fun n2 c2 e => ?_⟩
      rw [ep] at e
      cases e
      refine ⟨rfl, ifD_f hle ?_⟩
      conv => whnf
      rw [valD_cs, getD_int]
      refine ⟨by rw [List.length_map]; have := hl2; simp at this; omega, ih _ ⟨i + 1, zs, addC acc n c, tot + c, _, _, _, _, _, _, rfl, rfl, ?_, fun y hy => hm y (List.mem_cons_of_mem _ hy), ?_, hc⟩⟩
      · show D.dic (putD _ _ (.int _)) = _
        rw [putD_cs]
        rfl
      · have := length_put acc n ((look acc n).getD 0 + c)
        simp at hl2
        unfold addC
        omega
  · obtain ⟨i, zs, acc, tot, y3, y4, y5, y6, y7, d, e, rfl, rfl, hm, hl2, hc⟩ := h
    cases zs with
    | cons z zs => cases e
    | nil =>
      unfold countsL at hc
      cases Except.ok.inj hc
      exact k
theorem fn_Bag_init (Y : Yes K mg) {fd : FuncData} (F : FunD K "__init__" "Bag.__init__" (defArgs s_Bag___init__) (defBody s_Bag___init__) (defScope s_Bag___init__) [V.str ""] [] (He.ma K (He.ga K "Bag") "__init__") fd) :
    FnOk P w K mg base C8.CX0 4 (He.ma K (He.ga K "Bag") "__init__") fd ["self", "text"] (fs_Bag_init.to K) := by
  refine fnD0 F sc_Bag___init__ (FS.len rfl) (fun cdv A outer s H vs Q E hr h => ?_)
  have hu := hu_of hr
  refine ⟨_, (pss_one (ps_fldK K (pv 0) (C8.pe_c (cal_counts_of Y) hr (by decide) rfl (pa_cons (pe_ifExp (pt_cmpR op_ne (pv 1) pe_str (nomark _)) (pe_split (pv 1) pe_str) (pe_lst pa_nil)) pa_nil)) rfl)),
    body_ok0 (f := fs_Bag_init) (sim_fldset (c := "Bag") Y.cl_Bag Y.na_Bag_own ((sim_callF (.cons (.e ((sim_ifF (sim_test (sim_op2 s2_ne (.s 1) (.e sim_str))) (sim_split (sim_var 1) sim_str) (sim_lst sim_nil))).e) .nil) rfl (fun _ => .nil) (by decide) hE0 rfl)).e)
    (by decide) (fun ds Q9 E9 h => ?_) h⟩
  obtain ⟨z, cs, rfl, hz, hok, k⟩ := h
  by_cases e : z = Str.ofString ""
  · have ew : bagOf z = countsL 0 [] [] 0 := by
      unfold bagOf wordsOf
      rw [if_pos e]
    refine ifDN_t e ?_
    refine ⟨by simp, [], cs, rfl, by simp, (fun x hx => nomatch hx), by rw [← ew]; exact hok, ⟨rfl, by simp⟩, rfl, k⟩
  · have ew : bagOf z = countsL 0 (Txt.split z (Str.ofString " ")) [] 0 := by
      unfold bagOf wordsOf
      rw [if_neg e]
    obtain ⟨s1, s2, s3⟩ := split_one tl_blank blank256 z
    refine ifDN_f e ?_
    refine ⟨⟨by decide +kernel, by omega⟩, _, cs, rfl, by omega, fun x hx => Nat.le_trans (s3 x hx) (by omega), by rw [← ew]; exact hok, ⟨rfl, by simp⟩, rfl, k⟩
theorem mk1_Bag (Y : Yes K mg) : C8.Mak P w K mg base 4 "Bag" (He.ga K "Bag") (fs_Bag_init.to K) [] := by
  obtain ⟨fd, F⟩ := Y.f_Bag___init__
  obtain ⟨ds, hd, hb⟩ := F.binds1 (ps := ["self", "text"]) 2 1 (by simp) rfl (fun T kV doc pm an cdv ct us its h1 h2 => match us, its, h1, h2 with | [_, _], [_], _, _ => ⟨_, rfl, rfl⟩)
  exact ⟨_, fd, ["self", "text"], ds, Y.mkr_Bag, fn_Bag_init Y F, Y.g_Bag, hb, hd⟩
theorem mk0_Bag (Y : Yes K mg) : C8.Mak P w K mg base 4 "Bag" (He.ga K "Bag") (fs_Bag_init.to K) [V.str ""] := by
  obtain ⟨fd, F⟩ := Y.f_Bag___init__
  obtain ⟨ds, hd, hb⟩ := F.binds1 (ps := ["self", "text"]) 1 0 (by simp) rfl (fun T kV doc pm an cdv ct us its h1 h2 => match us, its, h1, h2 with | [_], [_], _, _ => ⟨_, rfl, rfl⟩)
  exact ⟨_, fd, ["self", "text"], ds, Y.mkr_Bag, fn_Bag_init Y F, Y.g_Bag, hb, hd⟩
theorem met_Bag_str (Y : Yes K mg) : C8.Met P w K mg base 1 (He.ga K "Bag") "__str__" (fs_Bag_str.to K) [] := by
  obtain ⟨fd, F⟩ := Y.f_Bag___str__
  refine metD Y.cl_Bag Y.mm_Bag___str__ F sc_Bag___str__ (fun _ _ _ _ _ _ us hl => match us, hl with | [_], _ => rfl) (FS.len rfl) (fun cdv A outer s H vs Q E hr h => ?_)
  have hu := hu_of hr
  refine ⟨_, (pss_one (ps_ret (pe_joinK K pe_str (pe_lc (own := [("name", 1)]) (g := gName 1) (tt := tYes) rfl sc_Bag___str__.nd (pi_listK K (pe_callB (call_sortedD rfl) (by rfl) Y.n_sorted (by decide +kernel) (pa_cons (pe_fldK K (pv 0) rfl) pa_nil))) (blkOk_by (N := ["self", "name"]) (own := [("name", 1)]) (sc := (defScope s_Bag___str__)) (by decide +kernel)) (fun _ _ _ _ _ => (pg_name (i := 1) sc_Bag___str__.nd rfl (.inl rfl))) (fun _ _ _ _ _ => pts_nil) (fun _ _ _ _ _ => (pe_ifExp (pt_cmpR op_eq (pe_dget hu (pe_fldK K (pv 0) rfl) (pv 1) (fun _ _ => rfl)) pe_int (nomark _)) (pv 1) (pe_joined (.cons (pe_fmt (pv 1)) (.cons pe_str (.cons (pe_fmt (pe_dget hu (pe_fldK K (pv 0) rfl) (pv 1) (fun _ _ => rfl))) .nil)))))))))),
    body_ok0 (f := fs_Bag_str) (sim_ret (sim_join sim_str (.e ((sim_lc (simi_list ((sim_cbN sc_sortedD (.cons (.e (sim_fld (c := "Bag") Y.cl_Bag Y.na_Bag_own (.s 0))) .nil))).e) (simg_name (vs := [1]) 1 (by decide)) sim_yes (sim_if (sim_test (sim_op2 s2_eq (.e (sim_dget (.e (sim_fld (c := "Bag") Y.cl_Bag Y.na_Bag_own (.s 0))) (.s 1))) (.e sim_int))) (sim_var 1) (sim_js (.cons (sim_fmt (sim_var 1)) (.cons sim_str (.cons (sim_fmt (sim_dget (.e (sim_fld (c := "Bag") Y.cl_Bag Y.na_Bag_own (.s 0))) (.s 1))) .nil))))))).e)))
    (by decide) (fun ds Q9 E9 h => ?_) h⟩
  obtain ⟨cs, rfl, good, k⟩ := h
  have few := good.few
  refine ⟨rfl, keysOf cs, by unfold keysOf; rw [List.map_map, List.map_map]; rfl, by unfold keysOf; rw [List.length_map]; exact few, fun ys hp hs => ?_⟩
  have ey := srt_of hp hs
  subst ey
  have sl : (srt (keysOf cs)).length < 64 := by rw [length_srt]; unfold keysOf; rw [List.length_map]; exact few
  refine lcL_fun (f := D.str) (l := srt (keysOf cs)) (fun n => .str (wordOf n ((look cs n).getD 0))) (by omega) (fun n hn acc rest hr ha => ?_) ⟨(srt (keysOf cs)).map fun n => wordOf n ((look cs n).getD 0), by rw [List.map_map]; rfl, ?_, k⟩
  · obtain ⟨⟨n', c⟩, hq1, e⟩ := List.mem_map.mp (mem_srt.mp hn)
    cases e
    have lk := look_of good.nd hq1
    have nl := isName_len (good.nm _ hq1)
    have cl := good.le _ hq1
    have c1 := good.pos _ hq1
    have ev : valD (cs.map fun p => (Sum.inr p.1, D.int p.2)) (Sum.inr n') = some (.int c) := by rw [valD_cs, lk]; rfl
    rw [lk] at hr
    refine ⟨rfl, some9_of ev (ifD (fun e1 => ?_) (fun e1 => ?_))⟩
    · refine ⟨ha, ?_⟩
      have : wordOf n' ((some c).getD 0) = n' := by
        show wordOf n' c = n'
        unfold wordOf
        rw [if_pos e1]
      rw [this] at hr
      exact hr
    · have ew : wordOf n' ((some c).getD 0) = n' ++ Str.ofString "*" ++ numT c := by
        show wordOf n' c = _
        unfold wordOf
        rw [if_neg e1]
      rw [ew] at hr
      have ln := numT_len (c := c) (by have : (n', c).2 = c := rfl; omega) (by have : (n', c).2 = c := rfl; omega)
      have ls : (Str.ofString "*").length = 1 := by decide +kernel
      refine ⟨by omega, by rw [empty_app]; omega, by rw [empty_app, append_len]; omega, rfl, some9_of ev ⟨log_small (by have : (n', c).2 = c := rfl; omega) (by have : (n', c).2 = c := rfl; omega), ?_, ha, ?_⟩⟩
      · rw [empty_app, append_len, append_len]
        show _ + (numT c).length ≤ _
        omega
      · rw [empty_app]
        exact hr
  · refine Nat.le_trans (words_size (by decide +kernel) (by rw [List.length_map]; omega) fun x hx => ?_) (by omega)
    obtain ⟨n, hn, rfl⟩ := List.mem_map.mp hx
    obtain ⟨⟨n', c⟩, hq1, e⟩ := List.mem_map.mp (mem_srt.mp hn)
    cases e
    rw [look_of good.nd hq1]
    have cl := good.le _ hq1
    have c1 := good.pos _ hq1
    exact wordOf_len (isName_len (good.nm _ hq1)).2 (by show 0 ≤ c; have : (n', c).2 = c := rfl; omega) (by show c < 1000000; have : (n', c).2 = c := rfl; omega)
theorem sumC_take (done : List (Str × Int)) (p : Str × Int) : sumC (done ++ [p]) = sumC done + p.2 := by
  rw [sumC_app]
  simp [sumC]
theorem sumC_nn {cs : List (Str × Int)} (pos : ∀ p ∈ cs, 1 ≤ p.2) : 0 ≤ sumC cs := by
  induction cs with
  | nil => exact Int.le_refl 0
  | cons a r ih =>
    have h1 := pos a List.mem_cons_self
    have h2 := ih fun p hp => pos p (List.mem_cons_of_mem _ hp)
    show 0 ≤ a.2 + sumC r
    omega
theorem met_Bag_len (Y : Yes K mg) : C8.Met P w K mg base 1 (He.ga K "Bag") "__len__" (fs_Bag_len.to K) [] := by
  obtain ⟨fd, F⟩ := Y.f_Bag___len__
  refine metD Y.cl_Bag Y.mm_Bag___len__ F sc_Bag___len__ (fun _ _ _ _ _ _ us hl => match us, hl with | [_], _ => rfl) (FS.len rfl) (fun cdv A outer s H vs Q E hr h => ?_)
  have hu := hu_of hr
  refine ⟨_, (pss_one (ps_ret (pe_callB (call_lenK K) (by rfl) Y.n_len (by decide +kernel) (pa_cons (pe_lockA (pe_lc2 (own := [("name", 1), ("k", 2)]) (vs1 := [2]) rfl sc_Bag___len__.nd (pi_keys (pe_fldK K (pv 0) rfl)) (blkOk_by (N := ["self", "name", "k"]) (own := [("name", 1), ("k", 2)]) (sc := (defScope s_Bag___len__)) (by decide +kernel)) (by decide) (fun _ _ _ _ _ => (pg_name (i := 1) sc_Bag___len__.nd rfl (.inl rfl))) (fun _ _ _ _ _ => pts_nil) (fun _ _ _ _ _ => (pi_range1 rfl Y.n_range (pa_cons (pe_dget hu (pe_fldK K (pv 0) rfl) (pv 1) (fun _ _ => rfl)) pa_nil))) (fun _ _ _ _ _ => (pg_name (i := 2) sc_Bag___len__.nd rfl (.inl rfl))) (fun _ _ _ _ _ => pts_nil) (fun _ _ _ _ _ => (pv 1)))) pa_nil)))),
    body_ok0 (f := fs_Bag_len) (sim_ret (sim_cb sc_len (.cons (.e ((sim_lcD2 (by decide) (simd_keys (simp_f (c := "Bag") (i := 0) Y.cl_Bag Y.na_Bag_own)) (simg_name (vs := [1, 2]) 1 (by decide)) sim_yes (simi_rng1 (.cons (.e (sim_dget (.e (sim_fld (c := "Bag") Y.cl_Bag Y.na_Bag_own (.s 0))) (.s 1))) .nil)) (simg_name (vs := [2]) 2 (by decide)) sim_yes (sim_var 1))).e) .nil)))
    (by decide) (fun ds Q9 E9 h => ?_) h⟩
  obtain ⟨cs, rfl, good, k⟩ := h
  have em : Dw.keys.of (cs.map fun p => (Sum.inr p.1, D.int p.2)) = cs.map fun p => D.str p.1 := by
    show List.map _ (List.map _ _) = _
    rw [List.map_map]
    rfl
  conv => whnf
  rw [em]
  refine lc2O_map (fun ys acc e => e = [.im (bagD cs), .un, .un] ∧ ∃ done, cs = done ++ ys ∧ (acc.length : Int) = sumC done) ⟨rfl, [], rfl, rfl⟩ (fun p ys acc e hp h rest hr => ?_) (fun acc e h => ?_)
  · obtain ⟨rfl, done, e1, e2⟩ := h
    have p1 := good.pos _ hp
    have p2 := good.le _ hp
    have ev : valD (cs.map fun p => (Sum.inr p.1, D.int p.2)) (Sum.inr p.1) = some (.int p.2) := by rw [valD_cs, look_of good.nd (show (p.1, p.2) ∈ cs from hp)]; rfl
    have sm : sumC cs = sumC done + p.2 + sumC ys := by rw [e1, sumC_app, sumC_cons]; omega
    have nn : 0 ≤ sumC ys := sumC_nn fun q hq => good.pos q (by rw [e1]; exact List.mem_append_right _ (List.mem_cons_of_mem _ hq))
    have gs := good.sum
    refine ⟨rfl, some9_of ev ⟨by omega, ?_⟩⟩
    refine lc2I_rng (fun i acc2 e => e = [.im (bagD cs), .im (.str p.1), .un] ∧ (acc2.length : Int) = sumC done + i) ⟨rfl, by simpa using e2⟩ (fun i acc2 e hi h rest2 hr2 => ?_) (fun acc2 e h => ?_)
    · obtain ⟨rfl, e3⟩ := h
      exact ⟨by omega, hr2 _ _ ⟨rfl, by rw [List.length_append]; simp; omega⟩⟩
    · obtain ⟨rfl, e3⟩ := h
      exact hr _ _ ⟨rfl, done ++ [p], by rw [e1]; simp, by rw [sumC_take]; omega⟩
  · obtain ⟨rfl, done, e1, e2⟩ := h
    rw [List.append_nil] at e1
    subst e1
    conv => whnf
    rw [e2]
    exact k
end
end Sk

set_option maxHeartbeats 4000000
/-! The law's names, counts, words; in value form. -/
namespace Sk
open PySem PySem.Spec PyProof.Rows L2 Dv
def firstWords : List Str := ["out", "to", "if", "open", "rank", "a", "divide", "enter", "unless", "z9"].map Str.ofString
theorem first_word {v : Int} (h0 : 0 ≤ v) (h1 : v < 10) : ∃ z, atI (firstWords.map D.str) v = some (.str z) ∧ isName z = true := by
  obtain ⟨k, rfl⟩ := Int.eq_ofNat_of_zero_le h0
  have hk : k < firstWords.length := by have : firstWords.length = 10 := rfl; omega
  refine ⟨firstWords[k], atI_nat (by rw [List.getElem?_map, List.getElem?_eq_getElem hk]; rfl), ?_⟩
  have all : firstWords.all isName = true := by decide +kernel
  exact List.all_eq_true.mp all _ (List.getElem_mem hk)
theorem at_mem {xs : List D} {v : Int} (h0 : 0 ≤ v) (h1 : v < xs.length) : ∃ x, atI xs v = some x ∧ x ∈ xs := by
  obtain ⟨k, rfl⟩ := Int.eq_ofNat_of_zero_le h0
  have hk : k < xs.length := by omega
  exact ⟨xs[k], atI_nat (List.getElem?_eq_getElem hk), List.getElem_mem hk⟩
theorem vFlats_strs : ∀ ns : List Str, vFlats (ns.map D.str) = some (ns.map V.str)
  | [] => rfl
  | z :: ns => by
    show (match vFlat (D.str z), vFlats (ns.map D.str) with
      | some v, some vs => some (v :: vs)
      | _, _ => none) = _
    rw [vFlats_strs ns]
    rfl
/-- counts of some of the names ns, at most m things -/
structure GoodD (ns : List Str) (m : Int) (cs : List (Str × Int)) : Prop where
  sub : ∀ p ∈ cs, p.1 ∈ ns
  nd : (keysOf cs).Nodup
  pos : ∀ p ∈ cs, 1 ≤ p.2
  sum : sumC cs ≤ m
  few : cs.length ≤ 26
theorem GoodD.nil {ns : List Str} {m : Int} (h : 0 ≤ m) : GoodD ns m [] := ⟨fun _ h => (nomatch h), by simp [keysOf], fun _ h => (nomatch h), h, by simp⟩
theorem GoodD.good {ns : List Str} {m : Int} {cs : List (Str × Int)} (g : GoodD ns m cs) (n : GoodN ns) (hm : m ≤ 400) : GoodC cs :=
  ⟨Nat.lt_of_le_of_lt g.few (by omega), g.nd, fun p hp => n.nm _ (g.sub p hp), g.pos, Int.le_trans g.sum (by omega)⟩
theorem mul_zero (z : Str) : Txt.mul z 0 = Str.ofString "" := by
  unfold Txt.mul
  rw [if_pos (by omega)]
  rfl
theorem mul_one (z : Str) : Txt.mul z 1 = z := by
  unfold Txt.mul
  rw [if_neg (by omega), if_pos (by simp)]
def fs__law_names : FS := ⟨[true, false], true, fun ds Q _ => ∃ st m n, ds = [st, .int ((m : Nat) : Int)] ∧ dr n st ∧ n ≤ 900000000 ∧ 1 ≤ m ∧ m ≤ 26 ∧ ∀ ns st', GoodN ns → 1 ≤ ns.length → ns.length ≤ m → dr (n + 20) st' → Q (.lst (ns.map D.str)) [st']⟩
def fs__law_counts : FS := ⟨[true, false, false], true, fun ds Q _ => ∃ st ns most n, ds = [st, .lst (ns.map D.str), .int most] ∧ dr n st ∧ n ≤ 800000000 ∧ 1 ≤ ns.length ∧ ns.length ≤ 26 ∧ 1 ≤ most ∧ most ≤ 400 ∧ ∀ cs st', GoodD ns most cs → dr (n + 100) st' → Q (dcs cs) [st']⟩
def fs__law_bag_text : FS := ⟨[false], false, fun ds Q _ => ∃ cs, ds = [dcs cs] ∧ GoodC cs ∧ Q (.str (textOf cs)) []⟩
def fs__law_words : FS := ⟨[true, false], true, fun ds Q _ => ∃ st cs n, ds = [st, dcs cs] ∧ dr n st ∧ n ≤ 700000000 ∧ GoodC cs ∧ cs.length ≤ 26 ∧ sumC cs ≤ 500 ∧ ∀ ws ps st', WordsFor cs ws ps → dr (n + 200) st' → Q (.lst (ws.map D.str)) [st']⟩
section
variable {P : Program} {w : World} {K : PySem.W.Frag} {mg : Str → Option Value} {base : Heap}
theorem cal__law_names (Y : Yes K mg) : C8.Cal P w K mg base 2 "_law_names" (fs__law_names.to K) [] := by
  obtain ⟨fd, F⟩ := Y.f__law_names
  refine calD F Y.g__law_names sc__law_names (fun _ _ _ _ _ _ us hl => match us, hl with | [_, _], _ => rfl) (FS.len rfl) (fun cdv A outer s H vs Q E hr h => ?_)
  have hu := hu_of hr
  refine ⟨_, (pss_cons (ps_set (i := 2) sc__law_names.nd rfl (.inr rfl) pe_str)
  (pss_cons (ps_set (i := 3) sc__law_names.nd rfl (.inl rfl) (pe_lst (pa_cons (pe_ix (ix_listK K) (pe_lst (pa_cons pe_str (pa_cons pe_str (pa_cons pe_str (pa_cons pe_str (pa_cons pe_str (pa_cons pe_str (pa_cons pe_str (pa_cons pe_str (pa_cons pe_str (pa_cons pe_str pa_nil))))))))))) (C8.pe_c (cal__law_draw Y) hr (by decide) rfl (pa_cons (pv 0) (pa_cons pe_int pa_nil))) (fun _ _ => rfl)) pa_nil)))
  (pss_cons (ps_set (i := 5) sc__law_names.nd rfl (.inl rfl) (pe_joinK K pe_str (pe_lc (own := [("_law_k", 4)]) (g := gName 4) (tt := tYes) rfl sc__law_names.nd (pi_range1 rfl Y.n_range (pa_cons (C8.pe_c (cal__law_draw Y) hr (by decide) rfl (pa_cons (pv 0) (pa_cons pe_int pa_nil))) pa_nil)) (blkOk_by (N := ["_law_draws_here", "_law_many", "_law_letters", "_law_found", "_law_k", "_law_base", "_law_head", "_law_at", "_law_off", "_law_name"]) (own := [("_law_k", 4)]) (sc := (defScope s__law_names)) (by decide +kernel)) (fun _ _ _ _ _ => (pg_name (i := 4) sc__law_names.nd rfl (.inl rfl))) (fun _ _ _ _ _ => pts_nil) (fun _ _ _ _ _ => (pe_ix (ix_str) (pe_op op_add_str (pv 2) pe_str) (C8.pe_c (cal__law_draw Y) hr (by decide) rfl (pa_cons (pv 0) (pa_cons pe_int pa_nil))) (fun _ _ => rfl))))))
  (pss_cons (ps_par3 (i := 6) (j := 7) (l := 8) rfl sc__law_names.nd rfl rfl rfl (by decide) (by decide) (by decide) rfl rfl rfl (pa_cons (pe_ix (ix_str) (pv 2) (C8.pe_c (cal__law_draw Y) hr (by decide) rfl (pa_cons (pv 0) (pa_cons pe_int pa_nil))) (fun _ _ => rfl)) (pa_cons (C8.pe_c (cal__law_draw Y) hr (by decide) rfl (pa_cons (pv 0) (pa_cons (pe_op op_add (pe_callB call_len_str (by rfl) Y.n_len (by decide +kernel) (pa_cons (pv 5) pa_nil)) pe_int) pa_nil))) (pa_cons (C8.pe_c (cal__law_draw Y) hr (by decide) rfl (pa_cons (pv 0) (pa_cons pe_int pa_nil))) pa_nil))) (by rfl))
  (pss_cons (ps_for PassesOwn.never rfl (pi_range1 rfl Y.n_range (pa_cons (pv 1) pa_nil)) (pg_name (i := 4) sc__law_names.nd rfl (.inl rfl))
  (pss_cons (ps_set (i := 9) sc__law_names.nd rfl (.inl rfl) (pe_op op_add_str (pe_op op_add_str (pe_op op_add_str (pv 6) (pe_slice (sl_str) (pv 5) po_none (po_some (pv 7)))) (pe_ix (ix_str) (pv 2) (pe_op op_mod (pe_op op_add (pv 8) (pv 4)) pe_int) (fun _ _ => rfl))) (pe_slice (sl_str) (pv 5) (po_some (pv 7)) po_none)))
  (pss_one (ps_if (pt_cmpR (op_notInK K) (pv 9) (pv 3) rfl) (pss_one (ps_expr (pe_bmK K PySem.F.plainAttrs_list PySem.F.slot_list_append PySem.F.type_list_append mt_append (pv 3) (pa_cons (pv 9) pa_nil)))) pss_nil))))
  (pss_one (ps_ret (pe_slice (sl_listK K) (pv 3) po_none (po_some (pv 1)))))))))),
    body_ok0 (f := fs__law_names) (sim_seq (sim_set sim_str)
  (sim_seq (sim_setO (sim_lst (sim_cons (sim_op2 s2_ixL (.e ((sim_lst (sim_cons sim_str (sim_cons sim_str (sim_cons sim_str (sim_cons sim_str (sim_cons sim_str (sim_cons sim_str (sim_cons sim_str (sim_cons sim_str (sim_cons sim_str (sim_cons sim_str sim_nil)))))))))))).e) (.e (sim_call (.cons (.s 0) (.cons (.e sim_int) .nil)) rfl (fun _ => .nil) (by decide) hE0 rfl))) sim_nil)))
  (sim_seq (sim_set (sim_join sim_str (.e ((sim_lc (simi_rng1 (.cons (.e (sim_call (.cons (.s 0) (.cons (.e sim_int) .nil)) rfl (fun _ => .nil) (by decide) hE0 rfl)) .nil)) (simg_name (vs := [4]) 4 (by decide)) sim_yes (sim_op2 s2_ixS (.e (sim_op2 s2_catS (.s 2) (.e sim_str))) (.e (sim_call (.cons (.s 0) (.cons (.e sim_int) .nil)) rfl (fun _ => .nil) (by decide) hE0 rfl))))).e)))
  (sim_seq (sim_par3 (sim_cons (sim_op2 s2_ixS (.s 2) (.e (sim_call (.cons (.s 0) (.cons (.e sim_int) .nil)) rfl (fun _ => .nil) (by decide) hE0 rfl))) (sim_cons (sim_call (.cons (.s 0) (.cons (.e (sim_op2 s2_add (.e (sim_cb sc_lenS (.cons (.s 5) .nil))) (.e sim_int))) .nil)) rfl (fun _ => .nil) (by decide) hE0 rfl) (sim_cons (sim_call (.cons (.s 0) (.cons (.e sim_int) .nil)) rfl (fun _ => .nil) (by decide) hE0 rfl) sim_nil))))
  (sim_seq (sim_for (simi_rng1 (.cons (.s 1) .nil)) (simg_name (vs := [4]) 4 (by decide))
  (sim_seq (sim_set (sim_op2 s2_catS (.e (sim_op2 s2_catS (.e (sim_op2 s2_catS (.s 6) (.e (sim_slS (.s 5) sim_noPart (sim_part (sim_var 7)))))) (.e (sim_op2 s2_ixS (.s 2) (.e (sim_op2 s2_mod (.e (sim_op2 s2_add (.s 8) (.s 4))) (.e sim_int))))))) (.e (sim_slS (.s 5) (sim_part (sim_var 7)) sim_noPart))))
  (sim_ifS (sim_test (sim_op2 (s2_in (neg := true)) (.s 9) (.s 3))) (sim_drop (sim_mut sm_append (sim_cons (sim_var 9) sim_nil))) sim_next)))
  (sim_retF (sim_slL (.s 3) sim_noPart (sim_part (sim_var 1)))))))))
    (by decide) (fun ds Q9 E9 h => ?_) h⟩
  obtain ⟨st, m, n, rfl, hdr, hn, hm0, hm1, k⟩ := h
  refine ⟨by simp, st, 10, n, rfl, hdr, by omega, by omega, by omega, fun v st1 v0 v1 dr1 => ?_⟩
  obtain ⟨z0, hz0, nz0⟩ := first_word v0 v1
  refine some9_of hz0 ⟨by simp, st1, 7, n + 1, rfl, dr1, by omega, by omega, by omega, fun v7 st2 h70 h71 dr2 => ⟨by omega, ?_⟩⟩
  refine lcL_rng (fun i acc e => ∃ (a : List Str) (st : D), acc = a.map D.str ∧ a.length = i ∧ (∀ p ∈ a, p.length ≤ 1 ∧ chk p = true) ∧ e = [.ow true st, .im (.int m), .im (.str letters), .ow false (.lst [.str z0]), .un, .un, .un, .un, .un, .un] ∧ dr (n + 2 + i) st)
    ⟨[], st2, rfl, rfl, (fun _ h => nomatch h), rfl, dr2⟩ (fun i acc e hi h rest hr => ?_) (fun acc e h => ?_)
  · obtain ⟨a, st, rfl, a2, a3, rfl, a4⟩ := h
    refine ⟨by decide +kernel, st, 36, n + 2 + i, rfl, a4, by omega, by omega, by omega, fun v st3 w0 w1 dr3 => ?_⟩
    obtain ⟨c, hc, oc⟩ := at_sign w0 w1
    refine some9_of hc ⟨by decide +kernel, by rw [List.length_map]; omega, hr _ _ ⟨a ++ [⟨#[c]⟩], st3, by rw [List.map_append]; rfl, by simp [a2], fun p hp => ?_, rfl, dr3⟩⟩
    rcases List.mem_append.mp hp with hp | hp
    · exact a3 p hp
    · rw [List.mem_singleton.mp hp]
      exact ⟨Nat.le_refl 1, by unfold chk; simp [tl, oc]⟩
  · obtain ⟨a, st, rfl, a2, a3, rfl, a4⟩ := h
    have jc := join_chk a3
    have jl : (Txt.join (Str.ofString "") a).length ≤ 6 := by omega
    refine ⟨a, rfl, ?_, ?_⟩
    · have := words_size (a := Str.ofString "") (ws := a) (by decide +kernel) (by omega) fun x hx => Nat.le_trans (a3 x hx).1 (by omega)
      omega
    generalize Txt.join (Str.ofString "") a = bs at jc jl ⊢
    refine ⟨st, 26, _, rfl, a4, by omega, by omega, by omega, fun v st4 w0 w1 dr4 => ?_⟩
    obtain ⟨c, hc, lc⟩ := at_letter w0 w1
    refine some9_of hc ⟨by decide +kernel, by omega, st4, _, _, rfl, dr4, by omega, by omega, by omega, fun kk st5 x0 x1 dr5 => ?_⟩
    refine ⟨st5, 26, _, rfl, dr5, by omega, by omega, by omega, fun off st6 y0 y1 dr6 => ⟨by omega, ?_⟩⟩
    obtain ⟨kk, rfl⟩ := Int.eq_ofNat_of_zero_le x0
    refine forL_rng (fun i e => ∃ ns st y4 y9, e = [.ow true st, .im (.int m), .im (.str letters), .ow false (.lst (ns.map D.str)), y4, .im (.str bs), .im (.str ⟨#[c]⟩), .im (.int kk), .im (.int off), y9] ∧ GoodN ns ∧ 1 ≤ ns.length ∧ ns.length ≤ i + 1 ∧ dr (n + 20) st)
      ⟨[z0], _, _, _, rfl, GoodN.one nz0, Nat.le_refl _, Nat.le_refl _, dr6.mono (by omega)⟩ (fun i e hi h rest hr => ?_) (fun e h => ?_)
    · obtain ⟨ns, st, y4, y9, rfl, g2, g3, g4, g6⟩ := h
      have em := Int.emod_nonneg (off + (0 + (i : Int))) (show (26 : Int) ≠ 0 by omega)
      have el := Int.emod_lt_of_pos (off + (0 + (i : Int))) (show (0 : Int) < 26 by omega)
      obtain ⟨l, hl, ll⟩ := at_letter em el
      have nm := made_name (k := kk) lc ll jc.1 jl
      have c1 := cutS_length bs none (some (kk : Int))
      have c2 := cutS_length bs (some (kk : Int)) none
      have z1 : (⟨#[c]⟩ : Str).length = 1 := rfl
      have z2 : (⟨#[l]⟩ : Str).length = 1 := rfl
      refine ⟨by omega, by omega, by omega, some9_of hl ⟨by decide +kernel, by rw [append_len]; omega, by omega, by rw [append_len, append_len]; omega, ?_⟩⟩
      conv => whnf
      generalize (⟨#[c]⟩ ++ cutS bs none (some (kk : Int)) ++ ⟨#[l]⟩ ++ cutS bs (some (kk : Int)) none : Str) = nw at nm ⊢
      refine ⟨.str nw, ns.map V.str, rfl, vFlats_strs ns, ?_⟩
      show ifB (!inV (.str nw) (ns.map V.str)) _ _
      rw [inV_str]
      refine ifDN (fun hin => ?_) (fun hin => ?_)
      · exact hr _ ⟨ns, st, _, _, rfl, g2, g3, by omega, g6⟩
      · refine ⟨by rw [List.length_map]; omega, hr _ ⟨ns ++ [nw], st, _, _, by rw [List.map_append]; rfl, g2.snoc nm hin, by rw [List.length_append]; omega, by rw [List.length_append]; simp; omega, g6⟩⟩
    · obtain ⟨ns, st, y4, y9, rfl, g2, g3, g4, g6⟩ := h
      have e : Dv.cutD (ns.map D.str) none (some (m : Int)) = (ns.take m).map D.str := by
        unfold Dv.cutD
        rw [HT.sIx_nat, HT.sIx_none, List.length_map, List.drop_zero, Nat.sub_zero, ← List.map_take]
        congr 1
        by_cases h : m ≤ ns.length
        · rw [Nat.min_eq_left h]
        · rw [Nat.min_eq_right (by omega), List.take_of_length_le (Nat.le_refl _), List.take_of_length_le (by omega)]
      conv => whnf
      rw [e]
      exact k _ _ (g2.take m) (by rw [List.length_take]; omega) (by rw [List.length_take]; omega) g6
theorem eq_pop {ps : List (Str × Int)} {k : Nat} {p : Str × Int} (f : Str × Int → D) (h : ps[k]? = some p) : (ps.map f)[k]? = some (f p) := by rw [List.getElem?_map, h]; rfl
theorem map_eraseD {α β : Type} (f : α → β) : ∀ (l : List α) (k : Nat), (l.map f).eraseIdx k = (l.eraseIdx k).map f
  | [], _ => rfl
  | _ :: _, 0 => rfl
  | x :: r, k + 1 => by
    rw [List.map_cons, List.eraseIdx_cons_succ, List.eraseIdx_cons_succ, List.map_cons, map_eraseD f r k]
def pairD (p : Str × Int) : D := .tup [.str p.1, .int p.2]
theorem pyds_pairs (ps : List (Str × Int)) : pyd (.lst (ps.map pairD)) = some (.list (ps.map dPair)) := by
  show (pyds (ps.map pairD)).map PyData.list = _
  rw [pyds_map (g := dPair) (fun _ => rfl)]
  rfl
theorem seq_ix {n k : Nat} (h : k < n) : seqIndex? (k : Int) n = some k := by
  have e : ixN n (k : Int) = some k := by
    unfold ixN
    rw [if_pos (by omega), if_pos (by omega)]
    rfl
  exact (ixN_seq e).1
theorem tot_snoc (ps : List (Str × Int)) (n' : Str) (v : Int) (m : Str) : tot (ps ++ [(n', v)]) m = tot ps m + if n' = m then v else 0 := by
  rw [tot_app, tot_cons, tot_nil]
  simp
end
end Sk

set_option maxHeartbeats 4000000
/-! calls with keywords; sum(d.values(), start=e) -/
namespace Sk
open PySem PySem.Spec PyProof.Rows L2
section
variable {K : PySem.W.Frag} {x qual : Str} {params : Arguments} {body : List Stmt} {scope : Scope} {kws : List (Str × V)} {f : Addr} {fd : FuncData} {ps : List Str}
theorem FunD.kbindsN (F : FunD K x qual params body scope [] kws f fd) (n : Nat) (ks : List Str) (g : {α : Type} → List α → List α → List α)
    (hrel : ∀ {vs zs : List V} {us ws : List Value}, Vals vs us → Vals zs ws → Vals (g vs zs) (g us ws))
    (h : ∀ (kV doc pm : Value) (an : Option Addr) (cdv ct : Value) (us ws : List Value), us.length = n → ws.length = ks.length →
      bindArgs (PySem.W.fnOf x qual params body scope .none kV doc pm an cdv ct) ⟨us, ks.zip ws⟩ = pure (ps.zip (g us ws))) : KBn K fd ps n ks (fun us ws => g us ws) (fun vs zs => g vs zs) := by
  obtain ⟨oc, od, dV, kV, doc, pm, an, cdv, ct, osl, rfl, lk, hcd, hD, hK⟩ := F.ex
  rcases hD with ⟨_, rfl⟩ | ⟨e, _⟩
  · exact ⟨fun s us ws X l1 l2 => .of_eq (h kV doc pm an cdv ct us ws l1 l2), fun r1 r2 => hrel r1 r2⟩
  · exact absurd rfl e
/-- the keyword-only ones all lack -/
theorem FunD.kbindsZ (F : FunD K x qual params body scope [] kws f fd) (n : Nat) (ms : List (Str × V)) (hk : kws ≠ []) (hms : ∀ q ∈ ms, q ∈ kws) (hl : n + ms.length = ps.length)
    (h : ∀ (D : Addr) (doc pm : Value) (an : Option Addr) (cdv ct : Value) (us mv : List Value), us.length = n → mv.length = ms.length →
      KwChain D ((ms.map (·.1)).zip mv) (bindArgs (PySem.W.fnOf x qual params body scope .none (.ref D) doc pm an cdv ct) ⟨us, []⟩) (ps.zip (us ++ mv))) : ∃ mv : List Value, Binds K fd ps mv ∧ Vals (ms.map (·.2)) mv := by
  obtain ⟨mv, kb⟩ := F.kbinds0 (ps := ps) n [] ms (fun us mv _ => us ++ mv) hk hms (fun r1 r2 _ => r1.append r2) (fun D doc pm an cdv ct us mv ws h1 h2 _ => h D doc pm an cdv ct us mv h1 h2)
  have rv : Vals (ms.map (·.2)) mv := kb.rel (vs := []) (us := []) (zs := []) (ws := []) .nil .nil
  refine ⟨mv, fun s us X l => ?_, rv⟩
  have lm : mv.length = ms.length := by rw [← rv.length, List.length_map]
  have l1 : us.length = n := by
    rw [List.length_append] at l
    omega
  exact kb.to s us [] X l1 rfl
end
/-- f(k = v, ..) -/
structure CalK (P : Program) (w : World) (K : PySem.W.Frag) (mg : Str → Option Value) (base : Heap) (k : Nat) (x : Str) (sp : Sp) (n : Nat) (ks : List Str) (gV : List V → List V → List V) : Prop where
  ex : ∃ (f : Addr) (fd : FuncData) (ps : List Str) (g : List Value → List Value → List Value), FnOk P w K mg base C8.CX0 k f fd ps sp ∧ mg x = some (.ref f) ∧ PySem.W.keepIn K (.ref f) = true ∧ KBn K fd ps n ks g gV
/-- C(e, .., k = v, ..) -/
structure MakKn (P : Program) (w : World) (K : PySem.W.Frag) (mg : Str → Option Value) (base : Heap) (k : Nat) (x : Str) (C : Addr) (sp : Sp) (n : Nat) (ks : List Str) (gV : List V → List V → List V) : Prop where
  ex : ∃ (f : Addr) (fd : FuncData) (ps : List Str) (g : List Value → List Value → List Value), Mk K C f ∧ FnOk P w K mg base C8.CX0 k f fd ps sp ∧ mg x = some (.ref C) ∧ KBn K fd ps (n + 1) ks g gV
section
variable {X : Cx} {k j n : Nat} {C : Addr} {x m : Str} {sp : Sp} {ks : List Str} {gV : List V → List V → List V} {p pos apos : Pos} {kws : List Keyword} {t tk : TA} {e : Expr} {es : List Expr}
theorem pe_cK0 (c : CalK X.prog X.w X.K X.mg X.base k x sp 0 ks gV) (hr : Room j X.A) (hk : k ≤ j) (hg : Gl X x) (hkw : PK X kws tk)
    (hall : (backToKw pos (keywordEach kws X.env)).all (·.1.isSome) = true := by rfl) (hks : (backToKw pos (keywordEach kws X.env)).filterMap (·.1) = ks := by rfl) (hdb : (x == ("__debug__" : Str)) = false := by decide)
    (hpl : ((backTo pos (starEach [] X.env)).any (·.1) || (backToKw pos (keywordEach kws X.env)).any (·.1.isNone)) = false := by rfl) :
    PE X (.Call (.Name x p) [] kws pos) (tCallN 0 ks.length sp gV C8.E0 tNil tk) := by
  obtain ⟨f, fd, ps, g, F, hm, kp, b⟩ := c.ex
  refine ⟨fun pins s σ H Q I h => ?_⟩
  refine wpAny_Call_Name_kw (ld_glob I hg hm ?_ hdb)
  refine PySem.W.callWith_KW0 (h₀ := X.base) I.ok.mod.kin kp hall ?_ hpl
  refine thn (hkw.run pos pins s σ H _ I h) fun ws s2 ⟨zs, H2, I2, rz, l1, l2, q2⟩ => ⟨I2.kIn, ?_⟩
  rw [hks]
  exact run_fnN (us := []) (vs := []) F (hr.mono hk) b C8.pass0 I2 .nil rz rfl l2 q2
theorem pe_mkK (c : MakKn X.prog X.w X.K X.mg X.base k x C sp n ks gV) (hr : Room j X.A) (hk : k + 1 ≤ j) (hg : Gl X x) (ha : PA X (e :: es) t) (hkw : PK X kws tk)
    (hall : (backToKw pos (keywordEach kws X.env)).all (·.1.isSome) = true := by rfl) (hks : (backToKw pos (keywordEach kws X.env)).filterMap (·.1) = ks := by rfl) (hdb : (x == ("__debug__" : Str)) = false := by decide)
    (he : starEach (e :: es) X.env = (false, eval e X.env) :: starEach es X.env := by rfl) (hpl : ((backTo pos (starEach (e :: es) X.env)).any (·.1) || (backToKw pos (keywordEach kws X.env)).any (·.1.isNone)) = false := by rfl) :
    PE X (.Call (.Name x p) (e :: es) kws pos) (tMakeK C n ks.length sp gV C8.E0 t tk) := by
  obtain ⟨f, fd, ps, g, M, F, hm, b⟩ := c.ex
  exact pe_makeK M F (hr.mono hk) hg hm b C8.pass0 ha hkw hall hks hdb he hpl
end
section
variable {X : Cx} {pins : List (Addr × Obj)} {σ : L2.St} {H : Hp} {s : Shared}
theorem pin_newS {o : Obj} {h' : Heap} {a : Addr} {t' : Nat} (I : Inv X pins σ H s) (k : ∀ b u, s.heap.get? b = some u → h'.get? b = some u) (ha : s.heap.objs.size ≤ a) (ho : h'.get? a = some o) (hc : ∀ v, o.data ≠ .cell v) :
    Inv X ((a, o) :: pins) σ H { s with heap := h', toks := t' } := by
  have I1 := I.kept (t' := t') k
  refine I1.pins_of fun p hp => ?_
  rcases List.mem_cons.mp hp with e | e
  · subst e
    exact ⟨ho, I.hok.fresh ha, Nat.ne_of_gt (Nat.lt_of_lt_of_le I.lt ha), I.nofs ha, hc⟩
  · exact I1.pin p (List.mem_append_right _ e)
theorem unpinS {p : Addr × Obj} (I : Inv X (p :: pins) σ H s) : Inv X pins σ H s := I.pins_of fun r hr => I.pin r (List.mem_append_right _ (List.mem_cons_of_mem _ hr))
theorem pin_atS {p : Addr × Obj} (I : Inv X (p :: pins) σ H s) : s.heap.get? p.1 = some p.2 := (I.pin p (List.mem_append_right _ List.mem_cons_self)).1
end
section
variable {X : Cx} {o : Expr} {p apos mpos pos : Pos} {kws : List Keyword} {td : TE} {tk : TA}
/-- sum(d.values(), start=e), d a dict of ints by texts that the keyword leaves as it is -/
def tSumValsS (td : TE) (tk : TA) : TE := fun σ H Q => td σ H fun x H1 => ∃ a cs, x = V.ref a ∧ H1 a = some (.dK (kvS cs)) ∧ tk σ H1 fun zs H2 => H2 a = some (.dK (kvS cs)) ∧ ∃ n, zs = [V.int n] ∧ Q (.int (n + (cs.map (·.2)).sum)) H2
theorem pe_sumValsS (hc : X.calm = true) (hg : Gl X "sum") (hm : X.mg "sum" = none) (hd : PE X o td) (hk : PK X kws tk) (hbase : attributeBase o "values" X.env (eval o X.env) = eval o X.env := by rfl) (hline : (apos.endLine == mpos.line) = true := by rfl)
    (hse : starEach [Expr.Call (.Attribute o "values" apos) [] [] mpos] X.env = (false, eval (Expr.Call (.Attribute o "values" apos) [] [] mpos) X.env) :: starEach [] X.env := by rfl)
    (hpl : (backTo pos (starEach [Expr.Call (.Attribute o "values" apos) [] [] mpos] X.env)).any (·.1) = false := by rfl)
    (hb : backTo pos (starEach [Expr.Call (.Attribute o "values" apos) [] [] mpos] X.env) = (false, eval (Expr.Call (.Attribute o "values" apos) [] [] mpos) X.env) :: backTo pos (starEach [] X.env) := by rfl)
    (hall : (backToKw pos (keywordEach kws X.env)).all (·.1.isSome) = true := by rfl) (hks : (backToKw pos (keywordEach kws X.env)).filterMap (·.1) = [Str.ofString "start"] := by rfl) (hkw : (backToKw pos (keywordEach kws X.env)).any (·.1.isNone) = false := by rfl) :
    PE X (.Call (.Name "sum" p) [.Call (.Attribute o "values" apos) [] [] mpos] kws pos) (tSumValsS td tk) := by
  refine ⟨fun pins s σ H Q I h => ?_⟩
  refine wpAny_Call_Name_kw (ld_blt I hg hm (u := .builtin "sum") (by first | rfl | decide +kernel) ?_ (by first | decide +kernel | decide) (by first | decide +kernel | decide))
  refine PyProof.Rows.callWith_kw ?_ hb hpl hall hkw
  refine PyProof.Rows.args_cons ?_ hse
  refine wpAny_Call_method0_late hbase hline (thn (hd.run pins s σ H _ I h) fun v s1 ⟨x, H1, I1, r1, a, cs, ex, ha, q⟩ => ?_)
  subst ex
  obtain rfl : v = Value.ref a := r1
  obtain ⟨_, hsys, vs0, rel0, dof0⟩ := dk_of I1.hok ha
  obtain ⟨ep0, dat0⟩ := dof0.dictAt
  obtain ⟨ob0, es0, ho0, ex0, hdat0, hko0, hpr0, hnd0⟩ := dat0
  refine ⟨"dict", "dict.values", F.plainAttrs_dict, F.slot_dict_values, F.type_dict_values, ⟨ob0, ho0, ex0.1⟩, fun b e => ?_, Calls.callWith_builtin rfl (PySem.evalArgs_none ?_)⟩
  · cases e
    exact ⟨ob0, ho0, ex0.2.1⟩
  refine call_meetsIn F.slot_dict_values ⟨ob0, ho0, ex0.1⟩ F.entry_dict_values (F.args_dict_values_1 _) (meets_dict_values (mixKind X.prog X.w) a hsys) ⟨⟨vs0, dof0⟩, ?_⟩
  refine PyProof.Rows.args_nil ?_
  have I2 : Inv X ((s1.heap.objs.size, ({ cls := .type "dict_values", data := .fields #[.ref a] } : Obj)) :: pins) σ H1 { s1 with heap := s1.heap.push { cls := .type "dict_values", data := .fields #[.ref a] } } :=
    pin_newS (t' := s1.toks) I1 (fun b u e => Heap.get?_push_of_some _ e) (Nat.le_refl _) (Heap.get?_push_size _ rfl) (fun v z => nomatch z)
  refine thn (hk.run pos _ _ σ H1 _ I2 q) fun ws s2 ⟨zs, H2, I3, rz, ha2, n, ez, q2⟩ => ?_
  subst ez
  obtain ⟨w0, rfl, rw0⟩ := rz.one
  obtain ⟨tw, rfl⟩ := (show ∃ t, w0 = Value.int n t from rw0)
  rw [hks]
  show wpAny _ _ (call (.builtin "sum") [.ref s1.heap.objs.size] [(Str.ofString "start", .int n tw)]) _ _ _
  have hv2 := pin_atS I3
  have I4 := unpinS I3
  obtain ⟨_, hsys, vs, rel, dof⟩ := dk_of I4.hok ha2
  obtain ⟨ep, dat⟩ := dof.dictAt
  have dat' := dat
  obtain ⟨ob, es, ho, ex, hdat, hko, hpr, hnd⟩ := dat'
  have hv : (kvS cs).map (·.2) = (cs.map (·.2)).map V.int := by simp [kvS]
  have hlv : vs.length = (cs.map (·.2)).length := by
    have e1 := congrArg List.length hv
    rw [List.length_map, List.length_map] at e1
    rw [← e1]
    exact (KV.length rel).symm
  have hval : ∀ (i : Nat) (v : Value), (∃ k, vs[i]? = some (k, v)) → ∃ t, v = Value.int ((cs.map (·.2)).getD i 0) t := fun i v ⟨k, hk⟩ => by
    obtain ⟨x, h1, h2⟩ := KV.at' rel hk
    have e1 : ((kvS cs).map (·.2))[i]? = some x := by rw [List.getElem?_map, h1] <;> rfl
    rw [hv, List.getElem?_map] at e1
    obtain ⟨j, hj, e2⟩ := Option.map_eq_some_iff.mp e1
    subst e2
    obtain ⟨t, e3⟩ := h2
    refine ⟨t, ?_⟩
    rw [e3, List.getD_eq_getElem?_getD, hj] <;> rfl
  refine SkW.call_sum_start (wpAny_pyIter_values (v := s1.heap.objs.size) (d := a) ⟨_, hv2, rfl, rfl⟩ dat ?_)
  have hlt : a < s2.heap.objs.size := Heap.lt_size ho
  have hlv2 : s1.heap.objs.size < s2.heap.objs.size := Heap.lt_size hv2
  refine ⟨_, _, _, _, _, _, _, rfl, Walks.dictValues (knd := mixKind X.prog X.w) (A := X.A.in1) (I4.ok.hd hc) s2.heap.objs.size a (Nat.ne_of_lt hlt) vs ep,
    ⟨⟨_, Heap.get?_push_size _ rfl, rfl, rfl⟩, dat.keep fun b u e => Heap.get?_push_of_some _ e⟩, fun b hb => ?_, hval, fun h' tk t' hk => ?_⟩
  · show b < (s2.heap.push _).objs.size
    rw [Heap.size_push]
    rcases List.mem_cons.mp hb with e | hb
    · rw [e]
      exact Nat.lt_succ_self _
    · have e : b = a := List.mem_singleton.mp hb
      rw [e]
      exact Nat.lt_succ_of_lt hlt
  · have es : preSum (fun i => (cs.map (·.2)).getD i 0) vs.length = (cs.map (·.2)).sum := by
      rw [preSum_getD _ _ (Nat.le_of_eq hlv), hlv, List.take_length]
    rw [es]
    refine ⟨.int _, H2, I4.kept (t' := tk) fun b u e => hk b u (fun hmem => ?_) (Heap.get?_push_of_some _ e), ⟨t', rfl⟩, q2⟩
    have e1 : b = s2.heap.objs.size := List.mem_singleton.mp hmem
    have e2 := Heap.lt_size e
    rw [e1] at e2
    exact absurd e2 (Nat.lt_irrefl _)
end
section
variable {X : Cx}
def ipS : TIp := fun x y H Q => ∃ i j, x = .str i ∧ y = .str j ∧ i.length + j.length ≤ sizeLine ∧ Q (.str (i ++ j)) H
theorem ip_addS : PIp X .Add ipS := by
  intro pins s σ H x y u v Q I rx ry h
  exact iop_add_str pins s σ H x y u v Q I rx ry h
end
end Sk

set_option maxHeartbeats 4000000
/-! More rules in value form: +=, extend, calls with keywords, sum with a start. -/
namespace Dv
open PySem PySem.Spec PyProof.Rows L2 Sk
section
variable {K : PySem.W.Frag} {W : WX} {G : Gh} {L LL : List (Addr × Obj)} {env : Sls} {σ : L2.St} {F F' H H' : Hp} {p a : Addr} {o : HO} {d x : D} {fr : Bool}
theorem hrd_add : ∀ (k n : Int) (H : Hp) (Q : VK), Q (.int (k + n)) H → rAdd (.int k) (.int n) H Q := fun k n H Q h => ⟨k, n, rfl, rfl, h⟩
theorem hrd_sub : ∀ (k n : Int) (H : Hp) (Q : VK), Q (.int (k - n)) H → rSub (.int k) (.int n) H Q := fun k n H Q h => ⟨k, n, rfl, rfl, h⟩
/-- l.extend(l2) -/
def fExtend : FnM := fun xs ds Q => match ds with
  | [.lst ys] => xs.length + ys.length ≤ 16777216 ∧ Q .non (xs ++ ys)
  | _ => False
theorem sm_extend : SimM K fExtend rExtend := ⟨fun {F H a xs ds ws vs} s h hx hd Q9 Q f k => by
  unfold fExtend at f
  split at f
  · cases hd with
    | cons h1 h2 =>
      cases h2
      cases h1 with
      | lst e r =>
        exact ⟨a, _, ws, _, rfl, rfl, h, s.see _ _ e (fun _ z => nomatch z), by rw [sizeLine_eq, ← hx.length, ← r.length]; exact f.1, k _ _ _ _ .non (hx.append r) f.2⟩
  · exact f.elim⟩
/-- keywords behind the places -/
def tApp2 (t tk : TA) (n m : Nat) : TA := fun σ H Q => t σ H fun vs H1 => tk σ H1 fun zs H2 => vs.length = n ∧ zs.length = m ∧ Q (vs ++ zs) H2
theorem evs_app : ∀ (os os2 : List Op9) (X : XK9) (env : Sls) (k : List P9 → Sls → Prop), evs (os ++ os2) X env k = evs os X env fun ps e => evs os2 X e fun qs e' => k (ps ++ qs) e'
  | [], _, _, _, _ => rfl
  | o :: os, os2, X, env, k => by
    show o.ev X env (fun p e => evs (os ++ os2) X e fun ps e' => k (p :: ps) e') = o.ev X env fun p e => evs os X e fun ps e' => evs os2 X e' fun qs e'' => k (p :: ps ++ qs) e''
    congr 1
    funext p e
    exact evs_app os os2 X e fun ps e' => k (p :: ps) e'
theorem RelPs.app : ∀ {ps qs : List P9} {vs ws : List V}, RelPs K σ F ps vs → RelPs K σ F qs ws → RelPs K σ F (ps ++ qs) (vs ++ ws)
  | _, _, _, _, .nil, h => h
  | _, _, _, _, .cons a r, h => .cons a (RelPs.app r h)
theorem RelPs.mono (s : Same F F') : ∀ {ps : List P9} {vs : List V}, RelPs K σ F ps vs → RelPs K σ F' ps vs
  | _, _, .nil => .nil
  | _, _, .cons a r => .cons (RelP.mono s a) (RelPs.mono s r)
theorem RelPs.len : ∀ {ps : List P9} {vs : List V}, RelPs K σ F ps vs → ps.length = vs.length
  | _, _, .nil => rfl
  | _, _, .cons _ r => by simp [RelPs.len r]
theorem slots_app : ∀ (ps qs : List P9), slots (ps ++ qs) = slots ps ++ slots qs
  | [], _ => rfl
  | .inl _ :: ps, qs => slots_app ps qs
  | .inr i :: ps, qs => by
    show i :: slots (ps ++ qs) = i :: (slots ps ++ slots qs)
    rw [slots_app ps qs]
theorem opSlots_app : ∀ (ps qs : List Op9), opSlots (ps ++ qs) = opSlots ps ++ opSlots qs
  | [], _ => rfl
  | .e _ :: ps, qs => opSlots_app ps qs
  | .s i :: ps, qs => by
    show i :: opSlots (ps ++ qs) = i :: (opSlots ps ++ opSlots qs)
    rw [opSlots_app ps qs]
theorem run2_app {os os2 : List Op9} {t tk : TA} (s : SimOs K W os t) (s2 : SimOs K W os2 tk) : Run2 K W (os ++ os2) (tApp2 t tk os.length os2.length) := fun {G L σ X9} x {env F H k Q} r h q => by
  rw [evs_app] at h
  refine s.run2 x r h fun ps e vs F1 H1 r1 s1 p1 m1 l1 h1 => s2.run2 x r1 h1 fun qs e2 zs F2 H2 r2 s3 p2 m2 l2 h2 => ?_
  have e1 := congrArg List.length m1
  have e2' := congrArg List.length m2
  rw [List.length_map, List.length_map, p1.len] at e1
  rw [List.length_map, List.length_map, p2.len] at e2'
  exact ⟨e1, e2', q (ps ++ qs) e2 (vs ++ zs) F2 H2 r2 (s1.trans s3) ((p1.mono s3).app p2) (by rw [List.map_append, List.map_append, m1, m2]) (by rw [slots_app, opSlots_app, l1, l2]) h2⟩
/-- f(e, .., k = v, ..), the keywords in the parameters' order -/
theorem sim_callK {f : FS} {os os2 : List Op9} {t tk : TA} {E : XK} {n m : Nat} (so : SimOs K W os t) (so2 : SimOs K W os2 tk) (hm : f.ms = (os ++ os2).map opS) (hn : (opSlots (os ++ os2)).Nodup)
    (hE : ∀ c dd σ H', W0 c dd σ H' → E c dd H') (hf : f.fr = false) (h1 : os.length = n := by rfl) (h2 : os2.length = m := by rfl) : SimE K W (dCall f (os ++ os2) []) (tCallN n m (f.to K) (fun vs zs => vs ++ zs) E t tk) := ⟨fun {G L env σ F H X9 Q9 Q} r h q x => by
  subst h1 h2
  have key : tCall (f.to K) [] E (tApp2 t tk os.length os2.length) σ H Q := by
    refine call_core (run2_app so so2) (dds := []) (by rw [hm]; simp) (fun _ => .nil) hn hE r h (fun y e v F2 H2 r2 s2 hv k => q y e v F2 H2 r2 s2 ?_ k) x
    rw [hf] at hv
    exact hv
  unfold tCall tApp2 at key
  unfold tCallN
  simp only [List.append_nil] at key
  exact key⟩
theorem sim_makeK {c : Str} {f : FS} {os os2 : List Op9} {t tk : TA} {E : XK} {n m : Nat} (so : SimOs K W os t) (so2 : SimOs K W os2 tk) (hm : f.ms = true :: (os ++ os2).map opS) (hn : (opSlots (os ++ os2)).Nodup)
    (hE : ∀ c dd σ H', W0 c dd σ H' → E c dd H') (hf : f.fr = false) (h1 : os.length = n := by rfl) (h2 : os2.length = m := by rfl) : SimF K W (dMake c f (os ++ os2) []) (tMakeK (He.ga K c) n m (f.to K) (fun vs zs => vs ++ zs) E t tk) := ⟨fun {G L env σ F H X9 Q9 Q} r h q x => by
  subst h1 h2
  have key : tMake (He.ga K c) (f.to K) [] E (tApp2 t tk os.length os2.length) σ H Q := make_core (run2_app so so2) (dds := []) (by rw [hm]; simp) (fun _ => .nil) hn hE hf r h q x
  unfold tMake tApp2 at key
  unfold tMakeK
  simp only [List.append_nil] at key
  exact key⟩
end
end Dv

set_option maxHeartbeats 4000000
/-! A call whose argument is a new thing that it changes; sum with a start; text += text. -/
namespace Dv
open PySem PySem.Spec PyProof.Rows L2 Sk
section
variable {K : PySem.W.Frag} {W : WX} {G : Gh} {L LL : List (Addr × Obj)} {env : Sls} {σ : L2.St} {F F' H H' : Hp} {p a : Addr} {o : HO} {d x : D} {fr : Bool}
theorem si_S : SimIp K fCatS ipS := ⟨fun {F H x y v w} s hx hy Q9 Q f k => by
  unfold fCatS at f
  split at f
  · exact ⟨_, _, hx.ofS, hy.ofS, by rw [sizeLine_eq]; exact f.1, k _ _ .str f.2⟩
  · exact f.elim⟩
/-- sum(d.values(), start=e), the dict of one's own in slot i -/
def dSumS (i : Nat) (os : List Op9) : DE := fun X env Q => ∃ cs m, env[i]? = some (.ow m (dcs cs)) ∧ evs os X env fun ps e => match looks e ps with
  | some [.int n] => e[i]? = some (.ow m (dcs cs)) ∧ Q (.int (n + (cs.map (·.2)).sum)) e
  | _ => False
theorem sim_sumS {i : Nat} {os : List Op9} {tk : TA} (so : SimOs K W os tk) : SimE K W (dSumS i os) (tSumValsS (tVar i) tk) := ⟨fun {G L env σ F H X9 Q9 Q} r h q x => by
  obtain ⟨cs, m, e0, h⟩ := h
  obtain ⟨a, o1, o2, o3, ws, o4, o5⟩ := r.ow i m _ e0
  have ew := isK_cs o5
  subst ew
  refine ⟨_, o1, a, cs, rfl, o4, so.run x r h fun ps e vs F1 H1 r1 s1 p1 h1 => ?_⟩
  split at h1
  · rename_i n en
    have := (r1.pks p1 en).int1
    subst this
    obtain ⟨e1, h1⟩ := h1
    obtain ⟨a', p1', p2, p3, ws', p4, p5⟩ := r1.ow i m _ e1
    rw [o1] at p1'
    cases p1'
    have ew := isK_cs p5
    subst ew
    exact ⟨p4, n, rfl, q _ e _ F1 H1 r1 s1 .int h1⟩
  · exact h1.elim⟩
/-- len(d), the dict of one's own in slot i -/
def dLenD (i : Nat) : DE := fun _ env Q => match env[i]? with
  | some (.ow _ (.dic kvs)) => Q (.int kvs.length) env
  | _ => False
theorem sim_lenD (i : Nat) : SimE K W (dLenD i) (tCB (fun xs H Q => ∃ a kvs, xs = [V.ref a] ∧ H a = some (.dK kvs) ∧ Q (.int kvs.length) H) (tCons (tVar i) tNil)) := ⟨fun {G L env σ F H X9 Q9 Q} r h q x => by
  unfold dLenD at h
  split at h
  · rename_i m kvs e0
    obtain ⟨a, o1, o2, o3, ws, o4, o5⟩ := r.ow i m _ e0
    exact ⟨_, o1, a, ws, rfl, o4, q _ env _ F H r (Same.refl F) (by rw [← o5.length]; exact .int) h⟩
  · exact h.elim⟩
/-! ### a new thing as an argument -/
inductive SimCs (K : PySem.W.Frag) : List D → TA → Prop
  | nil : SimCs K [] tNil
  | cons {x : D} {v : V} {xs : List D} {ts : TA} (h : ∀ F, Is K F x v) (r : SimCs K xs ts) : SimCs K (x :: xs) (tCons (tC v) ts)
inductive SimOsT (K : PySem.W.Frag) (W : WX) : List Op9 → DE → List D → TA → Prop
  | o {o : Op9} {os : List Op9} {f : DE} {cs : List D} {t : TE} {ts : TA} (h : SimO K W o t) (r : SimOsT K W os f cs ts) : SimOsT K W (o :: os) f cs (tCons t ts)
  | f {f : DE} {cs : List D} {t : TE} {ts : TA} (h : SimF K W f t) (r : SimCs K cs ts) : SimOsT K W [] f cs (tCons t ts)
theorem SimCs.run {cs : List D} {ts : TA} (s : SimCs K cs ts) : ∀ {σ : L2.St} {H : Hp} {Q : List V → Hp → Prop}, (∀ ws, (∀ F, IsL K F cs ws) → Q ws H) → ts σ H Q := by
  induction s with
  | nil => exact fun q => q [] fun _ => .nil
  | cons h _ ih => exact fun q => ih fun ws hw => q (_ :: ws) fun F => .cons (h F) (hw F)
/-- the new thing in a slot behind all -/
theorem R.plusT (r : R K G L env σ F H) (f : Fresh K G env σ F H d a) : R K G L (env ++ [.ow false d]) (σ ++ [some (.ref a)]) F H := by
  have hl := r.len
  have cut : ∀ {i : Nat} {s : Sl}, (env ++ [Sl.ow false d])[i]? = some s → (env[i]? = some s ∧ i < env.length) ∨ (i = env.length ∧ s = .ow false d) := fun {i s} e => by
    rcases Nat.lt_or_ge i env.length with h | h
    · rw [List.getElem?_append_left h] at e
      exact .inl ⟨e, h⟩
    · rw [List.getElem?_append_right h] at e
      cases hi : i - env.length with
      | zero =>
        rw [hi] at e
        exact .inr ⟨by omega, (Option.some.inj e).symm⟩
      | succ n =>
        rw [hi] at e
        simp at e
  have at1 : ∀ {i : Nat}, i < env.length → (σ ++ [some (V.ref a)])[i]? = σ[i]? := fun {i} h => List.getElem?_append_left (by omega)
  have at2 : (σ ++ [some (V.ref a)])[env.length]? = some (some (.ref a)) := by rw [hl, List.getElem?_append_right (Nat.le_refl _), Nat.sub_self]; rfl
  refine ⟨by simp [hl], fun i d0 e => ?_, fun i m d0 e => ?_, fun i j m n d0 e0 b hij e1 e2 e3 e4 => ?_, r.see, r.pres, r.mm, r.grow, r.base, r.lk, r.lk0, fun q hq => ?_⟩
  · rcases cut e with ⟨e, h⟩ | ⟨_, e⟩
    · rw [at1 h]
      exact r.im i d0 e
    · cases e
  · rcases cut e with ⟨e, h⟩ | ⟨ei, e⟩
    · rw [at1 h]
      exact r.ow i m d0 e
    · cases e
      subst ei
      exact ⟨a, at2, f.f, f.h0, f.has⟩
  · rcases cut e1 with ⟨e1, h1⟩ | ⟨i1, e1⟩
    · rw [at1 h1] at e3
      rcases cut e2 with ⟨e2, h2⟩ | ⟨i2, e2⟩
      · rw [at1 h2] at e4
        exact r.sep i j m n d0 e0 b hij e1 e2 e3 e4
      · subst i2
        rw [at2] at e4
        cases e4
        exact f.sep i m d0 e1 e3
    · subst i1
      rw [at2] at e3
      cases e3
      rcases cut e2 with ⟨e2, h2⟩ | ⟨i2, e2⟩
      · rw [at1 h2] at e4
        exact f.sep j n e0 e2 e4
      · omega
  · obtain ⟨e1, e2, e3⟩ := r.ext q hq
    refine ⟨e1, e2, fun i m d0 e z => ?_⟩
    rcases cut e with ⟨e, h⟩ | ⟨ei, e⟩
    · rw [at1 h] at z
      exact e3 i m d0 e z
    · subst ei
      rw [at2] at z
      injection z with z
      injection z with z
      injection z with z
      exact f.ext q hq z.symm
theorem R.minusT {env' : Sls} (r : R K G L env' (σ ++ [some (.ref a)]) F H) (hl : env'.length = σ.length + 1) : R K G L (env'.take σ.length) σ F H := by
  have cut : ∀ {i : Nat} {s : Sl}, (env'.take σ.length)[i]? = some s → env'[i]? = some s ∧ i < σ.length := fun {i s} e => by
    rw [List.getElem?_take] at e
    by_cases h : i < σ.length
    · rw [if_pos h] at e
      exact ⟨e, h⟩
    · rw [if_neg h] at e
      cases e
  have at1 : ∀ {i : Nat}, i < σ.length → (σ ++ [some (V.ref a)])[i]? = σ[i]? := fun {i} h => List.getElem?_append_left h
  refine ⟨by rw [List.length_take]; omega, fun i d0 e => ?_, fun i m d0 e => ?_, fun i j m n d0 e0 b hij e1 e2 e3 e4 => ?_, r.see, r.pres, r.mm, r.grow, r.base, r.lk, r.lk0, fun q hq => ?_⟩
  · obtain ⟨e, h⟩ := cut e
    rw [← at1 h]
    exact r.im i d0 e
  · obtain ⟨e, h⟩ := cut e
    rw [← at1 h]
    exact r.ow i m d0 e
  · obtain ⟨e1, h1⟩ := cut e1
    obtain ⟨e2, h2⟩ := cut e2
    exact r.sep i j m n d0 e0 b hij e1 e2 (by rw [at1 h1]; exact e3) (by rw [at1 h2]; exact e4)
  · obtain ⟨e1, e2, e3⟩ := r.ext q hq
    refine ⟨e1, e2, fun i m d0 e z => ?_⟩
    obtain ⟨e, h⟩ := cut e
    exact e3 i m d0 e (by rw [at1 h]; exact z)
theorem SimOsT.run {X9 : XK9} {os : List Op9} {f : DE} {cs : List D} {t : TA} (s : SimOsT K W os f cs t) (x : ∀ e env' c dd F' H', R K G L env' σ F' H' → XR K F' H' e c dd → X9 e env' → W c dd σ H') :
    ∀ {env : Sls} {F H : Hp} {k : List P9 → D → Sls → Prop} {Q : List V → Hp → Prop}, R K G L env σ F H → (evs os X9 env fun ps e => f X9 e fun d e2 => k ps d e2) →
    (∀ p d env' v a ws F' H', R K G L env' σ F' H' → Same F F' → RelPs K σ F' p v → p.map isS = os.map opS → slots p = opSlots os → Fresh K G env' σ F' H' d a → (∀ F, IsL K F cs ws) → k p d env' → Q (v ++ .ref a :: ws) H') → t σ H Q := by
  induction s with
  | f hf hc =>
    intro env F H k Q r h q
    exact hf.run r h (fun d e2 a F1 H1 r1 s1 f1 k1 => hc.run fun ws hw => q [] d e2 [] a ws F1 H1 r1 s1 .nil rfl rfl f1 hw k1) x
  | @o o0 os f cs t ts ho _ ih =>
    intro env F H k Q r h q
    cases ho with
    | e s =>
      exact s.run r h (fun y e1 v F1 H1 r1 s1 i1 h1 => ih r1 h1 fun ps d e2 vs a ws F2 H2 r2 s2 p2 m2 l2 f2 hw h2 => q (.inl y :: ps) d e2 (v :: vs) a ws F2 H2 r2 (s1.trans s2) (.cons (i1.mono s2) p2) (by show false :: _ = false :: _; rw [m2]) l2 f2 hw h2) x
    | s i =>
      have h : (match look9 env (.inr i) with
        | some _ => evs os X9 env fun ps e => f X9 e fun d e2 => k (.inr i :: ps) d e2
        | none => False) := h
      cases e : look9 env (.inr i) with
      | none =>
        rw [e] at h
        exact h.elim
      | some y =>
        rw [e] at h
        have fin : ∀ v, σ[i]? = some (some v) → tCons (tVar i) ts σ H Q := fun v hv => ⟨v, hv, ih r h fun ps d e2 vs a ws F2 H2 r2 s2 p2 m2 l2 f2 hw h2 => q (.inr i :: ps) d e2 (v :: vs) a ws F2 H2 r2 s2 (.cons hv p2) (by show true :: _ = true :: _; rw [m2]) (by show i :: _ = i :: _; rw [l2]) f2 hw h2⟩
        rcases look_slot e with e | ⟨m, d9, e, _⟩
        · obtain ⟨u, h1, h2⟩ := r.im i y e
          exact fin u h1
        · obtain ⟨a, h1, _⟩ := r.ow i m d9 e
          exact fin _ h1
theorem call_tail {f : FS} {ps : List P9} {vs dvs : List V} {ds dds : List D} {E : XK} {X9 : XK9} {Q9 : D → Sls → Prop} {Q : VK} (r1 : R K G L env σ F H) (p1 : RelPs K σ F ps vs) (eds : argsOf env ps = some ds) (hm : f.ms = ps.map isS ++ dds.map fun _ => false) (hd : ∀ F, IsL K F dds dvs) (hn1 : (slots ps).Nodup)
    (h1 : f.sp (ds ++ dds) (fun r nd => Q9 r (putMus env ps nd)) (fun z nd => X9 z (putMus env ps nd)))
    (q : ∀ (y : D) (e : Sls) (v : V) (F2 H2 : Hp), R K G L e σ F2 H2 → Same F F2 → (if f.fr = true then ∃ a, v = .ref a ∧ Fresh K G e σ F2 H2 y a else Is K F2 y v) → Q9 y e → Q v H2)
    (x : ∀ e env' c dd F' H', R K G L env' σ F' H' → XR K F' H' e c dd → X9 e env' → E c dd H') : f.to K (vs ++ dvs) H Q E := by
  have pr := r1.pre p1 eds hn1
  have len := pr.args.length.1
  have hdl : dds.length = dvs.length := (hd F).length
  have em : mus f.ms (vs ++ dvs) = mus (ps.map isS) vs := by rw [hm, mus_append len.symm, mus_ims, List.append_nil]
  refine ⟨F, L ++ G.L0, ds ++ dds, _, _, ⟨by rw [hm]; exact argsR_app pr.args hd, by rw [em]; exact pr.nd, pr.see, pr.lk⟩, h1, fun y nd k F2 H2 v po mr hv => ?_, fun y nd k F2 H2 c dd po mr hx => ?_⟩
  · rw [em] at po
    rw [hm] at mr
    have mr := mr.cut hdl len.symm
    refine q y _ v F2 H2 (r1.called p1 eds hn1 (fun a z => .inl z) po mr) po.same ?_ k
    split at hv
    · obtain ⟨a, e1, e2, e3, e4⟩ := hv
      rename_i hf
      rw [if_pos hf]
      exact ⟨a, e1, r1.made p1 eds mr hn1 e2 e3 e4⟩
    · rename_i hf
      rw [if_neg hf]
      exact hv
  · rw [em] at po
    rw [hm] at mr
    have mr := mr.cut hdl len.symm
    exact x y _ c dd F2 H2 (r1.called p1 eds hn1 (fun a z => .inl z) po mr) hx k
def dCallT (f : FS) (os : List Op9) (fd : DE) (cs : List D) : DE := fun X env Q => evs os X env fun ps e => fd X e fun d e2 => match argsOf (e2 ++ [.ow false d]) (ps ++ [.inr e2.length]) with
  | some ds => f.sp (ds ++ cs) (fun r nd => Q r ((putMus (e2 ++ [.ow false d]) (ps ++ [.inr e2.length]) nd).take e2.length)) (fun _ _ => False)
  | none => False
theorem RelPs.wide {x : Option V} : ∀ {ps : List P9} {vs : List V}, RelPs K σ F ps vs → RelPs K (σ ++ [x]) F ps vs
  | _, _, .nil => .nil
  | _, _, .cons (p := .inl _) h t => .cons (show RelP K (σ ++ [x]) F (.inl _) _ from h) (RelPs.wide t)
  | _, _, .cons (p := .inr i) (v := v) h t => .cons (show (σ ++ [x])[i]? = some (some v) by
      have h : σ[i]? = some (some v) := h
      rw [List.getElem?_append_left (List.getElem?_eq_some_iff.mp h).1]
      exact h) (RelPs.wide t)
theorem RelPs.lt : ∀ {ps : List P9} {vs : List V}, RelPs K σ F ps vs → ∀ i ∈ slots ps, i < σ.length
  | _, _, .nil, _, h => nomatch h
  | _, _, .cons (p := .inl _) _ t, i, h => RelPs.lt t i h
  | _, _, .cons (p := .inr j) (v := v) h0 t, i, h => by
    rcases List.mem_cons.mp h with e | h
    · have h0 : σ[j]? = some (some v) := h0
      rw [e]
      exact (List.getElem?_eq_some_iff.mp h0).1
    · exact RelPs.lt t i h
theorem sim_callT {f : FS} {os : List Op9} {fd : DE} {cs : List D} {t : TA} {E : XK} (so : SimOsT K W os fd cs t) (hm : f.ms = os.map opS ++ true :: cs.map fun _ => false) (hn : (opSlots os).Nodup)
    (hE : ∀ c dd σ H', W0 c dd σ H' → E c dd H') (hf : f.fr = false) : SimE K W (dCallT f os fd cs) (tCall (f.to K) [] E t) := ⟨fun {G L env σ F H X9 Q9 Q} r h q x => by
  refine so.run x r h fun ps d e2 vs a ws F1 H1 r1 s1 p1 m1 l1 f1 hw h1 => ?_
  split at h1
  · rename_i ds eds
    have r2 := r1.plusT f1
    have hl := r1.len
    have p2 : RelPs K (σ ++ [some (.ref a)]) F1 (ps ++ [.inr e2.length]) (vs ++ [.ref a]) := p1.wide.app (.cons (show (σ ++ [some (V.ref a)])[e2.length]? = some (some (.ref a)) by rw [hl, List.getElem?_append_right (Nat.le_refl _), Nat.sub_self]; rfl) .nil)
    have hn2 : (slots (ps ++ [.inr e2.length])).Nodup := by
      rw [slots_app, l1]
      show (opSlots os ++ [e2.length]).Nodup
      rw [List.nodup_append]
      refine ⟨hn, by simp, fun i hi j hj e => ?_⟩
      rw [← l1] at hi
      have := p1.lt i hi
      have e' : j = e2.length := List.mem_singleton.mp hj
      omega
    have back : ∀ {e : Sls} {F2 H2 : Hp}, R K G L e (σ ++ [some (.ref a)]) F2 H2 → R K G L (e.take e2.length) σ F2 H2 := fun {e F2 H2} r3 => by
      rw [hl]
      exact r3.minusT (by rw [r3.len, List.length_append]; rfl)
    have key := call_tail (f := f) (dvs := ws) (dds := cs) (E := E) (Q := Q) (X9 := X0) (Q9 := fun y e => Q9 y (e.take e2.length)) r2 p2 eds (by rw [hm, List.map_append, m1, List.append_assoc]; rfl) hw hn2 h1
      (fun y e v F2 H2 r3 s3 hv k => q y _ v F2 H2 (back r3) (s1.trans s3) (by rw [hf] at hv; exact hv) k) (fun z e c dd F2 H2 r3 hx k => k.elim)
    rw [List.append_nil]
    rw [List.append_assoc] at key
    exact key
  · exact h1.elim⟩
end
end Dv

set_option maxHeartbeats 4000000
/-! zip of lists and tuples, mixed: what is walked is a list or a tuple, by a flag -/
namespace SkZ
open PySem RZ
open PySem.Sem (wp)
def SIt : Bool → Heap → Addr → Addr → Nat → Prop
  | true, h, it, l, i => h.IsTupleIter it l i
  | false, h, it, l, i => h.IsListIter it l i
def SIs : Bool → Heap → Addr → Array Value → Prop
  | true, h, l, xs => h.IsTuple l xs
  | false, h, l, xs => h.IsList l xs
theorem SIt.extBut {b : Bool} {h h' : Heap} {a c l : Addr} {i : Nat} (x : SIt b h a l i) (hs : Heap.ExtBut c h h') (n : a ≠ c) : SIt b h' a l i := match b, x with
  | true, x => Heap.IsTupleIter.extBut x hs n
  | false, x => Heap.IsListIter.extBut x hs n
theorem SIs.extBut {b : Bool} {h h' : Heap} {a c : Addr} {xs : Array Value} (x : SIs b h a xs) (hs : Heap.ExtBut c h h') (n : a ≠ c) : SIs b h' a xs := match b, x with
  | true, x => Heap.IsTuple.extBut x hs n
  | false, x => Heap.IsList.extBut x hs n
theorem SIt.at {b : Bool} {h h' : Heap} {a l : Addr} {i : Nat} (x : SIt b h a l i) (e : ∀ o, h.get? a = some o → h'.get? a = some o) : SIt b h' a l i := match b, x with
  | true, ⟨o, ho, r⟩ => ⟨o, e o ho, r⟩
  | false, ⟨o, ho, r⟩ => ⟨o, e o ho, r⟩
theorem SIt.lt {b : Bool} {h : Heap} {a l : Addr} {i : Nat} (x : SIt b h a l i) : a < h.objs.size := match b, x with
  | true, ⟨_, ho, _⟩ => Heap.lt_size ho
  | false, ⟨_, ho, _⟩ => Heap.lt_size ho
section
variable {prog : Program} {w : World} {A : Around} {E : Value → Shared → Prop} {s : Shared} {b b1 b2 : Bool}
theorem next_src {it l : Addr} {i : Nat} {items : Array Value} {x : Value} {Q : Value → Shared → Prop} (hit : SIt b s.heap it l i) (hl : SIs b s.heap l items) (hx : items[i]? = some x)
    (hQ : ∀ h', SIt b h' it l (i + 1) → Heap.SameBut it s.heap h' → Q x { s with heap := h' }) : wpAny (model prog w) A (Builtin.SmallTypes.nextOf (.ref it)) Q E s := match b, hit, hl, hQ with
  | true, hit, hl, hQ => nextOf_tuple_item hit hl hx hQ
  | false, hit, hl, hQ => wpAny_nextOf_list_item hit hl hx hQ
theorem end_src {it l : Addr} {i : Nat} {items : Array Value} {Q : Value → Shared → Prop} (hh : A.handled = none) (hit : SIt b s.heap it l i) (hl : SIs b s.heap l items) (hx : items[i]? = none)
    (hE : ∀ h' e, Heap.ExtBut it s.heap h' → (∃ o, h'.get? e = some o ∧ o.cls = .type "StopIteration") → E (.ref e) { s with heap := h' }) : wpAny (model prog w) A (Builtin.SmallTypes.nextOf (.ref it)) Q E s := match b, hit, hl with
  | true, hit, hl => nextOf_tuple_end hh hit hl hx hE
  | false, hit, hl => wpAny_nextOf_list_end hh hit hl hx hE
theorem zipM_next_item {z TI TO i1 i2 l1 l2 : Addr} {k1 k2 : Nat} {xs ys : Array Value} {x y a b : Value} {Q : Value → Shared → Prop} (D : ZipApart z TI TO i1 i2 l1 l2)
    (hz : IsZip s.heap z TI TO .none) (hTI : IsPair s.heap TI (.ref i1) (.ref i2)) (hTO : IsPair s.heap TO a b)
    (h1 : SIt b1 s.heap i1 l1 k1) (h2 : SIt b2 s.heap i2 l2 k2) (hl1 : SIs b1 s.heap l1 xs) (hl2 : SIs b2 s.heap l2 ys) (hx : xs[k1]? = some x) (hy : ys[k2]? = some y)
    (hQ : ∀ h', IsZip h' z TI TO (rawInt s.heap.objs.size) → IsPair h' TO x y → SIt b1 h' i1 l1 (k1 + 1) → SIt b2 h' i2 l2 (k2 + 1) → IsPair h' s.heap.objs.size x y → h'.objs.size = s.heap.objs.size + 1 →
      (∀ c o, c ≠ z → c ≠ TO → c ≠ i1 → c ≠ i2 → s.heap.get? c = some o → h'.get? c = some o) → Q (.ref s.heap.objs.size) { s with heap := h' }) :
    wpAny (model prog w) A (Builtin.«zip.__next__» ⟨[.ref z], []⟩) (fun fin s' => ∃ v, fin = .done (.ret v) ∧ Q v s') E s := by
  show wpAny _ _ (field (.ref z) 2 >>= _) _ _ _
  refine wpAny_bind (wpAny_field hz rfl (x := .bool false) rfl ?_)
  show wpAny _ _ (field (.ref z) 3 >>= _) _ _ _
  refine wpAny_bind (wpAny_field hz rfl (x := .ref TI) rfl ?_)
  refine wpAny_bind (wpAny_seqItems hTI rfl ?_)
  show wpAny _ _ (Builtin.SmallTypes.ownedTupleIsFree (.ref z) >>= _) _ _ _
  refine wpAny_bind ?_
  unfold Builtin.SmallTypes.ownedTupleIsFree
  refine wpAny_bind (wpAny_field hz rfl (x := .none) rfl (wpAny_pure ?_))
  simp only [if_true]
  refine wpAny_bind (wpAny_rule ?_)
  refine wpAny_bind (wpAny_field hz rfl (x := .ref TO) rfl ?_)
  refine wpAny_bind (wpAny_setField_rec hz (by simp) fun h₁ hz₁ hs₁ => ?_)
  replace hz₁ : IsZip h₁ z TI TO .ellipsis := hz₁
  refine wpAny_bind ?_
  simp only [List.zipIdx_cons, List.zipIdx_nil, List.forIn_cons, List.forIn_nil]

  refine wpAny_bind (wpAny_bind (wpAny_onRaise ?_))
  show wpAny _ _ (Builtin.SmallTypes.nextOf (.ref i1) >>= _) _ _ _
  refine wpAny_bind (next_src (h1.extBut hs₁.extBut D.i1z) (hl1.extBut hs₁.extBut D.l1z) hx fun h₂ h1₂ hs₂ => wpAny_pure ?_)
  have hTO₂ : IsPair h₂ TO a b := hs₂.extBut _ _ D.TOi1 (hs₁.extBut _ _ D.TOz hTO)
  refine wpAny_bind (wpAny_seqItems hTO₂ rfl ?_)
  refine wpAny_bind (wpAny_updateSeq_pair hTO₂ fun h₃ hTO₃ hs₃ => ?_)
  replace hTO₃ : IsPair h₃ TO x b := hTO₃
  refine wpAny_bind (wpAny_letGo (wpAny_pure ?_))

  refine wpAny_bind (wpAny_bind (wpAny_onRaise ?_))
  show wpAny _ _ (Builtin.SmallTypes.nextOf (.ref i2) >>= _) _ _ _
  refine wpAny_bind (next_src (((h2.extBut hs₁.extBut D.i2z).extBut hs₂.extBut D.i12.symm).extBut hs₃.extBut D.TOi2.symm)
    (((hl2.extBut hs₁.extBut D.l2z).extBut hs₂.extBut D.l2i1).extBut hs₃.extBut D.l2TO) hy fun h₄ h2₄ hs₄ => wpAny_pure ?_)
  have hTO₄ : IsPair h₄ TO x b := hs₄.extBut _ _ D.TOi2 hTO₃
  refine wpAny_bind (wpAny_seqItems hTO₄ rfl ?_)
  refine wpAny_bind (wpAny_updateSeq_pair hTO₄ fun h₅ hTO₅ hs₅ => ?_)
  replace hTO₅ : IsPair h₅ TO x y := hTO₅
  refine wpAny_bind (wpAny_letGo (wpAny_pure (wpAny_pure ?_)))

  refine wpAny_bind (wpAny_seqItems hTO₅ rfl ?_)
  refine wpAny_bind (wpAny_newTuple ?_)
  have hsz : h₅.objs.size = s.heap.objs.size := by rw [hs₅.1, hs₄.1, hs₃.1, hs₂.1, hs₁.1]
  have hz₅ : IsZip h₅ z TI TO .ellipsis := hs₅.extBut _ _ D.TOz.symm (hs₄.extBut _ _ D.i2z.symm (hs₃.extBut _ _ D.TOz.symm (hs₂.extBut _ _ D.i1z.symm hz₁)))
  have hk₅ : ∀ c o, c ≠ z → c ≠ TO → c ≠ i1 → c ≠ i2 → s.heap.get? c = some o → h₅.get? c = some o := fun c o c1 c2 c3 c4 e =>
    hs₅.extBut _ _ c2 (hs₄.extBut _ _ c4 (hs₃.extBut _ _ c2 (hs₂.extBut _ _ c3 (hs₁.extBut _ _ c1 e))))
  have h1₅ : SIt b1 h₅ i1 l1 (k1 + 1) := ((h1₂.extBut hs₃.extBut D.TOi1.symm).extBut hs₄.extBut D.i12).extBut hs₅.extBut D.TOi1.symm
  have h2₅ : SIt b2 h₅ i2 l2 (k2 + 1) := h2₄.extBut hs₅.extBut D.TOi2.symm
  have hzlt : z < h₅.objs.size := Heap.lt_size hz₅
  have hTOlt : TO < h₅.objs.size := Heap.lt_size hTO₅
  have hi1lt : i1 < h₅.objs.size := h1₅.lt
  have hi2lt : i2 < h₅.objs.size := h2₅.lt
  show wpAny _ _ (Builtin.SmallTypes.ownedTupleHandOut (.ref z) (.ref h₅.objs.size) >>= _) _ _ _
  refine wpAny_bind ?_
  unfold Builtin.SmallTypes.ownedTupleHandOut
  have hz₆ : IsZip (h₅.push { cls := .type "tuple", data := .seq #[x, y] }) z TI TO .ellipsis := Heap.get?_push_of_some _ hz₅
  refine wpAny_bind (wpAny_setField_rec hz₆ (by simp) fun h₇ hz₇ hs₇ => ?_)
  replace hz₇ : IsZip h₇ z TI TO (rawInt h₅.objs.size) := hz₇
  refine wpAny_setField_rec hz₇ (by simp) fun h₈ hz₈ hs₈ => ?_
  replace hz₈ : IsZip h₈ z TI TO (rawInt h₅.objs.size) := hz₈
  have up : ∀ c o, c ≠ z → h₅.get? c = some o → h₈.get? c = some o := fun c o c1 e => hs₈.extBut _ _ c1 (hs₇.extBut _ _ c1 (Heap.get?_push_of_some _ e))
  have hT₈ : IsPair h₈ h₅.objs.size x y := hs₈.extBut _ _ (Nat.ne_of_gt hzlt) (hs₇.extBut _ _ (Nat.ne_of_gt hzlt) (Heap.get?_push_size _ rfl))
  have hz8 : h₈.objs.size = h₅.objs.size + 1 := by rw [hs₈.1, hs₇.1, Heap.size_push]
  rw [hsz] at hz₈ hT₈ hz8
  refine wpAny_pure ⟨_, rfl, ?_⟩
  show Q (.ref h₅.objs.size) _
  rw [hsz]
  exact hQ h₈ hz₈ (up _ _ D.TOz hTO₅) (h1₅.at fun o e => up _ o D.i1z e) (h2₅.at fun o e => up _ o D.i2z e) hT₈ hz8 fun c o c1 c2 c3 c4 e => up c o c1 (hk₅ c o c1 c2 c3 c4 e)

theorem zipM_next_end {z TI TO i1 i2 l1 l2 : Addr} {k1 k2 : Nat} {xs ys : Array Value} {a b : Value} {Q : Fin → Shared → Prop} (hh : A.handled = none) (D : ZipApart z TI TO i1 i2 l1 l2)
    (hz : IsZip s.heap z TI TO .none) (hTI : IsPair s.heap TI (.ref i1) (.ref i2)) (hTO : IsPair s.heap TO a b)
    (h1 : SIt b1 s.heap i1 l1 k1) (h2 : SIt b2 s.heap i2 l2 k2) (hl1 : SIs b1 s.heap l1 xs) (hl2 : SIs b2 s.heap l2 ys) (hend : xs[k1]? = none ∨ ys[k2]? = none)
    (hE : ∀ h' e, (∀ c o, c ≠ z → c ≠ TO → c ≠ i1 → c ≠ i2 → s.heap.get? c = some o → h'.get? c = some o) → (∃ o, h'.get? e = some o ∧ o.cls = .type "StopIteration") → E (.ref e) { s with heap := h' }) :
    wpAny (model prog w) A (Builtin.«zip.__next__» ⟨[.ref z], []⟩) Q E s := by
  show wpAny _ _ (field (.ref z) 2 >>= _) _ _ _
  refine wpAny_bind (wpAny_field hz rfl (x := .bool false) rfl ?_)
  show wpAny _ _ (field (.ref z) 3 >>= _) _ _ _
  refine wpAny_bind (wpAny_field hz rfl (x := .ref TI) rfl ?_)
  refine wpAny_bind (wpAny_seqItems hTI rfl ?_)
  show wpAny _ _ (Builtin.SmallTypes.ownedTupleIsFree (.ref z) >>= _) _ _ _
  refine wpAny_bind ?_
  unfold Builtin.SmallTypes.ownedTupleIsFree
  refine wpAny_bind (wpAny_field hz rfl (x := .none) rfl (wpAny_pure ?_))
  simp only [if_true]
  refine wpAny_bind (wpAny_rule ?_)
  refine wpAny_bind (wpAny_field hz rfl (x := .ref TO) rfl ?_)
  refine wpAny_bind (wpAny_setField_rec hz (by simp) fun h₁ hz₁ hs₁ => ?_)
  replace hz₁ : IsZip h₁ z TI TO .ellipsis := hz₁
  refine wpAny_bind ?_
  simp only [List.zipIdx_cons, List.zipIdx_nil, List.forIn_cons, List.forIn_nil]
  refine wpAny_bind (wpAny_bind (wpAny_onRaise ?_))
  show wpAny _ _ (Builtin.SmallTypes.nextOf (.ref i1) >>= _) _ _ _
  cases hx : xs[k1]? with
  | none =>
    refine wpAny_bind (end_src hh (h1.extBut hs₁.extBut D.i1z) (hl1.extBut hs₁.extBut D.l1z) hx fun h₂ e hs₂ he => ?_)
    obtain ⟨oe, hoe, hce⟩ := he
    have hz₂ : IsZip h₂ z TI TO .ellipsis := hs₂ _ _ D.i1z.symm hz₁
    have hez : e ≠ z := fun x => by subst x; rw [hz₂] at hoe; cases hoe; simp at hce
    refine wpAny_setField_rec hz₂ (by simp) fun h₃ _ hs₃ => hE h₃ e (fun c o c1 _ c3 _ x => hs₃.extBut _ _ c1 (hs₂ _ _ c3 (hs₁.extBut _ _ c1 x))) ⟨oe, hs₃.extBut _ _ hez hoe, hce⟩
  | some x =>
    have hy : ys[k2]? = none := by rcases hend with h | h; rw [hx] at h; cases h; exact h
    refine wpAny_bind (next_src (h1.extBut hs₁.extBut D.i1z) (hl1.extBut hs₁.extBut D.l1z) hx fun h₂ h1₂ hs₂ => wpAny_pure ?_)
    have hTO₂ : IsPair h₂ TO a b := hs₂.extBut _ _ D.TOi1 (hs₁.extBut _ _ D.TOz hTO)
    refine wpAny_bind (wpAny_seqItems hTO₂ rfl ?_)
    refine wpAny_bind (wpAny_updateSeq_pair hTO₂ fun h₃ hTO₃ hs₃ => ?_)
    refine wpAny_bind (wpAny_letGo (wpAny_pure ?_))
    refine wpAny_bind (wpAny_bind (wpAny_onRaise ?_))
    show wpAny _ _ (Builtin.SmallTypes.nextOf (.ref i2) >>= _) _ _ _
    refine wpAny_bind (end_src hh (((h2.extBut hs₁.extBut D.i2z).extBut hs₂.extBut D.i12.symm).extBut hs₃.extBut D.TOi2.symm)
      (((hl2.extBut hs₁.extBut D.l2z).extBut hs₂.extBut D.l2i1).extBut hs₃.extBut D.l2TO) hy fun h₄ e hs₄ he => ?_)
    obtain ⟨oe, hoe, hce⟩ := he
    have hz₄ : IsZip h₄ z TI TO .ellipsis := hs₄ _ _ D.i2z.symm (hs₃.extBut _ _ D.TOz.symm (hs₂.extBut _ _ D.i1z.symm hz₁))
    have hez : e ≠ z := fun x => by subst x; rw [hz₄] at hoe; cases hoe; simp at hce
    refine wpAny_setField_rec hz₄ (by simp) fun h₅ _ hs₅ => hE h₅ e (fun c o c1 c2 c3 c4 x => hs₅.extBut _ _ c1 (hs₄ _ _ c4 (hs₃.extBut _ _ c2 (hs₂.extBut _ _ c3 (hs₁.extBut _ _ c1 x))))) ⟨oe, hs₅.extBut _ _ hez hoe, hce⟩

theorem pyNext_zipM_item {z TI TO i1 i2 l1 l2 : Addr} {k1 k2 : Nat} {xs ys : Array Value} {x y a b : Value} {Q : Option Value → Shared → Prop} (D : ZipApart z TI TO i1 i2 l1 l2)
    (hz : IsZip s.heap z TI TO .none) (hTI : IsPair s.heap TI (.ref i1) (.ref i2)) (hTO : IsPair s.heap TO a b)
    (h1 : SIt b1 s.heap i1 l1 k1) (h2 : SIt b2 s.heap i2 l2 k2) (hl1 : SIs b1 s.heap l1 xs) (hl2 : SIs b2 s.heap l2 ys) (hx : xs[k1]? = some x) (hy : ys[k2]? = some y)
    (hQ : ∀ h', IsZip h' z TI TO (rawInt s.heap.objs.size) → IsPair h' TO x y → SIt b1 h' i1 l1 (k1 + 1) → SIt b2 h' i2 l2 (k2 + 1) → IsPair h' s.heap.objs.size x y → h'.objs.size = s.heap.objs.size + 1 →
      (∀ c o, c ≠ z → c ≠ TO → c ≠ i1 → c ≠ i2 → s.heap.get? c = some o → h'.get? c = some o) → Q (some (.ref s.heap.objs.size)) { s with heap := h' }) :
    wpAny (model prog w) A (pyNext (.ref z)) Q E s := by
  have hT : s.TypeIs (.ref z) "zip" := ⟨_, hz, rfl⟩
  unfold pyNext
  exact wpAny_bind (wpAny_attempt (wpAny_callSpecial?_slot (name := Str.ofString "__next__") hT F.slot_zip_next
    (wpAny_call_entry F.slot_zip_next hT F.entry_zip_next
      (zipM_next_item D hz hTI hTO h1 h2 hl1 hl2 hx hy fun h' a1 a2 a3 a4 a5 a6 a7 => wpAny_pure (hQ h' a1 a2 a3 a4 a5 a6 a7)) (F.args_zip_next_1 _))))

theorem pyNext_zipM_end {z TI TO i1 i2 l1 l2 : Addr} {k1 k2 : Nat} {xs ys : Array Value} {a b : Value} {Q : Option Value → Shared → Prop} (hh : A.handled = none) (D : ZipApart z TI TO i1 i2 l1 l2)
    (hz : IsZip s.heap z TI TO .none) (hTI : IsPair s.heap TI (.ref i1) (.ref i2)) (hTO : IsPair s.heap TO a b)
    (h1 : SIt b1 s.heap i1 l1 k1) (h2 : SIt b2 s.heap i2 l2 k2) (hl1 : SIs b1 s.heap l1 xs) (hl2 : SIs b2 s.heap l2 ys) (hend : xs[k1]? = none ∨ ys[k2]? = none)
    (hQ : ∀ h', (∀ c o, c ≠ z → c ≠ TO → c ≠ i1 → c ≠ i2 → s.heap.get? c = some o → h'.get? c = some o) → Q none { s with heap := h' }) : wpAny (model prog w) A (pyNext (.ref z)) Q E s := by
  have hT : s.TypeIs (.ref z) "zip" := ⟨_, hz, rfl⟩
  unfold pyNext
  refine wpAny_bind (wpAny_attempt (wpAny_callSpecial?_slot (name := Str.ofString "__next__") hT F.slot_zip_next
    (wpAny_call_entry F.slot_zip_next hT F.entry_zip_next (zipM_next_end hh D hz hTI hTO h1 h2 hl1 hl2 hend fun h' e hk he => ?_) (F.args_zip_next_1 _))))
  obtain ⟨o, ho, hc⟩ := he
  refine wpAny_bind (wpAny_isInstance (T := "StopIteration") (b := true) ⟨o, ho, hc⟩ isSubtype_stop ?_)
  exact wpAny_pure (hQ _ hk)
end
abbrev zipMH1 (h : Heap) (l1 : Addr) : Heap := h.push { cls := .type "tuple_iterator", data := .fields #[.ref l1, .int 0 0] }
abbrev zipMH2 (h : Heap) (l1 l2 : Addr) : Heap := (zipMH1 h l1).push { cls := .type "list_iterator", data := .fields #[.ref l2, .int 0 0] }
abbrev zipMH3 (h : Heap) (l1 l2 : Addr) : Heap := (zipMH2 h l1 l2).push { cls := .type "tuple", data := .seq #[.ref h.objs.size, .ref (zipMH1 h l1).objs.size] }
abbrev zipMH4 (h : Heap) (l1 l2 : Addr) : Heap := (zipMH3 h l1 l2).push { cls := .type "tuple", data := .seq #[.none, .none] }
abbrev zipMH5 (h : Heap) (l1 l2 : Addr) : Heap := (zipMH4 h l1 l2).push { cls := .type "zip", data := .fields #[.none, .bool false, .bool false, .ref (zipMH2 h l1 l2).objs.size, .ref (zipMH3 h l1 l2).objs.size] }

theorem meets_zipM_new (l1 l2 : Addr) (xs ys : Array Value) :
    Meets (Builtin.«zip.__new__» ⟨[.type "zip", .ref l1, .ref l2], []⟩) (fun _ R s => s.heap.IsTuple l1 xs ∧ s.heap.IsList l2 ys ∧
      R (.ok (.ret (.ref (zipMH4 s.heap l1 l2).objs.size))) { s with heap := zipMH5 s.heap l1 l2 }) :=
  .of_wp fun prog w A R s h => by
    obtain ⟨hp, g, d, tk, os⟩ := s; obtain ⟨hl1, hl2, h⟩ := h
    have hsub := sub_zip
    have hL1 : Heap.IsTuple (Shared.heap ⟨hp, g, d, tk, os⟩) l1 xs := hl1
    have hL2 : Heap.IsList (Shared.heap ⟨hp.push { cls := .type "tuple_iterator", data := .fields #[.ref l1, .int 0 0] }, g, d, tk, os⟩) l2 ys := Heap.IsList.push hl2 _
    wp_walk using wpAny_pyIter_tuple hL1, wpAny_pyIter_list hL2
    exact ⟨_, rfl, h⟩

section
variable {prog : Program} {w : World} {A : Around} {E : Value → Shared → Prop} {s : Shared}

theorem call_zipM {l1 l2 : Addr} {xs ys : Array Value} {Q : Value → Shared → Prop} (hl1 : s.heap.IsTuple l1 xs) (hl2 : s.heap.IsList l2 ys)
    (h : ∀ h', IsZip h' (s.heap.objs.size + 4) (s.heap.objs.size + 2) (s.heap.objs.size + 3) .none → IsPair h' (s.heap.objs.size + 2) (.ref s.heap.objs.size) (.ref (s.heap.objs.size + 1)) →
      IsPair h' (s.heap.objs.size + 3) .none .none → h'.IsTupleIter s.heap.objs.size l1 0 → h'.IsListIter (s.heap.objs.size + 1) l2 0 → h'.objs.size = s.heap.objs.size + 5 →
      (∀ c o, s.heap.get? c = some o → h'.get? c = some o) → Q (.ref (s.heap.objs.size + 4)) { s with heap := h' }) :
    wpAny (model prog w) A (call (.type "zip") [.ref l1, .ref l2]) Q E s := by
  refine callType_new F.called_zip (by decide) (F.typeCall_zip_2 _ _) (F.newCall_zip_2 _ _) (fun obj => F.args_object_init_3 obj _ _) F.entry_zip_new
    (meets_zipM_new l1 l2 xs ys) ⟨hl1, hl2, ?_⟩
  have z1 : (zipMH1 s.heap l1).objs.size = s.heap.objs.size + 1 := Heap.size_push ..
  have z2 : (zipMH2 s.heap l1 l2).objs.size = s.heap.objs.size + 2 := by rw [Heap.size_push, z1]
  have z3 : (zipMH3 s.heap l1 l2).objs.size = s.heap.objs.size + 3 := by rw [Heap.size_push, z2]
  have z4 : (zipMH4 s.heap l1 l2).objs.size = s.heap.objs.size + 4 := by rw [Heap.size_push, z3]
  have z5 : (zipMH5 s.heap l1 l2).objs.size = s.heap.objs.size + 5 := by rw [Heap.size_push, z4]
  have g5 : (zipMH5 s.heap l1 l2).get? (zipMH4 s.heap l1 l2).objs.size = some _ := Heap.get?_push_size _ rfl
  have g4 : (zipMH5 s.heap l1 l2).get? (zipMH3 s.heap l1 l2).objs.size = some _ := Heap.get?_push_of_some _ (Heap.get?_push_size _ rfl)
  have g3 : (zipMH5 s.heap l1 l2).get? (zipMH2 s.heap l1 l2).objs.size = some _ := Heap.get?_push_of_some _ (Heap.get?_push_of_some _ (Heap.get?_push_size _ rfl))
  have g2 : (zipMH5 s.heap l1 l2).get? (zipMH1 s.heap l1).objs.size = some _ := Heap.get?_push_of_some _ (Heap.get?_push_of_some _ (Heap.get?_push_of_some _ (Heap.get?_push_size _ rfl)))
  have g1 : (zipMH5 s.heap l1 l2).get? s.heap.objs.size = some _ := Heap.get?_push_of_some _ (Heap.get?_push_of_some _ (Heap.get?_push_of_some _ (Heap.get?_push_of_some _ (Heap.get?_push_size _ rfl))))
  show _ ∧ _
  rw [z2, z3, z4] at g5
  rw [z1, z2] at g3
  rw [z3] at g4
  rw [z1] at g2
  rw [z4]
  exact ⟨⟨_, g5, rfl⟩, h _ g5 g3 g4 ⟨_, g1, rfl, rfl⟩ ⟨_, g2, rfl, rfl⟩ z5 fun c o x =>
    Heap.get?_push_of_some _ (Heap.get?_push_of_some _ (Heap.get?_push_of_some _ (Heap.get?_push_of_some _ (Heap.get?_push_of_some _ x))))⟩
end
end SkZ
namespace SkZ
open PySem PySem.Spec PyProof.Rows L2 RZ
def ItzM (K : PySem.W.Frag) (a b : Addr) : It :=
  ⟨fun i H => ∃ (xs ys : List V) (x y : V), SqT K H a xs ∧ SqL K H b ys ∧ xs[i]? = some x ∧ ys[i]? = some y,
    fun i H v H' => ∃ T x y, v = .ref T ∧ H T = none ∧ H' = upd H T (.tup [x, y]) ∧ (∀ xs, SqT K H a xs → xs[i]? = some x) ∧ ∀ ys, SqL K H b ys → ys[i]? = some y,
    fun i H => ∃ xs ys : List V, SqT K H a xs ∧ SqL K H b ys ∧ (xs.length ≤ i ∨ ys.length ≤ i)⟩
theorem turn_zipM {P : Program} {w : World} {K : PySem.W.Frag} {elts : List Expr} {kk : Nat} {tpos : Pos} {a b z TI TO i1 i2 : Addr} (D : ZipApart z TI TO i1 i2 a b) :
    Turn P w K (.Tuple elts kk tpos) (ItzM K a b) [z, TI, TO, i1, i2] z (fun i h => IsZip h z TI TO .none ∧ IsPair h TI (.ref i1) (.ref i2) ∧ (∃ x y, IsPair h TO x y) ∧ SIt true h i1 a i ∧ SIt false h i2 b i) where
  mem := by simp
  obj := fun i h st c hc => by
    obtain ⟨hz, hTI, ⟨x, y, hTO⟩, ⟨o1, e1, _, d1⟩, ⟨o2, e2, _, d2⟩⟩ := st
    have e' : c = z ∨ c = TI ∨ c = TO ∨ c = i1 ∨ c = i2 := by simpa using hc
    rcases e' with q | q | q | q | q
    · rw [q]; exact ⟨_, hz, fun v q => nomatch q⟩
    · rw [q]; exact ⟨_, hTI, fun v q => nomatch q⟩
    · rw [q]; exact ⟨_, hTO, fun v q => nomatch q⟩
    · rw [q]; exact ⟨o1, e1, fun v q => by rw [d1] at q; cases q⟩
    · rw [q]; exact ⟨o2, e2, fun v q => by rw [d2] at q; cases q⟩
  keep := fun i h h' st k => by
    obtain ⟨hz, hTI, ⟨x, y, hTO⟩, h1, h2⟩ := st
    exact ⟨k z (by simp) _ hz, k TI (by simp) _ hTI, ⟨x, y, k TO (by simp) _ hTO⟩, h1.at fun o q => k i1 (by simp) o q, h2.at fun o q => k i2 (by simp) o q⟩
  item := by
    intro X hP hw hK hc i pins s σ H E I hf st hg
    subst hP hw hK
    obtain ⟨hz, hTI, ⟨x0, y0, hTO⟩, h1, h2⟩ := st
    obtain ⟨xs, ys, x, y, hqx, hqy, hx, hy⟩ := hg
    obtain ⟨its, rv, p, _⟩ := I.tuple hqx
    obtain ⟨its2, rv2, p2, _⟩ := I.list hqy
    obtain ⟨u, hu, ru⟩ := rv.get hx
    obtain ⟨u2, hu2, ru2⟩ := rv2.get hy
    have hzl : z < s.heap.objs.size := Heap.lt_size hz
    refine pyNext_zipM_item (b1 := true) (b2 := false) D hz hTI hTO h1 h2 p p2.isList (x := u) (y := u2) (by simpa using hu) (by simpa using hu2) fun h' z' TO' h1' h2' hT hsz hk => ?_
    refine ⟨_, rfl, wpAny_letOwnedTupleGo_zip (s := { s with heap := h' }) z' fun h'' z'' sb => ?_⟩
    have hT2 : h''.get? s.heap.objs.size = some { cls := .type "tuple", data := .seq #[u, u2] } := (sb.2 _ (Nat.ne_of_gt hzl)).trans hT
    have new : ObjOk X.prog X.w (upd H s.heap.objs.size (.tup [x, y])) h'' s.heap.objs.size (.tup [x, y]) :=
      ⟨by show 2 ≤ sizeLine; decide, [u, u2], .cons ru (.cons ru2 .nil), ⟨_, hT2, rfl, _, rfl⟩⟩
    have I1 : Inv X pins σ (upd H s.heap.objs.size (.tup [x, y])) { s with heap := h'' } :=
      I.turnedNew (t' := s.toks) (ch := [z, TI, TO, i1, i2]) (fun c o hb q => (sb.2 c (fun q' => hb (by simp [q']))).trans (hk c o (fun q' => hb (by simp [q'])) (fun q' => hb (by simp [q'])) (fun q' => hb (by simp [q'])) (fun q' => hb (by simp [q'])) q)) hf (Nat.le_refl _) new
    refine ⟨.ref s.heap.objs.size, _, I1, rfl, ⟨_, x, y, rfl, I.hok.fresh (Nat.le_refl _), rfl, fun l hl => by rw [I.tuple_inj hl hqx]; exact hx, fun l hl => by rw [I.list_inj hl hqy]; exact hy⟩, ⟨z'', ?_, ⟨u, u2, ?_⟩, ?_, ?_⟩, fun c hcm => ?_⟩
    · exact (sb.2 _ D.TIz).trans (hk _ _ D.TIz D.TITO D.TIi1 D.TIi2 hTI)
    · exact (sb.2 _ D.TOz).trans TO'
    · exact h1'.at fun o q => (sb.2 _ D.i1z).trans q
    · exact h2'.at fun o q => (sb.2 _ D.i2z).trans q
    · have hlt : c < s.heap.objs.size := by
        have e' : c = z ∨ c = TI ∨ c = TO ∨ c = i1 ∨ c = i2 := by simpa using hcm
        rcases e' with q | q | q | q | q
        · rw [q]; exact hzl
        · rw [q]; exact Heap.lt_size hTI
        · rw [q]; exact Heap.lt_size hTO
        · rw [q]; exact h1.lt
        · rw [q]; exact h2.lt
      rw [upd_ne (Nat.ne_of_lt hlt)]
      exact (hf c hcm).1
  done := by
    intro X hP hw hK hc i pins s σ H E I hf st hg
    subst hP hw hK
    obtain ⟨hz, hTI, ⟨x0, y0, hTO⟩, h1, h2⟩ := st
    obtain ⟨xs, ys, hqx, hqy, hend⟩ := hg
    obtain ⟨its, rv, p, _⟩ := I.tuple hqx
    obtain ⟨its2, rv2, p2, _⟩ := I.list hqy
    have l1 := rv.length
    have l2 := rv2.length
    have he : its.toArray[i]? = none ∨ its2.toArray[i]? = none := by
      rcases hend with q | q
      · exact .inl (by simp; omega)
      · exact .inr (by simp; omega)
    exact pyNext_zipM_end (b1 := true) (b2 := false) (I.ok.hd hc) D hz hTI hTO h1 h2 p p2.isList he fun h' hk => ⟨rfl, I.turnedL (t' := s.toks) (ch := [z, TI, TO, i1, i2]) (fun c o hb q =>
      hk c o (fun q' => hb (by simp [q'])) (fun q' => hb (by simp [q'])) (fun q' => hb (by simp [q'])) (fun q' => hb (by simp [q'])) q) hf⟩
  self := fun A i s Q E st h => wpAny_pyIter_zip st.1 h

/-- zip of a tuple and a list -/
def iZipM (K : PySem.W.Frag) (ta : TA) : TI := fun σ H R => ta σ H fun vs H1 => ∃ a b xs ys, vs = [.ref a, .ref b] ∧ SqT K H1 a xs ∧ SqL K H1 b ys ∧ R (ItzM K a b) H1
theorem pi_zipM {X : Cx} {e e2 : Expr} {ta : TA} {p pos tpos : Pos} {elts : List Expr} {kk : Nat} (hg : Gl X "zip") (hm : X.mg "zip" = none) (ha : PA X [e, e2] ta)
    (hs : starEach [e, e2] X.env = (false, eval e X.env) :: starEach [e2] X.env := by rfl) (hpl : (backTo pos (starEach [e2] X.env)).any (·.1) = false := by rfl) :
    PI X (.Tuple elts kk tpos) (.Call (.Name "zip" p) [e, e2] [] pos) (iZipM X.K ta) := by
  refine ⟨fun pins s σ H R I h => ?_⟩
  refine Call_ (ld_blt I hg hm PyProof.Rows.boot_zip (PyProof.Rows.callWith_type1 (thn (ha.run pos pins s σ H _ I h) fun us s1 ⟨vs, H1, I1, r1, q1⟩ => ?_) hs hpl))
  obtain ⟨a, b, xs, ys, ex, hqx, hqy, q⟩ := q1
  subst ex
  cases r1 with
  | cons r rr =>
    cases rr with
    | cons r' rr =>
      cases rr
      cases r
      cases r'
      have fresh5 : ∀ c, c ∈ [s1.heap.objs.size + 4, s1.heap.objs.size + 2, s1.heap.objs.size + 3, s1.heap.objs.size, s1.heap.objs.size + 1] → FpOk X pins H1 c := fun c hcm => by
        have hle : s1.heap.objs.size ≤ c := by
          simp only [List.mem_cons, List.not_mem_nil, or_false] at hcm
          omega
        exact I1.fpOk hle (I1.hok.fresh hle)
      obtain ⟨its, rv, p1, _⟩ := I1.tuple hqx
      obtain ⟨its2, rv2, p2, _⟩ := I1.list hqy
      obtain ⟨o1, ho1, _⟩ := id p1
      refine call_zipM (show s1.heap.IsTuple a its.toArray from p1) (show s1.heap.IsList b its2.toArray from p2.isList) fun h' hz hTI hTO h1 h2 hsz hk => wpAny_pyIter_zip hz ?_
      have I2 : Inv X pins σ H1 { s1 with heap := h' } := I1.kept (t' := s1.toks) hk
      exact ⟨s1.heap.objs.size + 4, [s1.heap.objs.size + 4, s1.heap.objs.size + 2, s1.heap.objs.size + 3, s1.heap.objs.size, s1.heap.objs.size + 1], _, _, H1, rfl, I2, turn_zipM (PySem.W.ktu_apart s1.heap.objs.size a b (Heap.lt_size ho1) p2.lt), ⟨hz, hTI, ⟨_, _, hTO⟩, h1, h2⟩, fresh5, q⟩
end SkZ
namespace Sk
open PySem PySem.Spec PyProof.Rows L2
theorem pg_tupK {X : Cx} {pos : Pos} {es : List Expr} {k : Nat} {t : TGs} (K : PySem.W.Frag) (n : Nat) (hc : X.calm = true) (h : PGs X es t) (hK : X.K = K := by rfl)
    (hn : (assignEach es X.env).length = n := by rfl) (hst : (assignEach es X.env).findIdx? (·.1) = none := by rfl) : PG X (.Tuple es k pos) (gTup K n t) := hK ▸ pg_tup hc h hn hst
end Sk

set_option maxHeartbeats 4000000
/-! zip in value form; == of tuples by the own == of their things. -/
namespace Dv
open PySem PySem.Spec PyProof.Rows L2 Sk
section
variable {K : PySem.W.Frag} {W : WX} {G : Gh} {L LL : List (Addr × Obj)} {env : Sls} {σ : L2.St} {F F' H H' : Hp} {p a b : Addr} {o : HO} {d x : D} {xs ys : List D} {vs ws : List V}
theorem walk_zipM {n : Nat} (hn : n = min vs.length ws.length) : Walk (SkZ.ItzM K a b) n (fun H => SqT K H a vs ∧ SqL K H b ws) (YPair (fun i => vs[i]?) (fun i => ws[i]?)) := by
  subst hn
  refine ⟨fun i _ hi q => ?_, fun _ q => ⟨vs, ws, q.1, q.2, by omega⟩, fun i H v H' _ q y => ?_⟩
  · have h1 : i < vs.length := by omega
    have h2 : i < ws.length := by omega
    exact ⟨vs, ws, vs[i], ws[i], q.1, q.2, by simp [h1], by simp [h2]⟩
  · obtain ⟨T, x, z, h1, h2, h3, h4, h5⟩ := y
    exact ⟨T, x, z, h1, h2, h3, h4 vs q.1, h5 ws q.2⟩
theorem zip_yield {i : Nat} {v : V} {H3 : Hp} (hx : IsL K F xs vs) (hy : IsL K F ys ws) (r : R K G L env σ F H) (y : YPair (fun i => vs[i]?) (fun i => ws[i]?) i H v H3) : ∃ x F3, (zip9 xs ys)[i]? = some x ∧ R K G L env σ F3 H3 ∧ Same F F3 ∧ Is K F3 x v := by
  obtain ⟨T, x, y, e1, e2, e3, e4, e5⟩ := y
  subst e1 e3
  obtain ⟨dx, h1, h2⟩ := hx.got e4
  obtain ⟨dy, h3, h4⟩ := hy.got e5
  obtain ⟨F3, r3, s3, i3⟩ := pair_new r e2 h2 h4
  exact ⟨_, F3, zip9_get h1 h3, r3, s3, i3⟩
def diZipM (a b : DE) : DI := fun X env Q => a X env fun x e1 => b X e1 fun y e2 => match x, y with
  | .tup xs, .lst ys => Q (zip9 xs ys) e2
  | _, _ => False
theorem simi_zipM {da db : DE} {ta tb : TE} (sa : SimE K W da ta) (sb : SimE K W db tb) : SimI K W (diZipM da db) (SkZ.iZipM K (tCons ta (tCons tb tNil))) := ⟨fun {G L env σ F H X9 Q9 Q} r h q x => sa.run r h (fun u e1 v F1 H1 r1 s1 i1 h1 => sb.run r1 h1 (fun u2 e2 v2 F2 H2 r2 s2 i2 h2 => by
  split at h2
  · have i1 := i1.mono s2
    cases i1 with
    | tup f1 g1 =>
      cases i2 with
      | lst f2 g2 =>
        refine ⟨_, _, _, _, rfl, seesT r2 f1, SqL.of (seesL r2 f2), q _ e2 _ F2 H2 r2 (s1.trans s2) ?_ h2⟩
        refine ⟨fun H => SqT K H _ _ ∧ SqL K H _ _, _, by rw [zip9_len, g1.length, g2.length]; exact walk_zipM rfl, fun G env σ F3 H3 el r s => ⟨seesT r (SqT.ext f1 s), SqL.of (seesL r (s _ _ f2))⟩, fun G i v env σ F3 H3 H4 el hi r s y => zip_yield (g1.mono s) (g2.mono s) r y⟩
  · exact h2.elim) x) x⟩
def diZip (a b : DE) : DI := fun X env Q => a X env fun x e1 => b X e1 fun y e2 => match x, y with
  | .lst xs, .lst ys => Q (zip9 xs ys) e2
  | _, _ => False
theorem simi_zip {da db : DE} {ta tb : TE} (sa : SimE K W da ta) (sb : SimE K W db tb) : SimI K W (diZip da db) (iZip K (tCons ta (tCons tb tNil))) := ⟨fun {G L env σ F H X9 Q9 Q} r h q x => sa.run r h (fun u e1 v F1 H1 r1 s1 i1 h1 => sb.run r1 h1 (fun u2 e2 v2 F2 H2 r2 s2 i2 h2 => by
  split at h2
  · have i1 := i1.mono s2
    cases i1 with
    | lst f1 g1 =>
      cases i2 with
      | lst f2 g2 =>
        refine ⟨_, _, _, _, rfl, SqL.of (seesL r2 f1), SqL.of (seesL r2 f2), q _ e2 _ F2 H2 r2 (s1.trans s2) ?_ h2⟩
        refine ⟨fun H => SqL K H _ _ ∧ SqL K H _ _, _, by rw [zip9_len, g1.length, g2.length]; exact walk_zip rfl, fun G env σ F3 H3 el r s => ⟨SqL.of (seesL r (s _ _ f1)), SqL.of (seesL r (s _ _ f2))⟩, fun G i v env σ F3 H3 H4 el hi r s y => zip_yield (g1.mono s) (g2.mono s) r y⟩
  · exact h2.elim) x) x⟩
/-- the heap grows by what nothing knows -/
theorem at9.same {H' : Hp} (h : at9 L H a o) (s : Same H H') : at9 L H' a o := h.elim (fun h => .inl (s _ _ h)) fun ⟨ob, m, h⟩ => .inr ⟨ob, m, s _ _ h⟩
theorem R.same (r : R K G L env σ F H) (s : Same H H') : R K G L env σ F H' where
  len := r.len
  im := r.im
  ow := fun i m d e => by
    obtain ⟨a, h1, h2, h3, h4⟩ := r.ow i m d e
    exact ⟨a, h1, h2, h3, h4.mono (Same.refl F) fun u q => s _ _ q⟩
  sep := r.sep
  see := fun a u e => (r.see a u e).same s
  pres := fun a u e m => (r.pres a u e m).same s
  mm := fun a m => by
    refine ⟨fun z => ?_, (r.mm a m).2⟩
    cases e : H a with
    | none => exact (r.mm a m).1 e
    | some u =>
      rw [s _ _ e] at z
      cases z
  grow := r.grow
  base := r.base
  lk := fun q hq => by
    obtain ⟨ws, e1, e2⟩ := r.lk q hq
    exact ⟨ws, e1, s _ _ e2⟩
  lk0 := r.lk0
  ext := fun q hq => by
    obtain ⟨e1, e2, e3⟩ := r.ext q hq
    exact ⟨s _ _ e1, e2, e3⟩
/-- == of two tuples of objects of the class c, pairwise equal by their own == -/
def dEqTup (c : Str) (f : FS) (a b : DE) : DE := fun X env Q => a X env fun x e1 => b X e1 fun y e2 => ∃ xs ys, x = .tup xs ∧ y = .tup ys ∧ xs.length = ys.length ∧
  (∀ (i : Nat) (u v : D), xs[i]? = some u → ys[i]? = some v → (∃ fs gs, u = .obj c fs ∧ v = .obj c gs) ∧ ∀ E, f.sp [u, v] (fun z _ => z = .bl true) E) ∧ Q (.bl true) e2
theorem sim_eqTup {X : Cx} {n : Nat} {c : Str} {f : FS} {da db : DE} {ta tb : TE} (hK : X.K = K) (c0 : C8.Met X.prog X.w X.K X.mg X.base n (He.ga K c) "__eq__" (f.to K) []) (ic : IsiC X.K (He.ga K c)) (hm : f.ms = [false, false]) (hf : f.fr = false) (sa : SimE K W da ta) (sb : SimE K W db tb) :
    SimE K W (dEqTup c f da db) (tOp (rTupS X n true) ta tb) := ⟨fun {G L env σ F H X9 Q9 Q} r h q x => sa.run r h (fun u e1 v F1 H1 r1 s1 i1 h1 => sb.run r1 h1 (fun u2 e2 v2 F2 H2 r2 s2 i2 h2 => by
  subst hK
  obtain ⟨xs, ys, rfl, rfl, hl, he, h2⟩ := h2
  have i1 := i1.mono s2
  cases i1 with
  | tup f1 g1 =>
    cases i2 with
    | tup f2 g2 =>
      refine ⟨_, _, _, _, rfl, rfl, seesT r2 f1, seesT r2 f2, by rw [← g1.length, ← g2.length]; exact hl, fun i z w hz hw => ?_, fun H' sm => q _ e2 _ F2 H' (r2.same sm) (s1.trans s2) .bl h2⟩
      obtain ⟨u, hu, iu⟩ := g1.got hz
      obtain ⟨v, hv, iv⟩ := g2.got hw
      obtain ⟨⟨fs, gs, rfl, rfl⟩, sp⟩ := he i u v hu hv
      obtain ⟨a, dx, ws1, rfl, ha, hw1⟩ := Pk.obj r2.sees (.inl iu)
      obtain ⟨b, dy, ws2, rfl, hb, hw2⟩ := Pk.obj r2.sees (.inl iv)
      refine eqS_own c0 ha (fun H3 s => ic.ty (s _ _ hb)) (by simp [PySem.W.notFirst]) (fun _ => rfl) fun H3 sm => ?_
      have r3 := r2.same sm
      have rp : RelPs X.K σ F2 [.inl (.obj c fs), .inl (.obj c gs)] [.ref a, .ref b] := .cons (show RelP X.K σ F2 (.inl (.obj c fs)) (.ref a) from iu) (.cons (show RelP X.K σ F2 (.inl (.obj c gs)) (.ref b) from iv) .nil)
      refine ⟨F2, L ++ G.L0, _, (fun z _ => z = .bl true), (fun _ _ => False), by rw [hm]; exact r3.pre rp rfl List.nodup_nil, sp _, fun y nd k F3 H4 u po mr hv => ?_, fun y nd k F3 H4 cc dd po mr hx => k.elim⟩
      · rw [hf] at hv
        have hv : Is X.K F3 y u := hv
        rw [k] at hv
        cases hv
        refine ⟨rfl, fun b o e => po.keep b o e ?_⟩
        rw [hm]
        exact fun z => nomatch z) x) x⟩
end
end Dv

set_option maxHeartbeats 4000000
/-! A list of one's own is walked, and stays one's own. -/
namespace Dv
open PySem PySem.Spec PyProof.Rows L2 Sk
section
variable {K : PySem.W.Frag} {W : WX} {G : Gh} {L LL : List (Addr × Obj)} {env : Sls} {σ : L2.St} {F F' H H' : Hp} {p a b : Addr} {o : HO} {d x : D} {xs ys : List D} {vs ws : List V} {fr : Bool}
theorem upd_self (h : H a = some o) : upd H a o = H := by
  funext b
  by_cases e : b = a
  · rw [e, upd_same, h]
  · rw [upd_ne e]
theorem R.recast {i : Nat} {m : Bool} {d' : D} (r : R K G L env σ F H) (e : env[i]? = some (.ow m d)) (h : ∀ a, σ[i]? = some (some (.ref a)) → Has K F H d a → Has K F H d' a) : R K G L (env.set i (.ow m d')) σ F H := by
  obtain ⟨a, h1, _, _, h4⟩ := r.ow i m d e
  obtain ⟨u, hu⟩ := h4.ex
  have r1 := r.mut (o := u) (d' := d') e h1 (by rw [upd_self hu]; exact h a h1 h4)
  rw [upd_self hu] at r1
  exact r1
/-- the slot is pinned -/
def Pin9 (i : Nat) (m : Bool) (a : Addr) (xs : List D) (env : Sls) : Prop := env[i]? = some (.ow m (.pin a xs))
def unPin (i : Nat) (m : Bool) (a : Addr) (xs : List D) (k : Sls → Prop) : Sls → Prop := fun e => Pin9 i m a xs e ∧ k (e.set i (.ow m (.lst xs)))
def pinG (i : Nat) (m : Bool) (a : Addr) (xs : List D) (g : DG) : DG := fun x env Q => Pin9 i m a xs env ∧ g x env Q
theorem walk_own {n : Nat} : Walk (Itl K a) n (fun H => ∃ vs, SqL K H a vs ∧ vs.length = n) (fun i H x H' => H' = H ∧ ∀ vs, SqL K H a vs → vs[i]? = some x) :=
  ⟨fun i _ hi ⟨vs, q, e⟩ => ⟨vs, vs[i]'(by omega), q, by simp [show i < vs.length by omega]⟩, fun _ ⟨vs, q, e⟩ => ⟨vs, q, by omega⟩, fun _ _ _ _ _ q y => ⟨y.1, fun vs q => y.2 vs q⟩⟩
theorem Pin9.at {i : Nat} {m : Bool} (p : Pin9 i m a xs env) (r : R K G L env σ F H) : ∃ vs, SqL K H a vs ∧ IsL K F xs vs ∧ σ[i]? = some (some (.ref a)) := by
  obtain ⟨b, h1, _, _, e, vs, h4, h5⟩ := r.ow i m _ p
  subst e
  exact ⟨vs, SqL.of h4, h5, h1⟩
theorem Pin9.off {i : Nat} {m : Bool} (p : Pin9 i m a xs env) (r : R K G L env σ F H) : R K G L (env.set i (.ow m (.lst xs))) σ F H := r.recast p fun _ _ h => h.2
/-- for x in xs: xs is one's own -/
def dForO (i : Nat) (g : DG) (b : DS) : DS := fun X E env => match env[i]? with
  | some (.ow m (.lst xs)) => ∀ a, forL (pinG i m a xs g) b X { E with nx := unPin i m a xs E.nx } xs (env.set i (.ow m (.pin a xs)))
  | _ => False
theorem forL_pin {i : Nat} {m : Bool} {g : DG} {b : DS} {X : XK9} {E : E9} {k : Sls → Prop} {zs : List D} (h : forL (pinG i m a xs g) b X { E with nx := unPin i m a xs k } zs env) : Pin9 i m a xs env := by
  cases zs with
  | nil => exact h.1
  | cons z zs => exact h.1
theorem sim_forO {i : Nat} {vs : List Nat} {g : DG} {b : DS} {tg : TG} {t : TS} (sg : SimG K vs g tg) (sb : SimS K W fr b t) : SimS K W fr (dForO i g b) (tFor (iList K (tVar i)) tg t) := ⟨fun {G L env σ F H X9 E D} r h q x => by
  unfold dForO at h
  split at h
  · rename_i m xs e
    obtain ⟨a, h1, h2, h3, ws, h4, h5⟩ := r.ow i m _ e
    have k1 := h a
    have r1 : R K G L (env.set i (.ow m (.pin a xs))) σ F H := r.recast e fun b hb hh => by
      rw [h1] at hb
      cases hb
      exact ⟨rfl, hh⟩
    refine ⟨_, h1, a, rfl, ⟨ws, SqL.of h4⟩, ?_⟩
    refine for_it (walk_own (n := xs.length)) (fun j σ H => ∃ env F2, R K G L env σ F2 H ∧ Same F F2 ∧ forL (pinG i m a xs g) b X9 { E with nx := unPin i m a xs E.nx } (xs.drop j) env) ⟨_, F, r1, Same.refl F, k1⟩ (fun j σ H _ ⟨env, F2, r, s, k⟩ => ?_) (fun j v σ H H3 hi ⟨env, F2, r, s, k⟩ y => ?_) (fun σ H ⟨env, F2, r, s, k⟩ => ?_)
    · obtain ⟨us, u1, u2, _⟩ := (forL_pin k).at r
      exact ⟨us, u1, u2.length.symm⟩
    · obtain ⟨us, u1, u2, _⟩ := (forL_pin k).at r
      obtain ⟨rfl, y⟩ := y
      obtain ⟨x0, ex, i3⟩ := u2.got (y us u1)
      have ed : xs.drop j = x0 :: xs.drop (j + 1) := by
        rw [List.drop_eq_getElem_cons hi]
        have := List.getElem?_eq_getElem hi
        rw [ex] at this
        cases this
        rfl
      rw [ed] at k
      refine sg.run r i3 k.2 fun e2 σ2 F3 H2 r2 s2 _ k2 => ?_
      have q2 := q.mono (s.trans s2)
      refine sb.run r2 k2 ⟨fun e4 σ4 F4 H4 r4 s4 k4 => ⟨e4, F4, r4, (s.trans s2).trans s4, k4⟩, q2.rt, fun e4 σ4 F4 H4 r4 s4 k4 => q2.nx _ σ4 F4 H4 (Pin9.off k4.1 r4) s4 k4.2, fun e4 σ4 F4 H4 r4 s4 k4 => ⟨e4, F4, r4, (s.trans s2).trans s4, k4⟩⟩ x
    · rw [List.drop_length] at k
      exact q.nx _ σ F2 H (Pin9.off k.1 r) s k.2
  · exact h.elim⟩
/-- a comprehension over it -/
def dLcO (i : Nat) (g : DG) (c : DT) (el : DE) (gs : List Nat) : DE := fun X env Q => match env[i]? with
  | some (.ow m (.lst xs)) => ∀ a, lcL (pinG i m a xs g) c el gs (fun acc e => Pin9 i m a xs e ∧ Q (.lst acc) (e.set i (.ow m (.lst xs)))) xs [] (wipe9 (env.set i (.ow m (.pin a xs))) gs)
  | _ => False
theorem lcL_pin {i : Nat} {m : Bool} {g : DG} {c : DT} {el : DE} {gs : List Nat} {k : List D → Sls → Prop} {zs acc : List D} (h : lcL (pinG i m a xs g) c el gs (fun acc e => Pin9 i m a xs e ∧ k acc e) zs acc env) : Pin9 i m a xs env := by
  cases zs with
  | nil => exact h.1
  | cons z zs => exact h.1
theorem sim_lcO {i : Nat} {gs : List Nat} {g : DG} {c : DT} {el : DE} {tg : TG} {tt : TT} {te : TE} (sg : SimG K gs g tg) (sc : SimT K W0 c tt) (se : SimE K W0 el te) : SimF K W (dLcO i g c el gs) (tLc (iList K (tVar i)) tg tt te gs) := ⟨fun {G L env σ F H X9 Q9 Q} r h q x => by
  unfold dLcO at h
  split at h
  · rename_i m xs e
    obtain ⟨a, h1, h2, h3, ws0, h4, h5⟩ := r.ow i m _ e
    have k1 := h a
    have r1 : R K G L (env.set i (.ow m (.pin a xs))) σ F H := r.recast e fun b hb hh => by
      rw [h1] at hb
      cases hb
      exact ⟨rfl, hh⟩
    refine ⟨_, h1, a, rfl, ⟨ws0, SqL.of h4⟩, fun DD hD => ?_⟩
    have f1 := r1.fresh (x := .lst []) hD (Has.mkL upd_same .nil)
    have r2 := r1.new hD (.lst [])
    refine lc_it (walk_own (n := xs.length)) (fun j H => ∃ e F2 acc, R K G L (wipe9 e gs) (wipe σ gs) F2 H ∧ Same F F2 ∧ Fresh K G (wipe9 e gs) (wipe σ gs) F2 H (.lst acc) DD ∧ lcL (pinG i m a xs g) c el gs (fun acc e => Pin9 i m a xs e ∧ Q9 (.lst acc) (e.set i (.ow m (.lst xs)))) (xs.drop j) acc (wipe9 e gs))
      ⟨_, F, [], r2.wiped gs, Same.refl F, f1.wiped gs, k1⟩ (fun j H _ ⟨e, F2, acc, r, s, _, k⟩ => ?_) (fun j v H H3 hi ⟨e, F2, acc, r, s, f, k⟩ y => ?_) (fun H ⟨e, F2, acc, r, s, f, k⟩ => ?_)
    · obtain ⟨us, u1, u2, _⟩ := (lcL_pin k).at r
      exact ⟨us, u1, u2.length.symm⟩
    · have h0 := f.h0
      have nx := f.ext
      obtain ⟨ws, hw, iw⟩ := f.has
      have r3 := r.plus f hw
      obtain ⟨us, u1, u2, _⟩ := (lcL_pin k).at r
      obtain ⟨rfl, y⟩ := y
      obtain ⟨x0, ex, i3⟩ := u2.got (y us u1)
      have ed : xs.drop j = x0 :: xs.drop (j + 1) := by
        rw [List.drop_eq_getElem_cons hi]
        have := List.getElem?_eq_getElem hi
        rw [ex] at this
        cases this
        rfl
      rw [ed] at k
      refine sg.run r3 i3 k.2 fun e2 σ2 F3 H2 r2 s2 w2 k2 => ?_
      have w2 := w2.trans wipe_wipe
      refine ⟨w2, ?_⟩
      refine sc.run r2 k2 (fun b e4 F4 H4 r4 s4 k4 => ?_) (fun _ _ _ _ _ _ _ _ z => z)
      cases b with
      | true =>
        refine iteT (se.run r4 k4 (fun y5 e5 v5 F5 H5 r5 s5 i5 k5 => ?_) (fun _ _ _ _ _ _ _ _ z => z))
        obtain ⟨r6, hD6, fr6⟩ := r5.minus (show G.H0 DD = none from h0) nx
        have sm : Same F2 F5 := ((s2.trans s4).trans s5)
        have iw6 := iw.mono sm
        have f6 := fr6 (.lst acc) (Has.mkL hD6 iw6)
        have r7 := (r6.updF f6 (.lst (ws ++ [v5])))
        have f7 : Fresh K G e5 σ2 F5 (upd H5 DD (.lst (ws ++ [v5]))) (.lst (acc ++ [y5])) DD := f6.upd (Has.mkL upd_same (iw6.append (.cons i5 .nil)))
        refine ⟨ws, hD6, by rw [sizeLine_eq, ← iw.length]; exact k5.1, e5, F5, acc ++ [y5], ?_, s.trans sm, ?_, k5.2⟩
        · have := r7.wiped gs
          rw [w2] at this
          exact this
        · have := f7.wiped gs
          rw [w2] at this
          exact this
      | false =>
        refine iteF ?_
        obtain ⟨r6, hD6, fr6⟩ := r4.minus (show G.H0 DD = none from h0) nx
        have sm : Same F2 F4 := (s2.trans s4)
        have f6 := fr6 (.lst acc) (Has.mkL hD6 (iw.mono sm))
        refine ⟨e4, F4, acc, ?_, s.trans sm, ?_, k4⟩
        · have := r6.wiped gs
          rw [w2] at this
          exact this
        · have := f6.wiped gs
          rw [w2] at this
          exact this
    · rw [List.drop_length] at k
      have ru := r.unwipe
      have fu := f.unwipe
      refine q (.lst acc) _ DD F2 H (Pin9.off k.1 ru) s ⟨fu.f, fu.h0, fu.has, fu.nm, fun j m' d' hj hz => ?_, fu.ext⟩ k.2
      rcases get_set hj with ⟨rfl, _⟩ | ⟨_, hj⟩
      · exact fu.sep _ _ _ k.1 hz
      · exact fu.sep j m' d' hj hz
  · exact h.elim⟩
theorem cutD_nat {α : Type} (f : α → D) (l : List α) {i j : Nat} {lo hi : Int} (h0 : lo = (i : Nat)) (h3 : hi = (j : Nat)) (h2 : j ≤ l.length) (h1 : i ≤ j) : cutD (l.map f) (some lo) (some hi) = ((l.drop i).take (j - i)).map f := by
  subst h0
  subst h3
  unfold cutD
  rw [HT.sIx_nat, HT.sIx_nat, List.length_map, Nat.min_eq_left h2, Nat.min_eq_left (Nat.le_trans h1 h2), ← List.map_drop, ← List.map_take]
theorem map_str {α : Type} (f : α → Str) (l : List α) : l.map (fun x => D.str (f x)) = (l.map f).map D.str := by rw [List.map_map]; rfl
/-- xs * n -/
def fRepL : Fn2 := fun x y Q => match x, y with
  | .lst xs, .int k => (-(2 ^ 63) ≤ k ∧ k < 2 ^ 63 ∧ xs.length * k.toNat ≤ 16777216) ∧ Q (.lst (List.replicate k.toNat xs).flatten)
  | _, _ => False
theorem IsL.rep (h : IsL K F xs vs) : ∀ n : Nat, IsL K F (List.replicate n xs).flatten (List.replicate n vs).flatten
  | 0 => .nil
  | n + 1 => by
    rw [List.replicate_succ, List.replicate_succ, List.flatten_cons, List.flatten_cons]
    exact h.append (IsL.rep h n)
theorem s2_rep : Sim2N K fRepL rRep := ⟨fun {F H x y v w} s hx hy Q9 Q f k => by
  unfold fRepL at f
  split at f
  · obtain ⟨a, vs, rfl, ha, ra⟩ := hx.lst s
    exact ⟨a, _, vs, rfl, hy.int, ha, f.1.1, f.1.2.1, by rw [sizeLine_eq, ← ra.length]; exact f.1.2.2, fun p hp => k _ p _ hp (Has.mkL upd_same (ra.rep _)) f.2⟩
  · exact f.elim⟩
/-- sum(d.values()) -/
def dSumVals (o : Op9) : DE := fun X env Q => o.ev X env fun p e => match look9 e p with
  | some x => ∃ cs, x = dcs cs ∧ Q (.int (cs.map (·.2)).sum) e
  | none => False
theorem sim_sumVals {o : Op9} {t : TE} (so : SimO K W o t) : SimE K W (dSumVals o) (tSumVals t) := ⟨fun {G L env σ F H X9 Q9 Q} r h q x => so.run r h (fun p e v F1 H1 r1 s1 p1 h1 => by
  split at h1
  · rename_i y ey
    obtain ⟨cs, rfl, h1⟩ := h1
    obtain ⟨a, ws, rfl, g1, g2⟩ := (r1.pk p1 ey).dic r1.sees
    have := isK_cs g2
    subst this
    exact ⟨a, cs, rfl, g1, q _ e _ F1 H1 r1 s1 .int h1⟩
  · exact h1.elim) x⟩
def dNeg (d : DE) : DE := fun X env Q => d X env fun x e => match x with
  | .int i => Q (.int (-i)) e
  | _ => False
theorem sim_neg {d : DE} {t : TE} (s : SimE K W d t) : SimE K W (dNeg d) (tUn (rU fun i => .int (-i)) t) := ⟨fun {G L env σ F H X9 Q9 Q} r h q x => s.run r h (fun y e v F1 H1 r1 s1 i1 h1 => by
  split at h1
  · rename_i i
    exact ⟨i, i1.ofI, q _ e _ F1 H1 r1 s1 .int h1⟩
  · exact h1.elim) x⟩
end
end Dv

set_option maxHeartbeats 4000000
/-! == and != of lists and tuples, item by item, heaps grow on the way -/
namespace SkW
open PySem PySem.SeqAt PySem.W
open AutoSeq1 (wpAny_loadPart')
open MeetsSeq MeetsSeq2 MeetsSeq3 SeqRoads2
section
variable {prog : Program} {w : World} {A : Around} {R : Result → Shared → Prop}
/-- at turn i the lists at l and b have N and M items, the i-th two are asked: bs i -/
def AskL (prog : Program) (w : World) (A : Around) (E : Value → Shared → Prop) (l b : Addr) (N M : Nat) (bs : Nat → Bool) (I : Nat → Shared → Prop) : Prop :=
  ∀ i s, I i s → ∃ (items items2 : Array Value) (n n2 : Nat), s.heap.get? l = some { cls := .type "list", data := .seq items n } ∧ s.heap.get? b = some { cls := .type "list", data := .seq items2 n2 } ∧ items.size = N ∧ items2.size = M ∧
    ∀ (h1 : i < items.size) (h2 : i < items2.size), (∀ j, j < i → bs j = true) → wpAny (model prog w) A.in1 (eqBool items[i] items2[i]) (fun r s' => r = bs i ∧ I (i + 1) s') E s
theorem eqU_loop (l b : Addr) (N : Nat) (bs : Nat → Bool) (I : Nat → Shared → Prop) (hl : AskL prog w A (fun e s' => R (.error e) s') l b N N bs I)
    (hit : ∀ i s, i < N → I (i + 1) s → bs i = false → (∀ j, j < i → bs j = true) → R (.ok (.ret (.bool false))) s) (fin : ∀ s, I N s → (∀ i, i < N → bs i = true) → R (.ok (.ret (.bool true))) s) (k : Nat) :
    ∀ i : Nat, N - i = k → i ≤ N → (∀ j, j < i → bs j = true) → ∀ s, I i s →
      wpAny (model prog w) A.in1 (Builtin.«list.__eq__.loop» ⟨[.ref l, .ref b, rawInt i, rawInt 2], []⟩) (GQ.FinOf prog w A R) (fun e s' => R (.error e) s') s := by
  induction k with
  | zero =>
    intro i hk hi no s h
    obtain ⟨items, items2, n, n2, hl1, hb1, hs1, hs2, _⟩ := hl _ _ h
    have hi' : i = N := by omega
    subst hi'
    have hR : R (.ok (.ret (.bool true))) s := fin s h no
    obtain ⟨hp, g, d, tk, os⟩ := s
    wp_walk using wpAny_loadPart' hl1, wpAny_loadPart' hb1
    have hi1 : items[((i : Nat) : Int).toNat]? = none := by simp; omega
    have hi2 : items2[((i : Nat) : Int).toNat]? = none := by simp; omega
    rw [hi1, hi2]
    wp_walk using wpAny_loadPart' hl1, wpAny_loadPart' hb1
    show R (.ok (.ret (.bool (items.size == items2.size)))) _
    have e : (items.size == items2.size) = true := by rw [hs1, hs2]; simp
    rw [e]
    exact hR
  | succ k ih =>
    intro i hk hi no s h
    obtain ⟨items, items2, n, n2, hl1, hb1, hs1, hs2, turn⟩ := hl _ _ h
    have k1 : i < items.size := by omega
    have k2 : i < items2.size := by omega
    have ht := turn k1 k2 no
    obtain ⟨hp, g, d, tk, os⟩ := s
    wp_walk using wpAny_loadPart' hl1, wpAny_loadPart' hb1
    have hi1 : items[((i : Nat) : Int).toNat]? = some items[i] := by simp [k1]
    have hi2 : items2[((i : Nat) : Int).toNat]? = some items2[i] := by simp [k2]
    have hc : ((i : Int) + 1) = ((i + 1 : Nat) : Int) := by omega
    rw [hi1, hi2]
    refine wpAny_bind (wpAny_mono ht (fun r s2 h2 => ?_) fun _ _ x => x)
    obtain ⟨hr, h2⟩ := h2
    cases hb : bs i with
    | true =>
      rw [hb] at hr
      subst hr
      have hrec := ih (i + 1) (by omega) (by omega) (fun j hj => by
        rcases Nat.lt_succ_iff_lt_or_eq.mp hj with h | h
        · exact no j h
        · rw [h]; exact hb) s2 h2
      obtain ⟨hp2, g2, d2, tk2, os2⟩ := s2
      wp_walk
      rw [hc]
      exact ⟨plainId_quiet plain_eq_loop _, codeAny_builtin entry_eq_loop (by
        rw [Around.under_plainId plain_eq_loop _]
        exact hrec)⟩
    | false =>
      rw [hb] at hr
      subst hr
      have hR := hit i s2 (by omega) h2 hb no
      obtain ⟨items', items2', n', n2', hl2, hb2, hs3, hs4, _⟩ := hl _ _ h2
      obtain ⟨hp2, g2, d2, tk2, os2⟩ := s2
      have q1 : i < items'.size := by omega
      have q2 : i < items2'.size := by omega
      have hj1 : items'[((i : Nat) : Int).toNat]? = some items'[i] := by simp [q1]
      have hj2 : items2'[((i : Nat) : Int).toNat]? = some items2'[i] := by simp [q2]
      wp_walk using wpAny_loadPart' hl2, wpAny_loadPart' hb2
      rw [hj1, hj2]
      wp_walk
      exact hR
theorem neU_loop (l b : Addr) (N : Nat) (bs : Nat → Bool) (I : Nat → Shared → Prop) (hl : AskL prog w A (fun e s' => R (.error e) s') l b N N bs I)
    (hit : ∀ i s, i < N → I (i + 1) s → bs i = false → (∀ j, j < i → bs j = true) → R (.ok (.ret (.bool true))) s) (fin : ∀ s, I N s → (∀ i, i < N → bs i = true) → R (.ok (.ret (.bool false))) s) (k : Nat) :
    ∀ i : Nat, N - i = k → i ≤ N → (∀ j, j < i → bs j = true) → ∀ s, I i s →
      wpAny (model prog w) A.in1 (Builtin.«list.__eq__.loop» ⟨[.ref l, .ref b, rawInt i, rawInt 3], []⟩) (GQ.FinOf prog w A R) (fun e s' => R (.error e) s') s := by
  induction k with
  | zero =>
    intro i hk hi no s h
    obtain ⟨items, items2, n, n2, hl1, hb1, hs1, hs2, _⟩ := hl _ _ h
    have hi' : i = N := by omega
    subst hi'
    have hR : R (.ok (.ret (.bool false))) s := fin s h no
    obtain ⟨hp, g, d, tk, os⟩ := s
    wp_walk using wpAny_loadPart' hl1, wpAny_loadPart' hb1
    have hi1 : items[((i : Nat) : Int).toNat]? = none := by simp; omega
    have hi2 : items2[((i : Nat) : Int).toNat]? = none := by simp; omega
    rw [hi1, hi2]
    wp_walk using wpAny_loadPart' hl1, wpAny_loadPart' hb1
    show R (.ok (.ret (.bool (items.size != items2.size)))) _
    have e : (items.size != items2.size) = false := by rw [hs1, hs2]; simp
    rw [e]
    exact hR
  | succ k ih =>
    intro i hk hi no s h
    obtain ⟨items, items2, n, n2, hl1, hb1, hs1, hs2, turn⟩ := hl _ _ h
    have k1 : i < items.size := by omega
    have k2 : i < items2.size := by omega
    have ht := turn k1 k2 no
    obtain ⟨hp, g, d, tk, os⟩ := s
    wp_walk using wpAny_loadPart' hl1, wpAny_loadPart' hb1
    have hi1 : items[((i : Nat) : Int).toNat]? = some items[i] := by simp [k1]
    have hi2 : items2[((i : Nat) : Int).toNat]? = some items2[i] := by simp [k2]
    have hc : ((i : Int) + 1) = ((i + 1 : Nat) : Int) := by omega
    rw [hi1, hi2]
    refine wpAny_bind (wpAny_mono ht (fun r s2 h2 => ?_) fun _ _ x => x)
    obtain ⟨hr, h2⟩ := h2
    cases hb : bs i with
    | true =>
      rw [hb] at hr
      subst hr
      have hrec := ih (i + 1) (by omega) (by omega) (fun j hj => by
        rcases Nat.lt_succ_iff_lt_or_eq.mp hj with h | h
        · exact no j h
        · rw [h]; exact hb) s2 h2
      obtain ⟨hp2, g2, d2, tk2, os2⟩ := s2
      wp_walk
      rw [hc]
      exact ⟨plainId_quiet plain_eq_loop _, codeAny_builtin entry_eq_loop (by
        rw [Around.under_plainId plain_eq_loop _]
        exact hrec)⟩
    | false =>
      rw [hb] at hr
      subst hr
      have hR := hit i s2 (by omega) h2 hb no
      obtain ⟨items', items2', n', n2', hl2, hb2, hs3, hs4, _⟩ := hl _ _ h2
      obtain ⟨hp2, g2, d2, tk2, os2⟩ := s2
      have q1 : i < items'.size := by omega
      have q2 : i < items2'.size := by omega
      have hj1 : items'[((i : Nat) : Int).toNat]? = some items'[i] := by simp [q1]
      have hj2 : items2'[((i : Nat) : Int).toNat]? = some items2'[i] := by simp [q2]
      wp_walk using wpAny_loadPart' hl2, wpAny_loadPart' hb2
      rw [hj1, hj2]
      wp_walk
      exact hR
theorem list_eqU (l b : Addr) (N M : Nat) (bs : Nat → Bool) (I : Nat → Shared → Prop) (hl : AskL prog w A (fun e s' => R (.error e) s') l b N M bs I)
    (dif : ∀ s, I 0 s → N ≠ M → R (.ok (.ret (.bool false))) s) (hit : ∀ i s, i < N → N = M → I (i + 1) s → bs i = false → (∀ j, j < i → bs j = true) → R (.ok (.ret (.bool false))) s) (fin : ∀ s, I N s → N = M → (∀ i, i < N → bs i = true) → R (.ok (.ret (.bool true))) s) {s : Shared} (h : I 0 s) :
    wpAny (model prog w) A.in1 (Builtin.«list.__eq__» ⟨[.ref l, .ref b], []⟩) (GQ.FinOf prog w A R) (fun e s' => R (.error e) s') s := by
  obtain ⟨items, items2, n, n2, hl1, hb1, hs1, hs2, _⟩ := hl _ _ h
  by_cases hNM : N = M
  · subst hNM
    have hrec := eqU_loop (A := A) (R := R) l b N bs I hl (fun i s a b c d => hit i s a rfl b c d) (fun s a b => fin s a rfl b) _ 0 rfl (Nat.zero_le _) (fun j hj => absurd hj (Nat.not_lt_zero _)) s h
    obtain ⟨hp, g, d, tk, os⟩ := s
    have f3 := AutoSeq1.sub_list_list
    have hne : ¬ (items.size != items2.size) = true := by simp [hs1, hs2]
    wp_walk using wpAny_loadPart' hl1, wpAny_loadPart' hb1
    exact ⟨plainId_quiet plain_eq_loop _, codeAny_builtin entry_eq_loop (by
      rw [Around.under_plainId plain_eq_loop _]
      exact hrec)⟩
  · have hR := dif s h hNM
    obtain ⟨hp, g, d, tk, os⟩ := s
    have f3 := AutoSeq1.sub_list_list
    have hne : (items.size != items2.size) = true := by
      rw [hs1, hs2]
      simpa using hNM
    wp_walk using wpAny_loadPart' hl1, wpAny_loadPart' hb1
    exact hR
theorem list_neU (l b : Addr) (N M : Nat) (bs : Nat → Bool) (I : Nat → Shared → Prop) (hl : AskL prog w A (fun e s' => R (.error e) s') l b N M bs I)
    (dif : ∀ s, I 0 s → N ≠ M → R (.ok (.ret (.bool true))) s) (hit : ∀ i s, i < N → N = M → I (i + 1) s → bs i = false → (∀ j, j < i → bs j = true) → R (.ok (.ret (.bool true))) s) (fin : ∀ s, I N s → N = M → (∀ i, i < N → bs i = true) → R (.ok (.ret (.bool false))) s) {s : Shared} (h : I 0 s) :
    wpAny (model prog w) A.in1 (Builtin.«list.__ne__» ⟨[.ref l, .ref b], []⟩) (GQ.FinOf prog w A R) (fun e s' => R (.error e) s') s := by
  obtain ⟨items, items2, n, n2, hl1, hb1, hs1, hs2, _⟩ := hl _ _ h
  by_cases hNM : N = M
  · subst hNM
    have hrec := neU_loop (A := A) (R := R) l b N bs I hl (fun i s a b c d => hit i s a rfl b c d) (fun s a b => fin s a rfl b) _ 0 rfl (Nat.zero_le _) (fun j hj => absurd hj (Nat.not_lt_zero _)) s h
    obtain ⟨hp, g, d, tk, os⟩ := s
    have f3 := AutoSeq1.sub_list_list
    have hne : ¬ (items.size != items2.size) = true := by simp [hs1, hs2]
    wp_walk using wpAny_loadPart' hl1, wpAny_loadPart' hb1
    exact ⟨plainId_quiet plain_eq_loop _, codeAny_builtin entry_eq_loop (by
      rw [Around.under_plainId plain_eq_loop _]
      exact hrec)⟩
  · have hR := dif s h hNM
    obtain ⟨hp, g, d, tk, os⟩ := s
    have f3 := AutoSeq1.sub_list_list
    have hne : (items.size != items2.size) = true := by
      rw [hs1, hs2]
      simpa using hNM
    wp_walk using wpAny_loadPart' hl1, wpAny_loadPart' hb1
    exact hR
theorem tuple_eqU (l b : Addr) (items items2 : Array Value) (n n2 : Nat) (dd dd2 : Option Addr) (sl sl2 : Array (Option Value)) (bs : Nat → Bool) (I : Nat → Shared → Prop)
    (turn : ∀ i (h1 : i < items.size) (h2 : i < items2.size) s, (∀ j, j < i → bs j = true) → I i s → wpAny (model prog w) A.in1 (eqBool items[i] items2[i]) (fun r s' => r = bs i ∧ I (i + 1) s') (fun e s' => R (.error e) s') s)
    (hit : ∀ i s, i < items.size → i < items2.size → I (i + 1) s → bs i = false → (∀ j, j < i → bs j = true) → R (.ok (.ret (.bool false))) s) (fin : ∀ s, I (min items.size items2.size) s → (∀ i, i < min items.size items2.size → bs i = true) → R (.ok (.ret (.bool (items.size == items2.size)))) s)
    {s : Shared} (hl1 : s.heap.get? l = some { cls := .type "tuple", dict := dd, data := .seq items n, slots := sl }) (hb1 : s.heap.get? b = some { cls := .type "tuple", dict := dd2, data := .seq items2 n2, slots := sl2 }) (h : I 0 s) :
    wpAny (model prog w) A.in1 (Builtin.«tuple.__eq__» ⟨[.ref l, .ref b], []⟩) (GQ.FinOf prog w A R) (fun e s' => R (.error e) s') s := by
  have f2 := AutoSeq1.sub_tuple_tuple
  have hZ : (items.toList.zip items2.toList).length = min items.size items2.size := by simp
  have h0 := h
  obtain ⟨hp, g, d, tk, os⟩ := s
  wp_walk using wpAny_loadPart' hl1, wpAny_loadPart' hb1, wpAny_forIn_list _ (fun rest b s' => b.1 = none ∧ ∃ i, rest = (items.toList.zip items2.toList).drop i ∧ i ≤ min items.size items2.size ∧ I i s' ∧ ∀ j, j < i → bs j = true) _
  case turn =>
    rintro ⟨y, x⟩ rest b s' ⟨hb', i, hz, hi, hI, no⟩
    have hlt : i < (items.toList.zip items2.toList).length := by
      rcases Nat.lt_or_ge i (items.toList.zip items2.toList).length with h' | h'
      · exact h'
      · rw [List.drop_of_length_le h'] at hz; cases hz
    have hm : i < min items.size items2.size := hZ ▸ hlt
    have h1 : i < items.size := Nat.lt_of_lt_of_le hm (Nat.min_le_left _ _)
    have h2 : i < items2.size := Nat.lt_of_lt_of_le hm (Nat.min_le_right _ _)
    rw [List.drop_eq_getElem_cons hlt] at hz
    injection hz with hyx hrest
    have hy : y = items[i] := by have := congrArg Prod.fst hyx; simpa using this
    have hx : x = items2[i] := by have := congrArg Prod.snd hyx; simpa using this
    subst hy hx
    refine wpAny_bind (wpAny_mono (turn i h1 h2 s' no hI) (fun r s2 q2 => ?_) fun _ _ x => x)
    obtain ⟨hr, q2⟩ := q2
    cases hb : bs i with
    | true =>
      rw [hb] at hr
      subst hr
      wp_walk
      exact ⟨rfl, i + 1, hrest, by omega, q2, fun j hj => by
        rcases Nat.lt_succ_iff_lt_or_eq.mp hj with h | h
        · exact no j h
        · rw [h]; exact hb⟩
    | false =>
      rw [hb] at hr
      subst hr
      have hR := hit i s2 h1 h2 q2 hb no
      wp_walk
      exact hR
  case fin =>
    rintro ⟨b1, b2⟩ s' ⟨hb', i, hz, hi, hI, no⟩
    simp only at hb'
    subst hb'
    have hge : min items.size items2.size ≤ i := by
      rcases Nat.lt_or_ge i (items.toList.zip items2.toList).length with h' | h'
      · rw [List.drop_eq_getElem_cons h'] at hz; cases hz
      · exact hZ ▸ h'
    have hi' : i = min items.size items2.size := by omega
    have hR := fin s' (hi' ▸ hI) (hi' ▸ no)
    wp_walk
    exact hR
  case h =>
    exact ⟨rfl, 0, rfl, Nat.zero_le _, h0, fun j hj => absurd hj (Nat.not_lt_zero _)⟩
theorem tuple_neU (l b : Addr) (items items2 : Array Value) (n n2 : Nat) (dd dd2 : Option Addr) (sl sl2 : Array (Option Value)) (bs : Nat → Bool) (I : Nat → Shared → Prop)
    (turn : ∀ i (h1 : i < items.size) (h2 : i < items2.size) s, (∀ j, j < i → bs j = true) → I i s → wpAny (model prog w) A.in1 (eqBool items[i] items2[i]) (fun r s' => r = bs i ∧ I (i + 1) s') (fun e s' => R (.error e) s') s)
    (hit : ∀ i s, i < items.size → i < items2.size → I (i + 1) s → bs i = false → (∀ j, j < i → bs j = true) → R (.ok (.ret (.bool true))) s) (fin : ∀ s, I (min items.size items2.size) s → (∀ i, i < min items.size items2.size → bs i = true) → R (.ok (.ret (.bool (items.size != items2.size)))) s)
    {s : Shared} (hl1 : s.heap.get? l = some { cls := .type "tuple", dict := dd, data := .seq items n, slots := sl }) (hb1 : s.heap.get? b = some { cls := .type "tuple", dict := dd2, data := .seq items2 n2, slots := sl2 }) (h : I 0 s) :
    wpAny (model prog w) A.in1 (Builtin.«tuple.__ne__» ⟨[.ref l, .ref b], []⟩) (GQ.FinOf prog w A R) (fun e s' => R (.error e) s') s := by
  have f2 := AutoSeq1.sub_tuple_tuple
  have hZ : (items.toList.zip items2.toList).length = min items.size items2.size := by simp
  have h0 := h
  obtain ⟨hp, g, d, tk, os⟩ := s
  wp_walk using wpAny_loadPart' hl1, wpAny_loadPart' hb1, wpAny_forIn_list _ (fun rest b s' => b.1 = none ∧ ∃ i, rest = (items.toList.zip items2.toList).drop i ∧ i ≤ min items.size items2.size ∧ I i s' ∧ ∀ j, j < i → bs j = true) _
  case turn =>
    rintro ⟨y, x⟩ rest b s' ⟨hb', i, hz, hi, hI, no⟩
    have hlt : i < (items.toList.zip items2.toList).length := by
      rcases Nat.lt_or_ge i (items.toList.zip items2.toList).length with h' | h'
      · exact h'
      · rw [List.drop_of_length_le h'] at hz; cases hz
    have hm : i < min items.size items2.size := hZ ▸ hlt
    have h1 : i < items.size := Nat.lt_of_lt_of_le hm (Nat.min_le_left _ _)
    have h2 : i < items2.size := Nat.lt_of_lt_of_le hm (Nat.min_le_right _ _)
    rw [List.drop_eq_getElem_cons hlt] at hz
    injection hz with hyx hrest
    have hy : y = items[i] := by have := congrArg Prod.fst hyx; simpa using this
    have hx : x = items2[i] := by have := congrArg Prod.snd hyx; simpa using this
    subst hy hx
    refine wpAny_bind (wpAny_mono (turn i h1 h2 s' no hI) (fun r s2 q2 => ?_) fun _ _ x => x)
    obtain ⟨hr, q2⟩ := q2
    cases hb : bs i with
    | true =>
      rw [hb] at hr
      subst hr
      wp_walk
      exact ⟨rfl, i + 1, hrest, by omega, q2, fun j hj => by
        rcases Nat.lt_succ_iff_lt_or_eq.mp hj with h | h
        · exact no j h
        · rw [h]; exact hb⟩
    | false =>
      rw [hb] at hr
      subst hr
      have hR := hit i s2 h1 h2 q2 hb no
      wp_walk
      exact hR
  case fin =>
    rintro ⟨b1, b2⟩ s' ⟨hb', i, hz, hi, hI, no⟩
    simp only at hb'
    subst hb'
    have hge : min items.size items2.size ≤ i := by
      rcases Nat.lt_or_ge i (items.toList.zip items2.toList).length with h' | h'
      · rw [List.drop_eq_getElem_cons h'] at hz; cases hz
      · exact hZ ▸ h'
    have hi' : i = min items.size items2.size := by omega
    have hR := fin s' (hi' ▸ hI) (hi' ▸ no)
    wp_walk
    exact hR
  case h =>
    exact ⟨rfl, 0, rfl, Nat.zero_le _, h0, fun j hj => absurd hj (Nat.not_lt_zero _)⟩
end
end SkW

set_option maxHeartbeats 4000000
/-! what == and != tell of two things at a heap that may grow -/
namespace Sk
open PySem PySem.Spec PyProof.Rows L2 PySem.W
def CmpS (X : Cx) (n : Nat) (op : CmpOp) (H : Hp) (x y : V) (b : Bool) : Prop := ∀ (A : Around) (pins : List (Addr × Obj)) (s : Shared) (σ : L2.St) (H1 : Hp) (u v : Value), Sub X n A → Same H H1 → Inv X pins σ H1 s → RelV x u → RelV y v →
  wpAny (model X.prog X.w) A (richCompare op u v) (fun r s' => r = .bool b ∧ ∃ H', Inv X pins σ H' s' ∧ Same H1 H') X.xe s
section
variable {X : Cx} {n m : Nat} {H : Hp} {C : Addr} {sp : Sp} {b : Bool} {op : CmpOp} {x y : V} {a d : Addr} {xs ys : List V}
theorem CmpS.mono (h : CmpS X n op H x y b) (q : n ≤ m) : CmpS X m op H x y b := fun A pins s σ H1 u v sb => h A pins s σ H1 u v (sb.mono q)
theorem EqS.mono (h : EqS X n H x y b) (q : n ≤ m) : EqS X m H x y b := fun A pins s σ H1 u v sb => h A pins s σ H1 u v (sb.mono q)
/-- of two references: the same thing is equal to itself -/
theorem EqS.refs (h : CmpS X n .Eq H (.ref a) (.ref d) b) (hs : a = d → ∀ (pins : List (Addr × Obj)) (s : Shared) (σ : L2.St) (H1 : Hp), Same H H1 → Inv X pins σ H1 s → b = true) : EqS X n H (.ref a) (.ref d) b := by
  intro A pins s σ H1 u v sb sm I rx ry
  cases rx
  cases ry
  by_cases e : a = d
  · have hb := hs e pins s σ H1 sm I
    subst e
    exact SeqAt.EqAt.same (A := A) (s := s) (.ref a) X.prog X.w X.xe _ ⟨hb.symm, H1, I, Same.refl _⟩
  · refine SkW.eqBool_nf (fun _ _ z => nomatch z) (fun z => e (by injection z)) (wpAny_mono (h A pins s σ H1 _ _ sb sm I rfl rfl) (fun r s' q => ?_) fun _ _ e => e)
    obtain ⟨rfl, q⟩ := q
    exact ⟨b, rfl, rfl, q⟩
/-- what the items' answers give -/
structure AllB (N M : Nat) (bs : Nat → Bool) (c : Bool) : Prop where
  dif : N ≠ M → c = false
  hit : ∀ i, i < N → i < M → bs i = false → (∀ j, j < i → bs j = true) → c = false
  fin : N = M → (∀ i, i < N → bs i = true) → c = true
theorem item_eq {pins : List (Addr × Obj)} {σ : L2.St} {A : Around} (sb : Sub X n A) {bs : Nat → Bool} {its its2 : List Value} (r : Vals xs its) (r2 : Vals ys its2) (he : ∀ (i : Nat) (z w : V), xs[i]? = some z → ys[i]? = some w → (∀ j, j < i → bs j = true) → EqS X n H z w (bs i))
    (i : Nat) (h1 : i < its.toArray.size) (h2 : i < its2.toArray.size) (no : ∀ j, j < i → bs j = true) (s' : Shared) (H1 : Hp) (s1 : Same H H1) (q : ∃ H', Inv X pins σ H' s' ∧ Same H1 H') :
    wpAny (model X.prog X.w) A (eqBool its.toArray[i] its2.toArray[i]) (fun r s' => r = bs i ∧ ∃ H', Inv X pins σ H' s' ∧ Same H1 H') X.xe s' := by
  obtain ⟨H', I', sm⟩ := q
  have hi : i < xs.length := by rw [r.length]; simpa using h1
  have hi2 : i < ys.length := by rw [r2.length]; simpa using h2
  obtain ⟨u, hu, ru⟩ := r.get (List.getElem?_eq_getElem hi)
  obtain ⟨v, hv, rv⟩ := r2.get (List.getElem?_eq_getElem hi2)
  have k1 : i < its.length := by simpa using h1
  have k2 : i < its2.length := by simpa using h2
  have eu : its.toArray[i] = u := by
    rw [List.getElem?_eq_getElem k1] at hu
    simpa using hu
  have ev : its2.toArray[i] = v := by
    rw [List.getElem?_eq_getElem k2] at hv
    simpa using hv
  rw [eu, ev]
  refine wpAny_mono (he i _ _ (List.getElem?_eq_getElem hi) (List.getElem?_eq_getElem hi2) no A pins s' σ H' u v sb (s1.trans sm) I' ru rv) (fun r s2 q => ?_) fun _ _ e => e
  obtain ⟨e, H2, I2, sm2⟩ := q
  exact ⟨e, H2, I2, sm.trans sm2⟩
theorem ask_lists {pins : List (Addr × Obj)} {σ : L2.St} {A : Around} {H1 : Hp} (sb : Sub X (n + 1) A) {bs : Nat → Bool} (ha : H a = some (.lst xs)) (hd : H d = some (.lst ys)) (sm : Same H H1)
    (he : ∀ (i : Nat) (z w : V), xs[i]? = some z → ys[i]? = some w → (∀ j, j < i → bs j = true) → EqS X n H z w (bs i)) : SkW.AskL X.prog X.w A X.xe a d xs.length ys.length bs fun _ s' => ∃ H', Inv X pins σ H' s' ∧ Same H1 H' := by
  intro i s' q
  obtain ⟨H', I', sm'⟩ := id q
  obtain ⟨z, its, k, r, e⟩ := I'.hok a _ (sm' _ _ (sm _ _ ha))
  obtain ⟨z2, its2, k2, r2, e2⟩ := I'.hok d _ (sm' _ _ (sm _ _ hd))
  exact ⟨its.toArray, its2.toArray, k, k2, e, e2, by rw [List.size_toArray, ← r.length], by rw [List.size_toArray, ← r2.length], fun h1 h2 no => item_eq sb.in1 r r2 he i h1 h2 no s' H1 sm q⟩
theorem cmpS_list {bs : Nat → Bool} (ha : H a = some (.lst xs)) (hd : H d = some (.lst ys)) (he : ∀ (i : Nat) (z w : V), xs[i]? = some z → ys[i]? = some w → (∀ j, j < i → bs j = true) → EqS X n H z w (bs i)) (c : AllB xs.length ys.length bs b) :
    CmpS X (n + 1) .Eq H (.ref a) (.ref d) b := by
  intro A pins s σ H1 u v sb sm I rx ry
  cases rx
  cases ry
  obtain ⟨_, its, k, r, e⟩ := I.hok a _ (sm _ _ ha)
  obtain ⟨_, its2, k2, r2, e2⟩ := I.hok d _ (sm _ _ hd)
  refine wpAny_richCompare_same_room (op := .Eq) ⟨_, e, rfl⟩ ⟨_, e2, rfl⟩ F.slot_list_eq (GQ.call_here F.slot_list_eq ⟨_, e, rfl⟩ F.entry_list_eq (F.args_list_eq_2 _ _) ?_) sb.room.units0
  refine SkW.list_eqU (R := wants (fun v s' => v ≠ .notImplemented ∧ v = .bool b ∧ ∃ H', Inv X pins σ H' s' ∧ Same H1 H') X.xe) a d xs.length ys.length bs (fun _ s' => ∃ H', Inv X pins σ H' s' ∧ Same H1 H') (ask_lists sb ha hd sm he) (fun s' q h => ⟨(fun x => nomatch x), by rw [c.dif h], q⟩)
    (fun i s' h1 h2 q h3 h4 => ⟨(fun x => nomatch x), by rw [c.hit i h1 (by omega) h3 h4], q⟩) (fun s' q h1 h2 => ⟨(fun x => nomatch x), by rw [c.fin h1 h2], q⟩) ⟨H1, I, Same.refl _⟩
theorem cmpS_listN {bs : Nat → Bool} (ha : H a = some (.lst xs)) (hd : H d = some (.lst ys)) (he : ∀ (i : Nat) (z w : V), xs[i]? = some z → ys[i]? = some w → (∀ j, j < i → bs j = true) → EqS X n H z w (bs i)) (c : AllB xs.length ys.length bs b) :
    CmpS X (n + 1) .NotEq H (.ref a) (.ref d) (!b) := by
  intro A pins s σ H1 u v sb sm I rx ry
  cases rx
  cases ry
  obtain ⟨_, its, k, r, e⟩ := I.hok a _ (sm _ _ ha)
  obtain ⟨_, its2, k2, r2, e2⟩ := I.hok d _ (sm _ _ hd)
  refine wpAny_richCompare_same_room (op := .NotEq) ⟨_, e, rfl⟩ ⟨_, e2, rfl⟩ F.slot_list_ne (GQ.call_here F.slot_list_ne ⟨_, e, rfl⟩ F.entry_list_ne (F.args_list_ne_2 _ _) ?_) sb.room.units0
  refine SkW.list_neU (R := wants (fun v s' => v ≠ .notImplemented ∧ v = .bool (!b) ∧ ∃ H', Inv X pins σ H' s' ∧ Same H1 H') X.xe) a d xs.length ys.length bs (fun _ s' => ∃ H', Inv X pins σ H' s' ∧ Same H1 H') (ask_lists sb ha hd sm he) (fun s' q h => ⟨(fun x => nomatch x), by rw [c.dif h]; rfl, q⟩)
    (fun i s' h1 h2 q h3 h4 => ⟨(fun x => nomatch x), by rw [c.hit i h1 (by omega) h3 h4]; rfl, q⟩) (fun s' q h1 h2 => ⟨(fun x => nomatch x), by rw [c.fin h1 h2]; rfl, q⟩) ⟨H1, I, Same.refl _⟩
theorem cmpS_tup {bs : Nat → Bool} (ha : SqT X.K H a xs) (hd : SqT X.K H d ys) (he : ∀ (i : Nat) (z w : V), xs[i]? = some z → ys[i]? = some w → (∀ j, j < i → bs j = true) → EqS X n H z w (bs i)) (c : AllB xs.length ys.length bs b) :
    CmpS X (n + 1) .Eq H (.ref a) (.ref d) b := by
  intro A pins s σ H1 u v sb sm I rx ry
  cases rx
  cases ry
  obtain ⟨its, r, e, _⟩ := I.tuple (SqT.ext ha sm)
  obtain ⟨its2, r2, e2, _⟩ := I.tuple (SqT.ext hd sm)
  have n1 : its.toArray.size = xs.length := by rw [List.size_toArray, ← r.length]
  have n2 : its2.toArray.size = ys.length := by rw [List.size_toArray, ← r2.length]
  obtain ⟨⟨cls, dd, data, sl⟩, ho, hc, k, hdt⟩ := id e
  obtain ⟨⟨cls2, dd2, data2, sl2⟩, ho2, hc2, k2, hdt2⟩ := id e2
  simp only at hc hdt hc2 hdt2
  subst hc hdt hc2 hdt2
  refine wpAny_richCompare_same_room (op := .Eq) ⟨_, ho, rfl⟩ ⟨_, ho2, rfl⟩ F.slot_tuple_eq (GQ.call_here F.slot_tuple_eq ⟨_, ho, rfl⟩ F.entry_tuple_eq (F.args_tuple_eq_2 _ _) ?_) sb.room.units0
  refine SkW.tuple_eqU (R := wants (fun v s' => v ≠ .notImplemented ∧ v = .bool b ∧ ∃ H', Inv X pins σ H' s' ∧ Same H1 H') X.xe) a d its.toArray its2.toArray k k2 dd dd2 sl sl2 bs (fun _ s' => ∃ H', Inv X pins σ H' s' ∧ Same H1 H')
    (fun i h1 h2 s' no q => item_eq sb.in1 r r2 he i h1 h2 no s' H1 sm q) (fun i s' h1 h2 q h3 h4 => ⟨(fun x => nomatch x), by rw [c.hit i (by omega) (by omega) h3 h4], q⟩) (fun s' q h2 => ⟨(fun x => nomatch x), ?_, q⟩) ho ho2 ⟨H1, I, Same.refl _⟩
  rw [n1, n2] at h2 ⊢
  by_cases hN : xs.length = ys.length
  · rw [c.fin hN fun i hi => h2 i (by omega)]
    simp [hN]
  · rw [c.dif hN]
    simp [hN]
theorem cmpS_tupN {bs : Nat → Bool} (ha : SqT X.K H a xs) (hd : SqT X.K H d ys) (he : ∀ (i : Nat) (z w : V), xs[i]? = some z → ys[i]? = some w → (∀ j, j < i → bs j = true) → EqS X n H z w (bs i)) (c : AllB xs.length ys.length bs b) :
    CmpS X (n + 1) .NotEq H (.ref a) (.ref d) (!b) := by
  intro A pins s σ H1 u v sb sm I rx ry
  cases rx
  cases ry
  obtain ⟨its, r, e, _⟩ := I.tuple (SqT.ext ha sm)
  obtain ⟨its2, r2, e2, _⟩ := I.tuple (SqT.ext hd sm)
  have n1 : its.toArray.size = xs.length := by rw [List.size_toArray, ← r.length]
  have n2 : its2.toArray.size = ys.length := by rw [List.size_toArray, ← r2.length]
  obtain ⟨⟨cls, dd, data, sl⟩, ho, hc, k, hdt⟩ := id e
  obtain ⟨⟨cls2, dd2, data2, sl2⟩, ho2, hc2, k2, hdt2⟩ := id e2
  simp only at hc hdt hc2 hdt2
  subst hc hdt hc2 hdt2
  refine wpAny_richCompare_same_room (op := .NotEq) ⟨_, ho, rfl⟩ ⟨_, ho2, rfl⟩ F.slot_tuple_ne (GQ.call_here F.slot_tuple_ne ⟨_, ho, rfl⟩ F.entry_tuple_ne (F.args_tuple_ne_2 _ _) ?_) sb.room.units0
  refine SkW.tuple_neU (R := wants (fun v s' => v ≠ .notImplemented ∧ v = .bool (!b) ∧ ∃ H', Inv X pins σ H' s' ∧ Same H1 H') X.xe) a d its.toArray its2.toArray k k2 dd dd2 sl sl2 bs (fun _ s' => ∃ H', Inv X pins σ H' s' ∧ Same H1 H')
    (fun i h1 h2 s' no q => item_eq sb.in1 r r2 he i h1 h2 no s' H1 sm q) (fun i s' h1 h2 q h3 h4 => ⟨(fun x => nomatch x), by rw [c.hit i (by omega) (by omega) h3 h4]; rfl, q⟩) (fun s' q h2 => ⟨(fun x => nomatch x), ?_, q⟩) ho ho2 ⟨H1, I, Same.refl _⟩
  rw [n1, n2] at h2 ⊢
  by_cases hN : xs.length = ys.length
  · rw [c.fin hN fun i hi => h2 i (by omega)]
    simp [hN]
  · rw [c.dif hN]
    simp [hN]
/-- two dicts of ints -/
theorem cmpS_dict {ks ls : List (Str × Int)} (ea : Rd H a (.dK (kvS ks))) (eb : Rd H d (.dK (kvS ls))) : CmpS X 1 .Eq H (.ref a) (.ref d) (sameC ks ls) ∧ CmpS X 1 .NotEq H (.ref a) (.ref d) (!sameC ks ls) := by
  have rd : ∀ {H1 : Hp} {p : Addr} {o : HO}, Same H H1 → Rd H p o → Rd H1 p o := fun sm r => r.elim (fun r => .inl (sm _ _ r)) fun ⟨ob, r⟩ => .inr ⟨ob, sm _ _ r⟩
  refine ⟨fun A pins s σ H1 u v sb sm I rx ry => ?_, fun A pins s σ H1 u v sb sm I rx ry => ?_⟩
  all_goals
    cases rx
    cases ry
    obtain ⟨_, ya, va, ra, da⟩ := (show ObjOk X.prog X.w H1 s.heap a (.dK (kvS ks)) from (rd sm ea).ok I.hok)
    obtain ⟨_, yb, vb, rb, db⟩ := (show ObjOk X.prog X.w H1 s.heap d (.dK (kvS ls)) from (rd sm eb).ok I.hok)
    have la : va.length = ks.length := by rw [← ra.length]; simp [kvS]
    have lb : vb.length = ls.length := by rw [← rb.length]; simp [kvS]
  · exact PySem.W.keq_eq (knd := mixKind X.prog X.w) ya yb da db sb.room.units0 (fun _ => hits_ints rb ra) ⟨by rw [la, lb]; rfl, H1, I, Same.refl _⟩
  · exact PySem.W.keq_ne (knd := mixKind X.prog X.w) ya yb da db sb.room.units0 (fun _ => hits_ints rb ra) ⟨by rw [la, lb]; rfl, H1, I, Same.refl _⟩
/-- by the own == of what stands left -/
theorem cmpS_own (c : C8.Met X.prog X.w X.K X.mg X.base n C "__eq__" sp []) {dx : Addr} {fs : List (Str × V)} {t : Value} (ha : H a = some (.ins C dx fs)) (ty : ∀ H1, Same H H1 → TyX X.K H1 y t) (nf : notFirst X.K C t = true)
    (hsp : ∀ H1, Same H H1 → sp [.ref a, y] H1 (fun v H' => v = .bl b ∧ Same H1 H') C8.E0) : CmpS X n .Eq H (.ref a) y b := by
  intro A pins s σ H1 u v sb sm I rx ry
  cases rx
  obtain ⟨mA, O, _⟩ := ins_get I.hok (sm _ _ ha)
  obtain ⟨od, J, _⟩ := O.look
  obtain ⟨m, hF⟩ := I.fr
  obtain ⟨f, hm, q⟩ := run_met c sb I (.cons (show RelV (V.ref a) (Value.ref a) from rfl) (.cons ry .nil)) (hsp H1 sm)
  refine PySem.W.cmp_K (op := .Eq) sb.room.units0 hF I.ok.mod.kin J (looks_ty I ry (ty H1 sm)) nf hm.at_ hm.fn (thn q fun v s1 hv => ?_)
  obtain ⟨z, H', I', rz, rfl, sm'⟩ := hv
  cases rz
  exact ⟨rfl, H', I', sm'⟩
theorem cmpS_ownN (c : C8.Met X.prog X.w X.K X.mg X.base n C "__eq__" sp []) (i : IsiC X.K C) {dx : Addr} {fs : List (Str × V)} {t : Value} (ha : H a = some (.ins C dx fs)) (ty : ∀ H1, Same H H1 → TyX X.K H1 y t) (nf : notFirst X.K C t = true)
    (hsp : ∀ H1, Same H H1 → sp [.ref a, y] H1 (fun v H' => v = .bl b ∧ Same H1 H') C8.E0) : CmpS X (n + 1) .NotEq H (.ref a) y (!b) := by
  intro A pins s σ H1 u v sb sm I rx ry
  cases rx
  obtain ⟨mA, O, _⟩ := ins_get I.hok (sm _ _ ha)
  obtain ⟨od, J, _⟩ := O.look
  obtain ⟨f, hm, q⟩ := run_met c sb.in1 I (.cons (show RelV (V.ref a) (Value.ref a) from rfl) (.cons ry .nil)) (hsp H1 sm)
  refine neNonly (op := .NotEq) sb.room.units0 I.kIn J (looks_ty I ry (ty H1 sm)) nf (tryNe_K (by have := sb.room.units; omega) I.kIn J hm.at_ hm.fn i.ne i.hm (thn q fun v s1 hv => ?_))
  obtain ⟨z, H', I', rz, rfl, sm'⟩ := hv
  cases rz
  exact ⟨b, rfl, _, rfl, rfl, H', I', sm'⟩
/-- left a value of a built-in type -/
inductive KdU (K : PySem.W.Frag) (H : Hp) : V → Prop where
  | non : KdU K H .non
  | int (i : Int) : KdU K H (.int i)
  | str (z : Str) : KdU K H (.str z)
  | lst {l : Addr} {xs : List V} (h : H l = some (.lst xs)) : KdU K H (.ref l)
  | tup {l : Addr} {xs : List V} (h : SqT K H l xs) : KdU K H (.ref l)
  | dK {l : Addr} {kvs : List (Key × V)} (h : H l = some (.dK kvs)) : KdU K H (.ref l)
/-- left a value of a built-in type, right an own thing -/
theorem cmpS_back (c : C8.Met X.prog X.w X.K X.mg X.base n C "__eq__" sp []) (i : IsiC X.K C) {dx : Addr} {fs : List (Str × V)} (ha : H a = some (.ins C dx fs)) (k : KdU X.K H x)
    (hsp : ∀ H1, Same H H1 → sp [.ref a, x] H1 (fun v H' => v = .bl b ∧ Same H1 H') C8.E0) : CmpS X n .Eq H x (.ref a) b := by
  intro A pins s σ H1 u v sb sm I rx ry
  cases ry
  obtain ⟨mA, O, _⟩ := ins_get I.hok (sm _ _ ha)
  obtain ⟨od, J, _⟩ := O.look
  obtain ⟨f, hm, q⟩ := run_met c sb I (.cons (show RelV (V.ref a) (Value.ref a) from rfl) (.cons rx .nil)) (hsp H1 sm)
  have back : wpAny (model X.prog X.w) A (call (.ref f) [.ref a, u]) (PySem.W.CmpBack fun v s' => v = .bool b ∧ ∃ H', Inv X pins σ H' s' ∧ Same H1 H') X.xe s := thn q fun v s1 hv => by
    obtain ⟨z, H', I', rz, rfl, sm'⟩ := hv
    cases rz
    exact ⟨rfl, H', I', sm'⟩
  have hu := sb.room.units0
  cases k with
  | non =>
    cases rx
    exact SkW.rc_back hu I.kIn J rfl (i.sub _ (by simp)) F.slot_NoneType_eq F.entry_NoneType_eq (F.args_NoneType_eq_2 _ _) (fun R h => SkW.dec_none h) hm.at_ hm.fn back
  | int z =>
    obtain ⟨t, rfl⟩ := rx
    exact SkW.rc_back hu I.kIn J (typeIs_int s z t) (i.sub _ (by simp)) F.slot_int_eq F.entry_int_eq (F.args_int_eq_2 _ _) (fun R h => SkW.dec_int O.obj h) hm.at_ hm.fn back
  | str z =>
    obtain ⟨t, rfl⟩ := rx
    exact SkW.rc_back hu I.kIn J (typeIs_str s z t) (i.sub _ (by simp)) F.slot_str_eq F.entry_str_eq (F.args_str_eq_2 _ _) (fun R h => SkW.dec_str O.obj h) hm.at_ hm.fn back
  | @lst l xs hl =>
    cases rx
    obtain ⟨_, _, k, _, e⟩ := I.hok l _ (sm _ _ hl)
    exact SkW.rc_back hu I.kIn J ⟨_, e, rfl⟩ (i.sub _ (by simp)) F.slot_list_eq F.entry_list_eq (F.args_list_eq_2 _ _) (fun R h => SkW.dec_list I.kIn J (i.sub _ (by simp)) h) hm.at_ hm.fn back
  | @tup l xs hl =>
    cases rx
    obtain ⟨its, _, ⟨o, e, ec, _⟩, _⟩ := I.tuple (SqT.ext hl sm)
    exact SkW.rc_back hu I.kIn J ⟨_, e, ec⟩ (i.sub _ (by simp)) F.slot_tuple_eq F.entry_tuple_eq (F.args_tuple_eq_2 _ _) (fun R h => SkW.dec_tuple I.kIn J (i.sub _ (by simp)) h) hm.at_ hm.fn back
  | @dK l kvs hl =>
    cases rx
    obtain ⟨_, _, vs, _, o, es, ep, e, ec, _⟩ := (show ObjOk X.prog X.w H1 s.heap l (.dK kvs) from I.hok l _ (sm _ _ hl))
    exact SkW.rc_back hu I.kIn J ⟨_, e, ec.1⟩ (i.sub _ (by simp)) F.slot_dict_eq F.entry_dict_eq (F.args_dict_eq_2 _ _) (fun R h => SkW.dec_dict I.kIn J (i.sub _ (by simp)) h) hm.at_ hm.fn back
/-- lists and tuples beside flat things and one another -/
theorem lstAt {pins : List (Addr × Obj)} {s : Shared} {σ : L2.St} {H1 : Hp} (I : Inv X pins σ H1 s) (h : H1 a = some (.lst xs)) : ∃ its, s.heap.IsList a its := by
  obtain ⟨_, its, k, _, e⟩ := I.hok a _ h
  exact ⟨_, _, e, rfl, k, rfl⟩
theorem tupAt {pins : List (Addr × Obj)} {s : Shared} {σ : L2.St} {H1 : Hp} (I : Inv X pins σ H1 s) (h : SqT X.K H1 a xs) : ∃ its, s.heap.IsTuple a its := by
  obtain ⟨its, _, e, _⟩ := I.tuple h
  exact ⟨_, e⟩
theorem CmpS.at (h : ∀ (A : Around) (pins : List (Addr × Obj)) (s : Shared) (σ : L2.St) (H1 : Hp) (u v : Value), A.units < cLine → Same H H1 → Inv X pins σ H1 s → RelV x u → RelV y v → SeqAt.RcAt A s u v b) : CmpS X 0 .Eq H x y b := fun A pins s σ H1 u v sb sm I rx ry =>
  h A pins s σ H1 u v sb.room.units0 sm I rx ry X.prog X.w X.xe _ ⟨rfl, H1, I, Same.refl _⟩
theorem CmpS.atN (h : ∀ (A : Around) (pins : List (Addr × Obj)) (s : Shared) (σ : L2.St) (H1 : Hp) (u v : Value), A.units < cLine → Same H H1 → Inv X pins σ H1 s → RelV x u → RelV y v → SeqAt.RcNeAt A s u v b) : CmpS X 0 .NotEq H x y b := fun A pins s σ H1 u v sb sm I rx ry =>
  h A pins s σ H1 u v sb.room.units0 sm I rx ry X.prog X.w X.xe _ ⟨rfl, H1, I, Same.refl _⟩
theorem EqS.at (h : ∀ (A : Around) (pins : List (Addr × Obj)) (s : Shared) (σ : L2.St) (H1 : Hp) (u v : Value), A.units < cLine → Same H H1 → Inv X pins σ H1 s → RelV x u → RelV y v → SeqAt.EqAt A s u v b) : EqS X 0 H x y b := fun A pins s σ H1 u v sb sm I rx ry =>
  h A pins s σ H1 u v sb.room.units0 sm I rx ry X.prog X.w X.xe _ ⟨rfl, H1, I, Same.refl _⟩
/-- one half of a comparison that is told False -/
structure Dif (X : Cx) (H : Hp) (x y : V) : Prop where
  e : EqS X 0 H x y false
  c : CmpS X 0 .Eq H x y false
  n : CmpS X 0 .NotEq H x y true
theorem dif_lst_flat (ha : H a = some (.lst xs)) (fy : flatV y = true) : Dif X H (.ref a) y ∧ Dif X H y (.ref a) := by
  cases y with
  | non =>
    refine ⟨⟨.at fun A pins s σ H1 u v hu sm I rx ry => ?_, .at fun A pins s σ H1 u v hu sm I rx ry => ?_, .atN fun A pins s σ H1 u v hu sm I rx ry => ?_⟩, ⟨.at fun A pins s σ H1 u v hu sm I rx ry => ?_, .at fun A pins s σ H1 u v hu sm I rx ry => ?_, .atN fun A pins s σ H1 u v hu sm I rx ry => ?_⟩⟩
    all_goals
      obtain ⟨its, h⟩ := lstAt I (sm _ _ ha)
      cases rx
      cases ry
    · exact .list_none h hu
    · exact .list_none h hu
    · exact .list_none h hu
    · exact .none_list h hu
    · exact .none_list h hu
    · exact .none_list h hu
  | bl k =>
    refine ⟨⟨.at fun A pins s σ H1 u v hu sm I rx ry => ?_, .at fun A pins s σ H1 u v hu sm I rx ry => ?_, .atN fun A pins s σ H1 u v hu sm I rx ry => ?_⟩, ⟨.at fun A pins s σ H1 u v hu sm I rx ry => ?_, .at fun A pins s σ H1 u v hu sm I rx ry => ?_, .atN fun A pins s σ H1 u v hu sm I rx ry => ?_⟩⟩
    all_goals
      obtain ⟨its, h⟩ := lstAt I (sm _ _ ha)
      cases rx
      cases ry
    · exact .list_bool _ h hu
    · exact .list_bool _ h hu
    · exact .list_bool _ h hu
    · exact .bool_list _ h hu
    · exact .bool_list _ h hu
    · exact .bool_list _ h hu
  | int k =>
    refine ⟨⟨.at fun A pins s σ H1 u v hu sm I rx ry => ?_, .at fun A pins s σ H1 u v hu sm I rx ry => ?_, .atN fun A pins s σ H1 u v hu sm I rx ry => ?_⟩, ⟨.at fun A pins s σ H1 u v hu sm I rx ry => ?_, .at fun A pins s σ H1 u v hu sm I rx ry => ?_, .atN fun A pins s σ H1 u v hu sm I rx ry => ?_⟩⟩
    all_goals
      obtain ⟨its, h⟩ := lstAt I (sm _ _ ha)
    · cases rx; obtain ⟨t, rfl⟩ := ry; exact .list_int _ _ h hu
    · cases rx; obtain ⟨t, rfl⟩ := ry; exact .list_int _ _ h hu
    · cases rx; obtain ⟨t, rfl⟩ := ry; exact .list_int _ _ h hu
    · cases ry; obtain ⟨t, rfl⟩ := rx; exact .int_list _ _ h hu
    · cases ry; obtain ⟨t, rfl⟩ := rx; exact .int_list _ _ h hu
    · cases ry; obtain ⟨t, rfl⟩ := rx; exact .int_list _ _ h hu
  | str k =>
    refine ⟨⟨.at fun A pins s σ H1 u v hu sm I rx ry => ?_, .at fun A pins s σ H1 u v hu sm I rx ry => ?_, .atN fun A pins s σ H1 u v hu sm I rx ry => ?_⟩, ⟨.at fun A pins s σ H1 u v hu sm I rx ry => ?_, .at fun A pins s σ H1 u v hu sm I rx ry => ?_, .atN fun A pins s σ H1 u v hu sm I rx ry => ?_⟩⟩
    all_goals
      obtain ⟨its, h⟩ := lstAt I (sm _ _ ha)
    · cases rx; obtain ⟨t, rfl⟩ := ry; exact .list_str _ _ h hu
    · cases rx; obtain ⟨t, rfl⟩ := ry; exact .list_str _ _ h hu
    · cases rx; obtain ⟨t, rfl⟩ := ry; exact .list_str _ _ h hu
    · cases ry; obtain ⟨t, rfl⟩ := rx; exact .str_list _ _ h hu
    · cases ry; obtain ⟨t, rfl⟩ := rx; exact .str_list _ _ h hu
    · cases ry; obtain ⟨t, rfl⟩ := rx; exact .str_list _ _ h hu
  | _ => exact absurd (show false = true from fy) Bool.false_ne_true
theorem dif_tup_flat (ha : SqT X.K H a xs) (fy : flatV y = true) : Dif X H (.ref a) y ∧ Dif X H y (.ref a) := by
  cases y with
  | non =>
    refine ⟨⟨.at fun A pins s σ H1 u v hu sm I rx ry => ?_, .at fun A pins s σ H1 u v hu sm I rx ry => ?_, .atN fun A pins s σ H1 u v hu sm I rx ry => ?_⟩, ⟨.at fun A pins s σ H1 u v hu sm I rx ry => ?_, .at fun A pins s σ H1 u v hu sm I rx ry => ?_, .atN fun A pins s σ H1 u v hu sm I rx ry => ?_⟩⟩
    all_goals
      obtain ⟨its, h⟩ := tupAt I (SqT.ext ha sm)
      cases rx
      cases ry
    · exact .tuple_none h hu
    · exact .tuple_none h hu
    · exact .tuple_none h hu
    · exact .none_tuple h hu
    · exact .none_tuple h hu
    · exact .none_tuple h hu
  | bl k =>
    refine ⟨⟨.at fun A pins s σ H1 u v hu sm I rx ry => ?_, .at fun A pins s σ H1 u v hu sm I rx ry => ?_, .atN fun A pins s σ H1 u v hu sm I rx ry => ?_⟩, ⟨.at fun A pins s σ H1 u v hu sm I rx ry => ?_, .at fun A pins s σ H1 u v hu sm I rx ry => ?_, .atN fun A pins s σ H1 u v hu sm I rx ry => ?_⟩⟩
    all_goals
      obtain ⟨its, h⟩ := tupAt I (SqT.ext ha sm)
      cases rx
      cases ry
    · exact .tuple_bool _ h hu
    · exact .tuple_bool _ h hu
    · exact .tuple_bool _ h hu
    · exact .bool_tuple _ h hu
    · exact .bool_tuple _ h hu
    · exact .bool_tuple _ h hu
  | int k =>
    refine ⟨⟨.at fun A pins s σ H1 u v hu sm I rx ry => ?_, .at fun A pins s σ H1 u v hu sm I rx ry => ?_, .atN fun A pins s σ H1 u v hu sm I rx ry => ?_⟩, ⟨.at fun A pins s σ H1 u v hu sm I rx ry => ?_, .at fun A pins s σ H1 u v hu sm I rx ry => ?_, .atN fun A pins s σ H1 u v hu sm I rx ry => ?_⟩⟩
    all_goals
      obtain ⟨its, h⟩ := tupAt I (SqT.ext ha sm)
    · cases rx; obtain ⟨t, rfl⟩ := ry; exact .tuple_int _ _ h hu
    · cases rx; obtain ⟨t, rfl⟩ := ry; exact .tuple_int _ _ h hu
    · cases rx; obtain ⟨t, rfl⟩ := ry; exact .tuple_int _ _ h hu
    · cases ry; obtain ⟨t, rfl⟩ := rx; exact .int_tuple _ _ h hu
    · cases ry; obtain ⟨t, rfl⟩ := rx; exact .int_tuple _ _ h hu
    · cases ry; obtain ⟨t, rfl⟩ := rx; exact .int_tuple _ _ h hu
  | str k =>
    refine ⟨⟨.at fun A pins s σ H1 u v hu sm I rx ry => ?_, .at fun A pins s σ H1 u v hu sm I rx ry => ?_, .atN fun A pins s σ H1 u v hu sm I rx ry => ?_⟩, ⟨.at fun A pins s σ H1 u v hu sm I rx ry => ?_, .at fun A pins s σ H1 u v hu sm I rx ry => ?_, .atN fun A pins s σ H1 u v hu sm I rx ry => ?_⟩⟩
    all_goals
      obtain ⟨its, h⟩ := tupAt I (SqT.ext ha sm)
    · cases rx; obtain ⟨t, rfl⟩ := ry; exact .tuple_str _ _ h hu
    · cases rx; obtain ⟨t, rfl⟩ := ry; exact .tuple_str _ _ h hu
    · cases rx; obtain ⟨t, rfl⟩ := ry; exact .tuple_str _ _ h hu
    · cases ry; obtain ⟨t, rfl⟩ := rx; exact .str_tuple _ _ h hu
    · cases ry; obtain ⟨t, rfl⟩ := rx; exact .str_tuple _ _ h hu
    · cases ry; obtain ⟨t, rfl⟩ := rx; exact .str_tuple _ _ h hu
  | _ => exact absurd (show false = true from fy) Bool.false_ne_true
theorem dif_lst_tup (ha : H a = some (.lst xs)) (hd : SqT X.K H d ys) : Dif X H (.ref a) (.ref d) ∧ Dif X H (.ref d) (.ref a) := by
  refine ⟨⟨.at fun A pins s σ H1 u v hu sm I rx ry => ?_, .at fun A pins s σ H1 u v hu sm I rx ry => ?_, .atN fun A pins s σ H1 u v hu sm I rx ry => ?_⟩, ⟨.at fun A pins s σ H1 u v hu sm I rx ry => ?_, .at fun A pins s σ H1 u v hu sm I rx ry => ?_, .atN fun A pins s σ H1 u v hu sm I rx ry => ?_⟩⟩
  all_goals
    obtain ⟨its, h⟩ := lstAt I (sm _ _ ha)
    obtain ⟨its2, h2⟩ := tupAt I (SqT.ext hd sm)
    cases rx
    cases ry
  · exact .list_tuple h h2 hu
  · exact .list_tuple h h2 hu
  · exact .list_tuple h h2 hu
  · exact .tuple_list h2 h hu
  · exact .tuple_list h2 h hu
  · exact .tuple_list h2 h hu
end
theorem cmpS_flat {X : Cx} {H : Hp} {x y : V} (fx : flatV x = true) (fy : flatV y = true) : CmpS X 0 .Eq H x y (eqV x y) ∧ CmpS X 0 .NotEq H x y (!eqV x y) := by
  refine ⟨.at fun A pins s σ H1 u v hu sm I rx ry => ?_, .atN fun A pins s σ H1 u v hu sm I rx ry => ?_⟩
  · cases x with
    | non =>
      cases rx
      cases y with
      | non => cases ry; exact .none_none
      | bl b => cases ry; exact .none_bool b
      | int b => obtain ⟨t, rfl⟩ := ry; exact .none_int b t
      | str b => obtain ⟨t, rfl⟩ := ry; exact .none_str b t
      | _ => exact absurd (show false = true from fy) Bool.false_ne_true
    | bl a =>
      cases rx
      cases y with
      | non => cases ry; exact .bool_none a
      | bl b => cases ry; exact .bool_bool a b
      | int b => obtain ⟨t, rfl⟩ := ry; exact .bool_int a b t
      | str b => obtain ⟨t, rfl⟩ := ry; exact .bool_str a b t
      | _ => exact absurd (show false = true from fy) Bool.false_ne_true
    | int a =>
      obtain ⟨t', rfl⟩ := rx
      cases y with
      | non => cases ry; exact .int_none a t'
      | bl b => cases ry; exact .int_bool a t' b
      | int b => obtain ⟨t, rfl⟩ := ry; exact .int_int a t' b t
      | str b => obtain ⟨t, rfl⟩ := ry; exact .int_str a t' b t
      | _ => exact absurd (show false = true from fy) Bool.false_ne_true
    | str a =>
      obtain ⟨t', rfl⟩ := rx
      cases y with
      | non => cases ry; exact .str_none a t'
      | bl b => cases ry; exact .str_bool a t' b
      | int b => obtain ⟨t, rfl⟩ := ry; exact .str_int a t' b t
      | str b => obtain ⟨t, rfl⟩ := ry; exact .str_str a t' b t
      | _ => exact absurd (show false = true from fy) Bool.false_ne_true
    | _ => exact absurd (show false = true from fx) Bool.false_ne_true
  · cases x with
    | non =>
      cases rx
      cases y with
      | non => cases ry; exact .none_none
      | bl b => cases ry; exact .none_bool b
      | int b => obtain ⟨t, rfl⟩ := ry; exact .none_int b t
      | str b => obtain ⟨t, rfl⟩ := ry; exact .none_str b t
      | _ => exact absurd (show false = true from fy) Bool.false_ne_true
    | bl a =>
      cases rx
      cases y with
      | non => cases ry; exact .bool_none a
      | bl b => cases ry; exact .bool_bool a b
      | int b => obtain ⟨t, rfl⟩ := ry; exact .bool_int a b t
      | str b => obtain ⟨t, rfl⟩ := ry; exact .bool_str a b t
      | _ => exact absurd (show false = true from fy) Bool.false_ne_true
    | int a =>
      obtain ⟨t', rfl⟩ := rx
      cases y with
      | non => cases ry; exact .int_none a t'
      | bl b => cases ry; exact .int_bool a t' b
      | int b => obtain ⟨t, rfl⟩ := ry; exact .int_int a t' b t
      | str b => obtain ⟨t, rfl⟩ := ry; exact .int_str a t' b t
      | _ => exact absurd (show false = true from fy) Bool.false_ne_true
    | str a =>
      obtain ⟨t', rfl⟩ := rx
      cases y with
      | non => cases ry; exact .str_none a t'
      | bl b => cases ry; exact .str_bool a t' b
      | int b => obtain ⟨t, rfl⟩ := ry; exact .str_int a t' b t
      | str b => obtain ⟨t, rfl⟩ := ry; exact .str_str a t' b t
      | _ => exact absurd (show false = true from fy) Bool.false_ne_true
    | _ => exact absurd (show false = true from fx) Bool.false_ne_true
section
variable {X : Cx} {n : Nat} {op : CmpOp}
/-- == and != of any two -/
def rCmpU (X : Cx) (n : Nat) (op : CmpOp) : R2 := fun x y H Q => ∃ b, CmpS X n op H x y b ∧ ∀ H', Same H H' → Q (.bl b) H'
theorem cmpU_run (hr : Room n X.A) {pins : List (Addr × Obj)} {s : Shared} {σ : L2.St} {H : Hp} {x y : V} {v u : Value} {Q : VK} (I : Inv X pins σ H s) (rx : RelV x v) (ry : RelV y u) (h : rCmpU X n op x y H Q) :
    wpAny (model X.prog X.w) X.A (richCompare op v u) (EP X pins σ Q) X.xe s := by
  obtain ⟨b, h, q⟩ := h
  refine wpAny_mono (h X.A pins s σ H v u ⟨hr, rfl⟩ (Same.refl _) I rx ry) (fun r s' z => ?_) fun _ _ e => e
  obtain ⟨rfl, H', I', sm⟩ := z
  exact ⟨.bl b, H', I', rfl, q H' sm⟩
theorem op_eqU (hr : Room n X.A) : OpR X (compareOp .Eq) (rCmpU X n .Eq) := fun pins s σ H x y v u Q I rx ry h => cmpU_run hr I rx ry h
theorem op_neU (hr : Room n X.A) : OpR X (compareOp .NotEq) (rCmpU X n .NotEq) := fun pins s σ H x y v u Q I rx ry h => cmpU_run hr I rx ry h
end
end Sk

set_option maxHeartbeats 4000000
/-! == and != of any data, own things by their own ==; in value form. -/
namespace Dv
open PySem PySem.Spec PyProof.Rows L2 Sk
def eqDs (f : D → D → Option Bool) : List D → List D → Option Bool
  | [], [] => some true
  | x :: xs, y :: ys => match f x y with
    | some true => eqDs f xs ys
    | some false => some false
    | none => none
  | _, _ => some false
def csOf : List (Key × D) → Option (List (Str × Int))
  | [] => some []
  | (.inr k, .int i) :: r => match csOf r with
    | some cs => some ((k, i) :: cs)
    | none => none
  | _ => none
def flatQ (x : D) (b : Bool) : Option Bool := match vFlat x with
  | some _ => some b
  | none => none
/-- what stands left of an own thing -/
def backOk : D → Bool
  | .non => true | .int _ => true | .str _ => true | .lst _ => true | .tup _ => true
  | _ => false
def eqD (ob : D → D → Option Bool) : Nat → D → D → Option Bool
  | 0, _, _ => none
  | m + 1, x, y => match x, y with
    | .lst xs, .lst ys => eqDs (eqD ob m) xs ys
    | .tup xs, .tup ys => eqDs (eqD ob m) xs ys
    | .dic ks, .dic ls => match csOf ks, csOf ls with
      | some a, some b => some (sameC a b)
      | _, _ => none
    | .obj c fs, y => ob (.obj c fs) y
    | x, .obj c fs => if backOk x = true then ob (.obj c fs) x else none
    | .lst _, .tup _ => some false
    | .tup _, .lst _ => some false
    | .lst _, y => flatQ y false
    | .tup _, y => flatQ y false
    | x, .lst _ => flatQ x false
    | x, .tup _ => flatQ x false
    | x, y => match vFlat x, vFlat y with
      | some v, some w => some (eqV v w)
      | _, _ => none
section
variable {K : PySem.W.Frag} {W : WX} {G : Gh} {L LL : List (Addr × Obj)} {env : Sls} {σ : L2.St} {F F' H H' : Hp} {p a b : Addr} {o : HO} {d x y : D} {xs ys : List D} {vs ws : List V} {v w : V}
structure GoodF (K : PySem.W.Frag) (F : Hp) : Prop where
  nd : ∀ (p : Addr) (ks : List (Str × Int)), F p = some (.dK (kvS ks)) → (keysOf ks).Nodup
  tu : ∀ (p : Addr) (vs ws : List V), SqT K F p vs → SqT K F p ws → vs = ws
  lt : ∀ (p : Addr) (vs ws : List V), F p = some (.lst vs) → SqT K F p ws → False
  ltd : ∀ (p : Addr) (vs : List (Key × V)) (ws : List V), F p = some (.dK vs) → SqT K F p ws → False
  lto : ∀ (p C dx : Addr) (vs : List (Str × V)) (ws : List V), F p = some (.ins C dx vs) → SqT K F p ws → False
/-- what == may know of what stands right -/
def TyOk (K : PySem.W.Frag) (c : Str) (y : D) : Prop := ∃ t, (∀ F H v, Sees F H → Pk K F H y v → TyX K H v t) ∧ PySem.W.notFirst K (He.ga K c) t = true
structure OwnOb (P : Program) (w : World) (K : PySem.W.Frag) (mg : Str → Option Value) (base : Heap) (n : Nat) (ob : D → D → Option Bool) : Prop where
  run : ∀ x y k, ob x y = some k → ∃ c fs f, x = .obj c fs ∧ C8.Met P w K mg base n (He.ga K c) "__eq__" (FS.to K f) [] ∧ IsiC K (He.ga K c) ∧ f.ms = [false, false] ∧ f.fr = false ∧ f.sp [x, y] (fun z _ => z = .bl k) (fun _ _ => False) ∧ TyOk K c y
  refl : ∀ F x y a k, GoodF K F → Is K F x (.ref a) → Is K F y (.ref a) → ob x y = some k → k = true
theorem eqDs_at {f : D → D → Option Bool} {k : Bool} : ∀ {xs ys : List D}, eqDs f xs ys = some k → ∀ {i : Nat} {x y : D}, xs[i]? = some x → ys[i]? = some y → (∀ j x y, j < i → xs[j]? = some x → ys[j]? = some y → f x y = some true) → ∃ b, f x y = some b
  | [], _, _, _, _, _, h, _, _ => by simp at h
  | _ :: _, [], _, _, _, _, _, h, _ => by simp at h
  | x0 :: xs, y0 :: ys, e, i, x, y, hx, hy, no => by
    unfold eqDs at e
    cases i with
    | zero =>
      simp at hx hy
      subst hx hy
      cases q : f x0 y0 with
      | none => rw [q] at e; cases e
      | some b => exact ⟨b, rfl⟩
    | succ i =>
      rw [no 0 x0 y0 (Nat.succ_pos i) rfl rfl] at e
      exact eqDs_at e (i := i) (by simpa using hx) (by simpa using hy) fun j x y hj h1 h2 => no (j + 1) x y (by omega) (by simpa using h1) (by simpa using h2)
theorem eqDs_all {f : D → D → Option Bool} {k : Bool} (bs : Nat → Bool) : ∀ {xs ys : List D}, eqDs f xs ys = some k → (∀ (i : Nat) x y, xs[i]? = some x → ys[i]? = some y → (f x y).getD false = bs i) → AllB xs.length ys.length bs k
  | [], [], e, h => by
    cases e
    exact ⟨fun z => (z rfl).elim, fun i hi => absurd hi (Nat.not_lt_zero _), fun _ _ => rfl⟩
  | [], _ :: _, e, h => by
    cases e
    exact ⟨fun _ => rfl, fun i hi => absurd hi (Nat.not_lt_zero _), fun z => by simp at z⟩
  | _ :: _, [], e, h => by
    cases e
    exact ⟨fun _ => rfl, fun i _ hi => absurd hi (Nat.not_lt_zero _), fun z => by simp at z⟩
  | x0 :: xs, y0 :: ys, e, h => by
    unfold eqDs at e
    have h0 := h 0 x0 y0 rfl rfl
    cases q : f x0 y0 with
    | none => rw [q] at e; cases e
    | some b0 =>
      rw [q] at e h0
      have h0 : b0 = bs 0 := h0
      cases b0 with
      | true =>
        have r := eqDs_all (fun i => bs (i + 1)) (xs := xs) (ys := ys) e fun i x y h1 h2 => h (i + 1) x y (by simpa using h1) (by simpa using h2)
        refine ⟨fun z => r.dif (by simpa using z), fun i h1 h2 h3 h4 => ?_, fun z g => r.fin (by simpa using z) fun i hi => g (i + 1) (by simpa using hi)⟩
        cases i with
        | zero => rw [← h0] at h3; cases h3
        | succ i => exact r.hit i (by simpa using h1) (by simpa using h2) h3 fun j hj => h4 (j + 1) (by omega)
      | false =>
        cases e
        exact ⟨fun _ => rfl, fun _ _ _ _ _ => rfl, fun _ g => by have := g 0 (by simp); rw [← h0] at this; cases this⟩
theorem csOf_ok : ∀ {ks : List (Key × D)} {cs : List (Str × Int)}, csOf ks = some cs → ks = cs.map fun p => (Sum.inr p.1, D.int p.2)
  | [], cs, e => by cases e; rfl
  | (.inl _, _) :: r, cs, e => by cases e
  | (.inr k, .int i) :: r, cs, e => by
    unfold csOf at e
    cases q : csOf r with
    | none => rw [q] at e; cases e
    | some c =>
      rw [q] at e
      cases e
      rw [csOf_ok q]
      rfl
  | (.inr k, .non) :: r, cs, e => by cases e
  | (.inr k, .bl _) :: r, cs, e => by cases e
  | (.inr k, .str _) :: r, cs, e => by cases e
  | (.inr k, .ref _) :: r, cs, e => by cases e
  | (.inr k, .ty _) :: r, cs, e => by cases e
  | (.inr k, .scr _) :: r, cs, e => by cases e
  | (.inr k, .lst _) :: r, cs, e => by cases e
  | (.inr k, .tup _) :: r, cs, e => by cases e
  | (.inr k, .dic _) :: r, cs, e => by cases e
  | (.inr k, .obj _ _) :: r, cs, e => by cases e
  | (.inr k, .pin _ _) :: r, cs, e => by cases e
theorem csOf_cs : ∀ (cs : List (Str × Int)), csOf (cs.map fun p => (Sum.inr p.1, D.int p.2)) = some cs
  | [] => rfl
  | p :: r => by
    show (match csOf (r.map fun p => (Sum.inr p.1, D.int p.2)) with
      | some cs => some ((p.1, p.2) :: cs)
      | none => none) = _
    rw [csOf_cs r]
theorem kvS_inj : ∀ {a b : List (Str × Int)}, kvS a = kvS b → a = b
  | [], [], _ => rfl
  | [], _ :: _, h => by simp [kvS] at h
  | _ :: _, [], h => by simp [kvS] at h
  | (k, i) :: a, (l, j) :: b, h => by
    simp only [kvS, List.map_cons] at h
    injection h with h1 h2
    injection h1 with h3 h4
    injection h3 with h3
    injection h4 with h4
    rw [h3, h4, kvS_inj (show kvS a = kvS b from h2)]
theorem vFlat_eq {u1 u2 : V} (e1 : vFlat x = some u1) (e2 : vFlat y = some u2) (h1 : Is K F x v) (h2 : Is K F y v) : eqV u1 u2 = true := by
  obtain ⟨q1, q2⟩ := vFlat_ok h1 e1
  obtain ⟨q3, _⟩ := vFlat_ok h2 e2
  subst q1
  subst q3
  cases v <;> first | rfl | exact absurd q2 Bool.false_ne_true | simp [eqV]
/-- the same value: equal -/
theorem eqD_same {P : Program} {wd : World} {mg : Str → Option Value} {base : Heap} {n : Nat} {ob : D → D → Option Bool} (O : OwnOb P wd K mg base n ob) (g : GoodF K F) : ∀ (m : Nat) {x y : D} {a : Addr} {k : Bool}, Is K F x (.ref a) → Is K F y (.ref a) → eqD ob m x y = some k → k = true := by
  have items : ∀ (m : Nat), (∀ {x y : D} {a : Addr} {k : Bool}, Is K F x (.ref a) → Is K F y (.ref a) → eqD ob m x y = some k → k = true) → ∀ {xs ys : List D} {vs : List V} {k : Bool}, IsL K F xs vs → IsL K F ys vs → eqDs (eqD ob m) xs ys = some k → k = true := by
    intro m ih xs
    induction xs with
    | nil =>
      intro ys vs k h1 h2 e
      cases h1
      cases h2
      cases e
      rfl
    | cons x xs ihx =>
      intro ys vs k h1 h2 e
      cases h1 with
      | cons i1 r1 =>
        cases h2 with
        | cons i2 r2 =>
          rename_i v vs' y ys
          unfold eqDs at e
          cases q : eqD ob m x y with
          | none => rw [q] at e; cases e
          | some b0 =>
            rw [q] at e
            have hb : b0 = true := by
              cases v with
              | ref a => exact ih i1 i2 q
              | _ =>
                cases m with
                | zero => cases q
                | succ m =>
                  cases i1 <;> cases i2 <;> first | (simp [eqD, vFlat, eqV] at q; done) | (simp [eqD, vFlat, eqV] at q; exact q) | (simp [eqD, vFlat, eqV] at q; exact q.symm)
            subst hb
            exact ihx r1 r2 e
  intro m
  induction m with
  | zero => intro x y a k _ _ e; cases e
  | succ m ih =>
    intro x y a k i1 i2 e
    unfold eqD at e
    split at e
    · cases i1 with
      | lst f1 g1 =>
        cases i2 with
        | lst f2 g2 =>
          rw [f1] at f2
          cases f2
          exact items m ih g1 g2 e
    · cases i1 with
      | tup f1 g1 =>
        cases i2 with
        | tup f2 g2 =>
          have := g.tu _ _ _ f1 f2
          subst this
          exact items m ih g1 g2 e
    · split at e
      · rename_i c1 c2 e1 e2
        cases e
        have := csOf_ok e1
        subst this
        have := csOf_ok e2
        subst this
        cases i1 with
        | dic f1 g1 =>
          cases i2 with
          | dic f2 g2 =>
            rw [f1] at f2
            cases f2
            have q1 := isK_cs g1
            have q2 := isK_cs g2
            subst q1
            have := kvS_inj q2
            subst this
            exact perm_same (List.Perm.refl _) (g.nd _ _ f1)
      · cases e
    · exact O.refl F _ _ a k g i1 i2 e
    · split at e
      · rename_i c fs _ hb
        exact O.refl F _ _ a k g i2 i1 e
      · cases e
    · cases i1 with
      | lst f1 g1 => cases i2 with | tup f2 g2 => exact (g.lt _ _ _ f1 f2).elim
    · cases i1 with
      | tup f1 g1 => cases i2 with | lst f2 g2 => exact (g.lt _ _ _ f2 f1).elim
    all_goals
      first
      | (unfold flatQ at e
         split at e
         · rename_i u eu
           first
           | (obtain ⟨q1, q2⟩ := vFlat_ok i2 eu; subst q1; cases q2)
           | (obtain ⟨q1, q2⟩ := vFlat_ok i1 eu; subst q1; cases q2)
         · cases e)
      | (split at e
         · rename_i u1 u2 e1 e2
           cases e
           exact vFlat_eq e1 e2 i1 i2
         · cases e)
theorem own_sp {f : FS} {k : Bool} (r : R K G L env σ F H) (ix : Is K F x v) (iy : Is K F y w) (hm : f.ms = [false, false]) (hf : f.fr = false) (h : f.sp [x, y] (fun z _ => z = .bl k) (fun _ _ => False)) :
    ∀ H1, Same H H1 → f.to K [v, w] H1 (fun u H' => u = .bl k ∧ Same H1 H') C8.E0 := fun H3 sm => by
  have r3 := r.same sm
  have rp : RelPs K σ F [.inl x, .inl y] [v, w] := .cons (show RelP K σ F (.inl x) v from ix) (.cons (show RelP K σ F (.inl y) w from iy) .nil)
  refine ⟨F, L ++ G.L0, _, (fun z _ => z = .bl k), (fun _ _ => False), by rw [hm]; exact r3.pre rp rfl List.nodup_nil, h, fun y nd e F3 H4 u po mr hv => ?_, fun y nd e F3 H4 cc dd po mr hx => e.elim⟩
  rw [hf] at hv
  have hv : Is K F3 y u := hv
  rw [e] at hv
  cases hv
  refine ⟨rfl, fun b o e => po.keep b o e ?_⟩
  rw [hm]
  exact fun z => nomatch z
theorem nodup_map {α β : Type} {f : α → β} : ∀ {l : List α}, (l.map f).Nodup → l.Nodup
  | [], _ => List.nodup_nil
  | a :: l, h => by
    obtain ⟨h1, h2⟩ := List.nodup_cons.mp (show (f a :: l.map f).Nodup from h)
    exact List.nodup_cons.mpr ⟨fun m => h1 (List.mem_map.mpr ⟨_, m, rfl⟩), nodup_map h2⟩
theorem vals_inj : ∀ {vs ws : List V} {us : List Value}, Vals vs us → Vals ws us → vs = ws
  | _, _, _, .nil, .nil => rfl
  | _, _, _, .cons h t, .cons h2 t2 => by rw [RelV.inj h h2, vals_inj t t2]
theorem goodF {X : Cx} {pins : List (Addr × Obj)} {s : Shared} {σ1 : L2.St} (see : Sees F H) (I : L2.Inv X pins σ1 H s) : GoodF X.K F := by
  refine ⟨fun p ks e => ?_, fun p vs ws h1 h2 => ?_, fun p vs ws h1 h2 => ?_, fun p vs ws h1 h2 => ?_, fun p C dx vs ws h1 h2 => ?_⟩
  rotate_left
  · obtain ⟨its, r1, e1, _⟩ := I.tuple (see.sqT h1)
    obtain ⟨its2, r2, e2, _⟩ := I.tuple (see.sqT h2)
    obtain ⟨o, ho, hc, n, hd⟩ := e1
    obtain ⟨o2, ho2, hc2, n2, hd2⟩ := e2
    rw [ho] at ho2
    cases ho2
    rw [hd] at hd2
    injection hd2 with hd2
    have : its = its2 := by simpa using hd2
    subst this
    exact vals_inj r1 r2
  · obtain ⟨its2, r2, e2, _⟩ := I.tuple (see.sqT h2)
    obtain ⟨o2, ho2, hc2, n2, hd2⟩ := e2
    obtain ⟨_, its, k, _, e⟩ := I.hok p _ (see.see _ _ h1 fun _ z => nomatch z)
    rw [e] at ho2
    cases ho2
    exact absurd (Value.type.inj hc2) (by decide)
  · obtain ⟨its2, r2, e2, _⟩ := I.tuple (see.sqT h2)
    obtain ⟨o2, ho2, hc2, n2, hd2⟩ := e2
    have rd := see.rd _ _ h1
    obtain ⟨_, ya, va, ra, da⟩ := (show ObjOk X.prog X.w H s.heap p (.dK vs) from rd.ok I.hok)
    obtain ⟨ep, dat⟩ := da.dictAt
    obtain ⟨ob, es, ho, ex, hdat, hko, hpr, hnd⟩ := dat
    rw [ho] at ho2
    cases ho2
    rw [ex.1] at hc2
    exact absurd (Value.type.inj hc2) (by decide)
  · obtain ⟨its2, r2, e2, _⟩ := I.tuple (see.sqT h2)
    obtain ⟨o2, ho2, hc2, n2, hd2⟩ := e2
    obtain ⟨mA, O, _⟩ := ins_get I.hok (see.see _ _ h1 fun _ z => nomatch z)
    rw [O.obj] at ho2
    cases ho2
    cases hc2
  have rd := see.rd _ _ e
  obtain ⟨_, ya, va, ra, da⟩ := (show ObjOk X.prog X.w H s.heap p (.dK (kvS ks)) from rd.ok I.hok)
  obtain ⟨ep, dat⟩ := da.dictAt
  obtain ⟨ob, es, ho, ex, hdat, hko, hpr, hnd⟩ := dat
  have key : ∀ {ks : List (Key × V)} {va : List (Key × Value)}, KV ks va → va.map (·.1) = ks.map (·.1) := by
    intro ks va h
    unfold KV at h
    induction h with
    | nil => rfl
    | cons h _ ih => rw [List.map_cons, List.map_cons, ih, h.1]
  rw [key ra, keys_kvS] at hnd
  exact nodup_map hnd
variable {X : Cx} {n : Nat} {ob : D → D → Option Bool}
theorem back_kd (see : Sees F H) (h : Pk K F H x v) (e : backOk x = true) : KdU K H v := by
  cases x with
  | non => rw [h.non]; exact .non
  | int i => rw [h.int]; exact .int _
  | str i => rw [h.str]; exact .str _
  | lst xs => obtain ⟨a, ws, rfl, h1, _⟩ := h.lst see; exact .lst h1
  | tup xs => obtain ⟨a, ws, rfl, h1, _⟩ := h.tup see; exact .tup h1
  | _ => cases e
theorem vFlat_pk {u : V} (h : Pk K F H x v) (e : vFlat x = some u) : v = u ∧ flatV u = true := by
  rcases h with h | ⟨a, rfl, _, h⟩
  · obtain ⟨q1, q2⟩ := vFlat_ok h e
    subst q1
    exact ⟨rfl, q2⟩
  · cases x <;> first | exact h.elim | cases e
/-- left something built in, right an own thing -/
def backQ : D → D → Bool
  | .obj _ _, _ => false
  | _, .obj _ _ => true
  | _, _ => false
/-- both answers at once: the comparison by == and by != -/
structure Both (X : Cx) (n : Nat) (H : Hp) (v w : V) (k : Bool) (bk : Bool) : Prop where
  e : CmpS X n .Eq H v w k
  n : bk = false → CmpS X n .NotEq H v w (!k)
theorem dboth {X : Cx} {n : Nat} {H : Hp} {v w : V} {bk : Bool} (d : Dif X H v w) : Both X n H v w false bk := ⟨d.c.mono (Nat.zero_le _), fun _ => d.n.mono (Nat.zero_le _)⟩
theorem eqD_S (O : OwnOb X.prog X.w X.K X.mg X.base n ob) (r : R X.K G L env σ F H) : ∀ (m : Nat) {x y : D} {v w : V} {k : Bool}, Is X.K F x v → Is X.K F y w → eqD ob m x y = some k → EqS X (n + m) H v w k := by
  have see := r.sees
  have same : ∀ (m : Nat) {x y : D} {a d : Addr} {k : Bool}, Is X.K F x (.ref a) → Is X.K F y (.ref d) → eqD ob m x y = some k → a = d → ∀ (pins : List (Addr × Obj)) (s : Shared) (σ : L2.St) (H1 : Hp), Same H H1 → L2.Inv X pins σ H1 s → k = true := by
    intro m x y a d k i1 i2 e ed pins s σ1 H1 sm I
    subst ed
    exact eqD_same O (goodF (r.same sm).sees I) m i1 i2 e
  intro m
  induction m with
  | zero => intro x y v w k _ _ e; cases e
  | succ m ih =>
    intro x y v w k i1 i2 e
    have e' := e
    have items : ∀ {xs ys : List D} {vs ws : List V}, IsL X.K F xs vs → IsL X.K F ys ws → eqDs (eqD ob m) xs ys = some k → ∃ bs : Nat → Bool, (∀ (i : Nat) (z w : V), vs[i]? = some z → ws[i]? = some w → (∀ j, j < i → bs j = true) → EqS X (n + m) H z w (bs i)) ∧ AllB vs.length ws.length bs k := by
      intro xs ys vs ws h1 h2 q
      refine ⟨fun i => match xs[i]?, ys[i]? with
        | some x, some y => (eqD ob m x y).getD false
        | _, _ => false, fun i z w hz hw no => ?_, ?_⟩
      · obtain ⟨x0, hx0, j1⟩ := h1.got hz
        obtain ⟨y0, hy0, j2⟩ := h2.got hw
        obtain ⟨b, eb⟩ := eqDs_at q hx0 hy0 fun j x y hj hx hy => by
          have := no j hj
          dsimp only at this
          rw [hx, hy] at this
          dsimp only at this
          cases q0 : eqD ob m x y with
          | none => rw [q0] at this; cases this
          | some b => rw [q0] at this; exact congrArg some this
        dsimp only
        rw [hx0, hy0]
        dsimp only
        rw [eb]
        exact ih j1 j2 eb
      · rw [← h1.length, ← h2.length]
        exact eqDs_all _ q fun i x y hx hy => by rw [hx, hy]
    unfold eqD at e
    split at e
    · cases i1 with
      | lst f1 g1 =>
        cases i2 with
        | lst f2 g2 =>
          obtain ⟨bs, h1, h2⟩ := items g1 g2 e
          exact EqS.refs (cmpS_list (seesL r f1) (seesL r f2) h1 h2) (same _ (.lst f1 g1) (.lst f2 g2) e')
    · cases i1 with
      | tup f1 g1 =>
        cases i2 with
        | tup f2 g2 =>
          obtain ⟨bs, h1, h2⟩ := items g1 g2 e
          exact EqS.refs (cmpS_tup (seesT r f1) (seesT r f2) h1 h2) (same _ (.tup f1 g1) (.tup f2 g2) e')
    · split at e
      · rename_i c1 c2 e1 e2
        cases e
        have := csOf_ok e1
        subst this
        have := csOf_ok e2
        subst this
        cases i1 with
        | dic f1 g1 =>
          cases i2 with
          | dic f2 g2 =>
            have q1 := isK_cs g1
            have q2 := isK_cs g2
            subst q1
            subst q2
            exact EqS.refs ((cmpS_dict (see.rd _ _ f1) (see.rd _ _ f2)).1.mono (by omega)) (same _ (.dic f1 g1) (.dic f2 g2) e')
      · cases e
    · obtain ⟨c, fs, f, ex, c0, ic, hm, hf, hsp, t, ht, nf⟩ := O.run _ _ _ e
      cases ex
      obtain ⟨a, dx, ws, rfl, ha, hw⟩ := Pk.obj see (.inl i1)
      have cm := cmpS_own (y := w) c0 ha (fun H1 s => ht F H1 w (r.same s).sees (.inl i2)) nf (own_sp r i1 i2 hm hf hsp)
      cases w with
      | ref d => exact (EqS.refs cm (same _ i1 i2 e')).mono (by omega)
      | _ =>
        refine EqS.mono (n := n) (fun A pins s σ1 H1 u1 v1 sb sm I rx ry => ?_) (by omega)
        cases rx
        refine SkW.eqBool_nf (fun _ _ z => nomatch z) (fun z => ?_) (wpAny_mono (cm A pins s σ1 H1 _ _ sb sm I rfl ry) (fun r s' q => ?_) fun _ _ e => e)
        · subst z
          have := RelV.inj ry (show RelV (V.ref a) (Value.ref a) from rfl)
          cases this
        · obtain ⟨rfl, q⟩ := q
          exact ⟨k, rfl, rfl, q⟩
    · split at e
      · rename_i c0 fs0 _ hb
        obtain ⟨c, fs, f, ex, c0, ic, hm, hf, hsp, t, ht, nf⟩ := O.run _ _ _ e
        cases ex
        obtain ⟨a, dx, ws, rfl, ha, hw⟩ := Pk.obj see (.inl i2)
        have cm := cmpS_back (x := v) c0 ic ha (back_kd see (.inl i1) hb) (own_sp r i2 i1 hm hf hsp)
        cases v with
        | ref d => exact (EqS.refs cm (same _ i1 i2 e')).mono (by omega)
        | _ =>
          refine EqS.mono (n := n) (fun A pins s σ1 H1 u1 v1 sb sm I rx ry => ?_) (by omega)
          refine SkW.eqBool_nf (fun x t z => ?_) (fun z => ?_) (wpAny_mono (cm A pins s σ1 H1 _ _ sb sm I rx ry) (fun r s' q => ?_) fun _ _ e => e)
          · subst z
            have : False := by
              cases i1 <;> first | (obtain ⟨_, q⟩ := rx; cases q; done) | (cases rx; done)
            exact this.elim
          · subst z
            cases ry
            have := RelV.inj rx (show RelV (V.ref a) (Value.ref a) from rfl)
            cases this
          · obtain ⟨rfl, q⟩ := q
            exact ⟨k, rfl, rfl, q⟩
      · cases e
    · cases e
      cases i1 with
      | lst f1 g1 => cases i2 with | tup f2 g2 => exact (dif_lst_tup (seesL r f1) (seesT r f2)).1.e.mono (Nat.zero_le _)
    · cases e
      cases i1 with
      | tup f1 g1 => cases i2 with | lst f2 g2 => exact (dif_lst_tup (seesL r f2) (seesT r f1)).2.e.mono (Nat.zero_le _)
    · unfold flatQ at e
      split at e
      · rename_i u eu
        cases e
        obtain ⟨q1, q2⟩ := vFlat_ok i2 eu
        subst q1
        cases i1 with
        | lst f1 g1 => exact (dif_lst_flat (seesL r f1) q2).1.e.mono (Nat.zero_le _)
      · cases e
    · unfold flatQ at e
      split at e
      · rename_i u eu
        cases e
        obtain ⟨q1, q2⟩ := vFlat_ok i2 eu
        subst q1
        cases i1 with
        | tup f1 g1 => exact (dif_tup_flat (seesT r f1) q2).1.e.mono (Nat.zero_le _)
      · cases e
    · unfold flatQ at e
      split at e
      · rename_i u eu
        cases e
        obtain ⟨q1, q2⟩ := vFlat_ok i1 eu
        subst q1
        cases i2 with
        | lst f1 g1 => exact (dif_lst_flat (seesL r f1) q2).2.e.mono (Nat.zero_le _)
      · cases e
    · unfold flatQ at e
      split at e
      · rename_i u eu
        cases e
        obtain ⟨q1, q2⟩ := vFlat_ok i1 eu
        subst q1
        cases i2 with
        | tup f1 g1 => exact (dif_tup_flat (seesT r f1) q2).2.e.mono (Nat.zero_le _)
      · cases e
    · split at e
      · rename_i u1 u2 e1 e2
        cases e
        obtain ⟨q1, q2⟩ := vFlat_ok i1 e1
        obtain ⟨q3, q4⟩ := vFlat_ok i2 e2
        subst q1
        subst q3
        exact (eqS_flat q2 q4).mono (Nat.zero_le _)
      · cases e
/-- .. at the operator: operands may be one's own -/
theorem eqD_C (O : OwnOb X.prog X.w X.K X.mg X.base n ob) (r : R X.K G L env σ F H) {m : Nat} {x y : D} {v w : V} {k : Bool} (i1 : Pk X.K F H x v) (i2 : Pk X.K F H y w) (e : eqD ob (m + 1) x y = some k) (own1 : ∀ c fs, x = .obj c fs → Is X.K F x v) (own2 : ∀ c fs, y = .obj c fs → Is X.K F y w)
    (ow3 : ∀ c fs, x = .obj c fs → Is X.K F y w) (ow4 : ∀ c fs, y = .obj c fs → Is X.K F x v) : Both X (n + m + 1) H v w k (backQ x y) := by
  have see := r.sees
  have items : ∀ {xs ys : List D} {vs ws : List V}, IsL X.K F xs vs → IsL X.K F ys ws → eqDs (eqD ob m) xs ys = some k → ∃ bs : Nat → Bool, (∀ (i : Nat) (z w : V), vs[i]? = some z → ws[i]? = some w → (∀ j, j < i → bs j = true) → EqS X (n + m) H z w (bs i)) ∧ AllB vs.length ws.length bs k := by
    intro xs ys vs ws h1 h2 q
    refine ⟨fun i => match xs[i]?, ys[i]? with
      | some x, some y => (eqD ob m x y).getD false
      | _, _ => false, fun i z w hz hw no => ?_, ?_⟩
    · obtain ⟨x0, hx0, j1⟩ := h1.got hz
      obtain ⟨y0, hy0, j2⟩ := h2.got hw
      obtain ⟨b, eb⟩ := eqDs_at q hx0 hy0 fun j x y hj hx hy => by
        have := no j hj
        dsimp only at this
        rw [hx, hy] at this
        dsimp only at this
        cases q0 : eqD ob m x y with
        | none => rw [q0] at this; cases this
        | some b => rw [q0] at this; exact congrArg some this
      dsimp only
      rw [hx0, hy0]
      dsimp only
      rw [eb]
      exact eqD_S O r m j1 j2 eb
    · rw [← h1.length, ← h2.length]
      exact eqDs_all _ q fun i x y hx hy => by rw [hx, hy]
  unfold eqD at e
  split at e
  · obtain ⟨a, us, rfl, f1, g1⟩ := i1.lst see
    obtain ⟨b, ws, rfl, f2, g2⟩ := i2.lst see
    obtain ⟨bs, h1, h2⟩ := items g1 g2 e
    exact ⟨cmpS_list f1 f2 h1 h2, fun _ => cmpS_listN f1 f2 h1 h2⟩
  · obtain ⟨a, us, rfl, f1, g1⟩ := i1.tup see
    obtain ⟨b, ws, rfl, f2, g2⟩ := i2.tup see
    obtain ⟨bs, h1, h2⟩ := items g1 g2 e
    exact ⟨cmpS_tup f1 f2 h1 h2, fun _ => cmpS_tupN f1 f2 h1 h2⟩
  · split at e
    · rename_i c1 c2 e1 e2
      cases e
      have := csOf_ok e1
      subst this
      have := csOf_ok e2
      subst this
      obtain ⟨a, us, rfl, f1, g1⟩ := i1.dic see
      obtain ⟨b, ws, rfl, f2, g2⟩ := i2.dic see
      have q1 := isK_cs g1
      have q2 := isK_cs g2
      subst q1
      subst q2
      exact ⟨(cmpS_dict f1 f2).1.mono (by omega), fun _ => (cmpS_dict f1 f2).2.mono (by omega)⟩
    · cases e
  · have j1 := own1 _ _ rfl
    have j2 := ow3 _ _ rfl
    obtain ⟨c, fs, f, ex, c0, ic, hm, hf, hsp, t, ht, nf⟩ := O.run _ _ _ e
    cases ex
    obtain ⟨a, dx, ws, rfl, ha, hw⟩ := Pk.obj see (.inl j1)
    exact ⟨(cmpS_own c0 ha (fun H1 s => ht F H1 w (r.same s).sees (.inl j2)) nf (own_sp r j1 j2 hm hf hsp)).mono (by omega), fun _ => (cmpS_ownN c0 ic ha (fun H1 s => ht F H1 w (r.same s).sees (.inl j2)) nf (own_sp r j1 j2 hm hf hsp)).mono (by omega)⟩
  · split at e
    · rename_i c0 fs0 _ hb
      have j2 := own2 _ _ rfl
      have j1 := ow4 _ _ rfl
      obtain ⟨c, fs, f, ex, c0, ic, hm, hf, hsp, t, ht, nf⟩ := O.run _ _ _ e
      cases ex
      obtain ⟨a, dx, ws, rfl, ha, hw⟩ := Pk.obj see (.inl j2)
      refine ⟨(cmpS_back c0 ic ha (back_kd see (.inl j1) hb) (own_sp r j2 j1 hm hf hsp)).mono (by omega), fun z => ?_⟩
      cases x <;> first | (cases hb; done) | (cases z; done)
    · cases e
  · cases e
    obtain ⟨a, us, rfl, f1, g1⟩ := i1.lst see
    obtain ⟨b, ws, rfl, f2, g2⟩ := i2.tup see
    exact (dboth (dif_lst_tup f1 f2).1)
  · cases e
    obtain ⟨a, us, rfl, f1, g1⟩ := i1.tup see
    obtain ⟨b, ws, rfl, f2, g2⟩ := i2.lst see
    exact (dboth (dif_lst_tup f2 f1).2)
  · unfold flatQ at e
    split at e
    · rename_i u eu
      cases e
      obtain ⟨rfl, q2⟩ := vFlat_pk i2 eu
      obtain ⟨a, us, rfl, f1, g1⟩ := i1.lst see
      exact (dboth (dif_lst_flat f1 q2).1)
    · cases e
  · unfold flatQ at e
    split at e
    · rename_i u eu
      cases e
      obtain ⟨rfl, q2⟩ := vFlat_pk i2 eu
      obtain ⟨a, us, rfl, f1, g1⟩ := i1.tup see
      exact (dboth (dif_tup_flat f1 q2).1)
    · cases e
  · unfold flatQ at e
    split at e
    · rename_i u eu
      cases e
      obtain ⟨rfl, q2⟩ := vFlat_pk i1 eu
      obtain ⟨a, us, rfl, f1, g1⟩ := i2.lst see
      exact (dboth (dif_lst_flat f1 q2).2)
    · cases e
  · unfold flatQ at e
    split at e
    · rename_i u eu
      cases e
      obtain ⟨rfl, q2⟩ := vFlat_pk i1 eu
      obtain ⟨a, us, rfl, f1, g1⟩ := i2.tup see
      exact (dboth (dif_tup_flat f1 q2).2)
    · cases e
  · split at e
    · rename_i u1 u2 e1 e2
      cases e
      obtain ⟨q1, q2⟩ := vFlat_pk i1 e1
      obtain ⟨q3, q4⟩ := vFlat_pk i2 e2
      subst q1
      subst q3
      exact ⟨(cmpS_flat q2 q4).1.mono (Nat.zero_le _), fun _ => (cmpS_flat q2 q4).2.mono (Nat.zero_le _)⟩
    · cases e
/-- what is looked at is known, or no object stands on either side -/
def known (env : Sls) : P9 → Bool
  | .inl _ => true
  | .inr i => match env[i]? with
    | some (.im _) => true
    | _ => false
def isObj : D → Bool
  | .obj _ _ => true
  | _ => false
def okU (env : Sls) (neg : Bool) (p q : P9) (x y : D) : Bool := (!(isObj x || isObj y) || (known env p && known env q)) && !(neg && backQ x y)
theorem R.kn (r : R K G L env σ F H) {p : P9} (rp : RelP K σ F p v) (e : look9 env p = some x) (k : known env p = true) : Is K F x v := by
  cases p with
  | inl y =>
    cases e
    exact rp
  | inr i =>
    have rp : σ[i]? = some (some v) := rp
    unfold known at k
    unfold look9 at e
    dsimp only at k e
    cases q : env[i]? with
    | none => rw [q] at k; cases k
    | some s =>
      rw [q] at k e
      cases s with
      | im d =>
        cases e
        obtain ⟨u, h1, h2⟩ := r.im i _ q
        rw [rp] at h1
        cases h1
        exact h2
      | _ => cases k
/-- x == y, x != y -/
def dEqU (neg : Bool) (ob : D → D → Option Bool) (m : Nat) (a b : Op9) : DE := fun X env Q => a.ev X env fun p e1 => b.ev X e1 fun q e2 => match look9 e2 p, look9 e2 q with
  | some x, some y => okU e2 neg p q x y = true ∧ some9 (eqD ob (m + 1) x y) fun k => Q (.bl (if neg then !k else k)) e2
  | _, _ => False
theorem sim_eqU {neg : Bool} {m : Nat} {a b : Op9} {ta tb : TE} (hK : X.K = K) (O : OwnOb X.prog X.w X.K X.mg X.base n ob) (ha : SimO K W a ta) (hb : SimO K W b tb) : SimE K W (dEqU neg ob m a b) (tOp (rCmpU X (n + m + 1) (if neg then .NotEq else .Eq)) ta tb) := by
  subst hK
  refine ⟨fun {G L env σ F H X9 Q9 Q} r h q x => ?_⟩
  refine ha.run r h (fun p e1 v F1 H1 r1 s1 p1 h1 => hb.run r1 h1 (fun p2 e2 w F2 H2 r2 s2 rp2 h2 => ?_) x) x
  split at h2
  · rename_i x y ex ey
    obtain ⟨ok, h2⟩ := h2
    obtain ⟨k, ek, h2⟩ := some9_ex h2
    have p1 := p1.mono s2
    unfold okU at ok
    rw [Bool.and_eq_true] at ok
    obtain ⟨ok1, ok2⟩ := ok
    have kn : (isObj x || isObj y) = true → known e2 p = true ∧ known e2 p2 = true := fun z => by
      rw [z] at ok1
      simpa using ok1
    have o1 : ∀ c fs, x = .obj c fs → (isObj x || isObj y) = true := fun c fs e => by rw [e]; rfl
    have o2 : ∀ c fs, y = .obj c fs → (isObj x || isObj y) = true := fun c fs e => by rw [e]; simp [isObj]
    have bo := eqD_C O r2 (r2.pk p1 ex) (r2.pk rp2 ey) ek (fun c fs e => r2.kn p1 ex (kn (o1 c fs e)).1) (fun c fs e => r2.kn rp2 ey (kn (o2 c fs e)).2) (fun c fs e => r2.kn rp2 ey (kn (o1 c fs e)).2) (fun c fs e => r2.kn p1 ex (kn (o2 c fs e)).1)
    have fin : ∀ H', Same H2 H' → ∀ kk, kk = (if neg = true then !k else k) → Q (.bl kk) H' := fun H' sm kk e => q _ e2 _ F2 H' (r2.same sm) (s1.trans s2) (by rw [e]; exact .bl) h2
    cases neg with
    | true =>
      have bk : backQ x y = false := by simpa using ok2
      exact ⟨!k, bo.n bk, fun H' sm => fin H' sm _ rfl⟩
    | false => exact ⟨k, bo.e, fun H' sm => fin H' sm _ rfl⟩
  · exact h2.elim
/-- x in xs, x not in xs -/
def inDs (f : D → D → Option Bool) (x : D) : List D → Option Bool
  | [] => some false
  | y :: ys => match f y x, inDs f x ys with
    | some b, some c => some (b || c)
    | _, _ => none
def itemsU : D → Option (List D)
  | .lst xs => some xs
  | .tup xs => some xs
  | _ => none
def dInU (neg : Bool) (ob : D → D → Option Bool) (m : Nat) (a b : Op9) : DE := fun X env Q => a.ev X env fun p e1 => b.ev X e1 fun q e2 => match look9 e2 p, look9 e2 q with
  | some x, some y => known e2 p = true ∧ some9 (itemsU y) fun ys => some9 (inDs (eqD ob m) x ys) fun k => Q (.bl (if neg then !k else k)) e2
  | _, _ => False
theorem inDs_at {f : D → D → Option Bool} {k : Bool} : ∀ {ys : List D}, inDs f x ys = some k → ∀ {i : Nat} {y : D}, ys[i]? = some y → ∃ b, f y x = some b
  | [], _, _, _, h => by simp at h
  | y0 :: ys, e, i, y, h => by
    unfold inDs at e
    split at e
    · rename_i b c e1 e2
      cases i with
      | zero => simp at h; subst h; exact ⟨b, e1⟩
      | succ i => exact inDs_at e2 (i := i) (by simpa using h)
    · cases e
theorem inDs_any {f : D → D → Option Bool} {k : Bool} : ∀ {ys : List D}, inDs f x ys = some k → k = ys.any fun y => (f y x).getD false
  | [], e => by cases e; rfl
  | y0 :: ys, e => by
    unfold inDs at e
    split at e
    · rename_i b c e1 e2
      cases e
      rw [List.any_cons, e1, inDs_any e2]
      rfl
    · cases e
theorem sim_inU {neg : Bool} {m : Nat} {a b : Op9} {ta tb : TE} (hK : X.K = K) (O : OwnOb X.prog X.w X.K X.mg X.base n ob) (ha : SimO K W a ta) (hb : SimO K W b tb) : SimE K W (dInU neg ob m a b) (tOp (rInS X (n + m) neg) ta tb) := by
  subst hK
  refine ⟨fun {G L env σ F H X9 Q9 Q} r h q x => ?_⟩
  refine ha.run r h (fun p e1 v F1 H1 r1 s1 p1 h1 => hb.run r1 h1 (fun p2 e2 w F2 H2 r2 s2 rp2 h2 => ?_) x) x
  split at h2
  · rename_i x y ex ey
    obtain ⟨kn, h2⟩ := h2
    obtain ⟨ys, ei, h2⟩ := some9_ex h2
    obtain ⟨k, ek, h2⟩ := some9_ex h2
    have i1 := r2.kn (p1.mono s2) ex kn
    have fin : ∀ H', Same H2 H' → ∀ kk, kk = (if neg = true then !k else k) → Q (.bl kk) H' := fun H' sm kk e => q _ e2 _ F2 H' (r2.same sm) (s1.trans s2) (by rw [e]; exact .bl) h2
    have main : ∀ {b : Addr} {us : List V}, IsL X.K F2 ys us → (H2 b = some (.lst us) ∨ SqT X.K H2 b us) → rInS X (n + m) neg v (.ref b) H2 Q := by
      intro b us g hb
      have ka := inDs_any ek
      refine ⟨b, us, fun i => match ys[i]? with
        | some y => (eqD ob m y x).getD false
        | none => false, rfl, hb, fun i z hz => ?_, fun hh H' sm => fin H' sm _ ?_, fun hh H' sm => fin H' sm _ ?_⟩
      · obtain ⟨y0, hy, iy⟩ := g.got hz
        obtain ⟨b0, eb⟩ := inDs_at ek hy
        dsimp only
        rw [hy]
        dsimp only
        rw [eb]
        exact eqD_S O r2 m iy i1 eb
      · obtain ⟨i, hi, hb0⟩ := hh
        have hi' : i < ys.length := by rw [g.length]; exact hi
        have hk : k = true := by
          rw [ka, List.any_eq_true]
          refine ⟨ys[i], List.getElem_mem hi', ?_⟩
          dsimp only at hb0
          rw [List.getElem?_eq_getElem hi'] at hb0
          exact hb0
        rw [hk]
        cases neg <;> rfl
      · have hk : k = false := by
          cases k with
          | false => rfl
          | true =>
            have ka := ka.symm
            rw [List.any_eq_true] at ka
            obtain ⟨y0, hm, hy⟩ := ka
            obtain ⟨i, hi, rfl⟩ := List.mem_iff_getElem.mp hm
            have := hh i (by rw [← g.length]; exact hi)
            dsimp only at this
            rw [List.getElem?_eq_getElem hi] at this
            dsimp only at this
            rw [this] at hy
            cases hy
        rw [hk]
        cases neg <;> rfl
    cases y with
    | lst zs =>
      cases ei
      obtain ⟨b, us, rfl, f1, g1⟩ := (r2.pk rp2 ey).lst r2.sees
      exact main g1 (.inl f1)
    | tup zs =>
      cases ei
      obtain ⟨b, us, rfl, f1, g1⟩ := (r2.pk rp2 ey).tup r2.sees
      exact main g1 (.inr f1)
    | _ => cases ei
  · exact h2.elim
end
/-- no own == -/
def ob0 : D → D → Option Bool := fun _ _ => none
theorem own0 {P : Program} {w : World} {K : PySem.W.Frag} {mg : Str → Option Value} {base : Heap} : OwnOb P w K mg base 0 ob0 := ⟨(fun _ _ _ e => nomatch e), (fun _ _ _ _ _ _ _ _ e => nomatch e)⟩
theorem eqDs_map {α : Type} [DecidableEq α] {f : D → D → Option Bool} {g : α → D} : ∀ {a b : List α}, (∀ x ∈ a, ∀ y ∈ b, f (g x) (g y) = some (decide (x = y))) → eqDs f (a.map g) (b.map g) = some (decide (a = b))
  | [], [], _ => by simp [eqDs]
  | [], _ :: _, _ => by simp [eqDs]
  | _ :: _, [], _ => by simp [eqDs]
  | x :: a, y :: b, h => by
    have ih := eqDs_map (f := f) (g := g) (a := a) (b := b) fun x hx y hy => h x (List.mem_cons_of_mem _ hx) y (List.mem_cons_of_mem _ hy)
    rw [List.map_cons, List.map_cons, eqDs, h x List.mem_cons_self y List.mem_cons_self]
    by_cases e : x = y
    · subst e
      rw [decide_eq_true rfl]
      dsimp only
      rw [ih]
      simp
    · rw [decide_eq_false e]
      simp [e]
theorem eqD_strs {ob : D → D → Option Bool} (m : Nat) (a b : List Str) : eqD ob (m + 2) (.lst (a.map D.str)) (.lst (b.map D.str)) = some (decide (a = b)) := by
  show eqDs (eqD ob (m + 1)) _ _ = _
  exact eqDs_map fun x _ y _ => by
    show some (x == y) = _
    rfl
theorem eqD_same_strs {ob : D → D → Option Bool} (m : Nat) {a b : List Str} (h : a = b) : eqD ob (m + 2) (.lst (a.map D.str)) (.lst (b.map D.str)) = some true := by rw [eqD_strs, decide_eq_true h]
end Dv

set_option maxHeartbeats 4000000
/-! Exceptions in value form: raise, what leaves a def, calls of such defs, try .. except C as e, e.f, isinstance(e, ..). -/
namespace Dv
open PySem PySem.Spec PyProof.Rows L2 Sk
section
variable {K : PySem.W.Frag} {W : WX} {G : Gh} {L LL : List (Addr × Obj)} {env : Sls} {σ : L2.St} {F F' H H' : Hp} {p a : Addr} {o : HO} {d x : D} {fr : Bool}
/-! ### raise C(e) -/
def dRaise (c f : Str) (d : DE) : DS := fun X _ env => d X env fun x e => X (.obj c [(f, x)]) e
theorem sim_raise {c f : Str} {d : DE} {te : TE} (s : SimE K W d te) : SimS K W fr (dRaise c f d) (fun _ σ H => tMkG (He.ga K c) f te σ H fun cls d H' => W cls d σ H') := ⟨fun {G L env σ F H X9 E D} r h q x => s.run r h (fun y e v F1 H1 r1 s1 i1 h1 A hA => by
  have sm : Same F1 (upd F1 A (.xd [(f, v)])) := same_upd (r1.free hA)
  exact x _ e σ _ _ _ _ (r1.newK hA (.xd [(f, v)])) ⟨c, [(f, y)], A, [(f, v)], rfl, rfl, rfl, upd_same, .cons (i1.mono sm) .nil⟩ h1) (fun e env' c dd F' H' => x e env' σ c dd F' H')⟩
/-! ### a def that may raise -/
def endsX (f : FS) (E : D → List D → Prop) : XK9 := fun e env => match musOf f.ms env with
  | some l => E e l
  | none => False
theorem body_okX {f : FS} {N : List Str} {vs : List V} {Q : VK} {E : XK} {t : TS} {d : DS} (S : SimS K (fun c dd _ H => E c dd H) f.fr d t) (hN : f.ms.length ≤ N.length) (h : ∀ ds Q9 E9, f.sp ds Q9 E9 → d (endsX f E9) (ends9 f Q9) (start9 f.ms ds N.length)) (q : f.to K vs H Q E) :
    t { nx := fun _ H' => Q .non H', rt := Q } (L2.start N vs) H := by
  obtain ⟨F, LL, ds, Q9, E9, pr, hs, hq, he⟩ := q
  have r0 := R.begin pr hN
  have hl := pr.args.length
  have post : ∀ {env : Sls} {σ : L2.St} {F' H' : Hp}, R K { H0 := H, F0 := F, M := mus f.ms vs, L0 := LL, X := [], P := vs } [] env σ F' H' → Post LL (mus f.ms vs) F H F' H' := fun r =>
    ⟨r.base, r.grow, r.see, fun a o e n => (r.pres a o e n).elim id fun ⟨_, z, _⟩ => nomatch z⟩
  have fin : ∀ {env : Sls} {σ : L2.St} {F' H' : Hp} {nd : List D}, R K { H0 := H, F0 := F, M := mus f.ms vs, L0 := LL, X := [], P := vs } [] env σ F' H' → musOf f.ms env = some nd → MusR K F' H' f.ms vs nd := fun r e =>
    mus_end (k := 0) r (by omega) (by simpa using e) fun i v h => by simpa using h
  refine S.run r0 (h ds Q9 E9 hs) ⟨fun env σ F' H' r s k => ?_, fun y env σ F' H' v r s hv k => ?_, fun env σ F' H' r s k => k.elim, fun env σ F' H' r s k => k.elim⟩ (fun e env σ c dd F' H' r hx k => ?_)
  · obtain ⟨hf, k⟩ := k
    split at k
    · rename_i l el
      exact hq _ _ k F' H' .non (post r) (fin r el) (by rw [hf]; exact .non)
    · exact k.elim
  · have k : (match musOf f.ms env with
      | some l => Q9 y l
      | none => False) := k
    split at k
    · rename_i l el
      refine hq _ _ k F' H' v (post r) (fin r el) ?_
      split
      · rename_i hf
        rw [if_pos hf] at hv
        obtain ⟨a, e, fr⟩ := hv
        exact ⟨a, e, fr.f, fr.h0, fr.has⟩
      · rename_i hf
        rw [if_neg hf] at hv
        exact hv
    · exact k.elim
  · unfold endsX at k
    split at k
    · rename_i l el
      exact he _ _ k F' H' c dd (post r) (fin r el) hx
    · exact k.elim
/-! ### calls of such defs -/
def dCallX (f : FS) (os : List Op9) (dds : List D) : DE := fun X env Q => evs os X env fun ps e => match argsOf e ps with
  | some ds => f.sp (ds ++ dds) (fun r nd => Q r (putMus e ps nd)) (fun z nd => X z (putMus e ps nd))
  | none => False
theorem callX_core {f : FS} {os : List Op9} {t : TA} {dvs : List V} {dds : List D} {X9 : XK9} {Q9 : D → Sls → Prop} {Q : VK} (so : Run2 K W os t) (hm : f.ms = os.map opS ++ dds.map fun _ => false) (hd : ∀ F, IsL K F dds dvs) (hn : (opSlots os).Nodup)
    (r : R K G L env σ F H) (h : dCallX f os dds X9 env Q9) (q : ∀ (y : D) (e : Sls) (v : V) (F2 H2 : Hp), R K G L e σ F2 H2 → Same F F2 → (if f.fr = true then ∃ a, v = .ref a ∧ Fresh K G e σ F2 H2 y a else Is K F2 y v) → Q9 y e → Q v H2)
    (x : ∀ e env' c dd F' H', R K G L env' σ F' H' → XR K F' H' e c dd → X9 e env' → W c dd σ H') : tCallSD (f.to K) dvs (WE W) t σ H Q := by
  refine so x r h fun ps e vs F1 H1 r1 s1 p1 m1 l1 h1 => ?_
  split at h1
  · rename_i ds eds
    exact call_tail r1 p1 eds (by rw [hm, m1]) hd (by rw [l1]; exact hn) h1 (fun y e v F2 H2 r2 s2 hv k => q y e v F2 H2 r2 (s1.trans s2) hv k) x
  · exact h1.elim
theorem sim_callX {f : FS} {os : List Op9} {t : TA} {dvs : List V} {dds : List D} (so : SimOs K W os t) (hm : f.ms = os.map opS ++ dds.map fun _ => false) (hd : ∀ F, IsL K F dds dvs) (hn : (opSlots os).Nodup)
    (hf : f.fr = false) : SimE K W (dCallX f os dds) (tCallSD (f.to K) dvs (WE W) t) := ⟨fun {G L env σ F H X9 Q9 Q} r h q x => callX_core so.to2 hm hd hn r h (fun y e v F2 H2 r2 s2 hv k => q y e v F2 H2 r2 s2 (by rw [hf] at hv; exact hv) k) x⟩
theorem sim_callXF {f : FS} {os : List Op9} {t : TA} {dvs : List V} {dds : List D} (so : SimOs K W os t) (hm : f.ms = os.map opS ++ dds.map fun _ => false) (hd : ∀ F, IsL K F dds dvs) (hn : (opSlots os).Nodup)
    (hf : f.fr = true) : SimF K W (dCallX f os dds) (tCallSD (f.to K) dvs (WE W) t) := ⟨fun {G L env σ F H X9 Q9 Q} r h q x => callX_core so.to2 hm hd hn r h (fun y e v F2 H2 r2 s2 hv k => by
  rw [hf] at hv
  obtain ⟨a, rfl, fr⟩ := hv
  exact q y e a F2 H2 r2 s2 fr k) x⟩
/-! o.m(..) -/
def dMethX (c m : Str) (f : FS) (o : Op9) (os : List Op9) (dds : List D) : DE := fun X env Q => o.ev X env fun p e => match look9 e p with
  | some (.obj c' fs) => (c' = c ∧ fs.lookup m = none) ∧ evs os X e fun ps e2 => match argsOf e2 (p :: ps) with
    | some ds => f.sp (ds ++ dds) (fun r nd => Q r (putMus e2 (p :: ps) nd)) (fun z nd => X z (putMus e2 (p :: ps) nd))
    | none => False
  | _ => False
theorem methX_core {c m : Str} {f : FS} {o : Op9} {os : List Op9} {to : TE} {t : TA} {dvs : List V} {dds : List D} {X9 : XK9} {Q9 : D → Sls → Prop} {Q : VK} (s : SimO K W o to) (so : SimOs K W os t) (hm : f.ms = (o :: os).map opS ++ dds.map fun _ => false) (hd : ∀ F, IsL K F dds dvs) (hn : (opSlots (o :: os)).Nodup)
    (r : R K G L env σ F H) (h : dMethX c m f o os dds X9 env Q9) (q : ∀ (y : D) (e : Sls) (v : V) (F2 H2 : Hp), R K G L e σ F2 H2 → Same F F2 → (if f.fr = true then ∃ a, v = .ref a ∧ Fresh K G e σ F2 H2 y a else Is K F2 y v) → Q9 y e → Q v H2)
    (x : ∀ e env' c dd F' H', R K G L env' σ F' H' → XR K F' H' e c dd → X9 e env' → W c dd σ H') : tMethSD (He.ga K c) m (f.to K) dvs (WE W) to t σ H Q := by
  refine s.run2 r h (fun p e0 v0 F0 H0 r0 s0 p0 m0 l0 h0 => ?_) x
  split at h0
  · rename_i c' fs ex
    obtain ⟨⟨ec, hlk⟩, h0⟩ := h0
    subst ec
    obtain ⟨a, dx, ws, rfl, ha, hw⟩ := (r0.pk p0 ex).obj r0.sees
    refine ⟨a, dx, ws, rfl, ha, hw.lookup_none hlk, so.run2 x r0 h0 fun ps e vs F1 H1 r1 s1 p1 m1 l1 h1 => ?_⟩
    split at h1
    · rename_i ds eds
      exact call_tail (vs := .ref a :: vs) r1 (.cons (p0.mono s1) p1) eds (by rw [hm]; show opS o :: os.map opS ++ _ = isS p :: ps.map isS ++ _; rw [m0, m1]) hd (by rw [slots_cons, l0, l1, ← opSlots_cons]; exact hn) h1
        (fun y e v F2 H2 r2 s2 hv k => q y e v F2 H2 r2 ((s0.trans s1).trans s2) hv k) x
    · exact h1.elim
  · exact h0.elim
theorem sim_methX {c m : Str} {f : FS} {o : Op9} {os : List Op9} {to : TE} {t : TA} {dvs : List V} {dds : List D} (s : SimO K W o to) (so : SimOs K W os t) (hm : f.ms = (o :: os).map opS ++ dds.map fun _ => false) (hd : ∀ F, IsL K F dds dvs) (hn : (opSlots (o :: os)).Nodup)
    (hf : f.fr = false) : SimE K W (dMethX c m f o os dds) (tMethSD (He.ga K c) m (f.to K) dvs (WE W) to t) := ⟨fun {G L env σ F H X9 Q9 Q} r h q x => methX_core s so hm hd hn r h (fun y e v F2 H2 r2 s2 hv k => q y e v F2 H2 r2 s2 (by rw [hf] at hv; exact hv) k) x⟩
theorem sim_methXF {c m : Str} {f : FS} {o : Op9} {os : List Op9} {to : TE} {t : TA} {dvs : List V} {dds : List D} (s : SimO K W o to) (so : SimOs K W os t) (hm : f.ms = (o :: os).map opS ++ dds.map fun _ => false) (hd : ∀ F, IsL K F dds dvs) (hn : (opSlots (o :: os)).Nodup)
    (hf : f.fr = true) : SimF K W (dMethX c m f o os dds) (tMethSD (He.ga K c) m (f.to K) dvs (WE W) to t) := ⟨fun {G L env σ F H X9 Q9 Q} r h q x => methX_core s so hm hd hn r h (fun y e v F2 H2 r2 s2 hv k => by
  rw [hf] at hv
  obtain ⟨a, rfl, fr⟩ := hv
  exact q y e a F2 H2 r2 s2 fr k) x⟩
/-! C(..) -/
def dMakeX (c : Str) (f : FS) (os : List Op9) (dds : List D) : DE := fun X env Q => evs os X env fun ps e => match argsOf e ps with
  | some ds => f.sp (.obj c [] :: (ds ++ dds)) (fun r nd => match r, nd with
    | .non, z :: nd' => Q z (putMus e ps nd')
    | _, _ => False) (fun z nd => X z (putMus e ps (nd.drop 1)))
  | none => False
theorem sim_makeX {c : Str} {f : FS} {os : List Op9} {t : TA} {dvs : List V} {dds : List D} (so : SimOs K W os t) (hm : f.ms = true :: os.map opS ++ dds.map fun _ => false) (hd : ∀ F, IsL K F dds dvs) (hn : (opSlots os).Nodup)
    (hf : f.fr = false) : SimF K W (dMakeX c f os dds) (tMakeSD (He.ga K c) (f.to K) dvs (WE W) t) := ⟨fun {G L env σ F H X9 Q9 Q} r h q x => by
  refine so.to2 x r h fun ps e vs F1 H1 r1 s1 p1 m1 l1 h1 => ?_
  split at h1
  · rename_i ds eds
    intro ax dx hax hdx hne
    have hn1 : (slots ps).Nodup := by rw [l1]; exact hn
    have r3 : R K G L e σ F1 (upd (upd H1 dx (.own ax)) ax (.ins (He.ga K c) dx [])) := (r1.new hdx _).new (by rw [upd_ne (Ne.symm hne)]; exact hax) _
    have pr := r3.pre p1 eds hn1
    have len := pr.args.length.1
    have hdl : dds.length = dvs.length := (hd F1).length
    have hm2 : f.ms = (true :: ps.map isS) ++ dds.map fun _ => false := by rw [hm, m1]
    have em : mus f.ms (.ref ax :: (vs ++ dvs)) = ax :: mus (ps.map isS) vs := by rw [hm2]; show ax :: mus (ps.map isS ++ _) (vs ++ dvs) = _; rw [mus_append len.symm, mus_ims, List.append_nil]
    have toH : ∀ {b : Addr} {u : HO}, H1 b = some u → (upd (upd H1 dx (.own ax)) ax (.ins (He.ga K c) dx [])) b = some u := fun e => by
      rw [upd_ne (ne_of_none e hax), upd_ne (ne_of_none e hdx)]
      exact e
    have nin : ax ∉ mus (ps.map isS) vs := fun z => by
      obtain ⟨j, hj, sj⟩ := mus_slot p1 ax z
      obtain ⟨m, d, ed⟩ := args_slots eds j hj
      obtain ⟨b, q1, _, _, q4⟩ := r1.ow j m d ed
      rw [sj] at q1
      cases q1
      obtain ⟨u, hu⟩ := q4.ex
      rw [hax] at hu
      cases hu
    have post : ∀ {F2 H2 : Hp}, Post (L ++ G.L0) (ax :: mus (ps.map isS) vs) F1 (upd (upd H1 dx (.own ax)) ax (.ins (He.ga K c) dx [])) F2 H2 → Post (L ++ G.L0) (ax :: mus (ps.map isS) vs) F1 H1 F2 H2 := fun po =>
      ⟨po.same, fun b h => (po.grow b h).elim .inl fun z => .inr (by
        cases e : H1 b with
        | none => rfl
        | some u =>
          rw [toH e] at z
          cases z), po.see, fun b u e n => po.keep b u (toH e) n⟩
    have hA : ∀ b ∈ ax :: mus (ps.map isS) vs, b ∈ mus (ps.map isS) vs ∨ H1 b = none := fun b hb => (List.mem_cons.mp hb).elim (fun e => .inr (by rw [e]; exact hax)) .inl
    refine ⟨F1, L ++ G.L0, .obj c [] :: (ds ++ dds), _, _, ⟨by rw [hm2]; exact .mu (r1.free hax) (Has.mkO upd_same .nil) (argsR_app pr.args hd), by rw [em]; exact List.nodup_cons.mpr ⟨nin, pr.nd⟩, pr.see, pr.lk⟩, h1, fun y nd k F2 H2 v po mr hv => ?_, fun y nd k F2 H2 cc dd po mr hx => ?_⟩
    · rw [em] at po
      rw [hm2] at mr
      rw [hf] at hv
      have hv : Is K F2 y v := hv
      cases mr with
      | @mu z a ms nd' us n1 n2 mr =>
        have mr := mr.cut hdl len.symm
        cases y with
        | non =>
          cases hv
          exact ⟨rfl, q z _ ax F2 H2 (r1.called p1 eds hn1 hA (post po) mr) (s1.trans po.same) (r1.made p1 eds mr hn1 n1 hax n2) k⟩
        | _ => exact k.elim
    · rw [em] at po
      rw [hm2] at mr
      cases mr with
      | @mu z a ms nd' us n1 n2 mr =>
        have mr := mr.cut hdl len.symm
        exact x y _ cc dd F2 H2 (r1.called p1 eds hn1 hA (post po) mr) hx k
  · exact h1.elim⟩
/-! ### try: body, except c as slot i: suite -/
def dTryAs (c : Str) (i : Nat) (body : DS) (suite : Addr → Addr → DS) : DS := fun X E env =>
  body (fun e env' => ∃ fs, e = .obj c fs ∧ ∀ a d, suite a d X { nx := fun z => E.nx (z.set i .un), rt := E.rt, bk := fun z => E.bk (z.set i .un), ct := fun z => E.ct (z.set i .un) } (env'.set i (.im (.exc a d c fs)))) E env
def Gh.at9 (G : Gh) (F : Hp) : Gh := { G with F0 := F }
theorem R.re (r : R K G L env σ F H) : R K (G.at9 F) L env σ F H := ⟨r.len, r.im, r.ow, r.sep, r.see, r.pres, r.mm, fun a h => .inl h, Same.refl F, r.lk, r.lk0, r.ext⟩
theorem R.unre {env2 : Sls} {σ2 : L2.St} {F2 H2 : Hp} {L2' : List (Addr × Obj)} (r : R K G L env σ F H) (r2 : R K (G.at9 F) L2' env2 σ2 F2 H2) : R K G L2' env2 σ2 F2 H2 :=
  ⟨r2.len, r2.im, r2.ow, r2.sep, r2.see, r2.pres, r2.mm, fun a h => (r2.grow a h).elim (r.grow a) .inr, r.base.trans r2.base, r2.lk, r2.lk0, r2.ext⟩
theorem sim_tryAs {c : Str} {i : Nat} {body : DS} {suite : Addr → Addr → DS} {tb : WX → TS} {ts : Addr → Value → Option Addr → TS} (hx : PySem.W.exmOne K (.ref (He.ga K c)) (.ref (He.ga K c)) = some true) (sb : ∀ W' : WX, SimS K W' fr body (tb W'))
    (ss : ∀ a d, SimS K W fr (suite a d) (ts a (.ref (He.ga K c)) (some d))) : SimS K W fr (dTryAs c i body suite) (fun D σ H => tb (wAs K (.ref (He.ga K c)) i ts W D) D σ H) := ⟨fun {G L env σ F H X9 E D} r h q x => by
  refine (sb _).run r.re h ⟨fun e σ2 F2 H2 r2 s2 k => q.nx e σ2 F2 H2 (r.unre r2) s2 k, fun y e σ2 F2 H2 v r2 s2 hv k => q.rt y e σ2 F2 H2 v (r.unre r2) s2 ?_ k, fun e σ2 F2 H2 r2 s2 k => q.bk e σ2 F2 H2 (r.unre r2) s2 k, fun e σ2 F2 H2 r2 s2 k => q.ct e σ2 F2 H2 (r.unre r2) s2 k⟩ (fun e env' σ' c' dd F' H' r' hx' k => ?_)
  · split at hv
    · rename_i hf
      rw [if_pos hf]
      obtain ⟨a, e1, f⟩ := hv
      exact ⟨a, e1, f.f, f.h0, f.has, f.nm, f.sep, f.ext⟩
    · rename_i hf
      rw [if_neg hf]
      exact hv
  · obtain ⟨fs, rfl, k⟩ := k
    obtain ⟨cn, fs', d, ws, e1, e2, e3, hF, hi⟩ := hx'
    cases e1
    subst e2 e3
    have sm : Same F F' := r'.base
    refine ⟨true, hx, fun _ a na => ?_, fun z => by cases z⟩
    exact (ss a d).run ((r.unre r').set_im i (.exc hF hi)) (k a d) ⟨fun e σ2 F2 H2 r2 s2 k => q.nx _ _ F2 H2 (r2.forget i none) (sm.trans s2) k, fun y e σ2 F2 H2 v r2 s2 hv k => q.rt y e σ2 F2 H2 v r2 (sm.trans s2) hv k,
      fun e σ2 F2 H2 r2 s2 k => q.bk _ _ F2 H2 (r2.forget i none) (sm.trans s2) k, fun e σ2 F2 H2 r2 s2 k => q.ct _ _ F2 H2 (r2.forget i none) (sm.trans s2) k⟩ x⟩
/-- e.f, e the exception at a, its dict at d -/
def dXf (a d : Addr) (c f : Str) (o : Op9) : DE := fun X env Q => o.ev X env fun p e => match look9 e p with
  | some (.exc a' d' c' fs) => match fs.lookup f with
    | some v => (a' = a ∧ d' = d ∧ c' = c) ∧ Q v e
    | none => False
  | _ => False
theorem Pk.exc {a d : Addr} {c : Str} {fs : List (Str × D)} {v : V} (s : Sees F H) (h : Pk K F H (.exc a d c fs) v) : ∃ ws, v = .ref a ∧ H d = some (.xd ws) ∧ IsF K F fs ws := by
  rcases h with h | ⟨_, _, _, h⟩
  · cases h with
    | exc e r => exact ⟨_, rfl, s.see _ _ e (fun _ z => nomatch z), r⟩
  · exact h.elim
theorem sim_xf {a d : Addr} {c f : Str} {o : Op9} {t : TE} (so : SimO K W o t) : SimE K W (dXf a d c f o) (tXf a (.ref (He.ga K c)) (some d) (He.ga K c) f t) := ⟨fun {G L env σ F H X9 Q9 Q} r h q x => so.run r h (fun p e v F1 H1 r1 s1 p1 h1 => by
  split at h1
  · rename_i a' d' c' fs ex
    split at h1
    · rename_i y ey
      obtain ⟨⟨e1, e2, e3⟩, h1⟩ := h1
      subst e1 e2 e3
      obtain ⟨ws, rfl, hd, hw⟩ := (r1.pk p1 ex).exc r1.sees
      obtain ⟨u, hu, hi⟩ := hw.lookup ey
      exact ⟨rfl, rfl, d', ws, u, rfl, hd, hu, q y e u F1 H1 r1 s1 hi h1⟩
    · exact h1.elim
  · exact h1.elim) x⟩
/-! isinstance(e, ..) -/
def clsD : D → Option Value
  | .ref a => some (.ref a)
  | .ty n => some (.type n)
  | _ => none
def clsDs : List D → Option (List Value)
  | [] => some []
  | v :: r => match clsD v, clsDs r with
    | some c, some cs => some (c :: cs)
    | _, _ => none
theorem clsD_is {x : D} {v : V} {c : Value} (h : clsD x = some c) (i : Is K F x v) : clsV v = some c := by
  cases x with
  | ref a => cases i; exact h
  | ty n => cases i; exact h
  | _ => cases h
theorem clsDs_is : ∀ {xs : List D} {vs : List V} {cs : List Value}, clsDs xs = some cs → IsL K F xs vs → clsVs vs = some cs
  | [], _, _, h, .nil => h
  | x :: r, v :: vs, cs, h, .cons i1 i2 => by
    unfold clsDs at h
    split at h
    · rename_i c cs' h1 h2
      cases h
      unfold clsVs
      rw [clsD_is h1 i1, clsDs_is h2 i2]
    · cases h
def fIsX (K : PySem.W.Frag) (a d : Addr) (c : Str) : FnC := fun xs Q9 => match xs with
  | [.exc a' d' c' _, .tup ts] => (a' = a ∧ d' = d ∧ c' = c) ∧ ∃ cvs b, clsDs ts = some cvs ∧ PySem.W.kitAny K (.ref (He.ga K c)) cvs = some b ∧ Q9 (.bl b)
  | [.exc a' d' c' _, t] => (a' = a ∧ d' = d ∧ c' = c) ∧ ∃ cv b, clsD t = some cv ∧ PySem.W.kitOne K (.ref (He.ga K c)) cv = some b ∧ Q9 (.bl b)
  | _ => False
theorem Pk.cls {x : D} {v : V} {c : Value} (h : clsD x = some c) (p : Pk K F H x v) : clsV v = some c := by
  rcases p with p | ⟨a, _, _, p⟩
  · exact clsD_is h p
  · cases x <;> first | exact p.elim | cases h
theorem sc_isX {a d : Addr} {c : Str} : SimC K (fIsX K a d c) (rIsX K (He.ga K c) a d) := ⟨fun {F H xs vs} se pk Q9 Q h q => by
  unfold fIsX at h
  split at h
  · obtain ⟨⟨e1, e2, e3⟩, cvs, b, h1, h2, k⟩ := h
    subst e1 e2 e3
    match pk with
    | .cons p1 (.cons p2 .nil) =>
      obtain ⟨ws, rfl, hd, _⟩ := p1.exc se
      obtain ⟨t, ts, rfl, ht, hi⟩ := p2.tup se
      exact ⟨_, rfl, ⟨ws, hd⟩, .inr ⟨t, ts, cvs, b, rfl, ht, clsDs_is h1 hi, h2, q _ _ .bl k⟩⟩
  · obtain ⟨⟨e1, e2, e3⟩, cv, b, h1, h2, k⟩ := h
    subst e1 e2 e3
    match pk with
    | .cons p1 (.cons p2 .nil) =>
      obtain ⟨ws, rfl, hd, _⟩ := p1.exc se
      exact ⟨_, rfl, ⟨ws, hd⟩, .inl ⟨cv, b, p2.cls h1, h2, q _ _ .bl k⟩⟩
  · exact h.elim⟩
theorem sc_isY {a d : Addr} {c : Str} : SimC K (fIsX K a d c) (rIsY K (He.ga K c) a (.ref (He.ga K c)) (some d)) := ⟨fun {F H xs vs} se pk Q9 Q h q => ⟨d, rfl, rfl, sc_isX.run se pk Q9 Q h q⟩⟩
theorem sim_callY {a d : Addr} {c : Str} {fs : Addr → Addr → FS} {os : List Op9} {t : TA} (so : SimOs K W os t) (hm : (fs a d).ms = os.map opS ++ ([] : List D).map fun _ => false) (hn : (opSlots os).Nodup) (hf : (fs a d).fr = false) :
    SimE K W (dCall (fs a d) os []) (tCallY (fun a d => (fs a d).to K) (He.ga K c) a (.ref (He.ga K c)) (some d) t) := ⟨fun {G L env σ F H X9 Q9 Q} r h q x => ⟨d, rfl, rfl, (sim_call so hm (fun _ => .nil) hn hE0 hf).run r h q x⟩⟩
/-! ### such a def, where it lets nothing out -/
def FS.calm (f : FS) : FS := ⟨f.ms, f.fr, fun ds Q _ => f.sp ds Q fun _ _ => False⟩
theorem calm_to {f : FS} {vs : List V} {H : Hp} {Q : VK} {E : XK} (h : f.calm.to K vs H Q E) : f.to K vs H Q fun _ _ _ => False := by
  obtain ⟨F, LL, ds, Q9, E9, pr, hs, hq, _⟩ := h
  exact ⟨F, LL, ds, Q9, _, pr, hs, hq, fun _ _ z => z.elim⟩
end
section
variable {P : Program} {w : World} {K : PySem.W.Frag} {mg : Str → Option Value} {base : Heap} {k : Nat} {x m : Str} {C : Addr} {f : FS} {dvs : List V}
theorem calm_cal (c : CalX P w K mg base k x (f.to K) dvs) : C8.Cal P w K mg base k x (f.calm.to K) dvs := by
  obtain ⟨a, fd, ps, ds, F, h1, h2, h3, h4⟩ := c.ex
  exact ⟨a, fd, ps, ds, fn_calm F fun _ _ _ _ => calm_to, h1, h2, h3, h4⟩
theorem calm_met (c : MetX P w K mg base k C m (f.to K) dvs) : C8.Met P w K mg base k C m (f.calm.to K) dvs := by
  obtain ⟨a, fd, ps, ds, h1, h2, F, h3, h4⟩ := c.ex
  exact ⟨a, fd, ps, ds, h1, h2, fn_calm F fun _ _ _ _ => calm_to, h3, h4⟩
theorem calm_mak (c : MakX P w K mg base k x C (f.to K) dvs) : C8.Mak P w K mg base k x C (f.calm.to K) dvs := by
  obtain ⟨a, fd, ps, ds, M, F, h1, h2, h3⟩ := c.ex
  exact ⟨a, fd, ps, ds, M, fn_calm F fun _ _ _ _ => calm_to, h1, h2, h3⟩
end
end Dv

set_option maxHeartbeats 4000000
/-! the brackets, blanks and words of a text -/
namespace Sk
open PySem PySem.Spec PyProof.Rows L2
def isSep (c : Nat) : Bool := decide (c = 91) || (decide (c = 93) || decide (c = 32))
theorem in_seps (c : Nat) : decide (c ∈ tl (Str.ofString "[] ")) = isSep c := by
  have e : tl (Str.ofString "[] ") = [91, 93, 32] := by decide +kernel
  rw [e]
  unfold isSep
  by_cases h1 : c = 91
  · simp [h1]
  · by_cases h2 : c = 93
    · simp [h2]
    · by_cases h3 : c = 32
      · simp [h3]
      · simp [h1, h2, h3]
/-- l falls into the pieces ts -/
inductive Toks : List Nat → List (List Nat) → Prop where
  | nil : Toks [] []
  | sep {c : Nat} {r : List Nat} {ts : List (List Nat)} (h : isSep c = true) (t : Toks r ts) : Toks (c :: r) ([c] :: ts)
  | word {w r : List Nat} {ts : List (List Nat)} (ne : w ≠ []) (h : ∀ c ∈ w, isSep c = false) (e : ∀ c, r.head? = some c → isSep c = true) (t : Toks r ts) : Toks (w ++ r) (w :: ts)
theorem word_cut : ∀ {w w' r r' : List Nat}, (∀ c ∈ w, isSep c = false) → (∀ c ∈ w', isSep c = false) → (∀ c, r.head? = some c → isSep c = true) → (∀ c, r'.head? = some c → isSep c = true) → w ++ r = w' ++ r' → w = w' ∧ r = r'
  | [], [], _, _, _, _, _, _, e => ⟨rfl, e⟩
  | [], b :: w', r, r', _, h2, e1, _, e => by
    have : r = b :: (w' ++ r') := e
    have h3 := e1 b (by rw [this]; rfl)
    rw [h2 b List.mem_cons_self] at h3
    cases h3
  | a :: w, [], r, r', h1, _, _, e2, e => by
    have : r' = a :: (w ++ r) := e.symm
    have h3 := e2 a (by rw [this]; rfl)
    rw [h1 a List.mem_cons_self] at h3
    cases h3
  | a :: w, b :: w', r, r', h1, h2, e1, e2, e => by
    injection e with e3 e4
    obtain ⟨q1, q2⟩ := word_cut (fun c hc => h1 c (List.mem_cons_of_mem _ hc)) (fun c hc => h2 c (List.mem_cons_of_mem _ hc)) e1 e2 e4
    exact ⟨by rw [e3, q1], q2⟩
theorem Toks.one {l : List Nat} {ts : List (List Nat)} (h : Toks l ts) : ∀ {ts' : List (List Nat)}, Toks l ts' → ts = ts' := by
  induction h with
  | nil =>
    intro ts' h'
    generalize hl : ([] : List Nat) = l at h'
    cases h' with
    | nil => rfl
    | sep _ _ => cases hl
    | @word w r ts ne _ _ _ =>
      have := List.append_eq_nil_iff.mp hl.symm
      exact absurd this.1 ne
  | @sep c r ts hc t ih =>
    intro ts' h'
    generalize hl : c :: r = l at h'
    cases h' with
    | nil => cases hl
    | @sep c' r' ts2 hc' t' =>
      injection hl with e1 e2
      subst e1 e2
      rw [ih t']
    | @word w r2 ts2 ne hw _ _ =>
      cases w with
      | nil => exact absurd rfl ne
      | cons a w =>
        injection hl with e1 e2
        have := hw a List.mem_cons_self
        rw [← e1, hc] at this
        cases this
  | @word w r ts ne hw he t ih =>
    intro ts' h'
    generalize hl : w ++ r = l at h'
    cases h' with
    | nil => exact absurd (List.append_eq_nil_iff.mp hl).1 ne
    | @sep c r2 ts2 hc t2 =>
      cases w with
      | nil => exact absurd rfl ne
      | cons a w =>
        injection hl with e1 e2
        have := hw a List.mem_cons_self
        rw [e1, hc] at this
        cases this
    | @word w2 r2 ts2 ne2 hw2 he2 t2 =>
      obtain ⟨e1, e2⟩ := word_cut hw hw2 he he2 hl
      subst e1 e2
      rw [ih t2]
/-- what is done up to i, whatever comes -/
def Done (l : List Nat) (i : Nat) (done : List (List Nat)) : Prop := ∀ rest, Toks (l.drop i) rest → Toks l (done ++ rest)
theorem done0 (l : List Nat) : Done l 0 [] := fun _ h => h
theorem done_end {l : List Nat} {done : List (List Nat)} (h : Done l l.length done) : Toks l done := by
  have := h [] (by rw [List.drop_length]; exact .nil)
  rw [List.append_nil] at this
  exact this
theorem done_sep {l : List Nat} {i : Nat} {done : List (List Nat)} (h : Done l i done) (hi : i < l.length) (hs : isSep l[i] = true) : Done l (i + 1) (done ++ [[l[i]]]) := fun rest t => by
  rw [List.append_assoc]
  refine h _ ?_
  rw [List.drop_eq_getElem_cons hi]
  exact .sep hs t
theorem done_word {l : List Nat} {i e : Nat} {done : List (List Nat)} (h : Done l i done) (hi : i < e) (he : e ≤ l.length) (hw : ∀ j, i ≤ j → j < e → ∀ (hj : j < l.length), isSep l[j] = false) (hx : ∀ (h : e < l.length), isSep l[e] = true) : Done l e (done ++ [(l.drop i).take (e - i)]) := fun rest t => by
  rw [List.append_assoc]
  refine h _ ?_
  have e1 : l.drop i = (l.drop i).take (e - i) ++ l.drop e := by
    have := List.take_append_drop (e - i) (l.drop i)
    rw [List.drop_drop, show i + (e - i) = e by omega] at this
    exact this.symm
  have key : Toks ((l.drop i).take (e - i) ++ l.drop e) ((l.drop i).take (e - i) :: rest) := by
    refine .word ?_ ?_ ?_ t
    · intro z
      have := congrArg List.length z
      rw [List.length_take, List.length_drop] at this
      simp at this
      omega
    · intro c hc
      obtain ⟨j, hj, ej⟩ := List.mem_iff_getElem.mp hc
      rw [List.length_take, List.length_drop] at hj
      rw [List.getElem_take, List.getElem_drop] at ej
      rw [← ej]
      exact hw (i + j) (by omega) (by omega) (by omega)
    · intro c hc
      by_cases hlt : e < l.length
      · rw [List.drop_eq_getElem_cons hlt] at hc
        cases hc
        exact hx hlt
      · rw [List.drop_of_length_le (by omega)] at hc
        cases hc
  rw [← e1] at key
  exact key
def mk (t : List Nat) : Str := ⟨t.toArray⟩
def withCols : Nat → List (List Nat) → List (Str × Int)
  | _, [] => []
  | i, t :: r => (mk t, (i : Int)) :: withCols (i + t.length) r
def total (ts : List (List Nat)) : Nat := (ts.map (·.length)).sum
theorem withCols_snoc (t : List Nat) : ∀ (ts : List (List Nat)) (i : Nat), withCols i (ts ++ [t]) = withCols i ts ++ [(mk t, ((i + total ts : Nat) : Int))]
  | [], i => by simp [withCols, total]
  | u :: r, i => by
    show (mk u, (i : Int)) :: withCols (i + u.length) (r ++ [t]) = _
    rw [withCols_snoc t r (i + u.length)]
    show _ = (mk u, (i : Int)) :: (withCols (i + u.length) r ++ [_])
    have : i + u.length + total r = i + total (u :: r) := by simp [total]; omega
    rw [this]
theorem total_snoc (ts : List (List Nat)) (t : List Nat) : total (ts ++ [t]) = total ts + t.length := by
  unfold total
  rw [List.map_append, List.sum_append]
  simp
theorem cut_mk (z : Str) {i e : Nat} (h1 : i ≤ e) (h2 : e ≤ z.length) : cutS z (some (i : Int)) (some (e : Int)) = mk (((tl z).drop i).take (e - i)) := by
  unfold cutS mk
  rw [HT.sIx_nat, HT.sIx_nat]
  simp only [Nat.min_eq_left h2, Nat.min_eq_left (Nat.le_trans h1 h2)]
end Sk

set_option maxHeartbeats 4000000
/-! rooms within rooms, their texts and pieces -/
namespace Sk
open PySem PySem.Spec PyProof.Rows L2
inductive Rm where
  | mk (kind : Str) (cs : List (Str × Int)) (inner : List Rm)
mutual
def Rm.size : Rm → Nat
  | .mk _ _ inner => Rm.sizes inner + 1
def Rm.sizes : List Rm → Nat
  | [] => 0
  | r :: rs => r.size + Rm.sizes rs
end
mutual
def Rm.deep : Rm → Nat
  | .mk _ _ inner => Rm.deeps inner + 1
def Rm.deeps : List Rm → Nat
  | [] => 0
  | r :: rs => max r.deep (Rm.deeps rs)
end
theorem Rm.deep_pos : ∀ r : Rm, 1 ≤ r.deep
  | .mk _ _ inner => by unfold Rm.deep; omega
theorem Rm.size_pos : ∀ r : Rm, 1 ≤ r.size
  | .mk _ _ inner => by unfold Rm.size; omega
def wordToks (ws : List Str) : List (List Nat) := ws.flatMap fun w => [[32], tl w]
def bra : Str := Str.ofString "["
def ket : Str := Str.ofString "]"
mutual
/-- z is a text of the room t, its pieces ts -/
inductive RT : Rm → Str → List (List Nat) → Prop
  | mk {kind : Str} {cs : List (Str × Int)} {inner : List Rm} {ws : List Str} {ps : List (Str × Int)} {zs : List Str} {its : List (List Nat)} (hk : isName kind = true) (hg : GoodC cs) (hs : sumC cs ≤ 30) (hw : WordsFor cs ws ps) (hi : RTL inner zs its) :
    RT (.mk kind cs inner) (Str.ofString "[" ++ Txt.join (Str.ofString " ") (kind :: (ws ++ zs)) ++ Str.ofString "]") ([91] :: tl kind :: (wordToks ws ++ (its ++ [[93]])))
inductive RTL : List Rm → List Str → List (List Nat) → Prop
  | nil : RTL [] [] []
  | cons {t : Rm} {r : List Rm} {z : Str} {zs : List Str} {ts its : List (List Nat)} (h : RT t z ts) (hr : RTL r zs its) : RTL (t :: r) (z :: zs) ([32] :: (ts ++ its))
end
mutual
inductive Alike : Rm → Rm → Prop
  | mk {kind : Str} {cs cs' : List (Str × Int)} {inner inner' : List Rm} (hp : cs.Perm cs') (hi : AlikeL inner inner') : Alike (.mk kind cs inner) (.mk kind cs' inner')
inductive AlikeL : List Rm → List Rm → Prop
  | nil : AlikeL [] []
  | cons {a b : Rm} {r s : List Rm} (h : Alike a b) (hr : AlikeL r s) : AlikeL (a :: r) (b :: s)
end
theorem AlikeL.snoc {a b : Rm} (h : Alike a b) : ∀ {r s : List Rm}, AlikeL r s → AlikeL (r ++ [a]) (s ++ [b])
  | _, _, .nil => .cons h .nil
  | _, _, .cons q t => .cons q (AlikeL.snoc h t)
theorem AlikeL.len : ∀ {r s : List Rm}, AlikeL r s → r.length = s.length
  | _, _, .nil => rfl
  | _, _, .cons _ t => by simp [AlikeL.len t]
/-- joined by blanks -/
def blk (xs : List Str) : List Nat := xs.flatMap fun x => 32 :: tl x
theorem blk_cons (x : Str) (xs : List Str) : blk (x :: xs) = 32 :: (tl x ++ blk xs) := rfl
theorem blk_app (xs ys : List Str) : blk (xs ++ ys) = blk xs ++ blk ys := by unfold blk; rw [List.flatMap_append]
theorem joinL_blk : ∀ (k : Str) (xs : List Str), TL.joinL [32] ((k :: xs).map tl) = tl k ++ blk xs
  | k, [] => by show tl k = tl k ++ []; rw [List.append_nil]
  | k, x :: xs => by
    show tl k ++ ([32] ++ TL.joinL [32] ((x :: xs).map tl)) = _
    rw [joinL_blk x xs]
    rfl
theorem tl_join_blk (k : Str) (xs : List Str) : tl (Txt.join (Str.ofString " ") (k :: xs)) = tl k ++ blk xs := by
  rw [TL.join_eq, show tl (Str.join (Str.ofString " ") (k :: xs)) = TL.joinL (tl (Str.ofString " ")) ((k :: xs).map tl) from TL.tl_join _ _, tl_blank, joinL_blk]
theorem tl_bra : tl (Str.ofString "[") = [91] := by decide +kernel
theorem tl_ket : tl (Str.ofString "]") = [93] := by decide +kernel
theorem tl_room (k : Str) (xs : List Str) : tl (Str.ofString "[" ++ Txt.join (Str.ofString " ") (k :: xs) ++ Str.ofString "]") = 91 :: (tl k ++ (blk xs ++ [93])) := by
  rw [tl_app, tl_app, tl_join_blk, tl_bra, tl_ket]
  simp
theorem okC_sep {c : Nat} (h : okC c = true ∨ c = 42) : isSep c = false := by
  rcases h with h | rfl
  · unfold okC isLet isFig at h
    unfold isSep
    simp at h ⊢
    omega
  · decide
def HeadSep (l : List Nat) : Prop := ∀ c, l.head? = some c → isSep c = true
theorem Toks.wd {w : Str} {rest : List Nat} {rt : List (List Nat)} (ne : tl w ≠ []) (h : ∀ c ∈ tl w, okC c = true ∨ c = 42) (e : HeadSep rest) (t : Toks rest rt) : Toks (tl w ++ rest) (tl w :: rt) := .word ne (fun c hc => okC_sep (h c hc)) e t
theorem words_toks : ∀ {ws : List Str} {rest : List Nat} {rt : List (List Nat)}, (∀ w ∈ ws, tl w ≠ [] ∧ ∀ c ∈ tl w, okC c = true ∨ c = 42) → HeadSep rest → Toks rest rt → Toks (blk ws ++ rest) (wordToks ws ++ rt) ∧ HeadSep (blk ws ++ rest)
  | [], _, _, _, e, t => ⟨t, e⟩
  | w :: ws, rest, rt, h, e, t => by
    obtain ⟨t1, e1⟩ := words_toks (ws := ws) (fun w hw => h w (List.mem_cons_of_mem _ hw)) e t
    have h0 := h w List.mem_cons_self
    refine ⟨?_, ?_⟩
    · have := Toks.sep (c := 32) rfl (Toks.wd h0.1 h0.2 e1 t1)
      show Toks (32 :: (tl w ++ blk ws) ++ rest) ([32] :: tl w :: (wordToks ws) ++ rt)
      rw [List.cons_append, List.append_assoc]
      exact this
    · intro c hc
      cases hc
      rfl
theorem name_tok {n : Str} (h : isName n = true) : tl n ≠ [] ∧ ∀ c ∈ tl n, okC c = true ∨ c = 42 := by
  refine ⟨fun e => ?_, fun c hc => .inl (name_signs h c hc)⟩
  have h1 := (isName_len h).1
  rw [← tl_len, e] at h1
  simp at h1
theorem word_tok {w : Str} {p : Str × Int} (h : WordIs w p) : tl w ≠ [] ∧ ∀ c ∈ tl w, okC c = true ∨ c = 42 := by
  refine ⟨fun e => h.ne ?_, h.sgn⟩
  refine TL.ext_tl ?_
  exact (show TL.tl w = [] from e).trans (by decide +kernel)
mutual
theorem RT.toks : ∀ {t : Rm} {z : Str} {ts : List (List Nat)}, RT t z ts → ∀ {rest : List Nat} {rt : List (List Nat)}, Toks rest rt → Toks (tl z ++ rest) (ts ++ rt)
  | _, _, _, .mk (ws := ws) (zs := zs) (its := its) (kind := kind) hk hg hs hw hi, rest, rt, t => by
    have t1 : Toks (93 :: rest) ([93] :: rt) := .sep rfl t
    have e1 : HeadSep (93 :: rest) := fun c hc => by cases hc; rfl
    obtain ⟨t2, e2⟩ := RTL.toks hi t1 e1
    obtain ⟨t3, e3⟩ := words_toks (ws := ws) (fun w hw' => by
      obtain ⟨p, _, q⟩ := hw.are.each hw'
      exact word_tok q) e2 t2
    obtain ⟨n1, n2⟩ := name_tok hk
    have t4 := Toks.sep (c := 91) rfl (Toks.wd n1 n2 e3 t3)
    rw [tl_room, blk_app]
    have a1 : (91 :: (tl kind ++ (blk ws ++ blk zs ++ [93]))) ++ rest = 91 :: (tl kind ++ (blk ws ++ (blk zs ++ 93 :: rest))) := by simp
    have a2 : ([91] :: tl kind :: (wordToks ws ++ (its ++ [[93]]))) ++ rt = [91] :: tl kind :: (wordToks ws ++ (its ++ [93] :: rt)) := by simp
    rw [a1, a2]
    exact t4
theorem RTL.toks : ∀ {r : List Rm} {zs : List Str} {its : List (List Nat)}, RTL r zs its → ∀ {rest : List Nat} {rt : List (List Nat)}, Toks rest rt → HeadSep rest → Toks (blk zs ++ rest) (its ++ rt) ∧ HeadSep (blk zs ++ rest)
  | _, _, _, .nil, _, _, t, e => ⟨t, e⟩
  | _, _, _, .cons (z := z) (zs := zs) (ts := ts) (its := its) h hr, rest, rt, t, e => by
    obtain ⟨t1, e1⟩ := RTL.toks hr t e
    have t2 := Toks.sep (c := 32) rfl (RT.toks h t1)
    refine ⟨?_, fun c hc => by cases hc; rfl⟩
    show Toks (32 :: (tl z ++ blk zs) ++ rest) ([32] :: (ts ++ its) ++ rt)
    rw [List.cons_append, List.cons_append, List.append_assoc, List.append_assoc]
    exact t2
end
theorem blk_words {ws : List Str} : (blk ws).length ≤ (Txt.join (Str.ofString " ") ws).length + 1 := by
  cases ws with
  | nil => simp [blk]
  | cons w r =>
    rw [← tl_len, tl_join_blk, blk_cons]
    simp
mutual
theorem RT.size : ∀ {t : Rm} {z : Str} {ts : List (List Nat)}, RT t z ts → z.length + 1 ≤ 812 * t.size
  | _, _, _, .mk (ws := ws) (zs := zs) (kind := kind) hk hg hs hw hi => by
    have h1 := RTL.size hi
    have h2 := hw.size
    have h3 := blk_words (ws := ws)
    have h4 := (isName_len hk).2
    rw [← tl_len] at h4
    rw [← tl_len, tl_room, blk_app]
    simp only [List.length_cons, List.length_append, List.length_nil]
    unfold Rm.size
    omega
theorem RTL.size : ∀ {r : List Rm} {zs : List Str} {its : List (List Nat)}, RTL r zs its → (blk zs).length ≤ 812 * Rm.sizes r
  | _, _, _, .nil => by simp [blk]
  | _, _, _, .cons (z := z) (zs := zs) h hr => by
    have h1 := RT.size h
    have h2 := RTL.size hr
    rw [← tl_len] at h1
    rw [blk_cons]
    unfold Rm.sizes
    simp only [List.length_cons, List.length_append]
    omega
end
end Sk

set_option maxHeartbeats 4000000
/-! the written text of a room -/
namespace Sk
open PySem PySem.Spec PyProof.Rows L2
mutual
def textR : Rm → Str
  | .mk k cs inner => Str.ofString "[" ++ Txt.join (Str.ofString " ") (k :: ((if cs = [] then [] else [textOf cs]) ++ textRs inner)) ++ Str.ofString "]"
def textRs : List Rm → List Str
  | [] => []
  | r :: rs => textR r :: textRs rs
end
theorem textRs_map : ∀ l : List Rm, textRs l = l.map textR
  | [] => by simp [textRs]
  | r :: l => by simp [textRs, textRs_map l]
mutual
inductive GoodR : Rm → Prop
  | mk {kind : Str} {cs : List (Str × Int)} {inner : List Rm} (hk : isName kind = true) (hg : GoodC cs) (hs : sumC cs ≤ 30) (hl : cs.length ≤ 30) (hi : GoodRL inner) : GoodR (.mk kind cs inner)
inductive GoodRL : List Rm → Prop
  | nil : GoodRL []
  | cons {t : Rm} {r : List Rm} (h : GoodR t) (hr : GoodRL r) : GoodRL (t :: r)
end
theorem GoodRL.mem : ∀ {l : List Rm} {t : Rm}, GoodRL l → t ∈ l → GoodR t
  | _, _, .nil, h => nomatch h
  | _, _, .cons a b, h => (List.mem_cons.mp h).elim (fun e => e ▸ a) fun h => GoodRL.mem b h
theorem GoodRL.of : ∀ {l : List Rm}, (∀ t ∈ l, GoodR t) → GoodRL l
  | [], _ => .nil
  | t :: l, h => .cons (h t List.mem_cons_self) (GoodRL.of fun x hx => h x (List.mem_cons_of_mem _ hx))
mutual
theorem Alike.good : ∀ {r t : Rm}, Alike r t → GoodR t → GoodR r
  | _, _, .mk hp hi, .mk hk hg hs hl hgi => .mk hk (perm_good hp.symm hg) (by rw [perm_sumC hp]; exact hs) (by rw [hp.length_eq]; exact hl) (AlikeL.good hi hgi)
theorem AlikeL.good : ∀ {r t : List Rm}, AlikeL r t → GoodRL t → GoodRL r
  | _, _, .nil, _ => .nil
  | _, _, .cons h hr, .cons a b => .cons (Alike.good h a) (AlikeL.good hr b)
end
mutual
theorem Alike.sizes : ∀ {r t : Rm}, Alike r t → r.size = t.size ∧ r.deep = t.deep
  | _, _, .mk hp hi => by
    have := AlikeL.sizes hi
    unfold Rm.size Rm.deep
    exact ⟨by rw [this.1], by rw [this.2]⟩
theorem AlikeL.sizes : ∀ {r t : List Rm}, AlikeL r t → Rm.sizes r = Rm.sizes t ∧ Rm.deeps r = Rm.deeps t
  | _, _, .nil => ⟨rfl, rfl⟩
  | _, _, .cons h hr => by
    have h1 := Alike.sizes h
    have h2 := AlikeL.sizes hr
    simp only [Rm.sizes, Rm.deeps]
    exact ⟨by rw [h1.1, h2.1], by rw [h1.2, h2.2]⟩
end
mutual
theorem Alike.text : ∀ {r t : Rm}, Alike r t → GoodR t → textR r = textR t
  | _, _, .mk (cs := cs) (cs' := cs') hp hi, .mk hk hg hs hl hgi => by
    have h1 := AlikeL.text hi hgi
    have h2 : textOf cs = textOf cs' := (perm_text hp.symm hg.nd).symm
    have h3 : (cs = []) = (cs' = []) := by
      apply propext
      exact ⟨fun e => by subst e; exact hp.symm.eq_nil, fun e => by subst e; exact hp.eq_nil⟩
    unfold textR
    simp only [h1, h2, h3]
theorem AlikeL.text : ∀ {r t : List Rm}, AlikeL r t → GoodRL t → textRs r = textRs t
  | _, _, .nil, _ => rfl
  | _, _, .cons h hr, .cons a b => by
    simp only [textRs]
    rw [Alike.text h a, AlikeL.text hr b]
end
mutual
theorem Alike.refl : ∀ (r : Rm), Alike r r
  | .mk k cs inner => .mk (List.Perm.refl cs) (AlikeL.refl inner)
theorem AlikeL.refl : ∀ (l : List Rm), AlikeL l l
  | [] => .nil
  | r :: l => .cons (Alike.refl r) (AlikeL.refl l)
end
mutual
theorem Alike.symm : ∀ {r t : Rm}, Alike r t → Alike t r
  | _, _, .mk hp hi => .mk hp.symm (AlikeL.symm hi)
theorem AlikeL.symm : ∀ {r t : List Rm}, AlikeL r t → AlikeL t r
  | _, _, .nil => .nil
  | _, _, .cons h hr => .cons (Alike.symm h) (AlikeL.symm hr)
end
mutual
theorem Alike.trans : ∀ {r t u : Rm}, Alike r t → Alike t u → Alike r u
  | _, _, _, .mk hp hi, .mk hq hj => .mk (hp.trans hq) (AlikeL.trans hi hj)
theorem AlikeL.trans : ∀ {r t u : List Rm}, AlikeL r t → AlikeL t u → AlikeL r u
  | _, _, _, .nil, .nil => .nil
  | _, _, _, .cons h hr, .cons g gr => .cons (Alike.trans h g) (AlikeL.trans hr gr)
end
/-- the words of the text, by names rising -/
theorem words_text {cs : List (Str × Int)} (g : GoodC cs) (hs : sumC cs ≤ 400) (hl : cs.length ≤ 60) : WordsFor cs ((srt (keysOf cs)).map fun n => wordOf n ((look cs n).getD 0)) (pairsOf cs) := by
  have pp := pairs_perm g.nd
  have klen : (keysOf cs).length = cs.length := by unfold keysOf; rw [List.length_map]
  have slen : (srt (keysOf cs)).length = cs.length := by rw [length_srt, klen]
  refine ⟨⟨by unfold pairsOf; rw [List.length_map, List.length_map], fun i w p h1 h2 => ?_⟩, fun p hp => g.pos p (pp.mem_iff.mp hp), fun n => by rw [perm_tot pp, tot_look g.nd], perm_sumC pp, by rw [List.length_map, slen]; exact hl⟩
  unfold pairsOf at h2
  rw [List.getElem?_map] at h1 h2
  cases e : (srt (keysOf cs))[i]? with
  | none => rw [e] at h1; cases h1
  | some n =>
    rw [e] at h1 h2
    cases h1
    cases h2
    obtain ⟨⟨n', c⟩, hq1, e2⟩ := List.mem_map.mp (mem_srt.mp (List.mem_of_getElem? e))
    cases e2
    show WordIs (wordOf n' ((look cs n').getD 0)) (n', (look cs n').getD 0)
    rw [look_of g.nd hq1]
    have := sumC_le g.pos _ hq1
    exact word_of (g.nm _ hq1) (g.pos _ hq1) (by show c ≤ 999; have e3 : (n', c).2 = c := rfl; omega)
theorem keys_nil {cs : List (Str × Int)} (h : cs ≠ []) : (srt (keysOf cs)).map (fun n => wordOf n ((look cs n).getD 0)) ≠ [] := fun e => by
  have := congrArg List.length e
  rw [List.length_map, length_srt] at this
  unfold keysOf at this
  rw [List.length_map] at this
  exact h (List.length_eq_zero_iff.mp this)
theorem blk_text (cs : List (Str × Int)) : blk (if cs = [] then [] else [textOf cs]) = blk ((srt (keysOf cs)).map fun n => wordOf n ((look cs n).getD 0)) := by
  by_cases e : cs = []
  · subst e
    rw [if_pos rfl]
    have : srt (keysOf []) = [] := List.length_eq_zero_iff.mp (by rw [length_srt]; rfl)
    rw [this]
    rfl
  · rw [if_neg e]
    have hn := keys_nil e
    unfold textOf
    generalize (srt (keysOf cs)).map (fun n => wordOf n ((look cs n).getD 0)) = ws at hn
    cases ws with
    | nil => exact absurd rfl hn
    | cons w r =>
      show 32 :: (tl (Txt.join (Str.ofString " ") (w :: r)) ++ []) = _
      rw [tl_join_blk, List.append_nil]
      rfl
theorem room_cut {k : Str} {xs ys : List Str} (h : blk xs = blk ys) : Str.ofString "[" ++ Txt.join (Str.ofString " ") (k :: xs) ++ Str.ofString "]" = Str.ofString "[" ++ Txt.join (Str.ofString " ") (k :: ys) ++ Str.ofString "]" := by
  refine TL.ext_tl ?_
  have h1 := tl_room k xs
  have h2 := tl_room k ys
  rw [h] at h1
  exact h1.trans h2.symm
mutual
theorem GoodR.rt : ∀ {r : Rm}, GoodR r → ∃ ts, RT r (textR r) ts
  | _, .mk (kind := kind) (cs := cs) (inner := inner) hk hg hs hl hi => by
    obtain ⟨its, hr⟩ := GoodRL.rt hi
    have w := words_text hg (by omega) (by omega)
    have := RT.mk hk hg hs w hr
    rw [room_cut (show blk (_ ++ textRs inner) = blk ((if cs = [] then [] else [textOf cs]) ++ textRs inner) by rw [blk_app, blk_app, blk_text])] at this
    unfold textR
    exact ⟨_, this⟩
theorem GoodRL.rt : ∀ {r : List Rm}, GoodRL r → ∃ its, RTL r (textRs r) its
  | _, .nil => ⟨_, by unfold textRs; exact .nil⟩
  | _, .cons h hr => by
    obtain ⟨ts, h1⟩ := GoodR.rt h
    obtain ⟨its, h2⟩ := GoodRL.rt hr
    exact ⟨_, by unfold textRs; exact .cons h1 h2⟩
end
theorem textR_len {r : Rm} (h : GoodR r) : (textR r).length + 1 ≤ 812 * r.size := by
  obtain ⟨ts, h⟩ := h.rt
  exact h.size
/-- the text of a bag tells it -/
theorem bag_text {cs : List (Str × Int)} (g : GoodC cs) (hs : sumC cs ≤ 400) (hl : cs.length ≤ 60) : (textOf cs).length ≤ 9000 ∧ ∃ ds, bagOf (textOf cs) = .ok ds ∧ cs.Perm ds := by
  have w := words_text g hs hl
  exact ⟨Nat.le_trans w.size (by omega), w.bag g hs⟩
end Sk

set_option maxHeartbeats 4000000
/-! what reading a room comes to, told by rules; told or refused at a column -/
namespace Sk
open PySem PySem.Spec PyProof.Rows L2
abbrev Tk := Str × Int
def blank : Str := Str.ofString " "
inductive Out where
  | ok (t : Rm) (met : Nat) (rest : List Tk)
  | no (c : Int)
/-- so many things a room's word may still come to -/
def roomMost (inner : List Rm) : Int := if inner = [] then 30 else 0
mutual
inductive RoomR : Nat → Nat → List Tk → Out → Prop
  | no1 {dp met : Nat} {p : Tk} {r : List Tk} (h : ¬ (p.1 = bra ∧ met < 12 ∧ dp < 6)) : RoomR dp met (p :: r) (.no p.2)
  | no2 {dp met : Nat} {p q : Tk} {r : List Tk} (h : p.1 = bra ∧ met < 12 ∧ dp < 6) (hk : isName q.1 = false) : RoomR dp met (p :: q :: r) (.no q.2)
  | go {dp met : Nat} {p q : Tk} {r : List Tk} {o : Out} (h : p.1 = bra ∧ met < 12 ∧ dp < 6) (hk : isName q.1 = true) (l : LoopR dp (met + 1) q.1 [] [] r o) : RoomR dp met (p :: q :: r) o
inductive LoopR : Nat → Nat → Str → List (Str × Int) → List Rm → List Tk → Out → Prop
  | room {dp met met' : Nat} {kind : Str} {cs : List (Str × Int)} {inner : List Rm} {p q : Tk} {r rest : List Tk} {t : Rm} {o : Out} (hp : p.1 = blank) (hq : q.1 = bra) (h : RoomR (dp + 1) met (q :: r) (.ok t met' rest)) (l : LoopR dp met' kind cs (inner ++ [t]) rest o) :
      LoopR dp met kind cs inner (p :: q :: r) o
  | roomNo {dp met : Nat} {kind : Str} {cs : List (Str × Int)} {inner : List Rm} {p q : Tk} {r : List Tk} {c : Int} (hp : p.1 = blank) (hq : q.1 = bra) (h : RoomR (dp + 1) met (q :: r) (.no c)) : LoopR dp met kind cs inner (p :: q :: r) (.no c)
  | word {dp met : Nat} {kind : Str} {cs : List (Str × Int)} {inner : List Rm} {p q : Tk} {r : List Tk} {n : Str} {c : Int} {o : Out} (hp : p.1 = blank) (hq : q.1 ≠ bra) (hw : parseW q.1 = some (n, c)) (hs : c + sumC cs ≤ roomMost inner) (l : LoopR dp met kind (addC cs n c) inner r o) :
      LoopR dp met kind cs inner (p :: q :: r) o
  | wordNo {dp met : Nat} {kind : Str} {cs : List (Str × Int)} {inner : List Rm} {p q : Tk} {r : List Tk} (hp : p.1 = blank) (hq : q.1 ≠ bra) (hw : ∀ n c, parseW q.1 = some (n, c) → ¬ c + sumC cs ≤ roomMost inner) : LoopR dp met kind cs inner (p :: q :: r) (.no q.2)
  | fin {dp met : Nat} {kind : Str} {cs : List (Str × Int)} {inner : List Rm} {p : Tk} {r : List Tk} (hk : p.1 = ket) : LoopR dp met kind cs inner (p :: r) (.ok (.mk kind cs inner) met r)
  | no {dp met : Nat} {kind : Str} {cs : List (Str × Int)} {inner : List Rm} {p : Tk} {r : List Tk} (h1 : p.1 ≠ blank) (h2 : p.1 ≠ ket) : LoopR dp met kind cs inner (p :: r) (.no p.2)
end
/-- the yard's words -/
inductive YardR : List (Str × Int) → List Tk → Option (List (Str × Int)) → Int → Prop
  | fin {cs : List (Str × Int)} {p : Tk} {r : List Tk} (hc : cs ≠ []) (hp : p.1 = Str.ofString "") : YardR cs (p :: r) (some cs) 0
  | no {cs : List (Str × Int)} {p : Tk} {r : List Tk} (hc : ¬ (cs ≠ [] ∧ p.1 = Str.ofString "")) (hp : p.1 ≠ blank) : YardR cs (p :: r) none p.2
  | word {cs : List (Str × Int)} {p q : Tk} {r : List Tk} {n : Str} {c : Int} {o : Option (List (Str × Int))} {col : Int} (hp : p.1 = blank) (hw : parseW q.1 = some (n, c)) (hs : c + sumC cs ≤ 400) (l : YardR (addC cs n c) r o col) : YardR cs (p :: q :: r) o col
  | wordNo {cs : List (Str × Int)} {p q : Tk} {r : List Tk} (hp : p.1 = blank) (hw : ∀ n c, parseW q.1 = some (n, c) → ¬ c + sumC cs ≤ 400) : YardR cs (p :: q :: r) none q.2
inductive HOut where
  | ok (t : Rm) (cs : List (Str × Int))
  | no (c : Int)
inductive HouseR : List Tk → HOut → Prop
  | no {ps : List Tk} {c : Int} (h : RoomR 0 0 ps (.no c)) : HouseR ps (.no c)
  | bare {ps r : List Tk} {t : Rm} {met : Nat} {p : Tk} (h : RoomR 0 0 ps (.ok t met (p :: r))) (hp : p.1 = Str.ofString "") : HouseR ps (.ok t [])
  | no1 {ps r : List Tk} {t : Rm} {met : Nat} {p : Tk} (h : RoomR 0 0 ps (.ok t met (p :: r))) (hp : p.1 ≠ Str.ofString "") (h2 : p.1 ≠ blank) : HouseR ps (.no p.2)
  | no2 {ps r : List Tk} {t : Rm} {met : Nat} {p q : Tk} (h : RoomR 0 0 ps (.ok t met (p :: q :: r))) (h2 : p.1 = blank) (h3 : q.1 ≠ Str.ofString "~") : HouseR ps (.no q.2)
  | yard {ps r : List Tk} {t : Rm} {met : Nat} {p q : Tk} {cs : List (Str × Int)} {c : Int} (h : RoomR 0 0 ps (.ok t met (p :: q :: r))) (h2 : p.1 = blank) (h3 : q.1 = Str.ofString "~") (y : YardR [] r (some cs) c) : HouseR ps (.ok t cs)
  | yardNo {ps r : List Tk} {t : Rm} {met : Nat} {p q : Tk} {c : Int} (h : RoomR 0 0 ps (.ok t met (p :: q :: r))) (h2 : p.1 = blank) (h3 : q.1 = Str.ofString "~") (y : YardR [] r none c) : HouseR ps (.no c)
inductive RoomOf : List Tk → HOut → Prop
  | no {ps : List Tk} {c : Int} (h : RoomR 0 0 ps (.no c)) : RoomOf ps (.no c)
  | ok {ps r : List Tk} {t : Rm} {met : Nat} {p : Tk} (h : RoomR 0 0 ps (.ok t met (p :: r))) (hp : p.1 = Str.ofString "") : RoomOf ps (.ok t [])
  | no1 {ps r : List Tk} {t : Rm} {met : Nat} {p : Tk} (h : RoomR 0 0 ps (.ok t met (p :: r))) (hp : p.1 ≠ Str.ofString "") : RoomOf ps (.no p.2)
/-- an empty piece stands at the end alone -/
structure Ended (ps : List Tk) : Prop where
  ne : ps ≠ []
  go : ∀ i p, ps[i]? = some p → p.1 ≠ Str.ofString "" → i + 1 < ps.length
theorem Ended.nx {ps : List Tk} {i : Nat} {p : Tk} (e : Ended ps) (h : ps[i]? = some p) (hn : p.1 ≠ Str.ofString "") : ∃ q, ps[i + 1]? = some q ∧ ps.drop i = p :: q :: ps.drop (i + 2) := by
  have h1 := e.go i p h hn
  obtain ⟨h0, h2⟩ := List.getElem?_eq_some_iff.mp h
  refine ⟨ps[i + 1], List.getElem?_eq_getElem h1, ?_⟩
  rw [List.drop_eq_getElem_cons h0, List.drop_eq_getElem_cons h1, h2]
theorem drop_at {ps : List Tk} {i : Nat} {p : Tk} (h : ps[i]? = some p) : ps.drop i = p :: ps.drop (i + 1) := by
  obtain ⟨h0, h2⟩ := List.getElem?_eq_some_iff.mp h
  rw [List.drop_eq_getElem_cons h0, h2]
theorem bra_ne : bra ≠ Str.ofString "" := by decide +kernel
theorem ket_ne : ket ≠ Str.ofString "" := by decide +kernel
theorem blank_ne : blank ≠ Str.ofString "" := by decide +kernel
theorem name_some {z : Str} (h : isName z = true) : z ≠ Str.ofString "" := fun e => by
  rw [e] at h
  exact absurd h (by decide +kernel)
theorem parse_empty : parseW (Str.ofString "") = none := by decide +kernel
theorem parse_some {z : Str} {n : Str} {c : Int} (h : parseW z = some (n, c)) : z ≠ Str.ofString "" := fun e => by
  rw [e, parse_empty] at h
  cases h
/-- counts that a reading may hold -/
structure GoodY (cs : List (Str × Int)) : Prop where
  nd : (keysOf cs).Nodup
  nm : ∀ p ∈ cs, isName p.1 = true
  pos : ∀ p ∈ cs, 1 ≤ p.2
  sum : sumC cs ≤ 400
theorem GoodY.nil : GoodY [] := ⟨by simp [keysOf], (fun _ h => nomatch h), (fun _ h => nomatch h), by decide⟩
theorem len_sum : ∀ {cs : List (Str × Int)}, (∀ p ∈ cs, 1 ≤ p.2) → (cs.length : Int) ≤ sumC cs
  | [], _ => by simp [sumC]
  | p :: r, h => by
    have h1 := h p List.mem_cons_self
    have h2 := len_sum (cs := r) fun q hq => h q (List.mem_cons_of_mem _ hq)
    rw [sumC_cons]
    simp only [List.length_cons]
    omega
theorem GoodY.good {cs : List (Str × Int)} (g : GoodY cs) (h : cs.length < 64) : GoodC cs := ⟨h, g.nd, g.nm, g.pos, Int.le_trans g.sum (by decide)⟩
theorem GoodY.len {cs : List (Str × Int)} (g : GoodY cs) : (cs.length : Int) ≤ sumC cs := len_sum g.pos
theorem figV_bd {f : Str} (h : figsOk f = true) : 1 ≤ figV f ∧ figV f ≤ 999 := by
  unfold figsOk at h
  simp only [Bool.and_eq_true, decide_eq_true_eq, Bool.not_eq_true', decide_eq_false_iff_not] at h
  obtain ⟨h1, h2, h3, h4⟩ := h
  have hl : f.length = (tl f).length := by simp [Str.length]
  unfold figV
  rw [hl] at h1 h2
  generalize tl f = l at *
  have dg : ∀ c ∈ l, 48 ≤ c ∧ c ≤ 57 := fun c hc => by
    have := List.all_eq_true.mp h4 c hc
    unfold isFig at this
    simpa using this
  match l, h1, h2, h3, dg with
  | [a], _, _, h3, dg =>
    have d1 := dg a (by simp)
    have : a ≠ 48 := fun e => h3 (by rw [e]; rfl)
    show 1 ≤ ((0 * 10 + (a - 48) : Nat) : Int) ∧ ((0 * 10 + (a - 48) : Nat) : Int) ≤ 999
    omega
  | [a, b], _, _, h3, dg =>
    have d1 := dg a (by simp)
    have d2 := dg b (by simp)
    have : a ≠ 48 := fun e => h3 (by rw [e]; rfl)
    show 1 ≤ (((0 * 10 + (a - 48)) * 10 + (b - 48) : Nat) : Int) ∧ (((0 * 10 + (a - 48)) * 10 + (b - 48) : Nat) : Int) ≤ 999
    omega
  | [a, b, c], _, _, h3, dg =>
    have d1 := dg a (by simp)
    have d2 := dg b (by simp)
    have d3 := dg c (by simp)
    have : a ≠ 48 := fun e => h3 (by rw [e]; rfl)
    show 1 ≤ ((((0 * 10 + (a - 48)) * 10 + (b - 48)) * 10 + (c - 48) : Nat) : Int) ∧ ((((0 * 10 + (a - 48)) * 10 + (b - 48)) * 10 + (c - 48) : Nat) : Int) ≤ 999
    omega
  | _ :: _ :: _ :: _ :: _, _, h2, _, _ =>
    simp only [List.length_cons] at h2
    omega
  | [], h1, _, _, _ => simp at h1
theorem parse_good {w n : Str} {c : Int} (h : parseW w = some (n, c)) : isName n = true ∧ 1 ≤ c ∧ c ≤ 999 := by
  unfold parseW at h
  generalize Txt.split w (Str.ofString "*") = l at h
  match l, h with
  | [a], h =>
    have h : (if isName a = true then some (a, (1 : Int)) else none) = some (n, c) := h
    split at h
    · rename_i e
      cases h
      exact ⟨e, by decide, by decide⟩
    · cases h
  | [a, f], h =>
    have h : (if (isName a && figsOk f) = true then some (a, figV f) else none) = some (n, c) := h
    split at h
    · rename_i e
      cases h
      obtain ⟨e1, e2⟩ := Bool.and_eq_true_iff.mp e
      exact ⟨e1, figV_bd e2⟩
    · cases h
  | [], h => cases h
  | _ :: _ :: _ :: _, h => cases h
theorem putSum {n : Str} {v : Int} : ∀ {cs : List (Str × Int)}, (keysOf cs).Nodup → n ∈ keysOf cs → sumC (cs.map fun p => if p.1 = n then (p.1, v) else p) = sumC cs - (look cs n).getD 0 + v
  | [], _, h => nomatch h
  | p :: r, nd, h => by
    obtain ⟨n1, n2⟩ := List.nodup_cons.mp (show (p.1 :: keysOf r).Nodup from nd)
    rw [List.map_cons, sumC_cons, sumC_cons]
    by_cases e : p.1 = n
    · have e2 : (r.map fun p => if p.1 = n then (p.1, v) else p) = r := by
        have : (r.map fun p => if p.1 = n then (p.1, v) else p) = r.map id := List.map_congr_left fun q hq => if_neg fun z => n1 (by rw [e, ← z]; exact List.mem_map.mpr ⟨q, hq, rfl⟩)
        rw [this, List.map_id]
      rw [e2, if_pos e, show look (p :: r) n = some p.2 by simp [look, e]]
      show v + sumC r = p.2 + sumC r - p.2 + v
      omega
    · have hm : n ∈ keysOf r := (List.mem_cons.mp (show n ∈ p.1 :: keysOf r from h)).resolve_left fun z => e z.symm
      rw [if_neg e, putSum n2 hm, show look (p :: r) n = look r n by simp [look, e]]
      omega
theorem addSum {cs : List (Str × Int)} {n : Str} {c : Int} (nd : (keysOf cs).Nodup) : sumC (addC cs n c) = sumC cs + c := by
  unfold addC
  by_cases h : n ∈ keysOf cs
  · have ha : (cs.any fun p => decide (p.1 = n)) = true := by
      obtain ⟨p, hp, e⟩ := List.mem_map.mp h
      exact List.any_eq_true.mpr ⟨p, hp, decide_eq_true e⟩
    unfold put
    rw [if_pos ha, putSum nd h]
    omega
  · rw [put_new h, sumC_app, look_none.mpr h]
    simp [sumC]
theorem GoodY.add {cs : List (Str × Int)} {n : Str} {c : Int} (g : GoodY cs) (hn : isName n = true) (h1 : 1 ≤ c) (hs : c + sumC cs ≤ 400) : GoodY (addC cs n c) := by
  have l0 := look_pos g.pos n
  refine ⟨nodup_put g.nd, fun p hp => ?_, fun p hp => ?_, by rw [addSum g.nd]; omega⟩
  · rcases mem_put hp with h | h
    · exact g.nm p h
    · rw [h]
      exact hn
  · rcases mem_put hp with h | h
    · exact g.pos p h
    · rw [h]
      show 1 ≤ (look cs n).getD 0 + c
      omega
theorem addC_ne (cs : List (Str × Int)) (n : Str) (c : Int) : addC cs n c ≠ [] := by
  unfold addC put
  split
  · rename_i h
    intro e
    rw [List.map_eq_nil_iff.mp e] at h
    simp at h
  · simp
def wordN (p : Str × Int) : Str := p.1 ++ Str.ofString "*" ++ numT p.2
theorem GoodY.le {cs : List (Str × Int)} (g : GoodY cs) {p : Str × Int} (hp : p ∈ cs) : p.2 ≤ 400 := Int.le_trans (sumC_le g.pos p hp) g.sum
theorem GoodY.word {cs : List (Str × Int)} (g : GoodY cs) {p : Str × Int} (hp : p ∈ cs) : WordIs (wordN p) p := word_two (g.nm _ hp) (g.pos _ hp) (by have := g.le hp; omega)
theorem GoodY.words {cs : List (Str × Int)} (g : GoodY cs) : WordsAre (cs.map wordN) cs := by
  refine ⟨by rw [List.length_map], fun i w p h1 h2 => ?_⟩
  rw [List.getElem?_map, h2] at h1
  cases h1
  exact g.word (List.mem_of_getElem? h2)
theorem GoodY.bag {cs : List (Str × Int)} (g : GoodY cs) : ∃ ds, bagOf (Txt.join (Str.ofString " ") (cs.map wordN)) = .ok ds ∧ cs.Perm ds := by
  have gs := g.sum
  refine ⟨accAll [] cs, ?_, ?_⟩
  · unfold bagOf
    rw [g.words.split]
    exact countsL_acc _ cs 0 [] 0 g.words.parse g.pos (by omega)
  · refine perm_of_look g.nd (nodup_accAll cs [] (by simp [keysOf])) g.pos (pos_accAll cs [] g.pos fun _ z => nomatch z) fun n => ?_
    rw [look_accAll, tot_look g.nd n]
    show _ = 0 + _
    omega
theorem GoodY.size {cs : List (Str × Int)} (g : GoodY cs) : (Txt.join (Str.ofString " ") (cs.map wordN)).length ≤ 5200 := by
  have h1 := join_len (ws := cs.map wordN) (m := 12) fun x hx => by
    obtain ⟨p, hp, rfl⟩ := List.mem_map.mp hx
    exact (g.word hp).len
  have h2 := g.len
  have h3 := g.sum
  rw [List.length_map] at h1
  omega
end Sk

set_option maxHeartbeats 4000000
/-! zip(list, tuple, strict=True), both of one length -/
namespace SkZ
open PySem RZ
open PySem.Sem (wp)
abbrev IsZipS (h : Heap) (z TI TO : Addr) (f0 : Value) : Prop :=
  h.get? z = some { cls := .type "zip", dict := none, data := .fields #[f0, .bool false, .bool true, .ref TI, .ref TO], slots := #[] }
section
variable {prog : Program} {w : World} {A : Around} {E : Value → Shared → Prop} {s : Shared} {b b1 b2 : Bool}
theorem nextE_item {it l : Addr} {i : Nat} {items : Array Value} {x : Value} {Q : Option Value → Shared → Prop} (hit : SIt b s.heap it l i) (hl : SIs b s.heap l items) (hx : items[i]? = some x)
    (hQ : ∀ h', SIt b h' it l (i + 1) → Heap.SameBut it s.heap h' → Q (some x) { s with heap := h' }) : wpAny (model prog w) A (Builtin.SmallTypes.nextOrEnd (.ref it)) Q E s := by
  unfold Builtin.SmallTypes.nextOrEnd
  exact wpAny_bind (wpAny_attempt (next_src hit hl hx fun h' a c => wpAny_pure (hQ h' a c)))
theorem nextE_end {it l : Addr} {i : Nat} {items : Array Value} {Q : Option Value → Shared → Prop} (hh : A.handled = none) (hit : SIt b s.heap it l i) (hl : SIs b s.heap l items) (hx : items[i]? = none)
    (hQ : ∀ h', Heap.ExtBut it s.heap h' → Q none { s with heap := h' }) : wpAny (model prog w) A (Builtin.SmallTypes.nextOrEnd (.ref it)) Q E s := by
  unfold Builtin.SmallTypes.nextOrEnd
  refine wpAny_bind (wpAny_attempt (end_src hh hit hl hx fun h' e a he => ?_))
  refine wpAny_bind (wpAny_isInstance (T := "StopIteration") (b := true) he isSubtype_stop ?_)
  exact wpAny_pure (hQ h' a)
theorem stop_now {α : Type} {Q : α → Shared → Prop} (hh : A.handled = none) (hE : ∀ h' e, (∀ c o, s.heap.get? c = some o → h'.get? c = some o) → (∃ o, h'.get? e = some o ∧ o.cls = .type "StopIteration") → E (.ref e) { s with heap := h' }) :
    wpAny (model prog w) A (Builtin.SmallTypes.stopIteration : Sem α) Q E s := by
  unfold Builtin.SmallTypes.stopIteration
  show wpAny _ _ (newExc (.type "StopIteration") [] >>= _) _ _ _
  refine wpAny_bind ?_
  simp only [newExc, newTuple]
  refine wpAny_bind (wpAny_newObj_type ?_ (by size_fits))
  refine wpAny_bind (m := firstArgMember _ _) (wpAny_of_eq (a := Value.none) (by first | rfl | (simp only [firstArgMember]; rfl)) ?_)
  refine wpAny_newObj_type ?_ (by size_fits)
  simp only [raiseNew]
  refine wpAny_bind (wpAny_handled ?_)
  first | rw [show A.in1.handled = none from hh] | rw [hh]
  refine wpAny_bind (wpAny_pure (wpAny_throw ?_))
  exact hE _ _ (fun c o x => Heap.get?_push_of_some _ (Heap.get?_push_of_some _ x)) ⟨_, Heap.get?_push_size _ rfl, rfl⟩
theorem zipS_next_item {z TI TO i1 i2 l1 l2 : Addr} {k1 k2 : Nat} {xs ys : Array Value} {x y a b : Value} {Q : Value → Shared → Prop} (D : ZipApart z TI TO i1 i2 l1 l2)
    (hz : IsZipS s.heap z TI TO .none) (hTI : IsPair s.heap TI (.ref i1) (.ref i2)) (hTO : IsPair s.heap TO a b)
    (h1 : SIt b1 s.heap i1 l1 k1) (h2 : SIt b2 s.heap i2 l2 k2) (hl1 : SIs b1 s.heap l1 xs) (hl2 : SIs b2 s.heap l2 ys) (hx : xs[k1]? = some x) (hy : ys[k2]? = some y)
    (hQ : ∀ h', IsZipS h' z TI TO (rawInt s.heap.objs.size) → IsPair h' TO x y → SIt b1 h' i1 l1 (k1 + 1) → SIt b2 h' i2 l2 (k2 + 1) → IsPair h' s.heap.objs.size x y → h'.objs.size = s.heap.objs.size + 1 →
      (∀ c o, c ≠ z → c ≠ TO → c ≠ i1 → c ≠ i2 → s.heap.get? c = some o → h'.get? c = some o) → Q (.ref s.heap.objs.size) { s with heap := h' }) :
    wpAny (model prog w) A (Builtin.«zip.__next__» ⟨[.ref z], []⟩) (fun fin s' => ∃ v, fin = .done (.ret v) ∧ Q v s') E s := by
  show wpAny _ _ (field (.ref z) 2 >>= _) _ _ _
  refine wpAny_bind (wpAny_field hz rfl (x := .bool true) rfl ?_)
  show wpAny _ _ (field (.ref z) 3 >>= _) _ _ _
  refine wpAny_bind (wpAny_field hz rfl (x := .ref TI) rfl ?_)
  refine wpAny_bind (wpAny_seqItems hTI rfl ?_)
  show wpAny _ _ (Builtin.SmallTypes.ownedTupleIsFree (.ref z) >>= _) _ _ _
  refine wpAny_bind ?_
  unfold Builtin.SmallTypes.ownedTupleIsFree
  refine wpAny_bind (wpAny_field hz rfl (x := .none) rfl (wpAny_pure ?_))
  simp only [if_true]
  refine wpAny_bind (wpAny_rule ?_)
  refine wpAny_bind (wpAny_field hz rfl (x := .ref TO) rfl ?_)
  refine wpAny_bind (wpAny_setField_rec hz (by simp) fun h₁ hz₁ hs₁ => ?_)
  replace hz₁ : IsZipS h₁ z TI TO .ellipsis := hz₁
  refine wpAny_bind ?_
  simp only [List.zipIdx_cons, List.zipIdx_nil, List.forIn_cons, List.forIn_nil]

  refine wpAny_bind (wpAny_bind (wpAny_onRaise ?_))
  show wpAny _ _ (Builtin.SmallTypes.nextOrEnd (.ref i1)) _ _ _
  refine (nextE_item (h1.extBut hs₁.extBut D.i1z) (hl1.extBut hs₁.extBut D.l1z) hx fun h₂ h1₂ hs₂ => ?_)
  have hTO₂ : IsPair h₂ TO a b := hs₂.extBut _ _ D.TOi1 (hs₁.extBut _ _ D.TOz hTO)
  refine wpAny_bind (wpAny_seqItems hTO₂ rfl ?_)
  refine wpAny_bind (wpAny_updateSeq_pair hTO₂ fun h₃ hTO₃ hs₃ => ?_)
  replace hTO₃ : IsPair h₃ TO x b := hTO₃
  refine wpAny_bind (wpAny_letGo (wpAny_pure ?_))

  refine wpAny_bind (wpAny_bind (wpAny_onRaise ?_))
  show wpAny _ _ (Builtin.SmallTypes.nextOrEnd (.ref i2)) _ _ _
  refine (nextE_item (((h2.extBut hs₁.extBut D.i2z).extBut hs₂.extBut D.i12.symm).extBut hs₃.extBut D.TOi2.symm)
    (((hl2.extBut hs₁.extBut D.l2z).extBut hs₂.extBut D.l2i1).extBut hs₃.extBut D.l2TO) hy fun h₄ h2₄ hs₄ => ?_)
  have hTO₄ : IsPair h₄ TO x b := hs₄.extBut _ _ D.TOi2 hTO₃
  refine wpAny_bind (wpAny_seqItems hTO₄ rfl ?_)
  refine wpAny_bind (wpAny_updateSeq_pair hTO₄ fun h₅ hTO₅ hs₅ => ?_)
  replace hTO₅ : IsPair h₅ TO x y := hTO₅
  refine wpAny_bind (wpAny_letGo (wpAny_pure (wpAny_pure ?_)))

  refine wpAny_bind (wpAny_seqItems hTO₅ rfl ?_)
  refine wpAny_bind (wpAny_newTuple ?_)
  have hsz : h₅.objs.size = s.heap.objs.size := by rw [hs₅.1, hs₄.1, hs₃.1, hs₂.1, hs₁.1]
  have hz₅ : IsZipS h₅ z TI TO .ellipsis := hs₅.extBut _ _ D.TOz.symm (hs₄.extBut _ _ D.i2z.symm (hs₃.extBut _ _ D.TOz.symm (hs₂.extBut _ _ D.i1z.symm hz₁)))
  have hk₅ : ∀ c o, c ≠ z → c ≠ TO → c ≠ i1 → c ≠ i2 → s.heap.get? c = some o → h₅.get? c = some o := fun c o c1 c2 c3 c4 e =>
    hs₅.extBut _ _ c2 (hs₄.extBut _ _ c4 (hs₃.extBut _ _ c2 (hs₂.extBut _ _ c3 (hs₁.extBut _ _ c1 e))))
  have h1₅ : SIt b1 h₅ i1 l1 (k1 + 1) := ((h1₂.extBut hs₃.extBut D.TOi1.symm).extBut hs₄.extBut D.i12).extBut hs₅.extBut D.TOi1.symm
  have h2₅ : SIt b2 h₅ i2 l2 (k2 + 1) := h2₄.extBut hs₅.extBut D.TOi2.symm
  have hzlt : z < h₅.objs.size := Heap.lt_size hz₅
  have hTOlt : TO < h₅.objs.size := Heap.lt_size hTO₅
  have hi1lt : i1 < h₅.objs.size := h1₅.lt
  have hi2lt : i2 < h₅.objs.size := h2₅.lt
  show wpAny _ _ (Builtin.SmallTypes.ownedTupleHandOut (.ref z) (.ref h₅.objs.size) >>= _) _ _ _
  refine wpAny_bind ?_
  unfold Builtin.SmallTypes.ownedTupleHandOut
  have hz₆ : IsZipS (h₅.push { cls := .type "tuple", data := .seq #[x, y] }) z TI TO .ellipsis := Heap.get?_push_of_some _ hz₅
  refine wpAny_bind (wpAny_setField_rec hz₆ (by simp) fun h₇ hz₇ hs₇ => ?_)
  replace hz₇ : IsZipS h₇ z TI TO (rawInt h₅.objs.size) := hz₇
  refine wpAny_setField_rec hz₇ (by simp) fun h₈ hz₈ hs₈ => ?_
  replace hz₈ : IsZipS h₈ z TI TO (rawInt h₅.objs.size) := hz₈
  have up : ∀ c o, c ≠ z → h₅.get? c = some o → h₈.get? c = some o := fun c o c1 e => hs₈.extBut _ _ c1 (hs₇.extBut _ _ c1 (Heap.get?_push_of_some _ e))
  have hT₈ : IsPair h₈ h₅.objs.size x y := hs₈.extBut _ _ (Nat.ne_of_gt hzlt) (hs₇.extBut _ _ (Nat.ne_of_gt hzlt) (Heap.get?_push_size _ rfl))
  have hz8 : h₈.objs.size = h₅.objs.size + 1 := by rw [hs₈.1, hs₇.1, Heap.size_push]
  rw [hsz] at hz₈ hT₈ hz8
  refine wpAny_pure ⟨_, rfl, ?_⟩
  show Q (.ref h₅.objs.size) _
  rw [hsz]
  exact hQ h₈ hz₈ (up _ _ D.TOz hTO₅) (h1₅.at fun o e => up _ o D.i1z e) (h2₅.at fun o e => up _ o D.i2z e) hT₈ hz8 fun c o c1 c2 c3 c4 e => up c o c1 (hk₅ c o c1 c2 c3 c4 e)

theorem zipS_next_end {z TI TO i1 i2 l1 l2 : Addr} {k1 k2 : Nat} {xs ys : Array Value} {a b : Value} {Q : Fin → Shared → Prop} (hh : A.handled = none) (D : ZipApart z TI TO i1 i2 l1 l2)
    (hz : IsZipS s.heap z TI TO .none) (hTI : IsPair s.heap TI (.ref i1) (.ref i2)) (hTO : IsPair s.heap TO a b)
    (h1 : SIt b1 s.heap i1 l1 k1) (h2 : SIt b2 s.heap i2 l2 k2) (hl1 : SIs b1 s.heap l1 xs) (hl2 : SIs b2 s.heap l2 ys) (hx : xs[k1]? = none) (hy : ys[k2]? = none)
    (hE : ∀ h' e, (∀ c o, c ≠ z → c ≠ TO → c ≠ i1 → c ≠ i2 → s.heap.get? c = some o → h'.get? c = some o) → (∃ o, h'.get? e = some o ∧ o.cls = .type "StopIteration") → E (.ref e) { s with heap := h' }) :
    wpAny (model prog w) A (Builtin.«zip.__next__» ⟨[.ref z], []⟩) Q E s := by
  show wpAny _ _ (field (.ref z) 2 >>= _) _ _ _
  refine wpAny_bind (wpAny_field hz rfl (x := .bool true) rfl ?_)
  show wpAny _ _ (field (.ref z) 3 >>= _) _ _ _
  refine wpAny_bind (wpAny_field hz rfl (x := .ref TI) rfl ?_)
  refine wpAny_bind (wpAny_seqItems hTI rfl ?_)
  show wpAny _ _ (Builtin.SmallTypes.ownedTupleIsFree (.ref z) >>= _) _ _ _
  refine wpAny_bind ?_
  unfold Builtin.SmallTypes.ownedTupleIsFree
  refine wpAny_bind (wpAny_field hz rfl (x := .none) rfl (wpAny_pure ?_))
  simp only [if_true]
  refine wpAny_bind (wpAny_rule ?_)
  refine wpAny_bind (wpAny_field hz rfl (x := .ref TO) rfl ?_)
  refine wpAny_bind (wpAny_setField_rec hz (by simp) fun h₁ hz₁ hs₁ => ?_)
  replace hz₁ : IsZipS h₁ z TI TO .ellipsis := hz₁
  refine wpAny_bind ?_
  simp only [List.zipIdx_cons, List.zipIdx_nil, List.forIn_cons, List.forIn_nil]
  refine wpAny_bind (wpAny_bind (wpAny_onRaise ?_))
  show wpAny _ _ (Builtin.SmallTypes.nextOrEnd (.ref i1)) _ _ _
  refine nextE_end hh (h1.extBut hs₁.extBut D.i1z) (hl1.extBut hs₁.extBut D.l1z) hx fun h₂ hs₂ => ?_
  have hz₂ : IsZipS h₂ z TI TO .ellipsis := hs₂ _ _ D.i1z.symm hz₁
  refine wpAny_bind (wpAny_setField_rec hz₂ (by simp) fun h₃ _ hs₃ => ?_)
  have h2₃ : SIt b2 h₃ i2 l2 k2 := ((h2.extBut hs₁.extBut D.i2z).extBut hs₂ D.i12.symm).extBut hs₃.extBut D.i2z
  have hl2₃ : SIs b2 h₃ l2 ys := ((hl2.extBut hs₁.extBut D.l2z).extBut hs₂ D.l2i1).extBut hs₃.extBut D.l2z
  refine wpAny_bind ?_
  show wpAny _ _ (forIn (([Value.ref i1, Value.ref i2].drop 1).zipIdx 1) PUnit.unit _ >>= _) _ _ _
  simp only [List.drop_succ_cons, List.drop_zero, List.zipIdx_cons, List.zipIdx_nil, List.forIn_cons, List.forIn_nil]
  refine wpAny_bind (wpAny_bind (wpAny_bind ?_))
  refine nextE_end hh h2₃ hl2₃ hy fun h₄ hs₄ => ?_
  show wpAny _ _ (pure (ForInStep.yield PUnit.unit)) _ _ _
  refine wpAny_pure (wpAny_pure ?_)
  refine wpAny_bind (wpAny_rule ?_)
  exact stop_now hh fun h' e keep he => hE h' e (fun c o c1 c2 c3 c4 x => keep _ _ (hs₄ _ _ c4 (hs₃.extBut _ _ c1 (hs₂ _ _ c3 (hs₁.extBut _ _ c1 x))))) he
theorem pyNext_zipS_item {z TI TO i1 i2 l1 l2 : Addr} {k1 k2 : Nat} {xs ys : Array Value} {x y a b : Value} {Q : Option Value → Shared → Prop} (D : ZipApart z TI TO i1 i2 l1 l2)
    (hz : IsZipS s.heap z TI TO .none) (hTI : IsPair s.heap TI (.ref i1) (.ref i2)) (hTO : IsPair s.heap TO a b)
    (h1 : SIt b1 s.heap i1 l1 k1) (h2 : SIt b2 s.heap i2 l2 k2) (hl1 : SIs b1 s.heap l1 xs) (hl2 : SIs b2 s.heap l2 ys) (hx : xs[k1]? = some x) (hy : ys[k2]? = some y)
    (hQ : ∀ h', IsZipS h' z TI TO (rawInt s.heap.objs.size) → IsPair h' TO x y → SIt b1 h' i1 l1 (k1 + 1) → SIt b2 h' i2 l2 (k2 + 1) → IsPair h' s.heap.objs.size x y → h'.objs.size = s.heap.objs.size + 1 →
      (∀ c o, c ≠ z → c ≠ TO → c ≠ i1 → c ≠ i2 → s.heap.get? c = some o → h'.get? c = some o) → Q (some (.ref s.heap.objs.size)) { s with heap := h' }) :
    wpAny (model prog w) A (pyNext (.ref z)) Q E s := by
  have hT : s.TypeIs (.ref z) "zip" := ⟨_, hz, rfl⟩
  unfold pyNext
  exact wpAny_bind (wpAny_attempt (wpAny_callSpecial?_slot (name := Str.ofString "__next__") hT F.slot_zip_next
    (wpAny_call_entry F.slot_zip_next hT F.entry_zip_next
      (zipS_next_item D hz hTI hTO h1 h2 hl1 hl2 hx hy fun h' a1 a2 a3 a4 a5 a6 a7 => wpAny_pure (hQ h' a1 a2 a3 a4 a5 a6 a7)) (F.args_zip_next_1 _))))

theorem pyNext_zipS_end {z TI TO i1 i2 l1 l2 : Addr} {k1 k2 : Nat} {xs ys : Array Value} {a b : Value} {Q : Option Value → Shared → Prop} (hh : A.handled = none) (D : ZipApart z TI TO i1 i2 l1 l2)
    (hz : IsZipS s.heap z TI TO .none) (hTI : IsPair s.heap TI (.ref i1) (.ref i2)) (hTO : IsPair s.heap TO a b)
    (h1 : SIt b1 s.heap i1 l1 k1) (h2 : SIt b2 s.heap i2 l2 k2) (hl1 : SIs b1 s.heap l1 xs) (hl2 : SIs b2 s.heap l2 ys) (hx : xs[k1]? = none) (hy : ys[k2]? = none)
    (hQ : ∀ h', (∀ c o, c ≠ z → c ≠ TO → c ≠ i1 → c ≠ i2 → s.heap.get? c = some o → h'.get? c = some o) → Q none { s with heap := h' }) : wpAny (model prog w) A (pyNext (.ref z)) Q E s := by
  have hT : s.TypeIs (.ref z) "zip" := ⟨_, hz, rfl⟩
  unfold pyNext
  refine wpAny_bind (wpAny_attempt (wpAny_callSpecial?_slot (name := Str.ofString "__next__") hT F.slot_zip_next
    (wpAny_call_entry F.slot_zip_next hT F.entry_zip_next (zipS_next_end hh D hz hTI hTO h1 h2 hl1 hl2 hx hy fun h' e hk he => ?_) (F.args_zip_next_1 _))))
  obtain ⟨o, ho, hc⟩ := he
  refine wpAny_bind (wpAny_isInstance (T := "StopIteration") (b := true) ⟨o, ho, hc⟩ isSubtype_stop ?_)
  exact wpAny_pure (hQ _ hk)
end

section
variable {prog : Program} {w : World} {A : Around} {E : Value → Shared → Prop} {s : Shared}
theorem letGo_zipS {elts : List Expr} {x1} {pos : Pos} {z TI TO T : Addr} {Q : Unit → Shared → Prop} (hz : IsZipS s.heap z TI TO (rawInt T))
    (hQ : ∀ h', IsZipS h' z TI TO .none → Heap.SameBut z s.heap h' → Q () { s with heap := h' }) :
    wpAny (model prog w) A (letOwnedTupleGo (.Tuple elts x1 pos) (.ref z) (.ref T)) Q E s := by
  unfold letOwnedTupleGo
  refine wpAny_bind (wpAny_load hz ?_)
  show wpAny _ _ (if (["enumerate", "zip", "dict_itemiterator", "dict_reverseitemiterator", "odict_iterator", "itertools.zip_longest", "itertools.pairwise"].contains "zip" &&
      (#[rawInt T, .bool false, .bool true, .ref TI, .ref TO] : Array Value)[0]? == some (rawInt T)) = true then _ else _) Q E s
  rw [if_pos (by simp)]
  refine wpAny_bind (wpAny_rule ?_)
  show wpAny _ _ (setField (.ref z) 0 .none) Q E s
  exact wpAny_setField_rec hz (by simp) fun h' hz' hs' => hQ h' hz' hs'
theorem iter_zipS {z TI TO : Addr} {f0 : Value} {Q : Value → Shared → Prop} (hz : IsZipS s.heap z TI TO f0) (h : Q (.ref z) s) : wpAny (model prog w) A (pyIter (.ref z)) Q E s := by
  have hT : s.TypeIs (.ref z) "zip" := ⟨_, hz, rfl⟩
  refine wpAny_pyIter_slot hT F.slot_zip_iter (wpAny_call_entry F.slot_zip_iter hT F.entry_zip_iter ?_ (F.args_zip_iter_1 _))
  show wpAny _ _ (ret (.ref z)) _ _ s
  exact wpAny_pure ⟨_, rfl, "zip", _, hT, F.slot_zip_next.lookup, h⟩
end
abbrev zS1 (h : Heap) (l1 : Addr) : Heap := h.push { cls := .type "list_iterator", data := .fields #[.ref l1, .int 0 0] }
abbrev zS2 (h : Heap) (l1 l2 : Addr) : Heap := (zS1 h l1).push { cls := .type "tuple_iterator", data := .fields #[.ref l2, .int 0 0] }
abbrev zS3 (h : Heap) (l1 l2 : Addr) : Heap := (zS2 h l1 l2).push { cls := .type "tuple", data := .seq #[.ref h.objs.size, .ref (zS1 h l1).objs.size] }
abbrev zS4 (h : Heap) (l1 l2 : Addr) : Heap := (zS3 h l1 l2).push { cls := .type "tuple", data := .seq #[.none, .none] }
abbrev zS5 (h : Heap) (l1 l2 : Addr) : Heap := (zS4 h l1 l2).push { cls := .type "zip", data := .fields #[.none, .bool false, .bool true, .ref (zS2 h l1 l2).objs.size, .ref (zS3 h l1 l2).objs.size] }
theorem typeCall_zipS (a b c : Value) : checkTypeCall "zip" ⟨[a, b], [(Str.ofString "strict", c)]⟩ = pure () := by kernel_rfl
theorem newCall_zipS (a b c : Value) : checkBuiltinCall "zip.__new__" ⟨[.type "zip", a, b], [(Str.ofString "strict", c)]⟩ = pure () := by kernel_rfl
theorem args_initS (o a b c : Value) : argsOk "object.__init__" ⟨[o, a, b], [(Str.ofString "strict", c)]⟩ := by unfold argsOk; kernel_rfl
theorem meets_zipS_new (l1 l2 : Addr) (xs ys : Array Value) :
    Meets (Builtin.«zip.__new__» ⟨[.type "zip", .ref l1, .ref l2], [(Str.ofString "strict", .bool true)]⟩) (fun _ R s => s.heap.IsList l1 xs ∧ s.heap.IsTuple l2 ys ∧
      R (.ok (.ret (.ref (zS4 s.heap l1 l2).objs.size))) { s with heap := zS5 s.heap l1 l2 }) :=
  .of_wp fun prog w A R s h => by
    obtain ⟨hp, g, d, tk, os⟩ := s; obtain ⟨hl1, hl2, h⟩ := h
    have hsub := sub_zip
    have e1 : (Str.ofString "strict" == ("strict" : Str)) = true := by decide +kernel
    have e2 : (Str.ofString "strict" != ("strict" : Str)) = false := by decide +kernel
    have hL1 : Heap.IsList (Shared.heap ⟨hp, g, d, tk, os⟩) l1 xs := hl1
    have hL2 : Heap.IsTuple (Shared.heap ⟨hp.push { cls := .type "list_iterator", data := .fields #[.ref l1, .int 0 0] }, g, d, tk, os⟩) l2 ys := by
      obtain ⟨o, ho, r⟩ := hl2
      exact ⟨o, Heap.get?_push_of_some _ ho, r⟩
    wp_walk using wpAny_pyIter_list hL1, wpAny_pyIter_tuple hL2
    exact ⟨_, rfl, h⟩
section
variable {prog : Program} {w : World} {A : Around} {E : Value → Shared → Prop} {s : Shared}
theorem call_zipS {l1 l2 : Addr} {xs ys : Array Value} {Q : Value → Shared → Prop} (hl1 : s.heap.IsList l1 xs) (hl2 : s.heap.IsTuple l2 ys)
    (h : ∀ h', IsZipS h' (s.heap.objs.size + 4) (s.heap.objs.size + 2) (s.heap.objs.size + 3) .none → IsPair h' (s.heap.objs.size + 2) (.ref s.heap.objs.size) (.ref (s.heap.objs.size + 1)) →
      IsPair h' (s.heap.objs.size + 3) .none .none → h'.IsListIter s.heap.objs.size l1 0 → h'.IsTupleIter (s.heap.objs.size + 1) l2 0 → h'.objs.size = s.heap.objs.size + 5 →
      (∀ c o, s.heap.get? c = some o → h'.get? c = some o) → Q (.ref (s.heap.objs.size + 4)) { s with heap := h' }) :
    wpAny (model prog w) A (call (.type "zip") [.ref l1, .ref l2] [(Str.ofString "strict", .bool true)]) Q E s := by
  refine callType_newKw F.called_zip (by decide) (typeCall_zipS _ _ _) (newCall_zipS _ _ _) (fun obj => args_initS obj _ _ _) F.entry_zip_new
    (meets_zipS_new l1 l2 xs ys) ⟨hl1, hl2, ?_⟩
  have z1 : (zS1 s.heap l1).objs.size = s.heap.objs.size + 1 := Heap.size_push ..
  have z2 : (zS2 s.heap l1 l2).objs.size = s.heap.objs.size + 2 := by rw [Heap.size_push, z1]
  have z3 : (zS3 s.heap l1 l2).objs.size = s.heap.objs.size + 3 := by rw [Heap.size_push, z2]
  have z4 : (zS4 s.heap l1 l2).objs.size = s.heap.objs.size + 4 := by rw [Heap.size_push, z3]
  have z5 : (zS5 s.heap l1 l2).objs.size = s.heap.objs.size + 5 := by rw [Heap.size_push, z4]
  have g5 : (zS5 s.heap l1 l2).get? (zS4 s.heap l1 l2).objs.size = some _ := Heap.get?_push_size _ rfl
  have g4 : (zS5 s.heap l1 l2).get? (zS3 s.heap l1 l2).objs.size = some _ := Heap.get?_push_of_some _ (Heap.get?_push_size _ rfl)
  have g3 : (zS5 s.heap l1 l2).get? (zS2 s.heap l1 l2).objs.size = some _ := Heap.get?_push_of_some _ (Heap.get?_push_of_some _ (Heap.get?_push_size _ rfl))
  have g2 : (zS5 s.heap l1 l2).get? (zS1 s.heap l1).objs.size = some _ := Heap.get?_push_of_some _ (Heap.get?_push_of_some _ (Heap.get?_push_of_some _ (Heap.get?_push_size _ rfl)))
  have g1 : (zS5 s.heap l1 l2).get? s.heap.objs.size = some _ := Heap.get?_push_of_some _ (Heap.get?_push_of_some _ (Heap.get?_push_of_some _ (Heap.get?_push_of_some _ (Heap.get?_push_size _ rfl))))
  show _ ∧ _
  rw [z2, z3, z4] at g5
  rw [z1, z2] at g3
  rw [z3] at g4
  rw [z1] at g2
  rw [z4]
  exact ⟨⟨_, g5, rfl⟩, h _ g5 g3 g4 ⟨_, g1, rfl, rfl⟩ ⟨_, g2, rfl, rfl⟩ z5 fun c o x =>
    Heap.get?_push_of_some _ (Heap.get?_push_of_some _ (Heap.get?_push_of_some _ (Heap.get?_push_of_some _ (Heap.get?_push_of_some _ x))))⟩
end
end SkZ
namespace SkZ
open PySem PySem.Spec PyProof.Rows L2 RZ
def ItzS (K : PySem.W.Frag) (a b : Addr) : It :=
  ⟨fun i H => ∃ (xs ys : List V) (x y : V), SqL K H a xs ∧ SqT K H b ys ∧ xs[i]? = some x ∧ ys[i]? = some y,
    fun i H v H' => ∃ T x y, v = .ref T ∧ H T = none ∧ H' = upd H T (.tup [x, y]) ∧ (∀ xs, SqL K H a xs → xs[i]? = some x) ∧ ∀ ys, SqT K H b ys → ys[i]? = some y,
    fun i H => ∃ xs ys : List V, SqL K H a xs ∧ SqT K H b ys ∧ xs.length ≤ i ∧ ys.length ≤ i⟩
theorem turn_zipS {P : Program} {w : World} {K : PySem.W.Frag} {elts : List Expr} {kk : Nat} {tpos : Pos} {a b z TI TO i1 i2 : Addr} (D : ZipApart z TI TO i1 i2 a b) :
    Turn P w K (.Tuple elts kk tpos) (ItzS K a b) [z, TI, TO, i1, i2] z (fun i h => IsZipS h z TI TO .none ∧ IsPair h TI (.ref i1) (.ref i2) ∧ (∃ x y, IsPair h TO x y) ∧ SIt false h i1 a i ∧ SIt true h i2 b i) where
  mem := by simp
  obj := fun i h st c hc => by
    obtain ⟨hz, hTI, ⟨x, y, hTO⟩, ⟨o1, e1, _, d1⟩, ⟨o2, e2, _, d2⟩⟩ := st
    have e' : c = z ∨ c = TI ∨ c = TO ∨ c = i1 ∨ c = i2 := by simpa using hc
    rcases e' with q | q | q | q | q
    · rw [q]; exact ⟨_, hz, fun v q => nomatch q⟩
    · rw [q]; exact ⟨_, hTI, fun v q => nomatch q⟩
    · rw [q]; exact ⟨_, hTO, fun v q => nomatch q⟩
    · rw [q]; exact ⟨o1, e1, fun v q => by rw [d1] at q; cases q⟩
    · rw [q]; exact ⟨o2, e2, fun v q => by rw [d2] at q; cases q⟩
  keep := fun i h h' st k => by
    obtain ⟨hz, hTI, ⟨x, y, hTO⟩, h1, h2⟩ := st
    exact ⟨k z (by simp) _ hz, k TI (by simp) _ hTI, ⟨x, y, k TO (by simp) _ hTO⟩, h1.at fun o q => k i1 (by simp) o q, h2.at fun o q => k i2 (by simp) o q⟩
  item := by
    intro X hP hw hK hc i pins s σ H E I hf st hg
    subst hP hw hK
    obtain ⟨hz, hTI, ⟨x0, y0, hTO⟩, h1, h2⟩ := st
    obtain ⟨xs, ys, x, y, hqx, hqy, hx, hy⟩ := hg
    obtain ⟨its, rv, p, _⟩ := I.list hqx
    obtain ⟨its2, rv2, p2, _⟩ := I.tuple hqy
    obtain ⟨u, hu, ru⟩ := rv.get hx
    obtain ⟨u2, hu2, ru2⟩ := rv2.get hy
    have hzl : z < s.heap.objs.size := Heap.lt_size hz
    refine pyNext_zipS_item (b1 := false) (b2 := true) D hz hTI hTO h1 h2 p.isList p2 (x := u) (y := u2) (by simpa using hu) (by simpa using hu2) fun h' z' TO' h1' h2' hT hsz hk => ?_
    refine ⟨_, rfl, letGo_zipS (s := { s with heap := h' }) z' fun h'' z'' sb => ?_⟩
    have hT2 : h''.get? s.heap.objs.size = some { cls := .type "tuple", data := .seq #[u, u2] } := (sb.2 _ (Nat.ne_of_gt hzl)).trans hT
    have new : ObjOk X.prog X.w (upd H s.heap.objs.size (.tup [x, y])) h'' s.heap.objs.size (.tup [x, y]) :=
      ⟨by show 2 ≤ sizeLine; decide, [u, u2], .cons ru (.cons ru2 .nil), ⟨_, hT2, rfl, _, rfl⟩⟩
    have I1 : Inv X pins σ (upd H s.heap.objs.size (.tup [x, y])) { s with heap := h'' } :=
      I.turnedNew (t' := s.toks) (ch := [z, TI, TO, i1, i2]) (fun c o hb q => (sb.2 c (fun q' => hb (by simp [q']))).trans (hk c o (fun q' => hb (by simp [q'])) (fun q' => hb (by simp [q'])) (fun q' => hb (by simp [q'])) (fun q' => hb (by simp [q'])) q)) hf (Nat.le_refl _) new
    refine ⟨.ref s.heap.objs.size, _, I1, rfl, ⟨_, x, y, rfl, I.hok.fresh (Nat.le_refl _), rfl, fun l hl => by rw [I.list_inj hl hqx]; exact hx, fun l hl => by rw [I.tuple_inj hl hqy]; exact hy⟩, ⟨z'', ?_, ⟨u, u2, ?_⟩, ?_, ?_⟩, fun c hcm => ?_⟩
    · exact (sb.2 _ D.TIz).trans (hk _ _ D.TIz D.TITO D.TIi1 D.TIi2 hTI)
    · exact (sb.2 _ D.TOz).trans TO'
    · exact h1'.at fun o q => (sb.2 _ D.i1z).trans q
    · exact h2'.at fun o q => (sb.2 _ D.i2z).trans q
    · have hlt : c < s.heap.objs.size := by
        have e' : c = z ∨ c = TI ∨ c = TO ∨ c = i1 ∨ c = i2 := by simpa using hcm
        rcases e' with q | q | q | q | q
        · rw [q]; exact hzl
        · rw [q]; exact Heap.lt_size hTI
        · rw [q]; exact Heap.lt_size hTO
        · rw [q]; exact h1.lt
        · rw [q]; exact h2.lt
      rw [upd_ne (Nat.ne_of_lt hlt)]
      exact (hf c hcm).1
  done := by
    intro X hP hw hK hc i pins s σ H E I hf st hg
    subst hP hw hK
    obtain ⟨hz, hTI, ⟨x0, y0, hTO⟩, h1, h2⟩ := st
    obtain ⟨xs, ys, hqx, hqy, e1, e2⟩ := hg
    obtain ⟨its, rv, p, _⟩ := I.list hqx
    obtain ⟨its2, rv2, p2, _⟩ := I.tuple hqy
    have l1 := rv.length
    have l2 := rv2.length
    exact pyNext_zipS_end (b1 := false) (b2 := true) (I.ok.hd hc) D hz hTI hTO h1 h2 p.isList p2 (by simp; omega) (by simp; omega) fun h' hk => ⟨rfl, I.turnedL (t' := s.toks) (ch := [z, TI, TO, i1, i2]) (fun c o hb q =>
      hk c o (fun q' => hb (by simp [q'])) (fun q' => hb (by simp [q'])) (fun q' => hb (by simp [q'])) (fun q' => hb (by simp [q'])) q) hf⟩
  self := fun A i s Q E st h => iter_zipS st.1 h

/-- zip of a list and a tuple, strict -/
def iZipS (K : PySem.W.Frag) (ta : TA) (tk : TA) : TI := fun σ H R => ta σ H fun vs H1 => tk σ H1 fun zs H2 => ∃ a b xs ys, vs = [.ref a, .ref b] ∧ zs = [.bl true] ∧ SqL K H2 a xs ∧ SqT K H2 b ys ∧ R (ItzS K a b) H2
section
variable {M : Model} {A : Around} {E : Value → Shared → Prop} {s : Shared} {env : Env}
theorem callWith_typeKw {pos : Pos} {T : String} {e : Expr} {rest : List Expr} {kws : List Keyword} {Q : Value → Shared → Prop}
    (h : wpAny M A (spliced (backTo pos (starEach (e :: rest) env))) (fun vs s₁ => wpAny M A (evalAll ((backToKw pos (keywordEach kws env)).map (·.2)))
      (fun kvs s₂ => wpAny M A (call (.type T) vs (((backToKw pos (keywordEach kws env)).filterMap (·.1)).zip kvs)) Q E s₂) E s₁) E s)
    (he : backTo pos (starEach (e :: rest) env) = (false, eval e env) :: backTo pos (starEach rest env))
    (hplain : (backTo pos (starEach (e :: rest) env)).any (·.1) = false)
    (hall : (backToKw pos (keywordEach kws env)).all (·.1.isSome) = true)
    (hkw : (backToKw pos (keywordEach kws env)).any (·.1.isNone) = false) :
    wpAny M A (callWith pos (.type T) [] (backTo pos (starEach (e :: rest) env)) (backToKw pos (keywordEach kws env))) Q E s := by
  unfold callWith
  refine wpAny_bind (wpAny_holding (wpAny_mono (Q := fun a s₁ => wpAny M A (call (.type T) ([] ++ a.pos) a.kw) Q E s₁) ?_ (fun a s₁ h₁ => wpAny_bind (wpAny_standAt ?_)) fun _ _ x => x))
  · rw [he] at h ⊢
    exact evalArgs_kwB hall h
  · simp only [hplain, hkw, Bool.or_false]
    refine wpAny_bind (wpAny_pure ?_)
    exact wpAny_bind (wpAny_mono h₁ (fun r s₂ hr => wpAny_bind (wpAny_holding (wpAny_point (wpAny_pure hr)))) fun _ _ x => x)
end
theorem pi_zipS {X : Cx} {e e2 : Expr} {ta tk : TA} {p pos tpos : Pos} {elts : List Expr} {kk : Nat} {kws : List Keyword} (hg : Gl X "zip") (hm : X.mg "zip" = none) (ha : PA X [e, e2] ta) (hk : PK X kws tk)
    (hs : starEach [e, e2] X.env = (false, eval e X.env) :: starEach [e2] X.env := by rfl)
    (he : backTo pos (starEach [e, e2] X.env) = (false, eval e X.env) :: backTo pos (starEach [e2] X.env) := by rfl) (hpl : (backTo pos (starEach [e, e2] X.env)).any (·.1) = false := by rfl)
    (hall : (backToKw pos (keywordEach kws X.env)).all (·.1.isSome) = true := by rfl) (hks : (backToKw pos (keywordEach kws X.env)).filterMap (·.1) = [Str.ofString "strict"] := by rfl) (hkw : (backToKw pos (keywordEach kws X.env)).any (·.1.isNone) = false := by rfl) :
    PI X (.Tuple elts kk tpos) (.Call (.Name "zip" p) [e, e2] kws pos) (iZipS X.K ta tk) := by
  refine ⟨fun pins s σ H R I h => ?_⟩
  refine wpAny_Call_Name_kw (ld_blt I hg hm PyProof.Rows.boot_zip (callWith_typeKw (thn (ha.run pos pins s σ H _ I h) fun us s1 ⟨vs, H1, I1, r1, q1⟩ => thn (hk.run pos pins s1 σ H1 _ I1 q1) fun ws s2 ⟨zs, H2, I2, rz, q⟩ => ?_) he hpl hall hkw))
  rw [hks]
  obtain ⟨a, b, xs, ys, ex, ez, hqx, hqy, q⟩ := q
  subst ex ez
  cases rz with
  | cons rb rr =>
    cases rr
    cases rb
    cases r1 with
    | cons r rr =>
      cases rr with
      | cons r' rr =>
        cases rr
        cases r
        cases r'
        have fresh5 : ∀ c, c ∈ [s2.heap.objs.size + 4, s2.heap.objs.size + 2, s2.heap.objs.size + 3, s2.heap.objs.size, s2.heap.objs.size + 1] → FpOk X pins H2 c := fun c hcm => by
          have hle : s2.heap.objs.size ≤ c := by
            simp only [List.mem_cons, List.not_mem_nil, or_false] at hcm
            omega
          exact I2.fpOk hle (I2.hok.fresh hle)
        obtain ⟨its, rv, p1, _⟩ := I2.list hqx
        obtain ⟨its2, rv2, p2, _⟩ := I2.tuple hqy
        obtain ⟨o2, ho2, _⟩ := id p2
        refine call_zipS p1.isList (show s2.heap.IsTuple b its2.toArray from p2) fun h' hz hTI hTO h1 h2 hsz hk => iter_zipS hz ?_
        have I3 : Inv X pins σ H2 { s2 with heap := h' } := I2.kept (t' := s2.toks) hk
        exact ⟨s2.heap.objs.size + 4, [s2.heap.objs.size + 4, s2.heap.objs.size + 2, s2.heap.objs.size + 3, s2.heap.objs.size, s2.heap.objs.size + 1], _, _, H2, rfl, I3, turn_zipS (PySem.W.ktu_apart s2.heap.objs.size a b p1.lt (Heap.lt_size ho2)), ⟨hz, hTI, ⟨_, _, hTO⟩, h1, h2⟩, fresh5, q⟩
end SkZ
namespace Dv
open PySem PySem.Spec PyProof.Rows L2 Sk
end Dv

set_option maxHeartbeats 4000000
/-! zip(list, tuple, strict=True) and {k: v for .. in a dict if ..} in value form -/
namespace Dv
open PySem PySem.Spec PyProof.Rows L2 Sk
section
variable {K : PySem.W.Frag} {W : WX} {G : Gh} {L LL : List (Addr × Obj)} {env : Sls} {σ : L2.St} {F F' H H' : Hp} {p a b : Addr} {o : HO} {d x : D} {xs ys : List D} {vs ws : List V}
theorem walk_zipS {n : Nat} (hn : n = vs.length) (he : vs.length = ws.length) : Walk (SkZ.ItzS K a b) n (fun H => SqL K H a vs ∧ SqT K H b ws) (YPair (fun i => vs[i]?) (fun i => ws[i]?)) := by
  subst hn
  refine ⟨fun i _ hi q => ?_, fun _ q => ⟨vs, ws, q.1, q.2, by omega, by omega⟩, fun i H v H' _ q y => ?_⟩
  · have h2 : i < ws.length := by omega
    exact ⟨vs, ws, vs[i], ws[i], q.1, q.2, by simp [hi], by simp [h2]⟩
  · obtain ⟨T, x, z, h1, h2, h3, h4, h5⟩ := y
    exact ⟨T, x, z, h1, h2, h3, h4 vs q.1, h5 ws q.2⟩
def diZipS (a b k : DE) : DI := fun X env Q => a X env fun x e1 => b X e1 fun y e2 => k X e2 fun z e3 => match x, y, z with
  | .lst xs, .tup ys, .bl true => xs.length = ys.length ∧ Q (zip9 xs ys) e3
  | _, _, _ => False
theorem simi_zipS {da db dk : DE} {ta tb tk : TE} (sa : SimE K W da ta) (sb : SimE K W db tb) (sk : SimE K W dk tk) : SimI K W (diZipS da db dk) (SkZ.iZipS K (tCons ta (tCons tb tNil)) (tCons tk tNil)) := ⟨fun {G L env σ F H X9 Q9 Q} r h q x => sa.run r h (fun u e1 v F1 H1 r1 s1 i1 h1 => sb.run r1 h1 (fun u2 e2 v2 F2 H2 r2 s2 i2 h2 => sk.run r2 h2 (fun u3 e3 v3 F3 H3 r3 s3 i3 h3 => by
  split at h3
  · have i1 := (i1.mono s2).mono s3
    have i2 := i2.mono s3
    obtain ⟨hl, h3⟩ := h3
    cases i3
    cases i1 with
    | lst f1 g1 =>
      cases i2 with
      | tup f2 g2 =>
        refine ⟨_, _, _, _, rfl, rfl, SqL.of (seesL r3 f1), seesT r3 f2, q _ e3 _ F3 H3 r3 ((s1.trans s2).trans s3) ?_ h3⟩
        refine ⟨fun H => SqL K H _ _ ∧ SqT K H _ _, _, by rw [zip9_len, g1.length, g2.length]; exact walk_zipS (by rw [← g1.length, ← g2.length, hl, Nat.min_self]) (by rw [← g1.length, ← g2.length, hl]), fun G env σ F3 H3 el r s => ⟨SqL.of (seesL r (s _ _ f1)), seesT r (SqT.ext f2 s)⟩, fun G i v env σ F3 H3 H4 el hi r s y => zip_yield (g1.mono s) (g2.mono s) r y⟩
  · exact h3.elim) x) x) x⟩
theorem dc_it {J : It} {n : Nat} {G : Hp → Prop} {Y : Nat → Hp → V → Hp → Prop} (w : Walk J n G Y) {g : TG} {tt : TT} {tk tv : TE} {vs : List Nat} {σ : L2.St} {H1 : Hp} {D : Addr} {Qd : Hp → Prop} (Pv : Nat → Hp → Prop) (h0 : Pv 0 (upd H1 D (.dK []))) (hG : ∀ i H, i ≤ n → Pv i H → G H)
    (hs : ∀ i x H H', i < n → Pv i H → Y i H x H' → g x (wipe σ vs) H' fun σ2 H2 => wipe σ2 vs = wipe σ vs ∧ tt σ2 H2 fun b H3 =>
      if b = true then tk σ2 H3 fun y H4 => tv σ2 H4 fun z H5 => ∃ kvs k, y = kV k ∧ H5 D = some (.dK kvs) ∧ kvs.length < sizeLine ∧ Pv (i + 1) (upd H5 D (.dK (putK kvs k z))) else Pv (i + 1) H3) (hd : ∀ H, Pv n H → Qd H) :
    ∃ W : Nat → Nat → Hp → Prop, (∃ m, W 0 m (upd H1 D (.dK []))) ∧ ∀ i m H, W i m H →
      (J.stop i H ∧ Qd H) ∨ (J.go i H ∧ ∃ Nx : Hp → Prop, (∀ H', Nx H' → ∃ m', m' < m ∧ W (i + 1) m' H') ∧ ∀ x H', J.yld i H x H' → g x (wipe σ vs) H' fun σ2 H2 => wipe σ2 vs = wipe σ vs ∧ tt σ2 H2 fun b H3 =>
        if b = true then tk σ2 H3 fun y H4 => tv σ2 H4 fun z H5 => ∃ kvs k, y = kV k ∧ H5 D = some (.dK kvs) ∧ kvs.length < sizeLine ∧ Nx (upd H5 D (.dK (putK kvs k z))) else Nx H3) := by
  refine ⟨fun i m H => m = n - i ∧ i ≤ n ∧ Pv i H, ⟨n, by simp, Nat.zero_le _, h0⟩, ?_⟩
  rintro i m H ⟨rfl, hi, p⟩
  have q := hG i H hi p
  by_cases hlt : i < n
  · refine .inr ⟨w.goes i H hlt q, Pv (i + 1), fun H' p' => ⟨n - (i + 1), by omega, rfl, hlt, p'⟩, fun x H' y => hs i x H H' hlt p (w.yields i H x H' hlt q y)⟩
  · have e : i = n := by omega
    subst e
    exact .inl ⟨w.stops H q, hd H p⟩
def dcL (g : DG) (c : DT) (ek ev : DE) (vs : List Nat) (Q : List (Key × D) → Sls → Prop) : List D → List (Key × D) → Sls → Prop
  | [], acc, env => Q acc env
  | x :: xs, acc, env => g x env fun e1 => c X0 e1 fun b e2 => ifB b (ek X0 e2 fun y e3 => ev X0 e3 fun z e4 => ∃ k, keyOf y = some k ∧ acc.length < 16777216 ∧ dcL g c ek ev vs Q xs (putD acc k z) (wipe9 e4 vs)) (dcL g c ek ev vs Q xs acc (wipe9 e2 vs))
/-- a comprehension of a dict over a dict -/
def dDcD (w : Dw) (p : Pl9) (g : DG) (c : DT) (ek ev : DE) (gs : List Nat) : DE := fun X env Q => match p.at env with
  | some (.dic kvs) => dcL g c ek ev gs (fun acc e' => Q (.dic acc) e') (w.of kvs) [] (wipe9 env gs)
  | _ => False
theorem dc_step {xs : List D} {F0 H1 : Hp} {J : It} {g : DG} {c : DT} {ek ev : DE} {gs : List Nat} {tg : TG} {tt : TT} {tk tv : TE} {DD : Addr} {Qc : List (Key × D) → Sls → Prop} {Q : VK} (w9 : W9 K L G.L0 F0 J xs) (sg : SimG K gs g tg) (sc : SimT K W0 c tt) (sk : SimE K W0 ek tk) (sv : SimE K W0 ev tv) (r1 : R K G L env σ F0 H1) (hD : H1 DD = none)
    (k1 : dcL g c ek ev gs Qc xs [] (wipe9 env gs)) (q : ∀ acc e F H, R K G L e σ F H → Same F0 F → Fresh K G e σ F H (.dic acc) DD → Qc acc e → Q (.ref DD) H) :
    ∃ W : Nat → Nat → Hp → Prop, (∃ m, W 0 m (upd H1 DD (.dK []))) ∧ ∀ i m H, W i m H →
      (J.stop i H ∧ Q (.ref DD) H) ∨ (J.go i H ∧ ∃ Nx : Hp → Prop, (∀ H', Nx H' → ∃ m', m' < m ∧ W (i + 1) m' H') ∧ ∀ x H', J.yld i H x H' → tg x (wipe σ gs) H' fun σ2 H2 => wipe σ2 gs = wipe σ gs ∧ tt σ2 H2 fun b H3 =>
        if b = true then tk σ2 H3 fun y H4 => tv σ2 H4 fun z H5 => ∃ kvs k, y = kV k ∧ H5 DD = some (.dK kvs) ∧ kvs.length < sizeLine ∧ Nx (upd H5 DD (.dK (putK kvs k z))) else Nx H3) := by
  obtain ⟨Gd, Y, wk, hG, hY⟩ := w9
  have f1 := r1.fresh (x := .dic []) hD (Has.mkD upd_same .nil)
  have r2 := r1.new hD (.dK [])
  refine dc_it wk (fun i H => ∃ e F acc, R K G L (wipe9 e gs) (wipe σ gs) F H ∧ Same F0 F ∧ Fresh K G (wipe9 e gs) (wipe σ gs) F H (.dic acc) DD ∧ dcL g c ek ev gs Qc (xs.drop i) acc (wipe9 e gs))
    ⟨env, F0, [], r2.wiped gs, Same.refl F0, f1.wiped gs, k1⟩ (fun i H _ ⟨e, F, acc, r, s, _, _⟩ => hG G _ _ F H rfl r s) (fun i v H H3 hi ⟨e, F, acc, r, s, f, k⟩ y => ?_) (fun H ⟨e, F, acc, r, s, f, k⟩ => ?_)
  · have h0 := f.h0
    have nx := f.ext
    obtain ⟨ws, hw, iw⟩ := f.has
    have rp := r.plus f hw
    obtain ⟨x0, F3, ex, r3, s3, i3⟩ := hY (G.plus (DD, .dK ws)) i v _ _ F H H3 rfl hi rp s y
    have ed : xs.drop i = x0 :: xs.drop (i + 1) := by
      rw [List.drop_eq_getElem_cons hi]
      have := List.getElem?_eq_getElem hi
      rw [ex] at this
      cases this
      rfl
    rw [ed] at k
    refine sg.run r3 i3 k fun e2 σ2 F2 H2 r2 s2 w2 k2 => ?_
    have w2 := w2.trans wipe_wipe
    refine ⟨w2, ?_⟩
    refine sc.run r2 k2 (fun b e4 F4 H4 r4 s4 k4 => ?_) (fun _ _ _ _ _ _ _ _ z => z)
    cases b with
    | true =>
      refine iteT (sk.run r4 k4 (fun y5 e5 v5 F5 H5 r5 s5 i5 k5 => sv.run r5 k5 (fun y6 e6 v6 F6 H6 r6 s6 i6 k6 => ?_) (fun _ _ _ _ _ _ _ _ z => z)) (fun _ _ _ _ _ _ _ _ z => z))
      obtain ⟨kk, ek, hl, k6⟩ := k6
      obtain ⟨r6, hD6, fr6⟩ := r6.minus (show G.H0 DD = none from h0) nx
      have sm : Same F F6 := ((((s3.trans s2).trans s4).trans s5).trans s6)
      have iw6 := iw.mono sm
      have f6 := fr6 (.dic acc) (Has.mkD hD6 iw6)
      have r7 := (r6.updF f6 (.dK (putK ws kk v6)))
      have f7 : Fresh K G e6 σ2 F6 (upd H6 DD (.dK (putK ws kk v6))) (.dic (putD acc kk y6)) DD := f6.upd (Has.mkD upd_same (IsK.put i6 iw6))
      refine ⟨ws, kk, keyOf_ok (F := F5) (H := H5) (.inl i5) ek, hD6, by rw [sizeLine_eq, ← iw.length]; exact hl, e6, F6, putD acc kk y6, ?_, s.trans sm, ?_, k6⟩
      · have := r7.wiped gs
        rw [w2] at this
        exact this
      · have := f7.wiped gs
        rw [w2] at this
        exact this
    | false =>
      refine iteF ?_
      obtain ⟨r6, hD6, fr6⟩ := r4.minus (show G.H0 DD = none from h0) nx
      have sm : Same F F4 := ((s3.trans s2).trans s4)
      have f6 := fr6 (.dic acc) (Has.mkD hD6 (iw.mono sm))
      refine ⟨e4, F4, acc, ?_, s.trans sm, ?_, k4⟩
      · have := r6.wiped gs
        rw [w2] at this
        exact this
      · have := f6.wiped gs
        rw [w2] at this
        exact this
  · rw [List.drop_length] at k
    exact q acc _ F H r.unwipe s f.unwipe k
theorem sim_dcD {w : Dw} {p : Pl9} {gs : List Nat} {g : DG} {c : DT} {ek ev : DE} {wi : TI} {tg : TG} {tt : TT} {tk tv : TE} (sd : SimD K w p wi) (sg : SimG K gs g tg) (sc : SimT K W0 c tt) (sk : SimE K W0 ek tk) (sv : SimE K W0 ev tv) : SimF K W (dDcD w p g c ek ev gs) (tLockEA (tDc wi tg tt tk tv gs)) := ⟨fun {G L env σ F H X9 Q9 Q} r h q x => by
  unfold dDcD at h
  split at h
  · rename_i kvs ek
    obtain ⟨a, ws, hF, hk, run⟩ := sd.run r ek
    rcases r.locked hF with hH | ⟨od, hm, hH⟩
    · refine .inl ⟨a, .dK ws, hH, trivial, fun od => ?_⟩
      obtain ⟨r1, nl⟩ := r.lock (od := od) hF hH
      refine run od _ (fun b o n e => by rw [upd_ne n]; exact e) upd_same _ fun J w9 DD hD => ?_
      refine dc_step (Q := fun v H' => H' a = some (.frz od (.dK ws)) ∧ Q v (L2.upd H' a (.dK ws))) (w9 ((a, od) :: L) G.L0 (by simp)) sg sc sk sv r1 hD h fun acc e5 F5 H5 r5 s5 f5 k5 => ?_
      obtain ⟨u1, u2⟩ := r5.unlock (s5 _ _ hF) nl
      exact ⟨u1, q _ e5 DD F5 _ u2 s5 (f5.unl (s5 _ _ hF)) k5⟩
    · exact .inr (run od H (fun b o n e => e) hH _ fun J w9 DD hD => dc_step (w9 L G.L0 hm) sg sc sk sv r hD h fun acc e5 F5 H5 r5 s5 f5 k5 => q _ e5 DD F5 H5 r5 s5 f5 k5)
  · exact h.elim⟩
/-- a thing of one's own in slot i is a value from here on -/
def dFrzF (i : Nat) (d : DE) : DE := fun X env Q => match env[i]? with
  | some (.ow false x) => d X (env.set i (.im x)) Q
  | _ => d X env Q
theorem sim_frzF {i : Nat} {d : DE} {t : TE} (s : SimF K W d t) : SimF K W (dFrzF i d) t := ⟨fun {G L env σ F H X9 Q9 Q} r h q x => by
  unfold dFrzF at h
  split at h
  · rename_i y e
    obtain ⟨F', a, r', sm, h1, h2⟩ := r.freeze_slot e
    exact s.run r' h (fun z e2 a F2 H2 r2 s2 f h => q z e2 a F2 H2 r2 (sm.trans s2) f h) x
  · exact s.run r h q x⟩
end
end Dv

set_option maxHeartbeats 1000000
namespace Sk
open PySem PySem.Spec PyProof.Rows L2 Dv SkE
/-- so many times some counts, put to others -/
def accM (acc cs : List (Str × Int)) (m : Int) : List (Str × Int) := cs.foldl (fun a p => put a p.1 ((look a p.1).getD 0 + m * p.2)) acc
def accs (acc : List (Str × Int)) (ps : List (List (Str × Int) × Int)) : List (Str × Int) := ps.foldl (fun a p => accM a p.1 p.2) acc
def fs_bag_from : FS := ⟨[false, false], false, fun ds Q _ => ∃ ps : List (List (Str × Int) × Int), ds = [.lst (ps.map fun p => dcs p.1), .tup (ps.map fun p => .int p.2)] ∧ (ps.map fun p => p.1.length).sum ≤ 4000 ∧ (∀ p ∈ ps, ∀ q ∈ p.1, CMulW p.2 q.2) ∧ Q (bagD ((accs [] ps).filter fun p => decide (p.2 ≠ 0))) []⟩
theorem zipS_map : ∀ (ps : List (List (Str × Int) × Int)), zip9 (ps.map fun p => dcs p.1) (ps.map fun p => .int p.2) = ps.map fun p => .tup [dcs p.1, .int p.2]
  | [] => rfl
  | p :: ps => by
    simp only [List.map_cons, zip9]
    rw [zipS_map ps]
theorem items_dcs (cs : List (Str × Int)) : Dw.of .items (cs.map fun p => ((Sum.inr p.1 : Key), D.int p.2)) = cs.map fun q => D.tup [.str q.1, .int q.2] := by
  simp only [Dw.of, List.map_map]
  rfl
theorem accM_snoc (acc dn : List (Str × Int)) (q : Str × Int) (m : Int) : accM acc (dn ++ [q]) m = put (accM acc dn m) q.1 ((look (accM acc dn m) q.1).getD 0 + m * q.2) := by
  unfold accM
  rw [List.foldl_append]
  rfl
theorem accs_snoc (acc : List (Str × Int)) (dn : List (List (Str × Int) × Int)) (x : List (Str × Int) × Int) : accs acc (dn ++ [x]) = accM (accs acc dn) x.1 x.2 := by
  unfold accs
  rw [List.foldl_append]
  rfl
theorem accM_len (m : Int) : ∀ (cs acc : List (Str × Int)), (accM acc cs m).length ≤ acc.length + cs.length
  | [], acc => by show acc.length ≤ acc.length + 0; omega
  | q :: cs, acc => by
    have h1 := accM_len m cs (put acc q.1 ((look acc q.1).getD 0 + m * q.2))
    have h2 := length_put acc q.1 ((look acc q.1).getD 0 + m * q.2)
    show (accM (put acc q.1 ((look acc q.1).getD 0 + m * q.2)) cs m).length ≤ _
    simp only [List.length_cons]
    omega
theorem accM_nd (m : Int) : ∀ (cs acc : List (Str × Int)), (keysOf acc).Nodup → (keysOf (accM acc cs m)).Nodup
  | [], _, h => h
  | q :: cs, acc, h => accM_nd m cs _ (nodup_put h)
theorem accs_nd : ∀ (ps : List (List (Str × Int) × Int)) (acc : List (Str × Int)), (keysOf acc).Nodup → (keysOf (accs acc ps)).Nodup
  | [], _, h => h
  | p :: ps, acc, h => accs_nd ps _ (accM_nd p.2 p.1 acc h)
theorem accs_len : ∀ (ps : List (List (Str × Int) × Int)) (acc : List (Str × Int)), (accs acc ps).length ≤ acc.length + (ps.map fun p => p.1.length).sum
  | [], acc => by show acc.length ≤ acc.length + 0; omega
  | p :: ps, acc => by
    have h1 := accs_len ps (accM acc p.1 p.2)
    have h2 := accM_len p.2 p.1 acc
    show (accs (accM acc p.1 p.2) ps).length ≤ _
    simp only [List.map_cons, List.sum_cons]
    omega
theorem dDcD_at {w : Dw} {p : Pl9} {gs : List Nat} {g : DG} {c : DT} {ek ev : DE} {X : XK9} {env : Sls} {Q : D → Sls → Prop} {kvs : List (Key × D)} (h : p.at env = some (.dic kvs)) (k : dcL g c ek ev gs (fun acc e' => Q (.dic acc) e') (w.of kvs) [] (wipe9 env gs)) : dDcD w p g c ek ev gs X env Q := by
  unfold dDcD
  rw [h]
  exact k
theorem dcL_map {α : Type} {g : DG} {c : DT} {ek ev : DE} {vs : List Nat} {Q : List (Key × D) → Sls → Prop} {f : α → D} {l : List α} {env : Sls} (Pv : List α → List (Key × D) → Sls → Prop) (h0 : Pv l [] env)
    (hs : ∀ x ys acc e, Pv (x :: ys) acc e → ∀ rest : List (Key × D) → Sls → Prop, (∀ acc' e', Pv ys acc' e' → rest acc' e') →
      g (f x) e fun e1 => c X0 e1 fun b e2 => ifB b (ek X0 e2 fun y e3 => ev X0 e3 fun z e4 => ∃ k, keyOf y = some k ∧ acc.length < 16777216 ∧ rest (putD acc k z) (wipe9 e4 vs)) (rest acc (wipe9 e2 vs))) (hn : ∀ acc e, Pv [] acc e → Q acc e) : dcL g c ek ev vs Q (l.map f) [] env := by
  have key : ∀ (ys : List α) (acc : List (Key × D)) (e : Sls), Pv ys acc e → dcL g c ek ev vs Q (ys.map f) acc e := by
    intro ys
    induction ys with
    | nil => exact fun acc e h => hn acc e h
    | cons x ys ih => exact fun acc e h => hs x ys acc e h (fun acc' e' => dcL g c ek ev vs Q (ys.map f) acc' e') ih
  exact key l [] env h0
section
variable {P : Program} {w : World} {K : PySem.W.Frag} {mg : Str → Option Value} {base : Heap}
theorem cal_bag_from (Y : Yes K mg) : C8.Cal P w K mg base 6 "bag_from" (fs_bag_from.to K) [] := by
  obtain ⟨fd, F⟩ := Y.f_bag_from
  refine calD F Y.g_bag_from sc_bag_from (fun _ _ _ _ _ _ us hl => match us, hl with | [_, _], _ => rfl) (FS.len rfl) (fun cdv A outer s H vs Q E hr h => ?_)
  have hu := hu_of hr
  refine ⟨_, (pss_cons (ps_set (i := 2) sc_bag_from.nd rfl (.inl rfl) (pe_mk0 (mk0_Bag Y) hr (by decide) rfl))
  (pss_cons (ps_set (i := 3) sc_bag_from.nd rfl (.inl rfl) pe_dnewK)
  (pss_cons (ps_for PassesOwn.never rfl (SkZ.pi_zipS (by rfl) Y.n_zip (pa_cons (pv 0) (pa_cons (pv 1) pa_nil)) (pk_cons pe_bl pk_nil)) (pg_tup rfl (pgs_cons (pg_name (i := 4) sc_bag_from.nd rfl (.inl rfl)) (pgs_cons (pg_name (i := 5) sc_bag_from.nd rfl (.inl rfl)) pgs_nil)))
  (pss_one (ps_lockA (ps_for PassesOwn.never rfl (pi_items (pv 4)) (pg_tup rfl (pgs_cons (pg_name (i := 6) sc_bag_from.nd rfl (.inl rfl)) (pgs_cons (pg_name (i := 7) sc_bag_from.nd rfl (.inl rfl)) pgs_nil)))
  (pss_one (ps_dput hu (pv 3) (pv 6) (pe_op op_add (pe_dget2 hu (pv 3) (pv 6) pe_int ⟨rfl, rfl, rfl, rfl⟩) (pe_op op_mulW (pv 5) (pv 7))) rfl))))))
  (pss_cons (ps_fldK K (pv 2) (pe_lockA (pe_dc (own := [("name", 6), ("count", 7)])   rfl sc_bag_from.nd (pi_items (pv 3)) (blkOk_by (N := ["some", "often", "found", "counts", "one", "many", "name", "count"]) (own := [("name", 6), ("count", 7)]) (sc := (defScope s_bag_from)) (by decide +kernel)) (fun _ _ _ _ _ => (pg_tupK K 2 rfl (pgs_cons (pg_name (i := 6) sc_bag_from.nd rfl (.inl rfl)) (pgs_cons (pg_name (i := 7) sc_bag_from.nd rfl (.inl rfl)) pgs_nil)))) (fun _ _ _ _ _ => (pts_one (pt_cmpR op_ne (pv 7) pe_int (nomark _)))) (fun _ _ _ _ _ => (pv 6)) (fun _ _ _ _ _ => (pv 7)))) rfl)
  (pss_one (ps_ret (pv 2))))))),
    body_ok0 (f := fs_bag_from) (sim_seq (sim_setO (sim_make (c := "Bag") .nil rfl (fun F9 => (.cons .str .nil)) (by decide) hE0 rfl))
  (sim_seq (sim_setO sim_dnew)
  (sim_seq (sim_for (simi_zipS (sim_var 0) (sim_var 1) sim_bl) (simg_tup (simg_cons (simg_name (vs := [4, 5]) 4 (by decide)) (simg_cons (simg_name (vs := [4, 5]) 5 (by decide)) simg_nil)))
  (sim_forD (simd_items (simp_s 4)) (simg_tup (simg_cons (simg_name (vs := [6, 7]) 6 (by decide)) (simg_cons (simg_name (vs := [6, 7]) 7 (by decide)) simg_nil)))
  (sim_dput (.s 6) (sim_op2 s2_add (.e (sim_dget2 (.s 3) (.s 6) sim_int)) (.e (sim_op2 s2_mulW (.s 5) (.s 7)))))))
  (sim_seq (sim_fldset (c := "Bag") Y.cl_Bag Y.na_Bag_own ((sim_frzF (i := 3) (sim_dcD (simd_items (simp_s 3)) (simg_tup (simg_cons (simg_name (vs := [6, 7]) 6 (by decide)) (simg_cons (simg_name (vs := [6, 7]) 7 (by decide)) simg_nil))) (sim_test (sim_op2 s2_ne (.s 7) (.e sim_int))) (sim_var 6) (sim_var 7)))).e)
  (sim_ret (sim_var 2))))))
    (by decide) (fun ds Q9 E9 h => ?_) h⟩
  obtain ⟨ps, rfl, hs, hc, k⟩ := h
  refine ⟨Str.ofString "", [], rfl, by decide +kernel, bag_none, ?_⟩
  refine ⟨by simp, ?_⟩
  rw [zipS_map]
  refine forL_map (f := fun p : List (Str × Int) × Int => D.tup [dcs p.1, .int p.2]) (l := ps) (fun done ys e => ∃ d y4 y5 y6 y7, e = [.im (.lst (ps.map fun p => dcs p.1)), .im (.tup (ps.map fun p => .int p.2)), .ow false (bagD []), .ow false d, y4, y5, y6, y7] ∧ d = dcs (accs [] done)) ⟨_, _, _, _, _, rfl, rfl⟩ (fun done x ys e el h ih => ?_) (fun e h => ?_)
  · obtain ⟨d, y4, y5, y6, y7, rfl, rfl⟩ := h
    have hx : x ∈ ps := by rw [el]; simp
    have hl1 := accs_len done []
    have hl2 : (done.map fun p => p.1.length).sum + x.1.length ≤ 4000 := by
      rw [el] at hs
      simp only [List.map_append, List.map_cons, List.sum_append, List.sum_cons] at hs
      omega
    refine ⟨rfl, ?_⟩
    show forL _ _ _ _ (Dw.of .items (x.1.map fun p => ((Sum.inr p.1 : Key), D.int p.2))) _
    rw [items_dcs]
    refine forL_map (f := fun q : Str × Int => D.tup [.str q.1, .int q.2]) (l := x.1) (fun dn ys e => ∃ d y6 y7, e = [.im (.lst (ps.map fun p => dcs p.1)), .im (.tup (ps.map fun p => .int p.2)), .ow false (bagD []), .ow false d, .im (dcs x.1), .im (.int x.2), y6, y7] ∧ d = dcs (accM (accs [] done) dn x.2)) ⟨_, _, _, rfl, rfl⟩ (fun dn q zs e el2 h ih2 => ?_) (fun e h => ?_)
    · obtain ⟨d, y6, y7, rfl, rfl⟩ := h
      have hq : q ∈ x.1 := by rw [el2]; simp
      have hl3 := accM_len x.2 dn (accs [] done)
      have hl4 := congrArg List.length el2
      rw [List.length_append] at hl4
      simp only [List.length_cons, List.length_nil] at hl4 hl1
      refine ⟨rfl, hc x hx q hq, ?_⟩
      conv => whnf
      rw [valD_cs, getD_int]
      refine ⟨by rw [List.length_map]; omega, ih2 _ ⟨_, _, _, rfl, ?_⟩⟩
      show D.dic (putD _ _ (.int ((look (accM (accs [] done) dn x.2) q.1).getD 0 + x.2 * q.2))) = _
      rw [putD_cs, accM_snoc]
      rfl
    · obtain ⟨d, y6, y7, rfl, rfl⟩ := h
      exact ih _ ⟨_, _, _, _, _, rfl, by rw [accs_snoc]⟩
  · obtain ⟨d, y4, y5, y6, y7, rfl, rfl⟩ := h
    have nd := accs_nd ps [] (by simp [keysOf])
    have hl1 := accs_len ps []
    simp only [List.length_nil] at hl1
    generalize accs [] ps = acc0 at nd hl1 k ⊢
    dsimp only
    unfold dSeq
    unfold dFldSet
    unfold dFrzF
    refine dDcD_at (kvs := acc0.map fun p => ((Sum.inr p.1 : Key), D.int p.2)) rfl ?_
    rw [items_dcs]
    refine dcL_map (f := fun q : Str × Int => D.tup [.str q.1, .int q.2]) (l := acc0) (fun ys acc e => ∃ dn, acc0 = dn ++ ys ∧ acc = ((dn.filter fun p => decide (p.2 ≠ 0)).map fun p => ((Sum.inr p.1 : Key), D.int p.2)) ∧ e = [.im (.lst (ps.map fun p => dcs p.1)), .im (.tup (ps.map fun p => .int p.2)), .ow false (bagD []), .im (dcs acc0), y4, y5, .un, .un])
      ⟨[], rfl, rfl, rfl⟩ (fun q ys acc e h rest hr => ?_) (fun acc e h => ?_)
    · obtain ⟨dn, e1, rfl, rfl⟩ := h
      refine ⟨rfl, ifDN (fun z => ?_) (fun z => ?_)⟩
      · exact hr _ _ ⟨dn ++ [q], by rw [e1]; simp, by rw [List.filter_append]; simp [z], rfl⟩
      · have hn : q.1 ∉ keysOf (dn.filter fun p => decide (p.2 ≠ 0)) := fun hm => by
          rw [e1] at nd
          unfold keysOf at nd hm
          rw [List.map_append, List.map_cons] at nd
          obtain ⟨w, hw, ew⟩ := List.mem_map.mp hm
          exact (List.nodup_append.mp nd).2.2 q.1 (List.mem_map.mpr ⟨w, (List.mem_filter.mp hw).1, ew⟩) q.1 List.mem_cons_self rfl
        have hlen := congrArg List.length e1
        rw [List.length_append] at hlen
        have hfl := List.length_filter_le (fun p : Str × Int => decide (p.2 ≠ 0)) dn
        refine ⟨_, rfl, by rw [List.length_map]; omega, hr _ _ ⟨dn ++ [q], by rw [e1]; simp, ?_, rfl⟩⟩
        show putD _ _ (.int q.2) = _
        rw [putD_cs, put_new hn, List.filter_append]
        simp [z]
    · obtain ⟨dn, e1, rfl, rfl⟩ := h
      rw [List.append_nil] at e1
      subst e1
      exact ⟨⟨rfl, by show 1 < 1000; omega⟩, k⟩
end
/-- both bags' counts -/
def plusC (cs ds : List (Str × Int)) : List (Str × Int) := (accs [] [(cs, 1), (ds, 1)]).filter fun p => decide (p.2 ≠ 0)
theorem sumC_put {cs : List (Str × Int)} {n : Str} {c : Int} (nd : (keysOf cs).Nodup) : sumC (put cs n ((look cs n).getD 0 + c)) = sumC cs + c := addSum nd
theorem sumC_accM (m : Int) : ∀ (cs acc : List (Str × Int)), (keysOf acc).Nodup → sumC (accM acc cs m) = sumC acc + m * sumC cs
  | [], acc, _ => by
    show sumC acc = sumC acc + m * 0
    simp
  | q :: cs, acc, h => by
    show sumC (accM (put acc q.1 ((look acc q.1).getD 0 + m * q.2)) cs m) = _
    rw [sumC_accM m cs _ (nodup_put h), sumC_put h, sumC_cons, Int.mul_add]
    omega
theorem sumC_nz : ∀ (cs : List (Str × Int)), sumC (cs.filter fun p => decide (p.2 ≠ 0)) = sumC cs
  | [] => rfl
  | q :: cs => by
    by_cases z : q.2 = 0
    · rw [List.filter_cons_of_neg (by simp [z]), sumC_nz cs, sumC_cons, z]
      omega
    · rw [List.filter_cons_of_pos (by simp [z]), sumC_cons, sumC_cons, sumC_nz cs]
theorem sumC_plus (cs ds : List (Str × Int)) : sumC (plusC cs ds) = sumC cs + sumC ds := by
  unfold plusC
  rw [sumC_nz]
  show sumC (accM (accM [] cs 1) ds 1) = _
  rw [sumC_accM 1 ds _ (accM_nd 1 cs [] (by simp [keysOf])), sumC_accM 1 cs [] (by simp [keysOf])]
  have : sumC ([] : List (Str × Int)) = 0 := rfl
  omega
theorem plus_nd (cs ds : List (Str × Int)) : (keysOf (plusC cs ds)).Nodup := by
  have h := accs_nd [(cs, 1), (ds, 1)] [] (by simp [keysOf])
  unfold plusC keysOf
  exact h.sublist (List.filter_sublist.map _)
theorem one_mulW {c : Int} (h0 : 0 ≤ c) (h : c ≤ 100000) : CMulW 1 c := wide_mul (a := 1) (b := 17) (by decide) (by omega) (by decide) (by decide) (by decide)
def fs_Bag_plus : FS := ⟨[false, false], false, fun ds Q _ => ∃ cs es, ds = [bagD cs, bagD es] ∧ GoodC cs ∧ GoodC es ∧ Q (bagD (plusC cs es)) []⟩
section
variable {P : Program} {w : World} {K : PySem.W.Frag} {mg : Str → Option Value} {base : Heap}
theorem met_Bag_plus (Y : Yes K mg) : C8.Met P w K mg base 7 (He.ga K "Bag") "plus" (fs_Bag_plus.to K) [] := by
  obtain ⟨fd, F⟩ := Y.f_Bag_plus
  refine metD Y.cl_Bag Y.mm_Bag_plus F sc_Bag_plus (fun _ _ _ _ _ _ us hl => match us, hl with | [_, _], _ => rfl) (FS.len rfl) (fun cdv A outer s H vs Q E hr h => ?_)
  have hu := hu_of hr
  refine ⟨_, (pss_one (ps_ret (C8.pe_c (cal_bag_from Y) hr (by decide) rfl (pa_cons (pe_lst (pa_cons (pe_fldK K (pv 0) rfl) (pa_cons (pe_fldK K (pv 1) rfl) pa_nil))) (pa_cons (pe_tup (pa_cons pe_int (pa_cons pe_int pa_nil))) pa_nil))))),
    body_ok0 (f := fs_Bag_plus) (sim_ret (sim_call (.cons (.e ((sim_lst (sim_cons (sim_fld (c := "Bag") Y.cl_Bag Y.na_Bag_own (.s 0)) (sim_cons (sim_fld (c := "Bag") Y.cl_Bag Y.na_Bag_own (.s 1)) sim_nil)))).e) (.cons (.e (sim_tup (sim_cons sim_int (sim_cons sim_int sim_nil)))) .nil)) rfl (fun _ => .nil) (by decide) hE0 rfl))
    (by decide) (fun ds Q9 E9 h => ?_) h⟩
  obtain ⟨cs, es, rfl, g1, g2, k⟩ := h
  have f1 := g1.few
  have f2 := g2.few
  refine ⟨rfl, rfl, by simp, by simp, [(cs, 1), (es, 1)], rfl, by simp; omega, fun p hp q hq => ?_, k⟩
  rcases List.mem_cons.mp hp with e | hp
  · subst e
    exact one_mulW (by have := g1.pos q hq; omega) (g1.le q hq)
  · rw [List.mem_singleton.mp hp] at hq ⊢
    exact one_mulW (by have := g2.pos q hq; omega) (g2.le q hq)
end
end Sk

set_option maxHeartbeats 1000000
/-! Bags reckoned: names, count_of, ==, holds, less, times. -/
namespace Sk
open PySem PySem.Spec PyProof.Rows L2 Dv SkE
def notHeld (n : Str) : D := .obj "NotHeld" [("name", .str n)]
def lessC (cs es : List (Str × Int)) : List (Str × Int) := (accs [] [(cs, 1), (es, -1)]).filter fun p => decide (p.2 ≠ 0)
def timesC (cs : List (Str × Int)) (m : Int) : List (Str × Int) := (accs [] [(cs, m)]).filter fun p => decide (p.2 ≠ 0)
/-- the least name of which there are too few -/
def short (cs es : List (Str × Int)) : Option Str := (srt (keysOf es)).find? fun n => decide ((look cs n).getD 0 < (look es n).getD 0)
def holdsC (cs es : List (Str × Int)) : Bool := es.all fun p => decide (p.2 ≤ (look cs p.1).getD 0)
def fs_Bag_eq : FS := ⟨[false, false], false, fun ds Q _ => ∃ cs es, ds = [bagD cs, bagD es] ∧ Q (.bl (sameC cs es)) []⟩
def fs_Bag_holds : FS := ⟨[false, false], false, fun ds Q _ => ∃ cs es, ds = [bagD cs, bagD es] ∧ es.length ≤ 1000 ∧ Q (.bl (holdsC cs es)) []⟩
def fs_Bag_less : FS := ⟨[false, false], false, fun ds Q E => ∃ cs es, ds = [bagD cs, bagD es] ∧ GoodC cs ∧ GoodC es ∧ (∀ n, short cs es = some n → E (notHeld n) []) ∧ (short cs es = none → Q (bagD (lessC cs es)) [])⟩
def fs_Bag_times : FS := ⟨[false, false], false, fun ds Q _ => ∃ cs m, ds = [bagD cs, .int m] ∧ GoodC cs ∧ 0 ≤ m ∧ m ≤ 30 ∧ Q (bagD (timesC cs m)) []⟩
theorem neg_mulW {c : Int} (h0 : 0 ≤ c) (h : c ≤ 100000) : CMulW (-1) c := wide_mul (a := 1) (b := 17) (by decide) (by omega) (by decide) (by decide) (by decide)
theorem any_mulW {m c : Int} (m0 : 0 ≤ m) (m1 : m ≤ 30) (h0 : 0 ≤ c) (h : c ≤ 100000) : CMulW m c := wide_mul (a := 5) (b := 17) (by omega) (by omega) (by decide) (by decide) (by decide)
section
variable {P : Program} {w : World} {K : PySem.W.Frag} {mg : Str → Option Value} {base : Heap}
theorem xmk_NotHeld (Y : Yes K mg) : XMk P w K mg base 1 "NotHeld" (He.ga K "NotHeld") "name" := by
  obtain ⟨fd, F⟩ := Y.f_NotHeld___init__
  refine ⟨_, _, _, _, _, fd, ["self", "name"], ⟨PySem.F.excBase_LookupError, PySem.F.store_LookupError⟩, Y.xg_NotHeld, fnD0 F sc_NotHeld___init__ (fun vs H Q E h => ?_) (fun cdv A outer s H vs Q E hr h => ?_), F.bindsN (fun _ _ _ _ _ _ us hl => match us, hl with | [_, _], _ => rfl), Y.g_NotHeld⟩
  · obtain ⟨_, _, rfl, _⟩ := h
    rfl
  · obtain ⟨a, y, rfl, ha, k⟩ := h
    exact ⟨_, pss_one (ps_ostG ⟨PySem.F.excBase_LookupError, PySem.F.store_LookupError⟩ Y.xg_NotHeld (pv 0) (pv 1)), y, rfl, .ref a, rfl, a, rfl, ha, fun dx n ne => k dx n ne⟩
theorem met_Bag_names (Y : Yes K mg) : C8.Met P w K mg base 1 (He.ga K "Bag") "names" (fs_Bag_names.to K) [] := by
  obtain ⟨fd, F⟩ := Y.f_Bag_names
  refine metD Y.cl_Bag Y.mm_Bag_names F sc_Bag_names (fun _ _ _ _ _ _ us hl => match us, hl with | [_], _ => rfl) (FS.len rfl) (fun cdv A outer s H vs Q E hr h => ?_)
  have hu := hu_of hr
  refine ⟨_, (pss_one (ps_ret (pe_callB (call_sortedD rfl) (by rfl) Y.n_sorted (by decide +kernel) (pa_cons (pe_fldK K (pv 0) rfl) pa_nil)))),
    body_ok0 (f := fs_Bag_names) (sim_retF (sim_cbN sc_sortedD (.cons (.e (sim_fld (c := "Bag") Y.cl_Bag Y.na_Bag_own (.s 0))) .nil)))
    (by decide) (fun ds Q9 E9 h => ?_) h⟩
  obtain ⟨cs, rfl, few, k⟩ := h
  refine ⟨rfl, keysOf cs, by unfold keysOf; rw [List.map_map, List.map_map]; rfl, by unfold keysOf; rw [List.length_map]; exact few, fun ys hp hs => ?_⟩
  have ey := srt_of hp hs
  subst ey
  exact k
theorem met_Bag_count_of (Y : Yes K mg) : C8.Met P w K mg base 1 (He.ga K "Bag") "count_of" (fs_Bag_count_of.to K) [] := by
  obtain ⟨fd, F⟩ := Y.f_Bag_count_of
  refine metD Y.cl_Bag Y.mm_Bag_count_of F sc_Bag_count_of (fun _ _ _ _ _ _ us hl => match us, hl with | [_, _], _ => rfl) (FS.len rfl) (fun cdv A outer s H vs Q E hr h => ?_)
  have hu := hu_of hr
  refine ⟨_, (pss_one (ps_ret (pe_dget2 hu (pe_fldK K (pv 0) rfl) (pv 1) pe_int ⟨rfl, rfl, rfl, rfl⟩))),
    body_ok0 (f := fs_Bag_count_of) (sim_ret (sim_dget2 (.e (sim_fld (c := "Bag") Y.cl_Bag Y.na_Bag_own (.s 0))) (.s 1) sim_int))
    (by decide) (fun ds Q9 E9 h => ?_) h⟩
  obtain ⟨cs, n, rfl, k⟩ := h
  refine ⟨rfl, ?_⟩
  conv => whnf
  rw [valD_cs, getD_int]
  exact k
theorem met_Bag_eq (Y : Yes K mg) : C8.Met P w K mg base 1 (He.ga K "Bag") "__eq__" (fs_Bag_eq.to K) [] := by
  obtain ⟨fd, F⟩ := Y.f_Bag___eq__
  refine metD Y.cl_Bag Y.mm_Bag___eq__ F sc_Bag___eq__ (fun _ _ _ _ _ _ us hl => match us, hl with | [_, _], _ => rfl) (FS.len rfl) (fun cdv A outer s H vs Q E hr h => ?_)
  have hu := hu_of hr
  refine ⟨_, (pss_cons (ps_if (pt_not (pt_val (pe_callB (call_isiK K) (by rfl) Y.n_isinstance (by decide +kernel) (pa_cons (pv 1) (pa_cons (C8.pe_gc (v := .ref (He.ga K "Bag")) rfl ⟨_, Y.g_Bag, rfl⟩) pa_nil))))) (pss_one (ps_ret pe_bl)) pss_nil)
  (pss_one (ps_ret (pe_cmpR (op_eqDictR hr.units0) (pe_fldK K (pv 0) rfl) (pe_fldK K (pv 1) rfl) (nomark _))))),
    body_ok0 (f := fs_Bag_eq) (sim_seq (sim_ifS (sim_not (sim_B (sim_cb (sc_isiO Y.is_Bag) (.cons (.s 1) (.cons (.e (sim_c fun _ => .ref)) .nil))))) (sim_ret sim_bl) sim_next)
  (sim_ret (sim_op2 (s2_eqCs (neg := false)) (.e (sim_fld (c := "Bag") Y.cl_Bag Y.na_Bag_own (.s 0))) (.e (sim_fld (c := "Bag") Y.cl_Bag Y.na_Bag_own (.s 1))))))
    (by decide) (fun ds Q9 E9 h => ?_) h⟩
  obtain ⟨cs, es, rfl, k⟩ := h
  exact ⟨⟨rfl, rfl⟩, rfl, rfl, cs, es, rfl, rfl, k⟩
theorem met_Bag_holds (Y : Yes K mg) : C8.Met P w K mg base 1 (He.ga K "Bag") "holds" (fs_Bag_holds.to K) [] := by
  obtain ⟨fd, F⟩ := Y.f_Bag_holds
  refine metD Y.cl_Bag Y.mm_Bag_holds F sc_Bag_holds (fun _ _ _ _ _ _ us hl => match us, hl with | [_, _], _ => rfl) (FS.len rfl) (fun cdv A outer s H vs Q E hr h => ?_)
  have hu := hu_of hr
  refine ⟨_, (pss_one (ps_ret (pe_callB (cr_allK K rfl) (by rfl) Y.n_all (by decide +kernel) (pa_cons (pe_lockA (pe_lc (own := [("name", 2), ("count", 3)])  (tt := tYes) rfl sc_Bag_holds.nd (pi_items (pe_fldK K (pv 1) rfl)) (blkOk_by (N := ["self", "other", "name", "count"]) (own := [("name", 2), ("count", 3)]) (sc := (defScope s_Bag_holds)) (by decide +kernel)) (fun _ _ _ _ _ => (pg_tupK K 2 rfl (pgs_cons (pg_name (i := 2) sc_Bag_holds.nd rfl (.inl rfl)) (pgs_cons (pg_name (i := 3) sc_Bag_holds.nd rfl (.inl rfl)) pgs_nil)))) (fun _ _ _ _ _ => pts_nil) (fun _ _ _ _ _ => (pe_cmpR op_ge (pe_dget2 hu (pe_fldK K (pv 0) rfl) (pv 2) pe_int ⟨rfl, rfl, rfl, rfl⟩) (pv 3) (nomark _))))) pa_nil)))),
    body_ok0 (f := fs_Bag_holds) (sim_ret (sim_cb sc_all (.cons (.e ((sim_lcD (simd_items (simp_f (c := "Bag") (i := 1) Y.cl_Bag Y.na_Bag_own)) (simg_tup (simg_cons (simg_name (vs := [2, 3]) 2 (by decide)) (simg_cons (simg_name (vs := [2, 3]) 3 (by decide)) simg_nil))) sim_yes (sim_op2 s2_ge (.e (sim_dget2 (.e (sim_fld (c := "Bag") Y.cl_Bag Y.na_Bag_own (.s 0))) (.s 2) sim_int)) (.s 3)))).e) .nil)))
    (by decide) (fun ds Q9 E9 h => ?_) h⟩
  obtain ⟨cs, es, rfl, hl, k⟩ := h
  conv => whnf
  rw [items_dcs]
  refine lcL_fun (f := fun q : Str × Int => D.tup [.str q.1, .int q.2]) (l := es) (fun q => .bl (decide (q.2 ≤ (look cs q.1).getD 0))) (by omega) (fun q hq acc rest hr ha => ?_) ?_
  · refine ⟨rfl, rfl, ?_⟩
    conv => whnf
    rw [valD_cs, getD_int]
    exact ⟨ha, hr⟩
  · refine ⟨es.map fun q => decide (q.2 ≤ (look cs q.1).getD 0), by rw [List.map_map]; rfl, ?_⟩
    have e : (es.map fun q => decide (q.2 ≤ (look cs q.1).getD 0)).all id = holdsC cs es := by
      rw [List.all_map]
      rfl
    rw [e]
    exact k
theorem metX_Bag_less (Y : Yes K mg) : MetX P w K mg base 8 (He.ga K "Bag") "less" (fs_Bag_less.to K) [] := by
  obtain ⟨fd, F⟩ := Y.f_Bag_less
  refine metDX Y.cl_Bag Y.mm_Bag_less F sc_Bag_less (fun _ _ _ _ _ _ us hl => match us, hl with | [_, _], _ => rfl) (FS.len rfl) (fun cdv A outer s H vs Q E hr h => ?_)
  have hu := hu_of hr
  refine ⟨_, (pss_cons (ps_for (passes_of rfl) rfl (pi_listK K (C8.pe_mt0 (met_Bag_names Y) hr (by decide) (pv 1))) (pg_name (i := 2) sc_Bag_less.nd rfl (.inl rfl))
  (pss_one (ps_if (pt_cmpR op_lt (pe_dget2 hu (pe_fldK K (pv 0) rfl) (pv 2) pe_int ⟨rfl, rfl, rfl, rfl⟩) (pe_dget hu (pe_fldK K (pv 1) rfl) (pv 2) (fun _ _ => rfl)) (nomark _)) (pss_one (ps_raise rfl (takes_of rfl rfl rfl rfl) (pmk_x (xmk_NotHeld Y) hr (by decide) rfl (pv 2)))) pss_nil)))
  (pss_one (ps_ret (C8.pe_c (cal_bag_from Y) hr (by decide) rfl (pa_cons (pe_lst (pa_cons (pe_fldK K (pv 0) rfl) (pa_cons (pe_fldK K (pv 1) rfl) pa_nil))) (pa_cons (pe_tup (pa_cons pe_int (pa_cons (pe_op op_sub pe_int pe_int) pa_nil))) pa_nil)))))),
    body_okX (f := fs_Bag_less) (sim_seq (sim_for (simi_list ((sim_methF (.e (sim_var 1)) .nil rfl (fun _ => .nil) (by decide) hE0 rfl)).e) (simg_name (vs := [2]) 2 (by decide))
  (sim_ifS (sim_test (sim_op2 s2_lt (.e (sim_dget2 (.e (sim_fld (c := "Bag") Y.cl_Bag Y.na_Bag_own (.s 0))) (.s 2) sim_int)) (.e (sim_dget (.e (sim_fld (c := "Bag") Y.cl_Bag Y.na_Bag_own (.s 1))) (.s 2))))) (sim_raise (c := "NotHeld") (f := "name") (sim_var 2)) sim_next))
  (sim_ret (sim_call (.cons (.e ((sim_lst (sim_cons (sim_fld (c := "Bag") Y.cl_Bag Y.na_Bag_own (.s 0)) (sim_cons (sim_fld (c := "Bag") Y.cl_Bag Y.na_Bag_own (.s 1)) sim_nil)))).e) (.cons (.e (sim_tup (sim_cons sim_int (sim_cons (sim_op2 s2_sub (.e sim_int) (.e sim_int)) sim_nil)))) .nil)) rfl (fun _ => .nil) (by decide) hE0 rfl)))
    (by decide) (fun ds Q9 E9 h => ?_) h⟩
  obtain ⟨cs, es, rfl, g1, g2, k1, k2⟩ := h
  have f1 := g1.few
  have f2 := g2.few
  refine ⟨⟨rfl, rfl⟩, es, rfl, f2, ?_⟩
  refine forL_map (f := D.str) (l := srt (keysOf es)) (fun done ys e => ∃ y, e = [.im (bagD cs), .im (bagD es), y] ∧ short cs es = ys.find? fun n => decide ((look cs n).getD 0 < (look es n).getD 0)) ⟨_, rfl, rfl⟩ (fun done n ys e el h ih => ?_) (fun e h => ?_)
  · obtain ⟨y, rfl, hs⟩ := h
    have hn : n ∈ srt (keysOf es) := by rw [el]; simp
    obtain ⟨⟨n', c⟩, hq, e2⟩ := List.mem_map.mp (mem_srt.mp hn)
    cases e2
    have lk := look_of g2.nd hq
    have ev : valD (es.map fun p => (Sum.inr p.1, D.int p.2)) (Sum.inr n') = some (.int c) := by rw [valD_cs, lk]; rfl
    refine ⟨rfl, ?_⟩
    conv => whnf
    rw [valD_cs, getD_int]
    refine ⟨rfl, some9_of ev (ifD (fun z => ?_) (fun z => ?_))⟩
    · refine k1 n' ?_
      rw [hs, List.find?_cons_of_pos]
      rw [lk]
      exact decide_eq_true z
    · refine ih _ ⟨_, rfl, ?_⟩
      rw [hs, List.find?_cons_of_neg]
      rw [lk]
      exact fun h => z (of_decide_eq_true h)
  · obtain ⟨y, rfl, hs⟩ := h
    refine ⟨rfl, rfl, by simp, by simp, [(cs, 1), (es, -1)], rfl, by simp; omega, fun p hp q hq => ?_, k2 hs⟩
    rcases List.mem_cons.mp hp with e | hp
    · subst e
      exact one_mulW (by have := g1.pos q hq; omega) (g1.le q hq)
    · rw [List.mem_singleton.mp hp] at hq ⊢
      exact neg_mulW (by have := g2.pos q hq; omega) (g2.le q hq)
theorem met_Bag_times (Y : Yes K mg) : C8.Met P w K mg base 8 (He.ga K "Bag") "times" (fs_Bag_times.to K) [] := by
  obtain ⟨fd, F⟩ := Y.f_Bag_times
  refine metD Y.cl_Bag Y.mm_Bag_times F sc_Bag_times (fun _ _ _ _ _ _ us hl => match us, hl with | [_, _], _ => rfl) (FS.len rfl) (fun cdv A outer s H vs Q E hr h => ?_)
  have hu := hu_of hr
  refine ⟨_, (pss_one (ps_ret (C8.pe_c (cal_bag_from Y) hr (by decide) rfl (pa_cons (pe_lst (pa_cons (pe_fldK K (pv 0) rfl) pa_nil)) (pa_cons (pe_tup (pa_cons (pv 1) pa_nil)) pa_nil))))),
    body_ok0 (f := fs_Bag_times) (sim_ret (sim_call (.cons (.e ((sim_lst (sim_cons (sim_fld (c := "Bag") Y.cl_Bag Y.na_Bag_own (.s 0)) sim_nil))).e) (.cons (.e (sim_tup (sim_cons (sim_var 1) sim_nil))) .nil)) rfl (fun _ => .nil) (by decide) hE0 rfl))
    (by decide) (fun ds Q9 E9 h => ?_) h⟩
  obtain ⟨cs, m, rfl, g1, m0, m1, k⟩ := h
  have f1 := g1.few
  refine ⟨rfl, by simp, by simp, [(cs, m)], rfl, by simp; omega, fun p hp q hq => ?_, k⟩
  rw [List.mem_singleton.mp hp] at hq ⊢
  exact any_mulW m0 m1 (by have := g1.pos q hq; omega) (g1.le q hq)
end
end Sk

set_option maxHeartbeats 1000000
namespace Sk
open PySem PySem.Spec PyProof.Rows L2 Dv SkE
/-- a bag's counts are what is reckoned -/
structure Due (bs cs : List (Str × Int)) : Prop where
  good : GoodC bs
  nd : (keysOf cs).Nodup
  nm : ∀ p ∈ cs, isName p.1 = true
  nn : ∀ p ∈ cs, 0 ≤ p.2
  eq : ∀ n, (look bs n).getD 0 = (look cs n).getD 0
  few : cs.length ≤ 60
def posC (cs : List (Str × Int)) : List (Str × Int) := cs.filter fun p => decide (0 < p.2)
theorem Due.perm {bs cs : List (Str × Int)} (d : Due bs cs) : bs.Perm (posC cs) := by
  have nd2 : (keysOf (posC cs)).Nodup := by
    unfold posC keysOf
    exact List.Nodup.sublist (List.filter_sublist.map _) d.nd
  refine perm_of_look d.good.nd nd2 d.good.pos (fun p hp => ?_) fun n => ?_
  · have := (List.mem_filter.mp hp).2
    simp at this
    omega
  · rw [d.eq]
    have key : ∀ {l : List (Str × Int)}, (keysOf l).Nodup → (∀ p ∈ l, 0 ≤ p.2) → (look l n).getD 0 = (look (posC l) n).getD 0 := by
      intro l
      induction l with
      | nil => intro _ _; rfl
      | cons q l ih =>
        intro nd nn
        have nd' : (keysOf l).Nodup := by
          unfold keysOf at nd ⊢
          rw [List.map_cons, List.nodup_cons] at nd
          exact nd.2
        have nq : q.1 ∉ keysOf l := by
          unfold keysOf at nd ⊢
          rw [List.map_cons, List.nodup_cons] at nd
          exact nd.1
        have h := ih nd' fun p hp => nn p (List.mem_cons_of_mem _ hp)
        have h0 := nn q List.mem_cons_self
        by_cases z : 0 < q.2
        · have e : posC (q :: l) = q :: posC l := by unfold posC; rw [List.filter_cons_of_pos (by simp [z])]
          rw [e, look_cons, look_cons]
          by_cases e2 : q.1 = n
          · rw [if_pos e2, if_pos e2]
          · rw [if_neg e2, if_neg e2, h]
        · have e : posC (q :: l) = posC l := by unfold posC; rw [List.filter_cons_of_neg (by simp [z])]
          rw [e]
          by_cases e2 : q.1 = n
          · have q0 : q.2 = 0 := by omega
            have e3 : look (posC l) n = none := look_none.mpr fun hm => nq (by
              rw [e2]
              unfold keysOf posC at hm
              obtain ⟨w, hw, ew⟩ := List.mem_map.mp hm
              unfold keysOf
              exact List.mem_map.mpr ⟨w, (List.mem_filter.mp hw).1, ew⟩)
            rw [e3, look_cons, if_pos e2, q0]
            rfl
          · rw [← h, look_cons, if_neg e2]
    exact key d.nd d.nn
theorem seq_tail {a b : DS} {X : XK9} {E : E9} {env : Sls} (Inv : Sls → Prop) (hb : ∀ e, Inv e → b X E e) (ha : ∀ nx : Sls → Prop, (∀ e, Inv e → nx e) → a X { E with nx := nx } env) : dSeq a b X E env := ha _ hb
theorem pyd_strs (zs : List Str) : pyd (.lst (zs.map D.str)) = some (.list (zs.map .str)) := by
  have key : ∀ zs : List Str, pyds (zs.map D.str) = some (zs.map PyData.str) := by
    intro zs
    induction zs with
    | nil => simp [pyds]
    | cons z zs ih => simp [pyds, pyd, ih]
  simp [pyd, key]
theorem ne_strs {zs : List Str} {Q : D → Prop} (h : ∀ z ∈ zs, isName z = true) (q : Q (.bl false)) : fEqDp true (.lst (zs.map D.str)) (.lst (zs.map D.str)) Q := by
  refine ⟨_, _, pyd_strs zs, pyd_strs zs, shaped_strs fun z hz => strOk_name (h z hz), shaped_strs fun z hz => strOk_name (h z hz), ?_⟩
  have e : PyData.eqv (.list (zs.map .str)) (.list (zs.map .str)) = true := by
    show PyData.eqvAll _ _ = true
    rw [eqv_strs]
    exact decide_eq_true rfl
  show Q (.bl (!PyData.eqv (.list (zs.map .str)) (.list (zs.map .str))))
  rw [e]
  exact q
def fs__law_as_due : FS := ⟨[false, false], false, fun ds Q _ => ∃ bs cs, ds = [bagD bs, dcs cs] ∧ Due bs cs ∧ Q (.bl true) []⟩
section
variable {P : Program} {w : World} {K : PySem.W.Frag} {mg : Str → Option Value} {base : Heap}
end
end Sk

set_option maxHeartbeats 1000000
/-! Counts reckoned: plain facts. -/
namespace Sk
open PySem PySem.Spec PyProof.Rows L2 Dv SkE
theorem keys_cons {q : Str × Int} {cs : List (Str × Int)} (nd : (keysOf (q :: cs)).Nodup) : q.1 ∉ keysOf cs ∧ (keysOf cs).Nodup := by
  unfold keysOf at nd ⊢
  rwa [List.map_cons, List.nodup_cons] at nd
theorem look_accM (m : Int) (n : Str) : ∀ (cs acc : List (Str × Int)), (keysOf cs).Nodup → (look (accM acc cs m) n).getD 0 = (look acc n).getD 0 + m * (look cs n).getD 0
  | [], acc, _ => by
    show (look acc n).getD 0 = (look acc n).getD 0 + m * 0
    rw [Int.mul_zero, Int.add_zero]
  | q :: cs, acc, nd => by
    obtain ⟨nq, nd'⟩ := keys_cons nd
    show (look (accM (put acc q.1 ((look acc q.1).getD 0 + m * q.2)) cs m) n).getD 0 = _
    rw [look_accM m n cs _ nd', look_put, look_cons]
    by_cases e : q.1 = n
    · subst e
      rw [if_pos rfl, if_pos rfl, look_none.mpr nq]
      show (look acc q.1).getD 0 + m * q.2 + m * 0 = (look acc q.1).getD 0 + m * q.2
      rw [Int.mul_zero, Int.add_zero]
    · rw [if_neg (fun h => e h.symm), if_neg e]
theorem look_nz (n : Str) : ∀ (l : List (Str × Int)), (keysOf l).Nodup → (look (l.filter fun p => decide (p.2 ≠ 0)) n).getD 0 = (look l n).getD 0
  | [], _ => rfl
  | q :: l, nd => by
    obtain ⟨nq, nd'⟩ := keys_cons nd
    have ih := look_nz n l nd'
    by_cases z : q.2 = 0
    · rw [List.filter_cons_of_neg (by simp [z]), ih, look_cons]
      by_cases e : q.1 = n
      · rw [if_pos e, look_none.mpr (e ▸ nq), z]
        rfl
      · rw [if_neg e]
    · rw [List.filter_cons_of_pos (by simp [z]), look_cons, look_cons]
      by_cases e : q.1 = n
      · rw [if_pos e, if_pos e]
      · rw [if_neg e, if_neg e, ih]
theorem key_accM (m : Int) : ∀ (cs acc : List (Str × Int)), ∀ p ∈ accM acc cs m, p.1 ∈ keysOf acc ∨ p.1 ∈ keysOf cs
  | [], acc, p, hp => .inl (List.mem_map.mpr ⟨p, hp, rfl⟩)
  | q :: cs, acc, p, hp => by
    rcases key_accM m cs (put acc q.1 ((look acc q.1).getD 0 + m * q.2)) p hp with h | h
    · obtain ⟨w, hw, ew⟩ := List.mem_map.mp h
      rcases mem_put hw with hw | hw
      · exact .inl (ew ▸ List.mem_map.mpr ⟨w, hw, rfl⟩)
      · refine .inr ?_
        rw [← ew, hw]
        exact List.mem_map.mpr ⟨q, List.mem_cons_self, rfl⟩
    · refine .inr ?_
      obtain ⟨w, hw, ew⟩ := List.mem_map.mp h
      exact List.mem_map.mpr ⟨w, List.mem_cons_of_mem _ hw, ew⟩
/-- what is left of counts that are not below 0 is a bag's -/
theorem good_nz {l : List (Str × Int)} (nd : (keysOf l).Nodup) (nm : ∀ p ∈ l, isName p.1 = true) (nn : ∀ n, 0 ≤ (look l n).getD 0) (few : l.length < 64) (sum : sumC l ≤ 100000) : GoodC (l.filter fun p => decide (p.2 ≠ 0)) := by
  refine ⟨Nat.lt_of_le_of_lt (List.length_filter_le _ _) few, ?_, fun p hp => nm p (List.mem_filter.mp hp).1, fun p hp => ?_, by rw [sumC_nz]; exact sum⟩
  · unfold keysOf
    exact List.Nodup.sublist (List.filter_sublist.map _) nd
  · obtain ⟨h1, h2⟩ := List.mem_filter.mp hp
    have h3 := nn p.1
    rw [look_of nd (show (p.1, p.2) ∈ l from h1)] at h3
    have h3 : 0 ≤ p.2 := h3
    simp at h2
    omega
section
variable {cs es : List (Str × Int)} (gc : GoodC cs) (ge : GoodC es)
include gc
theorem acc_one (m : Int) (n : Str) : (look (accs [] [(cs, m)]) n).getD 0 = m * (look cs n).getD 0 := by
  show (look (accM [] cs m) n).getD 0 = _
  rw [look_accM m n cs [] gc.nd]
  exact Int.zero_add _
include ge
theorem acc_two (m k : Int) (n : Str) : (look (accs [] [(cs, m), (es, k)]) n).getD 0 = m * (look cs n).getD 0 + k * (look es n).getD 0 := by
  show (look (accM (accM [] cs m) es k) n).getD 0 = _
  rw [look_accM k n es _ ge.nd, look_accM m n cs [] gc.nd, show (look ([] : List (Str × Int)) n).getD 0 = 0 from rfl, Int.zero_add]
theorem name_two (m k : Int) : ∀ p ∈ accs [] [(cs, m), (es, k)], isName p.1 = true := fun p hp => by
  rcases key_accM k es _ p hp with h | h
  · obtain ⟨w, hw, ew⟩ := List.mem_map.mp h
    rcases key_accM m cs [] w hw with h | h
    · simp [keysOf] at h
    · obtain ⟨u, hu, eu⟩ := List.mem_map.mp h
      rw [← ew, ← eu]
      exact gc.nm u hu
  · obtain ⟨u, hu, eu⟩ := List.mem_map.mp h
    rw [← eu]
    exact ge.nm u hu
theorem good_two {m k : Int} (h : cs.length + es.length < 64) (nn : ∀ n, 0 ≤ m * (look cs n).getD 0 + k * (look es n).getD 0) (sum : m * sumC cs + k * sumC es ≤ 100000) : GoodC ((accs [] [(cs, m), (es, k)]).filter fun p => decide (p.2 ≠ 0)) := by
  refine good_nz (accs_nd _ [] (by simp [keysOf])) (name_two gc ge m k) (fun n => by rw [acc_two gc ge]; exact nn n) ?_ ?_
  · have := accs_len [(cs, m), (es, k)] []
    simp at this
    omega
  · show sumC (accM (accM [] cs m) es k) ≤ _
    rw [sumC_accM k es _ (accM_nd m cs [] (by simp [keysOf])), sumC_accM m cs [] (by simp [keysOf]), show sumC ([] : List (Str × Int)) = 0 from rfl]
    omega
end
theorem look_fn {N : List Str} {f : Str → Int} (n : Str) : look (N.map fun n => (n, f n)) n = if n ∈ N then some (f n) else none := by
  induction N with
  | nil => rfl
  | cons a N ih =>
    rw [List.map_cons, look_cons, ih]
    by_cases e : a = n
    · subst e
      simp
    · rw [if_neg e]
      by_cases h : n ∈ N
      · rw [if_pos h, if_pos (List.mem_cons_of_mem _ h)]
      · rw [if_neg h, if_neg]
        intro hm
        rcases List.mem_cons.mp hm with h2 | h2
        · exact e h2.symm
        · exact h h2
theorem due_fn {bs : List (Str × Int)} {N : List Str} {f : Str → Int} (g : GoodC bs) (nd : N.Nodup) (nm : ∀ n ∈ N, isName n = true) (nn : ∀ n ∈ N, 0 ≤ f n) (e : ∀ n, (look bs n).getD 0 = f n) (z : ∀ n, n ∉ N → f n = 0) (few : N.length ≤ 60) : Due bs (N.map fun n => (n, f n)) := by
  refine ⟨g, by unfold keysOf; rw [List.map_map, show ((fun x : Str × Int => x.1) ∘ fun n => (n, f n)) = id from rfl, List.map_id]; exact nd, fun p hp => ?_, fun p hp => ?_, fun n => ?_, by rw [List.length_map]; exact few⟩
  · obtain ⟨n, hn, rfl⟩ := List.mem_map.mp hp
    exact nm n hn
  · obtain ⟨n, hn, rfl⟩ := List.mem_map.mp hp
    exact nn n hn
  · rw [look_fn, e]
    by_cases h : n ∈ N
    · rw [if_pos h]
      rfl
    · rw [if_neg h, z n h]
      rfl
/-- the first short name of all names in order is the first of the other's -/
theorem short_all {cs es : List (Str × Int)} {N : List Str} (ge : (keysOf es).Nodup) (gp : ∀ n, 0 ≤ (look cs n).getD 0) (hs : sortedS N = true) (nd : N.Nodup) (sub : ∀ n ∈ keysOf es, n ∈ N) : short cs es = (N.filter fun n => decide ((look cs n).getD 0 - (look es n).getD 0 < 0)).head? := by
  have e1 : (N.filter fun n => decide ((look cs n).getD 0 - (look es n).getD 0 < 0)) = (srt (keysOf es)).filter fun n => decide ((look cs n).getD 0 < (look es n).getD 0) := by
    refine List.Perm.eq_of_pairwise (le := fun a b => leB a b = true) (fun _ _ _ _ h1 h2 => leB_anti h1 h2) ((sorted_pw hs).filter _) ((srt_pw _).filter _) ?_
    refine (List.perm_ext_iff_of_nodup (nd.filter _) (((srt_perm _).nodup_iff.mpr ge).filter _)).mpr fun n => ?_
    rw [List.mem_filter, List.mem_filter]
    simp only [decide_eq_true_eq]
    constructor
    · rintro ⟨h1, h2⟩
      refine ⟨mem_srt.mpr ?_, by omega⟩
      by_cases h : n ∈ keysOf es
      · exact h
      · have := gp n
        rw [look_none.mpr h] at h2
        have h2 : (look cs n).getD 0 - 0 < 0 := h2
        omega
    · rintro ⟨h1, h2⟩
      exact ⟨sub n (mem_srt.mp h1), by omega⟩
  rw [e1]
  unfold short
  rw [List.head?_filter]
theorem holds_short {cs es : List (Str × Int)} (ge : (keysOf es).Nodup) : holdsC cs es = (short cs es).isNone := by
  cases h : short cs es with
  | none =>
    have := List.find?_eq_none.mp h
    refine List.all_eq_true.mpr fun p hp => ?_
    have q := this p.1 (mem_srt.mpr (List.mem_map.mpr ⟨p, hp, rfl⟩))
    rw [look_of ge (show (p.1, p.2) ∈ es from hp)] at q
    simp at q ⊢
    exact q
  | some n =>
    have h1 := List.find?_some h
    have h2 := List.mem_of_find?_eq_some h
    obtain ⟨p, hp, e⟩ := List.mem_map.mp (mem_srt.mp h2)
    simp only [Option.isNone_some]
    refine Bool.eq_false_iff.mpr fun ha => ?_
    have q := List.all_eq_true.mp ha p hp
    subst e
    rw [look_of ge (show (p.1, p.2) ∈ es from hp)] at h1
    simp at h1 q
    omega
end Sk

set_option maxHeartbeats 4000000
/-! Dicts of the module with text keys and whole numbers; the hook with them. -/
namespace Sk
open PySem PySem.Spec PyProof.Rows L2
abbrev AlU : Type := He.AlT × Bool
def obsU (n : Nat) (fa : List He.Fa) (fn : List He.DefD) (ts : List He.Tab) (ex : PySem.W.Frag → Bool) (g : Addr → Option Obj) : AlU := (He.obsTG n fa fn ts g, ex (He.frG g (He.asD g n)))
def hookU (n : Nat) (fa : List He.Fa) (fn : List He.DefD) (ts : List He.Tab) (ex : PySem.W.Frag → Bool) : PySem.W.Hook where
  α := AlU
  obs := fun s => obsU n fa fn ts ex s.heap.get?
  val := fun w => (He.valT fn ts w, true)
  says := fun w h => ∃ K : PySem.W.Frag, K.In h ∧ He.SaysT fa fn ts w K ∧ ex K = true
  of := fun _ _ e => ⟨_, He.frG_in, congrArg (fun z : AlU => z.1) e, congrArg (fun z : AlU => z.2) e⟩
  keeps := fun _ _ _ ⟨K, hK, c⟩ k => ⟨K, PySem.W.Frag.In.keeps hK k, c⟩
theorem obsU_eq {n : Nat} {fa : List He.Fa} {fn : List He.DefD} {ts : List He.Tab} {ex : PySem.W.Frag → Bool} {g : Addr → Option Obj} {s : Shared} (h : ∀ a, g a = s.heap.get? a) : obsU n fa fn ts ex g = (hookU n fa fn ts ex).obs s := by
  have e : g = s.heap.get? := funext h
  rw [e] <;> rfl
/-- at d: a dict of the module, of these keys and numbers -/
structure TabI (K : PySem.W.Frag) (w : World) (d : Addr) (kvs : List (Str × Int)) : Prop where
  dict : ∃ es n, KDict K w d es n
  at_ : ∀ z v, kvs.lookup z = some v → ∃ t, PySem.W.nsIn K d z = some (some (.int v t))
  no : ∀ z, kvs.lookup z = none → PySem.W.nsIn K d z = some none
def ent9 (e : DictEntry) : Option (Str × Int) := match e.key, e.val with
  | .str k _, .int v _ => some (k, v)
  | _, _ => none
def tabB (K : PySem.W.Frag) (a : Addr) (kvs : List (Str × Int)) : Bool := match K.lookup a with
  | some ⟨_, _, .dict es _, _⟩ => decide (es.toList.map ent9 = kvs.map some)
  | _ => false
theorem ent9_some {e : DictEntry} {k : Str} {v : Int} (h : ent9 e = some (k, v)) : ∃ t u, e.key = .str k t ∧ e.val = .int v u := by
  unfold ent9 at h
  split at h
  · rename_i h1 h2
    cases h
    exact ⟨_, _, h1, h2⟩
  · cases h
theorem isStr_str {k z : Str} {t : Nat} : (Value.str k t).isStr z = (z == k) := by
  show (k == z) = (z == k)
  rw [Bool.eq_iff_iff, beq_iff_eq, beq_iff_eq]
  exact eq_comm
theorem find_ent : ∀ {l : List DictEntry} {kvs : List (Str × Int)}, l.map ent9 = kvs.map some → ∀ z,
    (∀ v, kvs.lookup z = some v → ∃ e t, l.find? (·.key.isStr z) = some e ∧ e.val = .int v t) ∧ (kvs.lookup z = none → l.find? (·.key.isStr z) = none ∧ l.any (·.refKey) = false)
  | [], [], _, z => ⟨fun v h => (by cases h), fun _ => ⟨rfl, rfl⟩⟩
  | [], _ :: _, h, _ => by cases h
  | _ :: _, [], h, _ => by cases h
  | e :: l, (k, v) :: kvs, h, z => by
    have h1 : ent9 e = some (k, v) := (List.cons.inj h).1
    obtain ⟨t, u, ek, ev⟩ := ent9_some h1
    have ih := find_ent (l := l) (kvs := kvs) (List.cons.inj h).2 z
    have hs : e.key.isStr z = (z == k) := by rw [ek]; exact isStr_str
    refine ⟨fun v' h' => ?_, fun h' => ?_⟩
    · rw [List.lookup_cons] at h'
      cases q : z == k with
      | true =>
        rw [q] at h'
        cases h'
        exact ⟨e, u, by rw [List.find?_cons, hs, q], ev⟩
      | false =>
        rw [q] at h'
        obtain ⟨e', t', h2, h3⟩ := ih.1 v' h'
        exact ⟨e', t', by rw [List.find?_cons, hs, q]; exact h2, h3⟩
    · rw [List.lookup_cons] at h'
      cases q : z == k with
      | true =>
        rw [q] at h'
        cases h'
      | false =>
        rw [q] at h'
        obtain ⟨h2, h3⟩ := ih.2 h'
        refine ⟨by rw [List.find?_cons, hs, q]; exact h2, ?_⟩
        rw [List.any_cons, h3, show e.refKey = false by unfold DictEntry.refKey; rw [ek]]
        rfl
theorem tabB_ok {K : PySem.W.Frag} {w : World} {d : Addr} {kvs : List (Str × Int)} (D : ∃ es n, KDict K w d es n) (h : tabB K d kvs = true) : TabI K w d kvs := by
  obtain ⟨es, n, D⟩ := D
  have e := D.at_
  unfold tabB at h
  rw [e] at h
  have h := of_decide_eq_true h
  refine ⟨⟨es, n, D⟩, fun z v hv => ?_, fun z hv => ?_⟩
  · obtain ⟨e', t, h1, h2⟩ := (find_ent h z).1 v hv
    refine ⟨t, ?_⟩
    unfold PySem.W.nsIn
    rw [e]
    dsimp only
    rw [h1]
    dsimp only
    rw [h2]
  · obtain ⟨h1, h2⟩ := (find_ent h z).2 hv
    unfold PySem.W.nsIn
    rw [e]
    dsimp only
    rw [h1]
    dsimp only
    rw [h2]
    rfl
section
variable {X : Cx} {d : Addr} {kvs : List (Str × Int)}
def rTabIn (d : Addr) (kvs : List (Str × Int)) : R2 := fun x y H Q => ∃ z : Str, x = .str z ∧ y = .ref d ∧ Q (.bl (kvs.lookup z).isSome) H
def rTabIx (d : Addr) (kvs : List (Str × Int)) : R2 := fun x y H Q => ∃ (z : Str) (v : Int), x = .ref d ∧ y = .str z ∧ kvs.lookup z = some v ∧ Q (.int v) H
theorem op_inTab (T : TabI X.K X.w d kvs) : OpR X (compareOp .In) (rTabIn d kvs) := by
  obtain ⟨es, n, D⟩ := T.dict
  intro pins s σ H x y v u Q I rx ry h
  obtain ⟨z, rfl, rfl, q⟩ := h
  cases e : kvs.lookup z with
  | some i =>
    obtain ⟨t, h1⟩ := T.at_ z i e
    rw [e] at q
    exact op_in_kd D pins s σ H _ _ v u Q I rx ry ⟨z, _, rfl, rfl, h1, q⟩
  | none =>
    rw [e] at q
    exact op_in_kd D pins s σ H _ _ v u Q I rx ry ⟨z, _, rfl, rfl, T.no z e, q⟩
theorem ix_tab (T : TabI X.K X.w d kvs) : IxR X (rTabIx d kvs) := by
  obtain ⟨es, n, D⟩ := T.dict
  intro value slice pins s σ H x y v u Q I rx ry h hs
  obtain ⟨z, i, rfl, rfl, e, q⟩ := h
  obtain ⟨t, h1⟩ := T.at_ z i e
  have hT := kd_type D I
  cases rx
  exact tail_any hT PySem.F.slot_dict_getitem.lookup (op_item_kd D pins s σ H (.ref d) _ _ u Q I rfl ry ⟨z, _, .int i, rfl, rfl, h1, ⟨t, rfl⟩, q⟩) hs
end
end Sk

set_option maxHeartbeats 4000000
/-! a = b = e; enumerate(x, start = k). -/
namespace SkR
open PySem PySem.Spec PyProof.Rows L2 SkZ
section
variable {X : Cx} {pos : Pos}
/-- two names, one value -/
def tAsg2 (te : TE) (i j : Nat) : TS := fun D σ H => te σ H fun x H1 => D.nx ((σ.set i (some x)).set j (some x)) H1
theorem ps_set2 {i j : Nat} {x y : Str} {e : Expr} {te : TE} {px py : Pos} (hN : X.N.Nodup) (hi : X.N[i]? = some x) (hx : Loc X.env.scope x) (hj : X.N[j]? = some y) (hy : Loc X.env.scope y) (he : PE X e te)
    (hs : swapsWithSole [.Name x px, .Name y py] e pos.line X.env = pure false := by rfl) (hw : swappedStores [.Name x px, .Name y py] e X.env = pure none := by rfl)
    (h1 : (assignEach [.Name x px, .Name y py] X.env).map (·.2) = [assign (.Name x px) X.env, assign (.Name y py) X.env] := by rfl) (f1 : X.fn x = true := by rfl) (f2 : X.fn y = true := by rfl) :
    PS X (.Assign [.Name x px, .Name y py] e pos) (tAsg2 te i j) :=
  ⟨fun pn st ρ hp D In w => by
    refine wpAny_Assign_stores (thn (he.run pn st ρ hp _ In w) fun u st1 ⟨v, hp1, In1, rl, w1⟩ => ?_) hs hw
    rw [h1]
    show wpAny _ _ (do holding [u] (assign (.Name x px) X.env u); assignAll u [assign (.Name y py) X.env]) _ _ _
    refine wpAny_bind (wpAny_holding (wpAny_assign_Name (store_ok In1 hN hi hx rl (fun st2 In2 => ?_) (.inl f1))))
    exact wpAny_assign_Name (store_ok In2 hN hj hy rl (fun st3 In3 => ⟨_, hp1, In3, w1⟩) (.inl f2))⟩
end
/-! ### enumerate(x, start = k) -/
/-- an iterator that is at its end -/
theorem drawsEnd {prog : Program} {w : World} {A : Around} (hh : A.handled = none) (it l : Addr) (items : Array Value) (n : Nat) (hx : items[n]? = none) :
    Draws prog w A it [it, l] n (fun _ _ => True) (fun k g => k = n ∧ g.IsListIter it l n ∧ g.IsList l items) where
  live := fun _ _ st => let ⟨o, ho, _⟩ := st.2.1; ⟨o, ho⟩
  frame := fun _ _ _ st kp => ⟨st.1, st.2.1.at fun o q => kp it List.mem_cons_self o q, st.2.2.at fun o q => kp l (List.mem_cons_of_mem _ List.mem_cons_self) o q⟩
  item := fun i st Q E hi q _ => by
    have := q.1
    omega
  done := fun st Q E q hE => wpAny_nextOf_list_end hh q.2.1 q.2.2 hx hE
def ItK (K : PySem.W.Frag) (a : Addr) (k0 : Int) : It :=
  ⟨fun i hp => ∃ (vs : List V) (v : V), SqL K hp a vs ∧ vs[i]? = some v,
   fun i hp z hp' => ∃ T v, z = .ref T ∧ hp T = none ∧ hp' = upd hp T (.tup [.int (k0 + (i : Nat)), v]) ∧ ∀ vs, SqL K hp a vs → vs[i]? = some v,
   fun i hp => ∃ vs : List V, SqL K hp a vs ∧ vs.length ≤ i⟩
theorem turn_enumK {P : Program} {w : World} {K : PySem.W.Frag} {elts : List Expr} {kk : Nat} {tpos : Pos} (a en it : Addr) (k0 : Int) (na : a ≠ it) (na2 : en ≠ a) :
    Turn P w K (.Tuple elts kk tpos) (ItK K a k0) [en, it] en (fun i g => (∃ old, IsEnum g en it (k0 + (i : Nat)) old) ∧ g.IsListIter it a i ∧ en ≠ it) where
  mem := List.mem_cons_self
  obj := fun i g ⟨⟨old, q⟩, ⟨o, q1, q2, q3⟩, _⟩ b hb => by
    rcases List.mem_cons.mp hb with z | z
    · rw [z]
      exact ⟨_, q, fun v z => nomatch z⟩
    · rw [List.mem_singleton.mp z]
      exact ⟨o, q1, fun v z => by rw [q3] at z; cases z⟩
  keep := fun i g g' ⟨⟨old, q⟩, q1, q2⟩ kp => ⟨⟨old, kp en List.mem_cons_self _ q⟩, q1.at fun o z => kp it (List.mem_cons_of_mem _ List.mem_cons_self) o z, q2⟩
  item := by
    intro X eP ew eK cm i pn st ρ hp E In hf ⟨⟨old, qe⟩, qi, hne⟩ ⟨vs, v, hq, hv⟩
    subst eP ew eK
    obtain ⟨its, rv, pl, hz⟩ := In.list hq
    obtain ⟨u, hu, ru⟩ := rv.get hv
    have le : en < st.heap.objs.size := Heap.lt_size qe
    have li : it < st.heap.objs.size := let ⟨_, q, _⟩ := qi; Heap.lt_size q
    have hlen : i < its.toArray.size := by
      have := (List.getElem?_eq_some_iff.mp hu).1
      simpa using this
    refine wpAny_pyNext_enum_itemC (Draws.list (show (X.A.in1).handled = none from In.ok.hd cm) it a na its.toArray) qe ⟨qi, pl.isList⟩ hlen hne (fun z => ?_) fun u' g' tk hu' eo st' gT sz kp => ?_
    · rcases List.mem_cons.mp z with z | z
      · exact hne z
      · exact na2 (List.mem_singleton.mp z)
    have : u' = u := by
      have hu' : its.toArray[i]? = some u' := hu'
      rw [show its.toArray[i]? = its[i]? by simp, hu] at hu'
      exact (Option.some.inj hu').symm
    subst this
    refine ⟨_, rfl, wpAny_letOwnedTupleGo_enum (s := { st with heap := g', toks := tk + 1 }) eo fun g'' he2 sb => ?_⟩
    have gT2 := (sb.2 _ (Nat.ne_of_gt le)).trans gT
    have okT : ObjOk X.prog X.w (upd hp st.heap.objs.size (.tup [.int (k0 + (i : Nat)), v])) g'' st.heap.objs.size (.tup [.int (k0 + (i : Nat)), v]) :=
      ⟨by show 2 ≤ sizeLine; decide, [.int (k0 + (i : Nat)) tk, u'], .cons ⟨_, rfl⟩ (.cons ru .nil), ⟨_, gT2, rfl, _, rfl⟩⟩
    have In1 : Inv X pn ρ (upd hp st.heap.objs.size (.tup [.int (k0 + (i : Nat)), v])) { st with heap := g'', toks := tk + 1 } :=
      In.turnedNew (ch := [en, it]) (fun b ob hb q => (sb.2 b (fun z => hb (by rw [z]; exact List.mem_cons_self))).trans (kp b ob (fun z => hb (by rw [z]; exact List.mem_cons_self)) (fun z => hb (by rw [z]; exact List.mem_cons_of_mem _ List.mem_cons_self)) q)) hf (Nat.le_refl _) okT
    refine ⟨.ref st.heap.objs.size, _, In1, rfl, ⟨_, v, rfl, In.hok.fresh (Nat.le_refl _), rfl, fun ys hy => by rw [In.list_inj hy hq]; exact hv⟩, ⟨⟨u', ?_⟩, st'.1.at fun o q => (sb.2 it (Ne.symm hne)).trans q, hne⟩, fun b hb => ?_⟩
    · rw [show k0 + ((i + 1 : Nat) : Int) = k0 + (i : Nat) + 1 by omega]
      exact he2
    · have lb : b < st.heap.objs.size := by
        rcases List.mem_cons.mp hb with z | z
        · rw [z]; exact le
        · rw [List.mem_singleton.mp z]; exact li
      rw [upd_ne (Nat.ne_of_lt lb)]
      exact (hf b hb).1
  done := by
    intro X eP ew eK cm i pn st ρ hp E In hf ⟨⟨old, qe⟩, qi, hne⟩ ⟨vs, hq, hv⟩
    subst eP ew eK
    obtain ⟨its, rv, pl, hz⟩ := In.list hq
    obtain ⟨f0, f1, f2, f3, f4, f5⟩ := hf it (List.mem_cons_of_mem _ List.mem_cons_self)
    have hl := rv.length
    refine wpAny_pyNext_enum_endD (drawsEnd (show (X.A.in1).handled = none from In.ok.hd cm) it a its.toArray i (by simp; omega)) qe ⟨rfl, qi, pl.isList⟩ fun g' eb => ⟨rfl, In.turned (t' := st.toks) (fun b o hb q => eb b o hb q) f0 f1 f3 f4 f5⟩
  self := fun A i st Q E ⟨⟨_, q⟩, _⟩ k => wpAny_pyIter_enum q k
def iEnumK (K : PySem.W.Frag) (ta tk : TA) : TI := fun ρ hp R => ta ρ hp fun vs hp1 => tk ρ hp1 fun zs hp2 => ∃ a k0 xs, vs = [.ref a] ∧ zs = [.int k0] ∧ SqL K hp2 a xs ∧ (-(2 ^ 62) ≤ k0 ∧ k0 < 2 ^ 62) ∧ R (ItK K a k0) hp2
theorem pi_enumK {X : Cx} {e : Expr} {ta tk : TA} {p pos tpos : Pos} {elts : List Expr} {kk : Nat} {kws : List Keyword} (hg : Gl X "enumerate") (hm : X.mg "enumerate" = none) (ha : PA X [e] ta) (hk : PK X kws tk)
    (he : backTo pos (starEach [e] X.env) = (false, eval e X.env) :: backTo pos (starEach [] X.env) := by rfl) (hpl : (backTo pos (starEach [e] X.env)).any (·.1) = false := by rfl)
    (hall : (backToKw pos (keywordEach kws X.env)).all (·.1.isSome) = true := by rfl) (hks : (backToKw pos (keywordEach kws X.env)).filterMap (·.1) = [Str.ofString "start"] := by rfl) (hkw : (backToKw pos (keywordEach kws X.env)).any (·.1.isNone) = false := by rfl) :
    PI X (.Tuple elts kk tpos) (.Call (.Name "enumerate" p) [e] kws pos) (iEnumK X.K ta tk) :=
  ⟨fun pn st ρ hp R In w => by
    refine wpAny_Call_Name_kw (ld_blt In hg hm boot_enumerate (callWith_typeKw (thn (ha.run pos pn st ρ hp _ In w) fun us st1 ⟨vs, hp1, In1, r1, w1⟩ => thn (hk.run pos pn st1 ρ hp1 _ In1 w1) fun ws st2 ⟨zs, hp2, In2, rz, w2⟩ => ?_) he hpl hall hkw))
    rw [hks]
    obtain ⟨a, k0, xs, rfl, rfl, hq, ⟨k1, k2⟩, w2⟩ := w2
    cases r1 with
    | cons ra rr =>
      cases rr
      cases ra
      cases rz with
      | cons rb rr =>
        cases rr
        obtain ⟨tkn, rfl⟩ := rb
        obtain ⟨its, rv, pl, hz⟩ := In2.list hq
        have la := pl.lt
        refine enum_begins_start (begins_list a its.toArray) pl.isList (by omega) (by omega) fun g' qe qi sz kp => wpAny_pyIter_enum qe ?_
        have In3 : Inv X pn ρ hp2 { st2 with heap := g' } := In2.kept (t' := st2.toks) kp
        refine ⟨st2.heap.objs.size + 1, [st2.heap.objs.size + 1, st2.heap.objs.size], _, _, hp2, rfl, In3, turn_enumK a (st2.heap.objs.size + 1) st2.heap.objs.size k0 (Nat.ne_of_lt la) (Nat.ne_of_gt (Nat.lt_succ_of_lt la)), ⟨⟨.none, ?_⟩, ⟨_, qi, rfl, rfl⟩, Nat.succ_ne_self _⟩, fun b hb => ?_, w2⟩
        · rw [show k0 + ((0 : Nat) : Int) = k0 by omega]
          exact qe
        · have hle : st2.heap.objs.size ≤ b := by
            rcases List.mem_cons.mp hb with z | z
            · rw [z]; exact Nat.le_succ _
            · rw [List.mem_singleton.mp z]; exact Nat.le_refl _
          exact In2.fpOk hle (In2.hok.fresh hle)⟩
end SkR

set_option maxHeartbeats 4000000
/-! {x for x in a list of texts}, and its len. -/
namespace SkR
open PySem PySem.Spec PyProof.Rows L2
/-- how many unlike ones -/
def dcR : List Str → Nat
  | [] => 0
  | x :: r => if x ∈ r then dcR r else dcR r + 1
def dcount (zs : List Str) : Nat := dcR zs.reverse
theorem dcR_le : ∀ l : List Str, dcR l ≤ l.length
  | [] => Nat.le_refl _
  | x :: r => by
    have := dcR_le r
    unfold dcR
    split <;> simp only [List.length_cons] <;> omega
theorem dcR_nodup : ∀ l : List Str, dcR l = l.length ↔ l.Nodup
  | [] => ⟨fun _ => List.nodup_nil, fun _ => rfl⟩
  | x :: r => by
    have ih := dcR_nodup r
    have le := dcR_le r
    unfold dcR
    rw [List.nodup_cons]
    by_cases h : x ∈ r
    · rw [if_pos h]
      simp only [List.length_cons]
      exact ⟨fun z => by omega, fun z => absurd h z.1⟩
    · rw [if_neg h]
      simp only [List.length_cons]
      exact ⟨fun z => ⟨h, ih.mp (by omega)⟩, fun z => by have := ih.mpr z.2; omega⟩
theorem dcount_le (zs : List Str) : dcount zs ≤ zs.length := by
  have := dcR_le zs.reverse
  rwa [List.length_reverse] at this
theorem dcount_nodup (zs : List Str) : dcount zs = zs.length ↔ zs.Nodup := by
  have := dcR_nodup zs.reverse
  rw [List.length_reverse, (List.reverse_perm zs).nodup_iff] at this
  exact this
theorem dcount_snoc (zs : List Str) (x : Str) : dcount (zs ++ [x]) = if x ∈ zs then dcount zs else dcount zs + 1 := by
  unfold dcount
  rw [List.reverse_append]
  show (if x ∈ zs.reverse then dcR zs.reverse else dcR zs.reverse + 1) = _
  simp only [List.mem_reverse]
def memS (zs : List Str) : Key → Bool
  | .inr z => decide (z ∈ zs)
  | .inl _ => false
theorem memS_snoc (zs : List Str) (x : Str) : (fun j => memS zs j || decide (j = .inr x)) = memS (zs ++ [x]) := by
  funext j
  cases j with
  | inl i => simp [memS]
  | inr z =>
    show (decide (z ∈ zs) || decide ((Sum.inr z : Key) = Sum.inr x)) = decide (z ∈ zs ++ [x])
    rw [Bool.eq_iff_iff]
    simp
/-- the set of these texts -/
abbrev SetZ (P : Program) (w : World) (a : Addr) (zs : List Str) : HO := SetK P w a (memS zs) (dcount zs)
def tScZ (P : Program) (w : World) (K : PySem.W.Frag) (ti : TE) : TE := fun σ H Q => ti σ H fun x H1 => ∃ a zs, x = .ref a ∧ SqL K H1 a (zs.map V.str) ∧ zs.length < 4000 ∧ ∀ D, H1 D = none → Q (.ref D) (upd H1 D (SetZ P w D zs))
section
variable {X : Cx} {y : Str} {iter : Expr} {p1 p2 pos : Pos} {scope : Scope} {ti : TE}
theorem nsK {h h' : Heap} {C : Addr} {m : Str → Option Value} (n : h.Ns C m) (k : ∀ o, h.get? C = some o → h'.get? C = some o) : h'.Ns C m := by
  obtain ⟨o, es, ep, ho, r⟩ := n
  exact ⟨o, es, ep, k o ho, r⟩
theorem pe_scZ (hc : X.calm = true) (hi : PE X iter ti) (hk : scope.kind = .function) (hlk : scope.names.lookup y = some .local) (hall : ∀ z ∈ scope.names, z.2 = .local ∧ scope.names.lookup z.1 = some .local) (hdb : (y == ("__debug__" : Str)) = false)
    (hs : ∀ x, foldedSetIterable iter X.env x = pure x := by intro _; rfl) :
    PE X (.SetComp (.Name y p1) [⟨.Name y p2, iter, [], 0⟩] scope pos) (tScZ X.prog X.w X.K ti) := by
  refine ⟨fun pins s σ H Q I h => ?_⟩
  have hcell : ∀ z ∈ scope.names, z.2 ≠ .cell := fun z hz e => by rw [(hall z hz).1] at e; cases e
  have hnm : ∀ z ∈ scope.names, z.2 = .local → scope.names.lookup z.1 = some .local := fun z hz _ => (hall z hz).2
  refine SetComp_goes (cl := cloFrom X.env.cells scope.names []) (closure_ok fun z hz e => by rw [(hall z hz).1] at e; cases e) hcell hk hnm (thn (hi.run pins s σ H _ I h) fun v s1 ⟨x, H1, I1, r1, q1⟩ => ?_) hs
  obtain ⟨a, zs, rfl, hq, hl, q⟩ := q1
  cases r1
  obtain ⟨its, rv, pl, hz⟩ := I1.list hq
  refine wpAny_pyIter_list pl.isList ?_
  generalize hI : s1.heap.objs.size = J
  have la : a < J := by rw [← hI]; exact pl.lt
  have hlen : its.length = zs.length := by
    have := rv.length
    rw [List.length_map] at this
    exact this.symm
  have I2 : Inv X pins σ H1 { s1 with heap := s1.heap.push { cls := .type "list_iterator", data := .fields #[.ref a, .int 0 0] } } := I1.kept (t' := s1.toks) fun b o e => Heap.get?_push_of_some _ e
  refine ⟨J, [J, a], [J], _, _, _, rfl, Goes.list (I.ok.hd hc) J a (Nat.ne_of_lt la) its.toArray, ⟨⟨_, by rw [← hI]; exact Heap.get?_push_size _ rfl, rfl, rfl⟩, (pl.at fun o e => Heap.get?_push_of_some _ e).isList⟩, fun D C s3 B hD => ?_⟩
  have J2 : FpOk X pins H1 J := I1.fpOk (Nat.le_of_eq hI) (I1.hok.fresh (Nat.le_of_eq hI))
  have hN : H1 D = none := I2.hok.fresh B.newD
  have C2 : FpOk X pins H1 C := I2.fpOk B.newC (I2.hok.fresh B.newC)
  have nDJ : J ≠ D := fun e => by
    have := B.newD
    simp only [Heap.size_push] at this
    omega
  have nCJ : J ≠ C := fun e => by
    have := B.newC
    simp only [Heap.size_push] at this
    omega
  have nDC : D ≠ C := B.ne
  have jD : J < D := by
    have := B.newD
    simp only [Heap.size_push] at this
    omega
  have jC : J < C := by
    have := B.newC
    simp only [Heap.size_push] at this
    omega
  have aD : a ≠ D := Nat.ne_of_lt (Nat.lt_trans la jD)
  have aC : a ≠ C := Nat.ne_of_lt (Nat.lt_trans la jC)
  have dwn : ∀ {s' : Shared} {i : Nat} {h' : Heap} {t' : Nat} {b0 : Addr}, Inv X pins σ (upd H1 D (SetZ X.prog X.w D (zs.take i))) s' → FpOk X pins H1 b0 → b0 ≠ D → (∀ b o, b ≠ b0 → s'.heap.get? b = some o → h'.get? b = some o) →
      Inv X pins σ (upd H1 D (SetZ X.prog X.w D (zs.take i))) { s' with heap := h', toks := t' } := fun I' f n k => I'.turned k ((upd_ne n).trans f.1) f.2.1 f.2.2.2.1 f.2.2.2.2.1 f.2.2.2.2.2
  have hkd : Env.kindOf (compEnvC scope (cloFrom X.env.cells scope.names []) C X.env) y = some .local := lookup_relabel_local hlk
  refine ⟨fun i s' => Inv X pins σ (upd H1 D (SetZ X.prog X.w D (zs.take i))) s' ∧ ∃ m, s'.heap.Ns C m, ⟨?_, _, B.names⟩, fun i s' h' tk ⟨I', m, n⟩ k _ => ⟨?_, m, ?_⟩, fun i v s' hi' hv st ⟨I', m, n⟩ => ?_, fun s' ⟨I', m, n⟩ => ?_⟩
  · obtain ⟨h3, t3, rfl⟩ := B.only
    refine I2.laid (t' := t3) B.old B.newD (setK_new ?_)
    have e1 : memS (zs.take 0) = fun _ => false := by
      funext j
      cases j <;> rfl
    rw [e1]
    exact ⟨_, #[], 0, _, hD, ⟨rfl, rfl, rfl⟩, rfl, (fun e he => absurd he (by simp)), (fun k => by simp), (by decide), rfl, rfl⟩
  · exact dwn I' J2 nDJ fun b o hb => k b o (fun z => hb (List.mem_singleton.mp z))
  · obtain ⟨o, es, ep, ho, r⟩ := n
    exact ⟨o, es, ep, k C o (fun z => nCJ (List.mem_singleton.mp z).symm) ho, r⟩
  · have hv' : its[i]? = some v := by
      rw [← hv]
      simp
    have hlt : i < zs.length := by
      have := (List.getElem?_eq_some_iff.mp hv').1
      omega
    obtain ⟨u, hu, ru⟩ := rv.get (i := i) (x := V.str zs[i]) (by rw [List.getElem?_map, List.getElem?_eq_getElem hlt]; rfl)
    rw [hv'] at hu
    cases hu
    refine wpAny_assign_Name (wpAny_storeName_local hkd n (fun h4 n4 sb4 => ?_) ?_)
    · show wpAny _ _ (pure true) _ _ _
      refine wpAny_pure ?_
      simp only [if_true]
      refine wpAny_Name (wpAny_loadName_local hk hkd n4 (if_pos rfl) ?_) hdb
      have I4 := dwn (t' := s'.toks + 1) I' C2 (Ne.symm nDC) (fun b o hb q => (sb4.2 b hb).trans q)
      refine call_set_add (kV_is (k := .inr zs[i]) ru) (key_scan (k := .inr zs[i]) ru) (setK_get I4 upd_same) ?_ fun h5 sb5 new => ⟨⟨?_, _, nsK n4 fun o q => (sb5.2 C (Ne.symm nDC)).trans q⟩, ?_⟩
      · have := dcount_le (zs.take i)
        rw [List.length_take] at this
        show _ < 4096
        omega
      · have he : ∃ u, h5.get? D = some u := by
          obtain ⟨o, _, _, _, ho, _⟩ := new
          exact ⟨o, ho⟩
        have I5 := I4.write (x := D) (e := D) (h' := h5) (t' := s'.toks + 1 + 1) (by rw [upd_same]; trivial) (.inl rfl) (fun b u hb hu => (sb5.2 b hb).trans hu) he (setK_new new)
        have e2 : zs.take (i + 1) = zs.take i ++ [zs[i]] := by rw [List.take_succ, List.getElem?_eq_getElem hlt]; rfl
        have e3 : SetK X.prog X.w D (fun k' => memS (zs.take i) k' || decide (k' = .inr zs[i])) (if memS (zs.take i) (.inr zs[i]) = true then dcount (zs.take i) else dcount (zs.take i) + 1) = SetZ X.prog X.w D (zs.take (i + 1)) := by
          rw [memS_snoc, e2]
          unfold SetZ
          rw [dcount_snoc]
          congr 1
          show (if decide _ = true then _ else _) = _
          simp only [decide_eq_true_eq]
        rw [e3] at I5
        have e4 : upd (upd H1 D (SetZ X.prog X.w D (zs.take i))) D (SetZ X.prog X.w D (zs.take (i + 1))) = upd H1 D (SetZ X.prog X.w D (zs.take (i + 1))) := by
          funext b
          unfold upd
          split <;> rfl
        rw [e4] at I5
        exact I5
      · exact ⟨(st.1.at fun o q => (sb4.2 J nCJ).trans q).at fun o q => (sb5.2 J nDJ).trans q, (st.2.at fun o q => (sb4.2 a aC).trans q).at fun o q => (sb5.2 a aD).trans q⟩
    · show (scope.kind == .class || (scope.kind == .module && _)) = false
      rw [hk]
      rfl
  · refine ⟨m, n, fun h' sb => ⟨.ref D, upd H1 D (SetZ X.prog X.w D zs), ?_, rfl, q D hN⟩⟩
    have e : zs.take its.toArray.size = zs := by
      rw [show its.toArray.size = zs.length from by simp; exact hlen, List.take_length]
    rw [e] at I'
    have I5 := I'.turned (t' := s'.toks) (h' := h') (it := C) (fun b o hb q => (sb.2 b hb).trans q) ((upd_ne (Ne.symm nDC)).trans C2.1) C2.2.1 C2.2.2.2.1 C2.2.2.2.2.1 C2.2.2.2.2.2
    exact I5
/-- len of it -/
def rLenZ (P : Program) (w : World) : List V → Hp → VK → Prop := fun xs H Q => ∃ p zs, xs = [.ref p] ∧ H p = some (SetZ P w p zs) ∧ Q (.int (dcount zs)) H
theorem call_lenZ : CallR X (.builtin "len") (rLenZ X.prog X.w) := by
  intro pins s σ H xs us Q I r h
  obtain ⟨p, zs, rfl, hp, q⟩ := h
  cases r with
  | cons ra rr =>
    cases rr
    cases ra
    obtain ⟨o, es, ep, t, ho, ex, hd, _, _, hb, hf, hn⟩ := setK_get I hp
    refine call_len_set ho ex hd hf (by have hb : es.size < 4096 := hb; omega) ⟨.int (dcount zs), H, I.tok _, ⟨_, by rw [hn]⟩, q⟩
end
end SkR

set_option maxHeartbeats 4000000
/-! sum(a list of numbers, start=k) -/
namespace SkR
open PySem PySem.Spec PyProof.Rows L2
def tSumLS (K : PySem.W.Frag) (ta tk : TA) : TE := fun σ H Q => ta σ H fun vs H1 => tk σ H1 fun zs H2 => ∃ (a : Addr) (ns : List Int) (n : Int), vs = [V.ref a] ∧ zs = [V.int n] ∧ SqL K H2 a (ns.map V.int) ∧ Q (.int (n + ns.sum)) H2
theorem preSum_take (ns : List Int) : ∀ i, i ≤ ns.length → preSum (fun j => (ns[j]?).getD 0) i = (ns.take i).sum
  | 0, _ => by simp [preSum]
  | i + 1, h => by
    have hi : i < ns.length := by omega
    have e : ns.take (i + 1) = ns.take i ++ [ns[i]] := by rw [List.take_succ, List.getElem?_eq_getElem hi]; rfl
    rw [preSum, preSum_take ns i (by omega), e, List.sum_append, List.getElem?_eq_getElem hi]
    show _ + ns[i] = _ + (ns[i] + 0)
    omega
theorem pe_sumLS {X : Cx} {e : Expr} {ta tk : TA} {p pos : Pos} {kws : List Keyword} (hc : X.calm = true) (hg : Gl X "sum") (hm : X.mg "sum" = none) (ha : PA X [e] ta) (hk : PK X kws tk)
    (hse : starEach [e] X.env = (false, eval e X.env) :: starEach [] X.env := by rfl) (hpl : (backTo pos (starEach [e] X.env)).any (·.1) = false := by rfl)
    (hb : backTo pos (starEach [e] X.env) = (false, eval e X.env) :: backTo pos (starEach [] X.env) := by rfl)
    (hall : (backToKw pos (keywordEach kws X.env)).all (·.1.isSome) = true := by rfl) (hks : (backToKw pos (keywordEach kws X.env)).filterMap (·.1) = [Str.ofString "start"] := by rfl) (hkw : (backToKw pos (keywordEach kws X.env)).any (·.1.isNone) = false := by rfl) :
    PE X (.Call (.Name "sum" p) [e] kws pos) (tSumLS X.K ta tk) := by
  refine ⟨fun pins s σ H Q I h => ?_⟩
  refine wpAny_Call_Name_kw (ld_blt I hg hm (u := .builtin "sum") (by first | rfl | decide +kernel) ?_ (by first | decide +kernel | decide) (by first | decide +kernel | decide))
  refine PyProof.Rows.callWith_kw (thn (ha.run pos pins s σ H _ I h) fun us s1 ⟨vs, H1, I1, r1, q1⟩ => thn (hk.run pos pins s1 σ H1 _ I1 q1) fun ws s2 ⟨zs, H2, I2, rz, a, ns, n, ev, ez, hq, q2⟩ => ?_) hb hpl hall hkw
  subst ev ez
  rw [hks]
  obtain ⟨its, rv, pl, hz⟩ := I2.list hq
  rw [Vals.ref1 r1]
  obtain ⟨w0, rfl, t, rfl⟩ := rz.one
  have hl := rv.length
  rw [List.length_map] at hl
  have la := pl.lt
  refine SkW.call_sum_start (wpAny_pyIter_list pl.isList ⟨_, _, _, its.toArray.size, _, _, (fun j => (ns[j]?).getD 0), rfl, Walks.list (show (X.A.in1).handled = none from I2.ok.hd hc) s2.heap.objs.size a (Nat.ne_of_lt la) its.toArray, ?_, fun b hb => ?_, fun i v hv => ?_, fun h' tk t' hk => ?_⟩)
  · exact ⟨⟨_, Heap.get?_push_size _ rfl, rfl, rfl⟩, (pl.at fun o e => Heap.get?_push_of_some _ e).isList⟩
  · have hb : b ∈ [s2.heap.objs.size, a] := hb
    rcases List.mem_cons.mp hb with z | z
    · rw [z, Heap.size_push]; exact Nat.lt_succ_self _
    · rw [List.mem_singleton.mp z, Heap.size_push]; exact Nat.lt_succ_of_lt la
  · have hv : its.toArray[i]? = some v := hv
    have hv : its[i]? = some v := by rw [← hv]; simp
    have hi : i < ns.length := by
      have := (List.getElem?_eq_some_iff.mp hv).1
      omega
    obtain ⟨u, hu, ru⟩ := rv.get (i := i) (x := V.int ns[i]) (by rw [List.getElem?_map, List.getElem?_eq_getElem hi]; rfl)
    rw [hv] at hu
    cases hu
    obtain ⟨t, rfl⟩ := ru
    exact ⟨t, by show _ = Value.int ((ns[i]?).getD 0) t; rw [List.getElem?_eq_getElem hi]; rfl⟩
  · have e : preSum (fun j => (ns[j]?).getD 0) its.toArray.size = ns.sum := by
      rw [show its.toArray.size = ns.length by simp; exact hl.symm, preSum_take ns _ (Nat.le_refl _), List.take_length]
    rw [e]
    refine ⟨.int (n + ns.sum), H2, ?_, ⟨_, rfl⟩, q2⟩
    have I3 : Inv X pins σ H2 { s2 with heap := s2.heap.push { cls := .type "list_iterator", data := .fields #[.ref a, .int 0 0] } } := I2.kept (t' := s2.toks) fun b o e => Heap.get?_push_of_some _ e
    have f := I2.fpOk (Nat.le_refl _) (I2.hok.fresh (Nat.le_refl _))
    exact I3.turned (it := s2.heap.objs.size) (fun b o hb => hk b o (fun z => hb (List.mem_singleton.mp z))) f.1 f.2.1 f.2.2.2.1 f.2.2.2.2.1 f.2.2.2.2.2
end SkR

set_option maxHeartbeats 4000000
/-! sets of texts that can be walked: made of a list, sorted -/
namespace SkR
open PySem PySem.Spec PyProof.Rows L2
def nameOf (e : Int × Value) : Str := match e.2 with
  | .str k _ => k
  | _ => Str.empty
def TxtE (P : Program) (w : World) (e : Int × Value) : Prop := ∃ k tk, e.2 = Value.str k tk ∧ e.1 = (strKind P w).hash k
structure TabS (P : Program) (w : World) (es : Array (Int × Value)) (t : SetTable) (zs : List Str) : Prop where
  good : ∀ e ∈ es.toList, TxtE P w e
  nd : (es.toList.map nameOf).Nodup
  mem : ∀ k, k ∈ es.toList.map nameOf ↔ k ∈ zs
  len : es.size ≤ zs.length
  few : es.size < scanBound
  fits : t.fits es.size = true
  ris : Ris t.place.toList
  led : w.params.followText "set-order" = true ∨ t.led = true
def SetS (P : Program) (w : World) (h : Heap) (a : Addr) (zs : List Str) : Prop := ∃ o es ep t, h.get? a = some o ∧ o.ExactSet ∧ o.data = .set es ep t ∧ TabS P w es t zs
section
variable {P : Program} {w : World} {h h' : Heap} {a : Addr} {zs : List Str} {es : Array (Int × Value)} {t : SetTable}
theorem SetS.keep (R : SetS P w h a zs) (k : ∀ o, h.get? a = some o → h'.get? a = some o) : SetS P w h' a zs := by
  obtain ⟨o, es, ep, t, ho, r⟩ := R
  exact ⟨o, es, ep, t, k o ho, r⟩
theorem SetS.lt (R : SetS P w h a zs) : a < h.objs.size := by
  obtain ⟨o, _, _, _, ho, _⟩ := R
  exact Heap.lt_size ho
theorem TxtE.is {e : Int × Value} (g : TxtE P w e) (k : Str) : (strKind P w).is k e.2 = true ↔ nameOf e = k := by
  obtain ⟨k0, tk, h1, _⟩ := g
  unfold nameOf
  rw [h1]
  show (Value.str k0 tk).isStrOf k = true ↔ k0 = k
  unfold Value.isStrOf
  exact beq_iff_eq
theorem TabS.elems (T : TabS P w es t zs) : ElemsOf (strKind P w) es.toList := fun e he => by
  obtain ⟨k, tk, h1, h2⟩ := T.good e he
  exact ⟨⟨k, by rw [h1]; exact strKind_is P w k tk, h2⟩, by rw [h1]; rfl⟩
theorem TabS.found (T : TabS P w es t zs) (k : Str) : k ∈ zs ↔ ∃ e ∈ es.toList, (strKind P w).is k e.2 = true := by
  rw [← T.mem k, List.mem_map]
  exact ⟨fun ⟨e, he, q⟩ => ⟨e, he, ((T.good e he).is k).2 q⟩, fun ⟨e, he, q⟩ => ⟨e, he, ((T.good e he).is k).1 q⟩⟩
end
section
variable {P : Program} {w : World} {A : Around} {E : Value → Shared → Prop} {s : Shared} {a : Addr} {zs : List Str}
theorem stored {h : Heap} {o : Obj} {es es' : Array (Int × Value)} {ep : Nat} {t t' : SetTable} (ho : h.get? a = some o) (hd : o.data = .set es ep t) :
    (h.update a (Obj.putSet es' t')).get? a = some { o with data := .set es' (ep + 1) t' } := store_at ho hd
/-- the new table is stored; too full a one is laid anew -/
theorem put_txt {g : Bool → Sem Unit} (hg : ∀ (b : Bool) (s₁ : Shared) (Q' : Unit → Shared → Prop), Q' () s₁ → wpAny (model P w) A (g b) Q' E s₁) {o : Obj} {es es1 : Array (Int × Value)} {ep : Nat} {t t1 : SetTable} {zs' : List Str} {wasDummy : Bool} {R : Option Bool → Shared → Prop}
    (ho : s.heap.get? a = some o) (hx : o.ExactSet) (hd : o.data = .set es ep t) (T : TabS P w es1 t1 zs') (hR : ∀ h', Heap.SameBut a s.heap h' → SetS P w h' a zs' → R (some true) { s with heap := h' }) :
    wpAny (model P w) A (do
        storeSet a es1 t1
        if (!wasDummy && t1.tooFull) = true then do
            g (relayAll t1 es1 (SetTable.grown es1.size)).2.2
            storeSet a (relayAll t1 es1 (SetTable.grown es1.size)).1 (relayAll t1 es1 (SetTable.grown es1.size)).2.1
            pure (some true)
          else pure (some true)) R E s := by
  have b1 := Heap.SameBut.update s.heap a (Obj.putSet es1 t1)
  have o1 := stored (es' := es1) (t' := t1) ho hd
  refine wpAny_bind (wpAny_storeSet_of ho hd ?_ (fits_of_scanBound T.few))
  split
  case isFalse => exact wpAny_pure (hR _ b1 ⟨_, es1, _, t1, o1, hx, rfl, T⟩)
  case isTrue =>
    have p1 := relayAll_perm t1 es1 (SetTable.grown es1.size)
    have p2 := relayAll_fits t1 es1 (SetTable.grown es1.size)
    have p3 := relayAll_ris t1 es1 (SetTable.grown es1.size)
    have p4 := relayAll_led t1 es1 (SetTable.grown es1.size)
    generalize relayAll t1 es1 (SetTable.grown es1.size) = z at p1 p2 p3 p4 ⊢
    obtain ⟨es2, t2, gave⟩ := z
    have p1 : es2.toList.Perm es1.toList := p1
    have sz : es2.size = es1.size := by rw [← Array.length_toList, p1.length_eq, Array.length_toList]
    have T2 : TabS P w es2 t2 zs' := ⟨fun e he => T.good e (p1.mem_iff.mp he), (p1.map nameOf).nodup_iff.mpr T.nd, fun k => (p1.map nameOf).mem_iff.trans (T.mem k), by rw [sz]; exact T.len, by rw [sz]; exact T.few, p2, p3,
      T.led.imp id fun z => (show t2.led = t1.led from p4) ▸ z⟩
    refine wpAny_bind (hg _ _ _ (wpAny_bind (wpAny_storeSet_of o1 rfl ?_ (fits_of_scanBound T2.few))))
    exact wpAny_pure (hR _ (b1.trans (Heap.SameBut.update _ a _)) ⟨_, es2, _, t2, stored o1 rfl, hx, rfl, T2⟩)
theorem add_txt {z : Str} {tk : Tok} {Q : Bool → Shared → Prop} (R : SetS P w s.heap a zs) (room : zs.length + 1 < scanBound)
    (hQ : ∀ b h', Heap.SameBut a s.heap h' → SetS P w h' a (zs ++ [z]) → Q b { s with heap := h' }) : wpAny (model P w) A (setAddHashed a (.str z tk) ((strKind P w).hash z)) Q E s := by
  obtain ⟨o, es, ep, t, ho, hx, hd, T⟩ := R
  have key : (strKind P w).is z (.str z tk) = true := strKind_is P w z tk
  have sc : (Value.str z tk).scannable = true := rfl
  unfold setAddHashed setAddHashedIn
  refine wpAny_holding (wpAny_bind (wpAny_setState_of ho hd T.fits ?_))
  dsimp only
  rw [byScan_of sc T.few T.elems]
  simp only [↓reduceIte]
  unfold setAddByScan
  refine wpAny_bind (wpAny_bind (wpAny_rule (wpAny_bind (wpAny_setScan_of key ho hd T.fits T.elems ?_))))
  cases fi : List.findIdx? (fun e => (strKind P w).is z e.2) es.toList with
  | some j =>
    dsimp only
    obtain ⟨hj, pj, _⟩ := List.findIdx?_eq_some_iff_getElem.mp fi
    have old : z ∈ zs := (T.found z).2 ⟨es.toList[j], List.getElem_mem hj, pj⟩
    refine wpAny_pure (wpAny_pure (hQ _ s.heap (Heap.SameBut.refl a s.heap) ⟨o, es, ep, t, ho, hx, hd, ⟨T.good, T.nd, fun k => (T.mem k).trans ⟨fun q => List.mem_append_left _ q, fun q => ?_⟩, ?_, T.few, T.fits, T.ris, T.led⟩⟩))
    · rcases List.mem_append.mp q with q | q
      · exact q
      · rw [List.mem_singleton.mp q]
        exact old
    · rw [List.length_append]
      exact Nat.le_trans T.len (Nat.le_add_right _ _)
  | none =>
    dsimp only
    have new : z ∉ es.toList.map nameOf := fun q => by
      obtain ⟨e, he, c⟩ := (T.found z).1 ((T.mem z).1 q)
      rw [List.findIdx?_eq_none_iff.mp fi e he] at c
      cases c
    have gave : ∀ (b : Bool) {s₁ : Shared} {Q' : Unit → Shared → Prop}, Q' () s₁ → wpAny (model P w) A (match b with | true => rule "set.scan.the-table-gave-way" | false => pure ()) Q' E s₁ := fun b s₁ Q' q => by
      cases b
      · exact wpAny_pure q
      · exact wpAny_rule q
    have p1 := layNew_perm t es ((strKind P w).hash z) (.str z tk)
    have p2 := layNew_fits t es ((strKind P w).hash z) (.str z tk)
    have p3 := layNew_ris t es ((strKind P w).hash z) (.str z tk) T.ris
    have p4 := layNew_led t es ((strKind P w).hash z) (.str z tk)
    generalize layNew t es ((strKind P w).hash z) (.str z tk) = y at p1 p2 p3 p4 ⊢
    obtain ⟨es1, t1, wasDummy, gv⟩ := y
    dsimp only at p1 p2 p3 p4 ⊢
    have pc : es1.toList.Perm (((strKind P w).hash z, Value.str z tk) :: es.toList) := by
      rw [Array.toList_push] at p1
      exact p1.trans (List.perm_append_singleton _ _)
    have pn : (es1.toList.map nameOf).Perm (z :: es.toList.map nameOf) := pc.map nameOf
    have sz : es1.size = es.size + 1 := by rw [← Array.length_toList, pc.length_eq, List.length_cons, Array.length_toList]
    have T1 : ∀ t', t'.fits es1.size = true → Ris t'.place.toList → (w.params.followText "set-order" = true ∨ t'.led = true) → TabS P w es1 t' (zs ++ [z]) := fun t' q1 q2 q3 =>
      ⟨fun e he => (List.mem_cons.mp (pc.mem_iff.mp he)).elim (fun q => ⟨z, tk, by rw [q], by rw [q]⟩) (T.good e), pn.nodup_iff.mpr (List.nodup_cons.mpr ⟨new, T.nd⟩), fun k => by
        rw [pn.mem_iff, List.mem_cons, T.mem k, List.mem_append, List.mem_singleton]
        exact Or.comm, by rw [sz, List.length_append]; exact Nat.add_le_add_right T.len 1, by rw [sz]; exact Nat.lt_of_le_of_lt (Nat.add_le_add_right T.len 1) room, q1, q2, q3⟩
    have led1 : w.params.followText "set-order" = true ∨ t1.led = true := T.led.imp id fun q => p4 ▸ q
    refine wpAny_bind (gave _ ?_)
    split
    · refine wpAny_bind ?_
      rw [hashByValue_scannable 8 sc]
      refine wpAny_pure ?_
      refine put_txt (fun b s₁ Q' q => gave b q) ho hx hd (T1 _ ?_ ?_ ?_) ?_
      · split
        · exact p2
        · exact SetTable.fits_plain_off p2
      · split <;> exact p3
      · split <;> exact led1
      · intro h' sb r
        dsimp only
        exact wpAny_pure (hQ _ h' sb r)
    · refine wpAny_bind (wpAny_pure ?_)
      simp only [↓reduceIte]
      refine put_txt (fun b s₁ Q' q => gave b q) ho hx hd (T1 _ p2 p3 led1) ?_
      intro h' sb r
      dsimp only
      exact wpAny_pure (hQ _ h' sb r)
end
end SkR

set_option maxHeartbeats 4000000
/-! set(a list of texts), sorted of it -/
namespace SkR
open PySem PySem.Spec PyProof.Rows L2
section
variable {P : Program} {w : World} {A : Around} {E : Value → Shared → Prop} {s : Shared}
theorem fresh_txt {h : Heap} {a : Addr} (ho : h.get? a = some { cls := .type "set", dict := none, data := .set #[] 0 (.fresh 0 0 (!w.params.followText "set-order")) }) : SetS P w h a [] := by
  refine ⟨_, #[], 0, _, ho, ⟨rfl, rfl, rfl⟩, rfl, ⟨fun e he => absurd he (by simp), by simp, fun k => by simp, Nat.le_refl 0, by decide, rfl, List.Pairwise.nil, ?_⟩⟩
  show _ ∨ (!w.params.followText "set-order") = true
  cases w.params.followText "set-order" <;> simp
theorem more_txt {I S : Addr} {fp wr : List Addr} {G : Array GenState → Array GenState → Prop} {n : Nat} {Pv : Nat → Value → Prop} {St : Nat → Shared → Prop} {R : Result → Shared → Prop} {zs : List Str} (W : WalksS P w A.in1 I fp wr G n Pv St) (hf : S ∉ fp)
    (hn : n = zs.length) (hb : zs.length + 1 < scanBound) (hv : ∀ (i : Nat) (v : Value), Pv i v → ∃ (z : Str) (t : Tok), zs[i]? = some z ∧ v = Value.str z t) : ∀ (k i : Nat) (s : Shared), n - i = k → i ≤ n → St i s → SetS P w s.heap S (zs.take i) →
    (∀ s', Moved (S :: wr) G s s' → SetS P w s'.heap S zs → R (.ok (.ret .none)) s') → codeAny (model P w) A (.builtin "set.update.loop" ⟨[.ref S, .ref I], []⟩) R s := by
  have nw : S ∉ wr := fun q => hf (W.sub _ q)
  have up : ∀ b ∈ wr, b ∈ S :: wr := fun b q => .tail _ q
  intro k
  induction k with
  | zero =>
    intro i s hk hi st R0 fin
    obtain rfl : i = n := by omega
    rw [List.take_of_length_le (Nat.le_of_eq hn.symm)] at R0
    refine codeAny_builtin F.entry_set_update_loop ?_; rw [Around.under_plainId F.plain_set_update_loop _]
    exact wpAny_bind (W.done s _ _ st fun s' mv => wpAny_pure (fin s' (mv.mono up) (R0.keep fun o q => mv.heap S o nw q)))
  | succ k ih =>
    intro i s hk hi st R0 fin
    have lt : i < n := by omega
    refine codeAny_builtin F.entry_set_update_loop ?_; rw [Around.under_plainId F.plain_set_update_loop _]
    refine wpAny_bind (W.item i s _ _ lt st fun v s' pv st' mv => ?_)
    obtain ⟨z, t, ez, rfl⟩ := hv i v pv
    have R1 : SetS P w s'.heap S (zs.take i) := R0.keep fun o q => mv.heap S o nw q
    have e1 : zs.take (i + 1) = zs.take i ++ [z] := by rw [List.take_add_one, ez]; rfl
    have room : (zs.take i).length + 1 < scanBound := by rw [List.length_take]; omega
    show wpAny _ A.in1 (holding [Value.str z t] (setAdd S (.str z t)) >>= _) _ _ s'
    refine wpAny_bind (wpAny_holding ?_)
    unfold setAdd
    refine wpAny_holding (wpAny_bind ((strKind P w).pyHash (strKind_is P w z t) (add_txt (s := { s' with toks := s'.toks + 1 }) R1 room fun b h2 sb R2 => ?_)))
    rw [← e1] at R2
    refine wpAny_pure ⟨plainId_quiet F.plain_set_update_loop _, ih (i + 1) _ (by omega) lt (W.frame _ s' _ _ st' (Nat.le_succ _) fun b q o e => (sb.2 b fun z => hf (z ▸ q)).trans e) R2 fun s'' mv2 R3 => fin s'' (Moved.trans W.gtrans ((mv.mono up).then_heap (Nat.le_succ _) fun b o q e => ?_) mv2) R3⟩
    exact (sb.2 b fun z => q (by rw [z]; exact .head _)).trans e
set_option maxHeartbeats 8000000 in
theorem call_set_txt {l : Addr} {items : Array Value} {zs : List Str} {Q : Value → Shared → Prop} (hh : A.handled = none) (hl : s.heap.IsList l items) (hz : items.size = zs.length) (hv : ∀ (i : Nat) (v : Value), items[i]? = some v → ∃ (z : Str) (t : Tok), zs[i]? = some z ∧ v = Value.str z t)
    (hb : zs.length + 1 < scanBound) (h : ∀ (h' : Heap) (tk : Nat), SetS P w h' s.heap.objs.size zs → (∀ b o, s.heap.get? b = some o → h'.get? b = some o) → Q (.ref s.heap.objs.size) { s with heap := h', toks := tk }) :
    wpAny (model P w) A (call (.type "set") [.ref l]) Q E s := by
  obtain ⟨c, tl, hmro⟩ := F.called_set.mro
  have made := F.called_set.made
  have sub := F.called_set.sub
  have n1 := F.called_set.notType
  have n2 := F.called_set.canCreate
  have n3 := F.typeCall_set_1 (.ref l)
  refine wpAny_call (codeAny_of_tree (show wpAny _ _ (callAny (.type "set") _) _ _ _ from wpAny_pure ⟨Code.quiet_builtin _ (by decide +kernel), codeAny_builtin F.entry_type_call ?_⟩))
  rw [Around.under_plain (weight_type_call_type "set" [.ref l] []) rfl]
  repeat (any_goals (first | assumption | wp_step))
  generalize hH : s.heap.push { cls := .type "set", dict := none, data := .set #[] 0 (.fresh 0 0 (!w.params.followText "set-order")) } = hp
  refine codeAny_mono (code_set_led1 (.ref l) (E := E) (Q₁ := fun ob s1 => ob = .ref s.heap.objs.size ∧ s1 = { s with heap := hp }) ⟨rfl, by rw [hH]⟩) fun r s1 hr => ?_
  have nwS : hp.get? s.heap.objs.size = some { cls := .type "set", dict := none, data := .set #[] 0 (.fresh 0 0 (!w.params.followText "set-order")) } := by rw [← hH]; exact Heap.get?_push_size _ rfl
  have old : ∀ b o, s.heap.get? b = some o → hp.get? b = some o := fun b o q => by rw [← hH]; exact Heap.get?_push_of_some _ q
  have szp : hp.objs.size = s.heap.objs.size + 1 := by rw [← hH, Heap.size_push]
  cases r with
  | error e => exact hr
  | ok fl =>
    cases fl with
    | ret ob =>
      obtain ⟨rfl, rfl⟩ := hr
      have hT : Shared.TypeIs { s with heap := hp } (.ref s.heap.objs.size) "set" := ⟨_, nwS, rfl⟩
      have hli := F.called_set.init.lookup
      have hbi := F.called_set.init.bind (.ref s.heap.objs.size)
      repeat (any_goals (first | assumption | wp_step))
      refine codeAny_mono (codeAny_call_builtin (R := wants (fun r s2 => r = .none ∧ ∃ h' tk, s2 = { s with heap := h', toks := tk } ∧ SetS P w h' s.heap.objs.size zs ∧ ∀ b o, s.heap.get? b = some o → h'.get? b = some o) E) F.called_set.init.plain F.entry_set_init (check_set_init_1 hT ?_)) fun r2 s2 hr2 => ?_
      · obtain ⟨⟨oc, od, dt, sl⟩, ho, hc, nl, hd⟩ := hl
        dsimp only at hc hd
        subst hc hd
        have ho2 : hp.get? l = some { cls := .type "list", dict := od, data := .seq items nl, slots := sl } := old _ _ ho
        have q1 := F.sub_list_set
        have q2 := F.sub_list_frozenset
        have q3 : (Value.type "list" == Value.type "dict") = false := by decide
        have hl2 : hp.IsList l items := ⟨_, ho2, rfl, nl, rfl⟩
        have ll : l < s.heap.objs.size := Heap.lt_size ho
        unfold Builtin.«set.__init__» noKeywords Builtin.Frozenset.updateFrom
        generalize hPI : pyIter = PI
        wp_walk
        subst hPI
        refine wpAny_pyIter_list hl2 (wpAny_bind (wpAny_runValue ?_))
        have nI : l ≠ hp.objs.size := by rw [szp]; exact Nat.ne_of_lt (Nat.lt_succ_of_lt ll)
        have nS : s.heap.objs.size ∉ [hp.objs.size, l] := by
          rw [szp]
          simp only [List.mem_cons, List.not_mem_nil, or_false, not_or]
          exact ⟨Nat.ne_of_lt (Nat.lt_succ_self _), Nat.ne_of_gt ll⟩
        refine more_txt (Walks.list (show A.in1.in1.in1.handled = none by simp [hh]) _ l nI items).toS nS hz hb hv (items.size - 0) 0 _ (by omega) (Nat.zero_le _) ⟨⟨_, Heap.get?_push_size _ rfl, rfl, rfl⟩, hl2.push _⟩ (fresh_txt (Heap.get?_push_of_some _ nwS)) ?_
        intro s' mv R
        obtain ⟨h', g', d', tk', os'⟩ := s'
        obtain rfl : g' = s.gens := mv.gens
        obtain rfl : d' = s.drawn := mv.drawn
        obtain rfl : os' = s.os := mv.os
        refine wpAny_pure (show wpAny _ _ (ret Value.none) _ _ _ from wpAny_pure ⟨rfl, h', tk', rfl, R, fun b o q => ?_⟩)
        have b0 := Heap.lt_size q
        refine mv.heap b o (fun z => ?_) (Heap.get?_push_of_some _ (old b o q))
        rcases List.mem_cons.mp z with z | z
        · exact Nat.ne_of_lt b0 z
        · exact Nat.ne_of_lt (Nat.lt_succ_of_lt b0) (by have q9 := List.mem_singleton.mp z; rw [szp] at q9; exact q9)
      · cases r2 with
        | error e => exact hr2
        | ok f2 =>
          cases f2 with
          | ret r =>
            obtain ⟨rfl, h', tk, rfl, R, k⟩ := hr2
            repeat (any_goals (first | assumption | wp_step))
            exact h _ _ R k
          | _ => exact hr2.elim
    | _ => exact hr.elim
theorem nodup_len : ∀ {a b : List Str}, a.Nodup → (∀ x ∈ a, x ∈ b) → a.length ≤ b.length
  | [], _, _, _ => Nat.zero_le _
  | x :: a, b, nd, h => by
    obtain ⟨n1, n2⟩ := List.nodup_cons.mp nd
    have hx := h x List.mem_cons_self
    have := nodup_len (a := a) (b := b.erase x) n2 fun y hy => (List.mem_erase_of_ne fun e => n1 (by rw [← e]; exact hy)).mpr (h y (List.mem_cons_of_mem _ hy))
    rw [List.length_erase_of_mem hx] at this
    have := List.length_pos_of_mem hx
    simp only [List.length_cons]
    omega
/-! ### sorted of it -/
def txtOf (v : Value) : Str := match v with
  | .str k _ => k
  | _ => Str.empty
theorem nameOf_txt (e : Int × Value) : nameOf e = txtOf e.2 := rfl
theorem strs_of : ∀ (l : List Value), (∀ v ∈ l, ∃ k tk, v = Value.str k tk) → StrsAre l (l.map txtOf)
  | [], _ => .nil
  | v :: l, h => by
    obtain ⟨k, tk, rfl⟩ := h v List.mem_cons_self
    exact .cons k tk (strs_of l fun u hu => h u (List.mem_cons_of_mem _ hu))
theorem sorted_txt {a : Addr} {zs : List Str} {Q : Value → Shared → Prop} (R : SetS P w s.heap a zs) (hh : A.handled = none) (h64 : zs.length < 64)
    (hQ : ∀ (s' : Shared) (p : Addr) (out : Array Value) (c : Nat) (ys : List Str), (∀ b o, s.heap.get? b = some o → s'.heap.get? b = some o) → s'.gens = s.gens → s'.os = s.os → s.heap.objs.size ≤ p →
      s'.heap.get? p = some (seqObj "list" out c) → StrsAre out.toList ys → sortedS ys = true → ys.Nodup → (∀ k, k ∈ ys ↔ k ∈ zs) → Q (.ref p) s') : wpAny (model P w) A (call (.builtin "sorted") [.ref a]) Q E s := by
  obtain ⟨o, es, ep, t, ho, hx, hd, T⟩ := R
  refine Calls.call_function_entry kind_sorted plain_sorted entry_sorted (args_sorted1 _) ?_
  unfold Builtin.«sorted»
  refine wpAny_bind (m := checkCount "sorted" 1 1 _) (wpAny_pure (wpAny_bind (collect_set (A := A.in1) hh ⟨o, ho, hx.1, hd⟩ T.fits T.few T.ris T.led fun s1 vs k1 hz g1 o1 pm => ?_)))
  have l0 : vs.length = es.size := by rw [pm.length_eq, List.length_map, Array.length_toList]
  have l1 : vs.length < 64 := by rw [l0]; exact Nat.lt_of_le_of_lt T.len h64
  have hS := strs_of vs fun v hv => by
    obtain ⟨e, he, rfl⟩ := List.mem_map.mp (pm.mem_iff.mp hv)
    obtain ⟨k, tk, h1, _⟩ := T.good e he
    exact ⟨k, tk, h1⟩
  have pk : (vs.map txtOf).Perm (es.toList.map nameOf) := by
    have q := pm.map txtOf
    rw [List.map_map] at q
    exact q
  refine wpAny_bind (wpAny_newList ?_ (by rw [sizeLine_eq]; omega))
  have hoL : (s1.heap.push (seqObj "list" vs.toArray 0)).get? s1.heap.objs.size = some (seqObj "list" vs.toArray 0) := Heap.get?_push_size _ rfl
  refine wpAny_bind (wpAny_holding (wpAny_call_entry slot_list_sort ⟨_, hoL, rfl⟩ entry_list_sort (list_sort_treeK strKind_oneLt hoL hS.keysOf (fun v₁ v₂ rest e => keyKind_strs (by rw [← e]; exact hS)) l1 fun st' hp hs => ⟨_, rfl, ?_⟩) (args_list_sort _)))
  obtain ⟨ys, a1, a2, a3⟩ := sorted_out_str hS hp hs
  obtain ⟨c, hc⟩ := sortedHeap_at (vs := vs) (out := (arrOf st').map (·.2)) hoL
  have pn := a2.trans pk
  refine wpAny_pure ⟨_, rfl, hQ _ s1.heap.objs.size _ c ys (fun b u e => ?_) g1 o1 hz hc a1 a3 (pn.nodup_iff.mpr T.nd) fun k => pn.mem_iff.trans (T.mem k)⟩
  have lt := Heap.lt_size (k1 b u e)
  show (sortedHeap (s1.heap.push (seqObj "list" vs.toArray 0)) s1.heap.objs.size vs _).get? b = some u
  rw [sortedHeap_old (Nat.ne_of_lt lt) (by rw [size_push']; exact Nat.lt_succ_of_lt lt)]
  exact Heap.get?_push_of_some _ (k1 b u e)
end
/-! ### as rules -/
def SetY (P : Program) (w : World) (a : Addr) (zs : List Str) : HO := .ext fun h => SetS P w h a zs
theorem setY_new {w : World} {P : Program} {H : Hp} {h : Heap} {a : Addr} {zs : List Str} (R : SetS P w h a zs) : ObjOk P w H h a (SetY P w a zs) := by
  have ⟨o, _, _, _, ho, _⟩ := R
  exact ⟨R, ⟨o, ho⟩, fun h1 h2 p k => SetS.keep p k⟩
section
variable {X : Cx}
def rSetY (P : Program) (w : World) (K : PySem.W.Frag) : List V → Hp → VK → Prop := fun xs H Q => ∃ a zs, xs = [.ref a] ∧ SqL K H a (zs.map V.str) ∧ zs.length < 4000 ∧ ∀ p, H p = none → Q (.ref p) (upd H p (SetY P w p zs))
theorem call_setY (hc : X.calm = true) : CallR X (.type "set") (rSetY X.prog X.w X.K) := by
  intro pins s σ H xs us Q I r h
  obtain ⟨a, zs, rfl, hq, hl, q⟩ := h
  obtain ⟨its, rv, pl, hz⟩ := I.list hq
  rw [Vals.ref1 r]
  have ln := rv.length
  rw [List.length_map] at ln
  refine call_set_txt (zs := zs) (I.ok.hd hc) pl.isList (by simpa using ln.symm) (fun i v hv => ?_) (by show _ < 4096; omega) fun h' tk R k => ?_
  · have hv : its[i]? = some v := by rw [← hv]; simp
    have hi : i < zs.length := by have := (List.getElem?_eq_some_iff.mp hv).1; omega
    obtain ⟨u, hu, t, rfl⟩ := rv.get (i := i) (x := V.str zs[i]) (by rw [List.getElem?_map, List.getElem?_eq_getElem hi]; rfl)
    rw [hv] at hu
    cases hu
    exact ⟨_, t, List.getElem?_eq_getElem hi, rfl⟩
  · exact ⟨.ref _, upd H s.heap.objs.size (SetY X.prog X.w s.heap.objs.size zs), I.laid (t' := tk) k (Nat.le_refl _) (setY_new R), rfl, q _ (I.hok.fresh (Nat.le_refl _))⟩
def rSortedY (P : Program) (w : World) : List V → Hp → VK → Prop := fun xs H Q => ∃ a zs, xs = [.ref a] ∧ H a = some (SetY P w a zs) ∧ zs.length < 64 ∧ ∀ (ys : List Str) (p : Addr), sortedS ys = true → ys.Nodup → (∀ k, k ∈ ys ↔ k ∈ zs) → H p = none → Q (.ref p) (upd H p (.lst (ys.map V.str)))
theorem call_sortedY (hc : X.calm = true) : CallR X (.builtin "sorted") (rSortedY X.prog X.w) := by
  intro pins s σ H xs us Q I r h
  obtain ⟨a, zs, rfl, ha, h64, q⟩ := h
  have R : SetS X.prog X.w s.heap a zs := (I.hok a _ ha).1
  rw [Vals.ref1 r]
  refine sorted_txt R (I.ok.hd hc) h64 fun s' p out c ys k g o hp hg hi hs nd hm => ?_
  have hn : H p = none := I.hok.fresh hp
  have hlen : (ys.map V.str).length ≤ sizeLine := by
    have e := (vals_of_strs hi).length
    have : ys.length ≤ zs.length := nodup_len nd fun k hk => (hm k).1 hk
    rw [List.length_map, sizeLine_eq]
    omega
  have J : Inv X pins σ (upd H p (.lst (ys.map V.str))) { s with heap := s'.heap, gens := s'.gens, drawn := s'.drawn, toks := s'.toks } :=
    I.call (ch := []) (Un.laid k hp hn) (I.hok.laid k hp ⟨hlen, out.toList, c, vals_of_strs hi, hg⟩) (by rw [g]; exact I.bare) (fun _ z => nomatch z)
  have e : s' = { s with heap := s'.heap, gens := s'.gens, drawn := s'.drawn, toks := s'.toks } := by
    obtain ⟨_, _, _, _, _⟩ := s'
    obtain ⟨_, _, _, _, _⟩ := s
    cases o
    rfl
  rw [e]
  exact ⟨.ref p, _, J, rfl, q ys p hs nd hm hn⟩
end
end SkR

set_option maxHeartbeats 4000000
/-! Reading rules' rows, in value form: dicts of the module, len of a set of texts, sum with a start, a = b = e, enumerate with a start. -/
namespace Dv
open PySem PySem.Spec PyProof.Rows L2 Sk SkR
section
variable {K : PySem.W.Frag} {W : WX}
def fTabIn (d : Addr) (kvs : List (Str × Int)) : Fn2 := fun x y Q => match x, y with
  | .str z, .ref a => a = d ∧ Q (.bl (kvs.lookup z).isSome)
  | _, _ => False
theorem s2_tabIn {d : Addr} {kvs : List (Str × Int)} : Sim2 K (fTabIn d kvs) (rTabIn d kvs) := ⟨fun {F H x y v w} s hx hy Q9 Q f k => by
  unfold fTabIn at f
  split at f
  · obtain ⟨rfl, f⟩ := f
    exact ⟨_, hx.str, hy.ref, k _ _ .bl f⟩
  · exact f.elim⟩
def fTabIx (d : Addr) (kvs : List (Str × Int)) : Fn2 := fun x y Q => match x, y with
  | .ref a, .str z => a = d ∧ some9 (kvs.lookup z) fun i => Q (.int i)
  | _, _ => False
theorem s2_tabIx {d : Addr} {kvs : List (Str × Int)} : Sim2 K (fTabIx d kvs) (rTabIx d kvs) := ⟨fun {F H x y v w} s hx hy Q9 Q f k => by
  unfold fTabIx at f
  split at f
  · obtain ⟨rfl, f⟩ := f
    obtain ⟨i, e, f⟩ := some9_ex f
    exact ⟨_, i, hx.ref, hy.str, e, k _ _ .int f⟩
  · exact f.elim⟩
/-- len({x for x in names}) -/
def dLenZ (d : DE) : DE := fun X env Q => d X env fun x e => match x with
  | .lst xs => ∃ zs : List Str, xs = zs.map D.str ∧ zs.length < 4000 ∧ Q (.int (dcount zs)) e
  | _ => False
theorem sim_lenZ {P : Program} {w : World} {d : DE} {t : TE} (s : SimE K W d t) : SimE K W (dLenZ d) (tCB (rLenZ P w) (tCons (tScZ P w K t) tNil)) := ⟨fun {G L env σ F H X9 Q9 Q} r h q x => s.run r h (fun y e v F1 H1 r1 s1 i1 h1 => by
  split at h1
  · obtain ⟨zs, rfl, hl, h1⟩ := h1
    obtain ⟨a, ws, rfl, ha, hw⟩ := Pk.lst r1.sees (.inl i1)
    refine ⟨a, zs, rfl, by rw [← isL_strs hw]; exact SqL.of ha, hl, fun D hD => ⟨D, zs, rfl, upd_same, ?_⟩⟩
    exact q _ e _ F1 _ (r1.new hD _) s1 .int h1
  · exact h1.elim) x⟩
/-- sum(numbers, start=e) -/
def dSumLS (os ks : List Op9) : DE := fun X env Q => evs os X env fun ps e => evs ks X e fun qs e2 => match looks e2 ps, looks e2 qs with
  | some [.lst xs], some [.int n] => ∃ ns : List Int, xs = ns.map D.int ∧ Q (.int (n + ns.sum)) e2
  | _, _ => False
theorem sim_sumLS {os ks : List Op9} {ta tk : TA} (so : SimOs K W os ta) (sk : SimOs K W ks tk) : SimE K W (dSumLS os ks) (tSumLS K ta tk) := ⟨fun {G L env σ F H X9 Q9 Q} r h q x => so.run x r h fun ps e vs F1 H1 r1 s1 p1 h1 => sk.run x r1 h1 fun qs e2 ws F2 H2 r2 s2 p2 h2 => by
  split at h2
  · rename_i xs n ex ey
    obtain ⟨ns, rfl, h2⟩ := h2
    have e9 := (r2.pks p2 ey).int1
    obtain ⟨v, rfl, hv⟩ := (r2.pks (p1.mono s2) ex).one
    obtain ⟨a, us, rfl, ha, hu⟩ := hv.lst r2.sees
    exact ⟨a, ns, n, rfl, e9, by rw [← isL_ints hu]; exact SqL.of ha, q _ e2 _ F2 H2 r2 (s1.trans s2) .int h2⟩
  · exact h2.elim⟩
/-- a = b = e -/
def dSet2 (i j : Nat) (d : DE) : DS := fun X E env => d X env fun x e => E.nx ((e.set i (.im x)).set j (.im x))
theorem sim_set2 {fr : Bool} {i j : Nat} {d : DE} {t : TE} (s : SimE K W d t) : SimS K W fr (dSet2 i j d) (tAsg2 t i j) := ⟨fun {G L env σ F H X9 E D} r h q x => s.run r h (fun y e v F1 H1 r1 s1 i1 h1 =>
  q.nx _ _ F1 H1 ((r1.set_im i i1).set_im j i1) s1 h1) (fun e env' c dd F' H' => x e env' σ c dd F' H')⟩
/-- enumerate(x, start = k) -/
def enumI : Int → List D → List D
  | _, [] => []
  | n, x :: xs => .tup [.int n, x] :: enumI (n + 1) xs
theorem enumI_len : ∀ (xs : List D) (n : Int), (enumI n xs).length = xs.length
  | [], _ => rfl
  | _ :: xs, n => by simp [enumI, enumI_len xs]
theorem enumI_get : ∀ {xs : List D} {n : Int} {i : Nat} {x : D}, xs[i]? = some x → (enumI n xs)[i]? = some (.tup [.int (n + (i : Nat)), x])
  | [], _, _, _, h => by simp at h
  | y :: xs, n, 0, x, h => by simp at h; subst h; simp [enumI]
  | y :: xs, n, i + 1, x, h => by
    have := enumI_get (n := n + 1) (by simpa using h)
    rw [show n + 1 + ((i : Nat) : Int) = n + ((i + 1 : Nat) : Int) by omega] at this
    simpa [enumI] using this
variable {LL : List (Addr × Obj)} {F : Hp} {a : Addr} {vs : List V} {xs : List D}
theorem w9_enumK {k0 : Int} (hF : F a = some (.lst vs)) (h : IsL K F xs vs) : W9 K L LL F (ItK K a k0) (enumI k0 xs) := by
  refine ⟨fun H => SqL K H a vs, (ItK K a k0).yld, by rw [enumI_len, h.length]; exact ⟨fun i _ hi q => ⟨vs, vs[i], q, by simp [hi]⟩, fun _ q => ⟨vs, q, Nat.le_refl _⟩, fun _ _ _ _ _ _ y => y⟩, fun G env σ F2 H2 el r s => SqL.of (seesL r (s _ _ hF)), fun G i v env σ F2 H2 H3 el hi r s yy => ?_⟩
  obtain ⟨T, x, e1, e2, e3, e4⟩ := yy
  subst e1 e3
  obtain ⟨d, h1, h2⟩ := h.got (e4 vs (SqL.of (seesL r (s _ _ hF))))
  obtain ⟨F3, r3, s3, i3⟩ := pair_new r e2 (dx := .int (k0 + (i : Nat))) .int (h2.mono s)
  exact ⟨_, F3, enumI_get h1, r3, s3, i3⟩
def diEnumK (d k : DE) : DI := fun X env Q => d X env fun x e => k X e fun y e2 => match x, y with
  | .lst xs, .int n => (-(2 ^ 62) ≤ n ∧ n < 2 ^ 62) ∧ Q (enumI n xs) e2
  | _, _ => False
theorem simi_enumK {d k : DE} {t u : TE} (s : SimE K W d t) (sk : SimE K W k u) : SimI K W (diEnumK d k) (iEnumK K (tCons t tNil) (tCons u tNil)) := ⟨fun {G L env σ F H X9 Q9 Q} r h q x => s.run r h (fun y e v F1 H1 r1 s1 i1 h1 => sk.run r1 h1 (fun z e2 v2 F2 H2 r2 s2 i2 h2 => by
  split at h2
  · rename_i xs n
    have i1 := i1.mono s2
    have e9 := i2.ofI
    subst e9
    cases i1 with
    | lst e1 i => exact ⟨_, n, _, rfl, rfl, SqL.of (seesL r2 e1), h2.1, q _ e2 _ F2 H2 r2 (s1.trans s2) (w9_enumK e1 i) h2.2⟩
  · exact h2.elim) x) x⟩
/-- sorted(set(texts)) -/
def dSortSet (d : DE) : DE := fun X env Q => d X env fun x e => match x with
  | .lst xs => ∃ zs : List Str, xs = zs.map D.str ∧ zs.length < 64 ∧ ∀ ys : List Str, sortedS ys = true → ys.Nodup → (∀ k, k ∈ ys ↔ k ∈ zs) → Q (.lst (ys.map D.str)) e
  | _ => False
theorem sim_sortSet {P : Program} {w : World} {d : DE} {t : TE} (s : SimE K W d t) : SimF K W (dSortSet d) (tCB (rSortedY P w) (tCons (tCB (rSetY P w K) (tCons t tNil)) tNil)) := ⟨fun {G L env σ F H X9 Q9 Q} r h q x => s.run r h (fun y e v F1 H1 r1 s1 i1 h1 => by
  split at h1
  · obtain ⟨zs, rfl, hl, h1⟩ := h1
    obtain ⟨a, ws, rfl, ha, hw⟩ := Pk.lst r1.sees (.inl i1)
    refine ⟨a, zs, rfl, by rw [← isL_strs hw]; exact SqL.of ha, by omega, fun p hp => ⟨p, zs, rfl, upd_same, hl, fun ys b hs nd hm hb => ?_⟩⟩
    have r2 := r1.new hp (SetY P w p zs)
    exact q _ e b F1 _ (r2.new hb _) s1 (r2.fresh hb (Has.mkL upd_same (strs_isL ys))) (h1 ys hs nd hm)
  · exact h1.elim) x⟩
end
end Dv

set_option maxHeartbeats 4000000
/-! l.remove(text), l.count(text) -/
namespace SkR
open PySem PySem.Spec PyProof.Rows L2
def eqz (k : Str) (v : Value) : Bool := match v with
  | .str n _ => n.cps.toList == k.cps.toList
  | _ => false
theorem eqz_gives {k : Str} {t : Tok} : ∀ {us : List Value} {ns : List Str}, StrsAre us ns → ∀ y ∈ us, MeetsSeq.EqGives y (.str k t) (eqz k y)
  | _, _, .nil => fun y hy => by cases hy
  | _, _, .cons n t' h => fun y hy => by
    rcases List.mem_cons.mp hy with e | e
    · rw [e]
      exact SeqRoads2.EqGives.str n k t' t
    · exact eqz_gives h y e
theorem eqz_iff (n k : Str) : (n.cps.toList == k.cps.toList) = decide (n = k) := by
  by_cases e : n = k
  · subst e
    rw [decide_eq_true rfl, beq_self_eq_true]
  · rw [decide_eq_false e]
    refine beq_eq_false_iff_ne.mpr fun z => e ?_
    cases n with
    | mk a =>
      cases k with
      | mk b =>
        have : a = b := Array.toList_inj.mp z
        rw [this]
theorem eqz_count {k : Str} : ∀ {us : List Value} {ns : List Str}, StrsAre us ns → us.countP (eqz k) = ns.countP fun n => decide (n = k)
  | _, _, .nil => rfl
  | _, _, .cons n t h => by
    have ih := eqz_count (k := k) h
    rw [List.countP_cons, List.countP_cons, ih]
    show _ + (if (n.cps.toList == k.cps.toList) = true then 1 else 0) = _
    rw [eqz_iff]
theorem strs_get : ∀ {us : List Value} {ns : List Str}, StrsAre us ns → ∀ (i : Nat) (z : Str), ns[i]? = some z → ∃ t, us[i]? = some (.str z t)
  | _, _, .nil, i, z, h => by simp at h
  | _, _, .cons n t h, 0, z, e => by
    simp at e
    subst e
    exact ⟨t, rfl⟩
  | _, _, .cons n t h, i + 1, z, e => by
    obtain ⟨u, hu⟩ := strs_get h i z (by simpa using e)
    exact ⟨u, by simpa using hu⟩
theorem erase_mapS : ∀ (l : List Str) (j : Nat), (l.map V.str).eraseIdx j = (l.eraseIdx j).map V.str
  | [], j => by simp
  | a :: r, 0 => by simp
  | a :: r, j + 1 => by
    have ih := erase_mapS r j
    simp [ih]
section
variable {X : Cx}
def rRemZ : V → List V → Hp → VK → Prop := fun x xs H Q => ∃ (l : Addr) (ns : List Str) (k : Str) (j : Nat), x = .ref l ∧ xs = [.str k] ∧ H l = some (.lst (ns.map V.str)) ∧ ns[j]? = some k ∧ (∀ m : Nat, m < j → ns[m]? ≠ some k) ∧ Q .non (upd H l (.lst ((ns.eraseIdx j).map V.str)))
theorem mt_removeZ : MtM X "list.remove" rRemZ := by
  intro pins s σ H x xs v us Q I rx rxs h
  obtain ⟨l, ns, k, j, rfl, rfl, hH, hj, hno, q⟩ := h
  cases rx
  obtain ⟨u, rfl, ru⟩ := rxs.one
  obtain ⟨t, rfl⟩ := ru
  obtain ⟨z, its, n, r, hl, e⟩ := I.lstM hH
  have hi := strs_of_vals r
  rw [List.length_map] at hl z
  have hjn : j < ns.length := (List.getElem?_eq_some_iff.mp hj).1
  have hjl : j < its.toArray.size := by rw [List.size_toArray]; omega
  refine call_meets PySem.F.slot_list_remove ⟨_, e, rfl⟩ PySem.F.entry_list_remove (PySem.F.args_list_remove_2 _ _)
    (MeetsSeq.list_remove l its.toArray n (.str k t) (eqz k) (fun y hy => eqz_gives hi y (by simpa using hy)) j hjl ?_ ?_ (by rw [List.size_toArray]; omega)) ⟨e, ?_⟩
  · obtain ⟨tj, hjt⟩ := strs_get hi j k hj
    obtain ⟨h1, h2⟩ := List.getElem?_eq_some_iff.mp hjt
    have e1 : its.toArray[j] = .str k tj := by simpa using h2
    rw [e1]
    exact beq_self_eq_true k.cps.toList
  · intro m hm hmj
    have hmn : m < ns.length := by omega
    obtain ⟨tm, hmt⟩ := strs_get hi m _ (List.getElem?_eq_getElem hmn)
    obtain ⟨h1, h2⟩ := List.getElem?_eq_some_iff.mp hmt
    have e1 : its.toArray[m] = .str ns[m] tm := by simpa using h2
    rw [e1]
    show (_ == _) = false
    rw [eqz_iff]
    refine decide_eq_false fun e2 => hno m hmj ?_
    rw [List.getElem?_eq_getElem hmn, e2]
  · have rr := r.eraseIdx j
    rw [erase_mapS] at rr
    refine ⟨.non, _, I.lset (its' := its.eraseIdx j) (t' := s.toks) hH e ?_ rr ?_, rfl, q⟩
    · show its.toArray.eraseIdxIfInBounds j = (its.eraseIdx j).toArray
      rw [List.eraseIdxIfInBounds_toArray]
    · have z2 : (ns.eraseIdx j).length ≤ ns.length := List.length_eraseIdx_le _ _
      rw [List.length_map]
      omega
def rCntZ (K : PySem.W.Frag) : V → List V → Hp → VK → Prop := fun x xs H Q => ∃ (p : Addr) (ns : List Str) (k : Str), x = .ref p ∧ xs = [.str k] ∧ SqL K H p (ns.map V.str) ∧ Q (.int ((ns.countP fun n => decide (n = k) : Nat) : Int)) H
theorem mt_lcountZ (K : PySem.W.Frag) (hK : X.K = K := by rfl) : MtR X "list.count" (rCntZ K) := by
  subst hK
  intro pins s σ H x xs v us Q I rx rxs h
  obtain ⟨p, ns, k, rfl, rfl, hs, q⟩ := h
  cases rx
  obtain ⟨u, rfl, ru⟩ := rxs.one
  obtain ⟨t, rfl⟩ := ru
  obtain ⟨its, rv, ⟨⟨cls, dd, data, sl⟩, n, ho, hc, hdn, hd⟩, hlen⟩ := I.list hs
  simp only at hc hd
  subst hc hd
  have hi := strs_of_vals rv
  refine call_meets PySem.F.slot_list_count ⟨_, ho, rfl⟩ PySem.F.entry_list_count (PySem.F.args_list_count_2 _ _)
    (SeqAt.list_countAt p its.toArray n dd sl (.str k t) (eqz k)) ⟨ho, fun y hy => (eqz_gives hi y (by simpa using hy)).at _ _, ?_⟩
  have ec : its.toArray.toList.countP (eqz k) = ns.countP fun n => decide (n = k) := eqz_count hi
  refine ⟨.int ((ns.countP fun n => decide (n = k) : Nat) : Int), H, I.tok _, ⟨s.toks, ?_⟩, q⟩
  show Value.int ((its.toArray.toList.countP (eqz k) : Nat) : Int) s.toks = Value.int _ s.toks
  rw [ec]
end
end SkR

set_option maxHeartbeats 100000
/-! sorted(texts) of any length, min(texts) -/
namespace SkR
open PySem PySem.Spec PyProof.Rows L2 Sk PySem.W
section
variable {X : Cx}
def rSortedZ (K : PySem.W.Frag) : List V → Hp → VK → Prop := fun vs H Q => ∃ (a : Addr) (xs : List Str), vs = [V.ref a] ∧ SqL K H a (xs.map V.str) ∧ xs.length ≤ 100000 ∧ ∀ (ys : List Str) (p : Addr), ys.Perm xs → sortedS ys = true → H p = none → Q (.ref p) (upd H p (.lst (ys.map V.str)))
theorem cr_sortedZ (K : PySem.W.Frag) (hK : X.K = K := by rfl) : CallR X (.builtin "sorted") (rSortedZ K) := by
  subst hK
  intro pins s σ H vs us Q I r h
  obtain ⟨a, xs, rfl, hs, hl0, q⟩ := h
  obtain ⟨its, rv, hl, _⟩ := I.list hs
  rw [Vals.ref1 r]
  have hlen0 := rv.length
  rw [List.length_map] at hlen0
  have sz : sizeLine = 16777216 := sizeLine_eq
  refine PyProof.Rows.sorted_strsAny hl.isList rv.strs (by rw [← hlen0, sz]; omega) fun out ys h1 h2 h3 => ?_
  obtain ⟨ep, he'⟩ := PyProof.Rows.sortedAll_at s.heap its out
  have hlen : (ys.map V.str).length ≤ sizeLine := by rw [List.length_map, h2.length_eq, sz]; omega
  exact ⟨.ref _, upd H (s.heap.objs.size + 1) (.lst (ys.map V.str)), I.laid (t' := s.toks) (fun _ _ => PyProof.Rows.sortedAll_old) (Nat.le_succ _) ⟨hlen, out.toList, ep, vals_of_strs h1, he'⟩, rfl, q ys _ h2 h3 (I.hok.fresh (Nat.le_succ _))⟩
theorem minD_strs : ∀ (zs : List Str) (z : Str), ∃ m, minD (.str z) (zs.map .str) = .str m ∧ m ∈ z :: zs ∧ ∀ y ∈ z :: zs, leB m y = true
  | [], z => ⟨z, rfl, List.mem_cons_self, fun y hy => by rw [List.mem_singleton.mp hy]; exact (leB_iff z z).mpr (List.le_refl _)⟩
  | y :: zs, z => by
    have e : minD (.str z) ((y :: zs).map .str) = minD (if dataLt (.str y) (.str z) = true then .str y else .str z) (zs.map .str) := rfl
    rw [e, dataLt_str]
    by_cases h : y.cps.toList < z.cps.toList
    · rw [if_pos (decide_eq_true h)]
      obtain ⟨m, h1, h2, h3⟩ := minD_strs zs y
      refine ⟨m, h1, List.mem_cons_of_mem _ h2, fun x hx => ?_⟩
      rcases List.mem_cons.mp hx with rfl | hx
      · exact leB_trans _ _ _ (h3 y List.mem_cons_self) ((leB_iff _ _).mpr (List.le_of_lt h))
      · exact h3 x hx
    · rw [if_neg (by rw [decide_eq_false h]; decide)]
      obtain ⟨m, h1, h2, h3⟩ := minD_strs zs z
      refine ⟨m, h1, ?_, fun x hx => ?_⟩
      · rcases List.mem_cons.mp h2 with e | h2
        · rw [e]; exact List.mem_cons_self
        · exact List.mem_cons_of_mem _ (List.mem_cons_of_mem _ h2)
      · rcases List.mem_cons.mp hx with rfl | hx
        · exact h3 x List.mem_cons_self
        · rcases List.mem_cons.mp hx with rfl | hx
          · exact leB_trans _ _ _ (h3 z List.mem_cons_self) ((leB_iff _ _).mpr (List.not_lt.mp h))
          · exact h3 x (List.mem_cons_of_mem _ hx)
def rMinZ (K : PySem.W.Frag) : List V → Hp → VK → Prop := fun vs H Q => ∃ (a : Addr) (zs : List Str), vs = [V.ref a] ∧ SqL K H a (zs.map V.str) ∧ zs ≠ [] ∧ ∀ m, m ∈ zs → (∀ y ∈ zs, leB m y = true) → Q (.str m) H
theorem dp_strsZ {K : PySem.W.Frag} {H : Hp} : ∀ (zs : List Str), DpAll K H (zs.map V.str) (zs.map .str)
  | [] => .nil
  | z :: zs => .cons (.str z) (dp_strsZ zs)
theorem depth_strs : ∀ zs : List Str, PyData.depthAll (zs.map .str) = 0
  | [] => rfl
  | z :: zs => by
    rw [List.map_cons]
    simp [PyData.depthAll, PyData.depth, depth_strs zs]
theorem reads_strZ {h : Heap} {v : Value} {m : Str} {bs : List Addr} (r : Reads h v (.str m) bs) : ∃ t, v = .str m t := by
  cases r
  exact ⟨_, rfl⟩
theorem cr_minZ (K : PySem.W.Frag) (hc : X.calm = true) (hu : X.A.units + 1 < cLine) (hK : X.K = K := by rfl) : CallR X (.builtin "min") (rMinZ K) := by
  subst hK
  intro pins s σ H vs us Q I r h
  obtain ⟨a, zs, rfl, hs, hne, q⟩ := h
  obtain ⟨its, rv, hl, _⟩ := I.list hs
  rw [Vals.ref1 r]
  obtain ⟨z, zs, rfl⟩ : ∃ z t, zs = z :: t := by
    cases zs with
    | nil => exact absurd rfl hne
    | cons z t => exact ⟨z, t, rfl⟩
  obtain ⟨as, hr⟩ := Dp.readsAll I ((z :: zs).map .str) ((z :: zs).map V.str) its (dp_strsZ (z :: zs)) rv
  have hu2 : X.A.units + 1 + PyData.depthAll (PyData.str z :: zs.map .str) < cLine := by
    have := depth_strs (z :: zs)
    rw [List.map_cons] at this
    rw [this]
    omega
  have hr2 : ReadsAll s.heap its.toArray.toList (PyData.str z :: zs.map .str) as := by
    rw [List.toList_toArray]
    exact hr
  have al : AlikeAll (PyData.str z :: zs.map .str) := by
    refine ⟨fun x hx y hy => ?_, fun x hx => ?_⟩
    · obtain ⟨x', _, rfl⟩ := List.mem_map.mp (show x ∈ (z :: zs).map PyData.str from hx)
      obtain ⟨y', _, rfl⟩ := List.mem_map.mp (show y ∈ (z :: zs).map PyData.str from hy)
      simp [alike]
    · obtain ⟨x', _, rfl⟩ := List.mem_map.mp (show x ∈ (z :: zs).map PyData.str from hx)
      exact fun e => nomatch e
  obtain ⟨m, h1, h2, h3⟩ := minD_strs zs z
  have hq := q m h2 h3
  clear q
  refine min_list_data (vs := its.toArray) (as := as) (I.ok.hd hc) hl.isList hr2 al hu2 (fun i v h' tk bs hv hrd hk => ?_)
  rw [h1] at hrd
  obtain ⟨t, rfl⟩ := reads_strZ hrd
  exact ⟨.str m, H, I.kept hk, ⟨t, rfl⟩, hq⟩
end
end SkR

set_option maxHeartbeats 4000000
/-! sorted(set(many texts of few names)) -/
namespace SkR
open PySem PySem.Spec PyProof.Rows L2
theorem SetS.lean {P : Program} {w : World} {h : Heap} {a : Addr} {zs : List Str} (R : SetS P w h a zs) : ∃ ys : List Str, ys.Nodup ∧ (∀ k, k ∈ ys ↔ k ∈ zs) ∧ SetS P w h a ys := by
  obtain ⟨o, es, ep, t, ho, hx, hd, T⟩ := R
  refine ⟨es.toList.map nameOf, T.nd, T.mem, o, es, ep, t, ho, hx, hd, ⟨T.good, T.nd, fun k => Iff.rfl, ?_, T.few, T.fits, T.ris, T.led⟩⟩
  rw [List.length_map, Array.length_toList]
  exact Nat.le_refl _
section
variable {X : Cx}
def rSortedU (P : Program) (w : World) : List V → Hp → VK → Prop := fun xs H Q => ∃ (a : Addr) (zs vs : List Str), xs = [.ref a] ∧ H a = some (SetY P w a zs) ∧ (∀ k, k ∈ zs → k ∈ vs) ∧ vs.length < 64 ∧ ∀ (ys : List Str) (p : Addr), sortedS ys = true → ys.Nodup → (∀ k, k ∈ ys ↔ k ∈ zs) → H p = none → Q (.ref p) (upd H p (.lst (ys.map V.str)))
theorem call_sortedU (hc : X.calm = true) : CallR X (.builtin "sorted") (rSortedU X.prog X.w) := by
  intro pins s σ H xs us Q I r h
  obtain ⟨a, zs, vs, rfl, ha, hsub, h64, q⟩ := h
  have R : SetS X.prog X.w s.heap a zs := (I.hok a _ ha).1
  obtain ⟨zs2, nd2, m2, R⟩ := R.lean
  have l2 : zs2.length ≤ vs.length := nodup_len nd2 fun k hk => hsub k ((m2 k).1 hk)
  rw [Vals.ref1 r]
  refine sorted_txt R (I.ok.hd hc) (by omega) fun s' p out c ys k g o hp hg hi hs nd hm => ?_
  have hn : H p = none := I.hok.fresh hp
  have hlen : (ys.map V.str).length ≤ sizeLine := by
    have e := (vals_of_strs hi).length
    have : ys.length ≤ zs2.length := nodup_len nd fun k hk => (hm k).1 hk
    rw [List.length_map, sizeLine_eq]
    omega
  have J : Inv X pins σ (upd H p (.lst (ys.map V.str))) { s with heap := s'.heap, gens := s'.gens, drawn := s'.drawn, toks := s'.toks } :=
    I.call (ch := []) (Un.laid k hp hn) (I.hok.laid k hp ⟨hlen, out.toList, c, vals_of_strs hi, hg⟩) (by rw [g]; exact I.bare) (fun _ z => nomatch z)
  have e : s' = { s with heap := s'.heap, gens := s'.gens, drawn := s'.drawn, toks := s'.toks } := by
    obtain ⟨_, _, _, _, _⟩ := s'
    obtain ⟨_, _, _, _, _⟩ := s
    cases o
    rfl
  rw [e]
  exact ⟨.ref p, _, J, rfl, q ys p hs nd (fun k => (hm k).trans (m2 k)) hn⟩
end
end SkR

set_option maxHeartbeats 4000000
/-! Lists of texts by their methods, in value form: count, remove, min, sorted; sorted(set(many texts of few names)). -/
namespace Dv
open PySem PySem.Spec PyProof.Rows L2 Sk SkR
section
variable {K : PySem.W.Frag} {W : WX} {F H : Hp} {fr : Bool}
/-- l.count(text), the list a value -/
def cntZ (zs : List Str) (k : Str) : Nat := zs.countP fun n => decide (n = k)
def dCountZ (d : DE) (a : DA) : DE := fun X env Q => d X env fun x e => match x with
  | .lst xs => a X e fun ds e2 => match ds with
    | [.str k] => ∃ zs : List Str, xs = zs.map D.str ∧ Q (.int ((cntZ zs k : Nat) : Int)) e2
    | _ => False
  | _ => False
theorem sim_countZ {d : DE} {a : DA} {t : TE} {ta : TA} (s : SimE K W d t) (sa : SimA K W a ta) : SimE K W (dCountZ d a) (tBM K "list" (rCntZ K) t ta) := ⟨fun {G L env σ F H X9 Q9 Q} r h q x => s.run r h (fun y e v F1 H1 r1 s1 i1 h1 => by
  split at h1
  · obtain ⟨p, ws, rfl, ha, hw⟩ := Pk.lst r1.sees (.inl i1)
    refine ⟨.inl ⟨rfl, ws, SqL.of ha⟩, sa.run r1 h1 (fun ds e2 vs F2 H2 r2 s2 i2 h2 => ?_) x⟩
    split at h2
    · obtain ⟨zs, rfl, h2⟩ := h2
      obtain ⟨p2, ws2, e3, ha2, hw2⟩ := Pk.lst r2.sees (.inl (i1.mono s2))
      cases e3
      cases i2 with
      | cons j1 j2 =>
        cases j2
        exact ⟨_, zs, _, rfl, by rw [j1.ofS], by rw [← isL_strs hw2]; exact SqL.of ha2, q _ e2 _ F2 H2 r2 (s1.trans s2) .int h2⟩
    · exact h2.elim
  · exact h1.elim) x⟩
/-- l.remove(text), the list in a slot -/
def fRemoveZ : FnM := fun xs ds Q => match ds with
  | [.str k] => ∃ (zs : List Str) (j : Nat), xs = zs.map D.str ∧ zs[j]? = some k ∧ (∀ m : Nat, m < j → zs[m]? ≠ some k) ∧ Q .non ((zs.eraseIdx j).map D.str)
  | _ => False
theorem sm_removeZ : SimM K fRemoveZ rRemZ := ⟨fun {F H a xs ds ws vs} s h hx hd Q9 Q f k => by
  unfold fRemoveZ at f
  split at f
  · cases hd with
    | cons h1 h2 =>
      cases h2
      obtain ⟨zs, j, rfl, e1, e2, f⟩ := f
      exact ⟨a, zs, _, j, rfl, by rw [h1.ofS], by rw [← isL_strs hx]; exact h, e1, e2, k _ _ _ _ .non (strs_isL _) f⟩
  · exact f.elim⟩
/-- min(texts), sorted(texts) -/
def fMinZ : FnC := fun xs Q => ∃ zs : List Str, xs = [.lst (zs.map D.str)] ∧ zs ≠ [] ∧ ∀ m, m ∈ zs → (∀ y ∈ zs, leB m y = true) → Q (.str m)
theorem sc_minZ : SimC K fMinZ (rMinZ K) := ⟨fun {F H xs vs} s hp Q9 Q f k => by
  obtain ⟨zs, rfl, hl, f⟩ := f
  obtain ⟨v, rfl, q⟩ := hp.one
  obtain ⟨a, ws, rfl, h1, h2⟩ := q.lst s
  exact ⟨a, zs, rfl, by rw [← isL_strs h2]; exact SqL.of h1, hl, fun m e1 e2 => k _ _ .str (f m e1 e2)⟩⟩
def fSortedZ : FnC := fun xs Q => ∃ ns : List Str, xs = [.lst (ns.map D.str)] ∧ ns.length ≤ 100000 ∧ ∀ ys : List Str, ys.Perm ns → sortedS ys = true → Q (.lst (ys.map D.str))
theorem sc_sortedZ : SimCN K fSortedZ (rSortedZ K) := ⟨fun {F H xs vs} s hp Q9 Q f k => by
  obtain ⟨bs, rfl, hl, f⟩ := f
  obtain ⟨v, rfl, q⟩ := hp.one
  obtain ⟨a, ws, rfl, h1, h2⟩ := q.lst s
  exact ⟨a, bs, rfl, by rw [← isL_strs h2]; exact SqL.of h1, hl, fun ys p e1 e2 hp => k _ p _ hp (Has.mkL upd_same (strs_isL ys)) (f ys e1 e2)⟩⟩
/-- sorted(set(texts)), few unlike ones -/
def dSortSetU (d : DE) : DE := fun X env Q => d X env fun x e => match x with
  | .lst xs => ∃ zs vs : List Str, xs = zs.map D.str ∧ zs.length < 4000 ∧ (∀ k, k ∈ zs → k ∈ vs) ∧ vs.length < 64 ∧ ∀ ys : List Str, sortedS ys = true → ys.Nodup → (∀ k, k ∈ ys ↔ k ∈ zs) → Q (.lst (ys.map D.str)) e
  | _ => False
theorem sim_sortSetU {P : Program} {w : World} {d : DE} {t : TE} (s : SimE K W d t) : SimF K W (dSortSetU d) (tCB (rSortedU P w) (tCons (tCB (rSetY P w K) (tCons t tNil)) tNil)) := ⟨fun {G L env σ F H X9 Q9 Q} r h q x => s.run r h (fun y e v F1 H1 r1 s1 i1 h1 => by
  split at h1
  · obtain ⟨zs, vs, rfl, hl, hsub, hl2, h1⟩ := h1
    obtain ⟨a, ws, rfl, ha, hw⟩ := Pk.lst r1.sees (.inl i1)
    refine ⟨a, zs, rfl, by rw [← isL_strs hw]; exact SqL.of ha, hl, fun p hp => ⟨p, zs, vs, rfl, upd_same, hsub, hl2, fun ys b hs nd hm hb => ?_⟩⟩
    have r2 := r1.new hp (SetY P w p zs)
    exact q _ e b F1 _ (r2.new hb _) s1 (r2.fresh hb (Has.mkL upd_same (strs_isL ys))) (h1 ys hs nd hm)
  · exact h1.elim) x⟩
end
end Dv

set_option maxHeartbeats 4000000
/-! Two lists of one's own are lent to a def that changes nothing and answers a truth; x[i] in a target; two new lists are named at once. -/
namespace Dv
open PySem PySem.Spec PyProof.Rows L2 Sk
section
variable {K : PySem.W.Frag} {W : WX} {G : Gh} {L : List (Addr × Obj)} {env : Sls} {σ : L2.St} {F H H' : Hp} {fr : Bool}
theorem R.keepAll (r : R K G L env σ F H) (k : ∀ a o, H a = some o → H' a = some o) : R K G L env σ F H' where
  len := r.len
  im := r.im
  ow := fun i m d e => by
    obtain ⟨a, h1, h2, h3, h4⟩ := r.ow i m d e
    exact ⟨a, h1, h2, h3, h4.mono (Same.refl F) (k a)⟩
  sep := r.sep
  see := fun a o e => (r.see a o e).elim (fun z => .inl (k a _ z)) fun ⟨ob, m, z⟩ => .inr ⟨ob, m, k a _ z⟩
  pres := fun a o e m => (r.pres a o e m).elim (fun z => .inl (k a _ z)) fun ⟨ob, m, z⟩ => .inr ⟨ob, m, k a _ z⟩
  mm := fun a m => by
    refine ⟨fun z => ?_, (r.mm a m).2⟩
    cases e : H a with
    | none => exact (r.mm a m).1 e
    | some o =>
      rw [k a o e] at z
      cases z
  grow := r.grow
  base := r.base
  lk := fun q hq => by
    obtain ⟨ws, h1, h2⟩ := r.lk q hq
    exact ⟨ws, h1, k _ _ h2⟩
  lk0 := r.lk0
  ext := fun p hp => ⟨k _ _ (r.ext p hp).1, (r.ext p hp).2⟩
def dLend2 (f : FS) (i j : Nat) : DE := fun X env Q => match env[i]?, env[j]? with
  | some (.ow false x), some (.ow false y) => f.sp [x, y] (fun r nd => ∃ b, r = .bl b ∧ Q (.bl b) env) (fun _ _ => False)
  | _, _ => False
theorem sim_lend2 {f : FS} {i j : Nat} {E : XK} (hm : f.ms = [false, false]) (hf : f.fr = false) (hij : i ≠ j) : SimE K W (dLend2 f i j) (tCall (f.to K) [] E (tCons (tVar i) (tCons (tVar j) tNil))) := ⟨fun {G L env σ F H X9 Q9 Q} r h q x => by
  unfold dLend2 at h
  split at h
  · rename_i x y e1 e2
    obtain ⟨F1, a, r1, s1, a1, i1⟩ := r.freeze_slot e1
    have e2' : (env.set i (.im x))[j]? = some (.ow false y) := by rw [List.getElem?_set_ne hij]; exact e2
    obtain ⟨F2, b, r2, s2, b1, i2⟩ := r1.freeze_slot e2'
    refine ⟨_, a1, _, b1, ?_⟩
    refine ⟨F2, L ++ G.L0, [x, y], _, _, ⟨?_, ?_, r2.see, r2.lk⟩, h, fun z nd k F' H' v p m res => ?_, fun e nd k => k.elim⟩
    · rw [hm]
      exact .im (i1.mono s2) (.im i2 .nil)
    · rw [hm]
      exact List.nodup_nil
    · obtain ⟨c, rfl, k⟩ := k
      rw [hf] at res
      have hk : ∀ a o, H a = some o → H' a = some o := fun a o e => p.keep a o e (by rw [hm]; exact fun z => nomatch z)
      have res : Is K F' (.bl c) v := res
      cases res
      exact q _ env _ F H' (r.keepAll hk) (Same.refl F) .bl k
  · exact h.elim⟩
/-- x[i] in a target: the list of one's own in slot n, the number in slot j -/
def dgItem (n j : Nat) : DG := fun x env Q => match env[n]?, env[j]? with
  | some (.ow m (.lst xs)), some (.im (.int k)) => some9 (ixN xs.length k) fun jj => Q (env.set n (.ow m (.lst (xs.set jj x))))
  | _, _ => False
theorem simg_item {vs : List Nat} (n j : Nat) : SimG K vs (dgItem n j) (gSub (tVar n) (tVar j) rSetL) := ⟨fun {G L env σ F H x v Q9 Q} r hi h9 q => by
  unfold dgItem at h9
  split at h9
  · rename_i m xs k e1 e2
    obtain ⟨jj, ej, h9⟩ := some9_ex h9
    obtain ⟨a, o1, o2, o3, ws, o4, o5⟩ := r.ow n m _ e1
    obtain ⟨u, u1, u2⟩ := r.im j _ e2
    refine ⟨_, o1, _, u1, a, ws, k, jj, rfl, u2.ofI, o4, by rw [← o5.length]; exact ej, ?_⟩
    exact q _ _ F _ (r.mut e1 o1 (Has.mkL upd_same (o5.set hi jj))) (Same.refl F) rfl h9
  · exact h9.elim⟩
/-- a, b = two new things, each one's own -/
def dParO (i j : Nat) (d1 d2 : DE) : DS := fun X E env => d1 X env fun x e => d2 X0 e fun y e2 => E.nx ((e2.set i (.ow false x)).set j (.ow false y))
theorem sim_parO {i j : Nat} {d1 d2 : DE} {t1 t2 : TE} (s1 : SimF K W d1 t1) (s2 : SimF K W d2 t2) : SimS K W fr (dParO i j d1 d2) (tPar i j (tCons t1 (tCons t2 tNil))) := ⟨fun {G L env σ F H X9 E D} r h q x => s1.run r h (fun y e a F1 H1 r1 m1 f1 h1 => by
  obtain ⟨o, ho⟩ := f1.has.ex
  refine s2.run (r1.plus f1 ho) h1 (fun z e2 b F2 H2 r2 m2 f2 h2 => ?_) (fun e env' c dd F' H' _ _ k => k.elim)
  obtain ⟨r3, ha, fx⟩ := r2.minus f1.h0 f1.ext
  have fa := fx y (f1.has.mono m2 fun o2 e2 => by
    rw [ho] at e2
    cases e2
    exact ha)
  have nab : a ≠ b := f2.ext (a, o) List.mem_cons_self
  refine ⟨_, _, rfl, ?_⟩
  refine q.nx _ _ F2 H2 ((r3.set_ow i fa).set_ow j ⟨f2.f, f2.h0, f2.has, f2.nm, fun k m d e => ?_, fun p hp => f2.ext p (List.mem_cons_of_mem _ hp)⟩) (m1.trans m2) h2
  intro z9
  rcases get_set z9 with ⟨_, q9⟩ | ⟨n, q9⟩
  · exact nab (by simpa using q9)
  · rw [List.getElem?_set_ne n] at e
    exact f2.sep k m d e q9) (fun e env' c dd F' H' => x e env' σ c dd F' H')⟩
theorem sim_frzE {i : Nat} {d : DE} {t : TE} (s : SimE K W d t) : SimE K W (dFrzF i d) t := ⟨fun {G L env σ F H X9 Q9 Q} r h q x => by
  unfold dFrzF at h
  split at h
  · rename_i y e
    obtain ⟨F', a, r', sm, h1, h2⟩ := r.freeze_slot e
    exact s.run r' h (fun z e2 a F2 H2 r2 s2 f h => q z e2 a F2 H2 r2 (sm.trans s2) f h) x
  · exact s.run r h q x⟩
end
end Dv

set_option maxHeartbeats 4000000
/-! t[lo:hi] of a tuple, not the whole of it. -/
namespace Sk
open PySem PySem.Spec PyProof.Rows L2
section
variable {X : Cx}
theorem sl_tupK (K : PySem.W.Frag) (hK : X.K = K := by rfl) : SlR X (rSlT K) := hK ▸ sl_tup
end
end Sk
namespace Dv
open PySem PySem.Spec PyProof.Rows L2 Sk
section
variable {K : PySem.W.Frag} {W : WX} {G : Gh} {L LL : List (Addr × Obj)} {env : Sls} {σ : L2.St} {F F' H H' : Hp} {p a : Addr} {o : HO} {d x : D} {fr : Bool}
def dSlT (o : Op9) (l u : DO) : DE := fun X env Q => o.ev X env fun p e1 => l X e1 fun lo e2 => u X e2 fun hi e3 => match look9 e3 p with
  | some (.tup xs) => ¬ (HT.sIx xs.length 0 lo = 0 ∧ HT.sIx xs.length xs.length hi = xs.length) ∧ Q (.tup (cutD xs lo hi)) e3
  | _ => False
theorem sim_slT {o : Op9} {l u : DO} {t : TE} {tl tu : TO} (so : SimO K W o t) (sl : SimPt K W l tl) (su : SimPt K W u tu) : SimE K W (dSlT o l u) (L2.tSl (rSlT K) t tl tu) := ⟨fun {G L env σ F H X9 Q9 Q} r h q x =>
  so.run r h (fun p e1 v F1 H1 r1 s1 p1 h1 => sl.run r1 h1 (fun lo e2 F2 H2 r2 s2 h2 => su.run r2 h2 (fun hi e3 F3 H3 r3 s3 h3 => by
    split at h3
    · rename_i xs ex
      obtain ⟨a, ws, rfl, g1, g2⟩ := (r3.pk ((p1.mono s2).mono s3) ex).tup r3.sees
      exact ⟨a, ws, rfl, g1, by rw [← g2.length]; exact h3.1, fun l hl => q _ e3 _ _ _ (r3.newK hl _) (((s1.trans s2).trans s3).trans (same_upd (r3.free hl))) (.tup (SqT.of upd_same) (g2.cut.mono (same_upd (r3.free hl)))) h3.2⟩
    · exact h3.elim) x) x) x⟩
end
end Dv

set_option maxHeartbeats 4000000
/-! isinstance in an except suite, K told; a locked comprehension that is given a name. -/
namespace Sk
open PySem PySem.Spec PyProof.Rows L2
theorem call_isYK {X : Cx} (K : PySem.W.Frag) {C a : Addr} {cls : Value} {d : Option Addr} {oe : Obj} (T : ExcI K C) (hz : Zc cls d oe) (hf : ∃ vs, oe.data = .fields vs) (hin : (a, oe) ∈ X.pn) (hK : X.K = K := by rfl) : CallR X (.builtin "isinstance") (rIsY K C a cls d) := by
  subst hK
  exact call_isY T hz hf hin
end Sk
namespace Dv
open PySem PySem.Spec PyProof.Rows L2 Sk
theorem ps_lockSet {X : Cx} {st : Stmt} {te : TE} {i : Nat} (h : PS X st (tAsg te (gName i))) : PS X st (tAsg (tLockEA te) (gName i)) := ⟨fun pins s σ H D I q => (ps_lockA h).run pins s σ H D I (by
  rcases q with ⟨d, u, h1, h2, q⟩ | q
  · refine .inl ⟨d, u, h1, h2, fun od => ?_⟩
    exact q od
  · exact .inr q)⟩
end Dv
namespace Dv
open PySem PySem.Spec PyProof.Rows L2 Sk
section
variable {K : PySem.W.Frag} {W : WX} {F H : Hp}
/-- list(d) of a dict whose keys are texts -/
def fListD : FnC := fun xs Q => match xs with
  | [.dic kvs] => ∃ ns : List Str, kvs.map (·.1) = ns.map Sum.inr ∧ Q (.lst (ns.map D.str))
  | _ => False
theorem sc_listD : SimCN K fListD (fun xs H Q => ∃ (a : Addr) (kvs : List (Key × V)), xs = [.ref a] ∧ Rd H a (.dK kvs) ∧ ∀ p, H p = none → Q (.ref p) (upd H p (.lst (kvs.map fun kv => kV kv.1)))) := ⟨fun {F H xs vs} s hp Q9 Q f k => by
  unfold fListD at f
  split at f
  · obtain ⟨ns, e, f⟩ := f
    obtain ⟨v, rfl, q⟩ := hp.one
    obtain ⟨a, ws, rfl, h1, h2⟩ := q.dic s
    have e2 : (ws.map fun kv => kV kv.1) = ns.map V.str := by
      have : (ws.map (·.1)).map kV = (ns.map Sum.inr).map kV := by rw [h2.keys, e]
      rw [List.map_map, List.map_map] at this
      exact this
    exact ⟨a, ws, rfl, h1, fun p hp => by rw [e2]; exact k _ p _ hp (Has.mkL upd_same (strs_isL ns)) f⟩
  · exact f.elim⟩
end
end Dv

set_option maxHeartbeats 4000000
/-! A bag and the list of its things. -/
namespace Sk
open PySem PySem.Spec PyProof.Rows L2 Dv
theorem cnt_nil (n : Str) : cntZ [] n = 0 := rfl
theorem cnt_cons (a : Str) (L : List Str) (n : Str) : cntZ (a :: L) n = cntZ L n + if a = n then 1 else 0 := by
  unfold cntZ
  rw [List.countP_cons]
  by_cases e : a = n <;> simp [e]
theorem cnt_app (L M : List Str) (n : Str) : cntZ (L ++ M) n = cntZ L n + cntZ M n := by
  unfold cntZ
  rw [List.countP_append]
theorem cnt_pos {L : List Str} {n : Str} : 0 < cntZ L n ↔ n ∈ L := by
  unfold cntZ
  rw [List.countP_pos_iff]
  constructor
  · rintro ⟨a, h1, h2⟩
    have : a = n := by simpa using h2
    exact this ▸ h1
  · exact fun h => ⟨n, h, by simp⟩
theorem cnt_perm {L M : List Str} (h : L.Perm M) (n : Str) : cntZ L n = cntZ M n := h.countP_eq _
theorem cnt_mul (L : List Str) (n : Str) : ∀ k : Nat, cntZ (List.replicate k L).flatten n = k * cntZ L n
  | 0 => by simp [cntZ]
  | k + 1 => by
    rw [List.replicate_succ, List.flatten_cons, cnt_app, cnt_mul L n k, Nat.succ_mul]
    omega
theorem cnt_erase : ∀ (L : List Str) (j : Nat) (a n : Str), L[j]? = some a → cntZ L n = cntZ (L.eraseIdx j) n + if a = n then 1 else 0
  | [], _, _, _, h => by simp at h
  | b :: L, 0, a, n, h => by
    simp at h
    subst h
    exact cnt_cons b L n
  | b :: L, j + 1, a, n, h => by
    have := cnt_erase L j a n (by simpa using h)
    rw [List.eraseIdx_cons_succ, cnt_cons, cnt_cons, this]
    omega
theorem tot_ones (n : Str) : ∀ L : List Str, tot (L.map fun w => (w, 1)) n = ((cntZ L n : Nat) : Int)
  | [] => rfl
  | a :: L => by
    rw [List.map_cons, tot_cons, tot_ones n L, cnt_cons]
    by_cases e : a = n
    · rw [if_pos e, if_pos e]
      omega
    · rw [if_neg e, if_neg e]
      omega
theorem sum_ones : ∀ L : List Str, sumC (L.map fun w => (w, 1)) = (L.length : Int)
  | [] => rfl
  | a :: L => by
    rw [List.map_cons, sumC_cons, sum_ones L, List.length_cons]
    omega
theorem sumC_accAll : ∀ (ps acc : List (Str × Int)), (keysOf acc).Nodup → sumC (accAll acc ps) = sumC acc + sumC ps
  | [], acc, _ => by
    show sumC acc = sumC acc + 0
    omega
  | p :: ps, acc, nd => by
    rw [accAll_cons, sumC_accAll ps (addC acc p.1 p.2) (nodup_put nd), sumC_cons, addSum nd]
    omega
/-- the bag's counts are those of the list -/
structure BL (cs : List (Str × Int)) (L : List Str) : Prop where
  good : GoodC cs
  eq : ∀ n, (look cs n).getD 0 = ((cntZ L n : Nat) : Int)
theorem BL.mem {cs : List (Str × Int)} {L : List Str} (b : BL cs L) (n : Str) : n ∈ keysOf cs ↔ n ∈ L := by
  refine Iff.trans ?_ cnt_pos
  have e := b.eq n
  constructor
  · intro h
    cases q : look cs n with
    | none => exact absurd h (look_none.mp q)
    | some c =>
      rw [q] at e
      have := b.good.pos _ (look_mem q)
      have e : c = _ := e
      simp at this
      omega
  · intro h
    refine Classical.byContradiction fun z => ?_
    rw [look_none.mpr z] at e
    have e : (0 : Int) = _ := e
    omega
theorem BL.name {cs : List (Str × Int)} {L : List Str} (b : BL cs L) : ∀ n ∈ L, isName n = true := fun n h => by
  obtain ⟨p, hp, rfl⟩ := List.mem_map.mp ((b.mem n).mpr h)
  exact b.good.nm p hp
theorem wordsAre_ones : ∀ {L : List Str}, (∀ n ∈ L, isName n = true) → ∀ {M : List Str} {ps : List (Str × Int)}, WordsAre M ps → WordsAre (M ++ L) (ps ++ L.map fun w => (w, 1))
  | [], _, M, ps, h => by simpa using h
  | a :: L, hn, M, ps, h => by
    have := wordsAre_ones (L := L) (fun n q => hn n (List.mem_cons_of_mem _ q)) (h.snoc (word_name (hn a List.mem_cons_self)))
    simpa using this
/-- the bag of the list's text -/
theorem BL.text {L : List Str} (hn : ∀ n ∈ L, isName n = true) (hl : L.length ≤ 60) : ∃ cs, bagOf (Txt.join (Str.ofString " ") L) = .ok cs ∧ BL cs L := by
  have w := wordsAre_ones hn WordsAre.nil
  rw [List.nil_append, List.nil_append] at w
  have pos : ∀ p ∈ L.map fun w => (w, (1 : Int)), 1 ≤ p.2 := fun p hp => by
    obtain ⟨a, _, rfl⟩ := List.mem_map.mp hp
    exact Int.le_refl 1
  have eq : ∀ n, (look (accAll [] (L.map fun w => (w, 1))) n).getD 0 = ((cntZ L n : Nat) : Int) := fun n => by
    rw [look_accAll, tot_ones]
    show 0 + _ = _
    omega
  have nd := nodup_accAll (L.map fun w => (w, (1 : Int))) [] (by simp [keysOf])
  have ps := pos_accAll (L.map fun w => (w, (1 : Int))) [] pos fun _ z => nomatch z
  have hk : ∀ n ∈ keysOf (accAll [] (L.map fun w => (w, 1))), n ∈ L := fun n h => by
    refine cnt_pos.mp ?_
    have e := eq n
    cases q : look (accAll [] (L.map fun w => (w, 1))) n with
    | none => exact absurd h (look_none.mp q)
    | some c =>
      rw [q] at e
      have := ps _ (look_mem q)
      have e : c = _ := e
      simp at this
      omega
  have few : (accAll [] (L.map fun w => (w, (1 : Int)))).length ≤ L.length := by
    have := SkR.nodup_len nd hk
    unfold keysOf at this
    rw [List.length_map] at this
    exact this
  refine ⟨accAll [] (L.map fun w => (w, 1)), ?_, ⟨by omega, nd, fun p hp => hn _ (hk _ (List.mem_map_of_mem hp)), ps, ?_⟩, eq⟩
  · unfold bagOf
    rw [w.split]
    exact countsL_acc _ _ 0 [] 0 w.parse pos (by rw [sum_ones]; omega)
  · rw [sumC_accAll _ [] (by simp [keysOf]), sum_ones]
    show (0 : Int) + _ ≤ _
    omega
theorem BL.len {cs : List (Str × Int)} {L : List Str} (b : BL cs L) : sumC cs = (L.length : Int) := by
  have nd := nodup_accAll (L.map fun w => (w, (1 : Int))) [] (by simp [keysOf])
  have pos : ∀ p ∈ L.map fun w => (w, (1 : Int)), 1 ≤ p.2 := fun p hp => by
    obtain ⟨a, _, rfl⟩ := List.mem_map.mp hp
    exact Int.le_refl 1
  have p : cs.Perm (accAll [] (L.map fun w => (w, 1))) := perm_of_look b.good.nd nd b.good.pos (pos_accAll _ [] pos fun _ z => nomatch z) fun n => by
    rw [b.eq, look_accAll, tot_ones]
    show _ = 0 + _
    omega
  rw [perm_sumC p, sumC_accAll _ [] (by simp [keysOf]), sum_ones]
  show (0 : Int) + _ = _
  omega
/-- two bags are alike just where their lists are, put in order -/
theorem BL.same {cs es : List (Str × Int)} {L M : List Str} (b : BL cs L) (c : BL es M) : sameC cs es = true ↔ ∀ n, cntZ L n = cntZ M n := by
  constructor
  · intro h n
    have h2 : ∀ p ∈ cs, look es p.1 = some p.2 := fun p hp => by
      unfold sameC at h
      have := List.all_eq_true.mp (Bool.and_eq_true_iff.mp h).2 p hp
      simpa using this
    have hl : cs.length = es.length := by
      unfold sameC at h
      simpa using (Bool.and_eq_true_iff.mp h).1
    have e1 := b.eq n
    have e2 := c.eq n
    cases q : look cs n with
    | some v =>
      have := h2 _ (look_mem q)
      rw [q] at e1
      rw [show look es n = some v from this] at e2
      have e1 : v = _ := e1
      have e2 : v = _ := e2
      omega
    | none =>
      have hk : n ∉ keysOf es := fun z => by
        have sub : ∀ k ∈ n :: keysOf cs, k ∈ keysOf es := fun k hk => by
          rcases List.mem_cons.mp hk with rfl | hk
          · exact z
          · obtain ⟨p, hp, rfl⟩ := List.mem_map.mp hk
            exact Classical.byContradiction fun y => by
              have := h2 p hp
              rw [look_none.mpr y] at this
              cases this
        have := SkR.nodup_len (List.nodup_cons.mpr ⟨look_none.mp q, b.good.nd⟩) sub
        unfold keysOf at this
        simp at this
        omega
      rw [q] at e1
      rw [look_none.mpr hk] at e2
      have e1 : (0 : Int) = _ := e1
      have e2 : (0 : Int) = _ := e2
      omega
  · intro h
    refine perm_same (perm_of_look b.good.nd c.good.nd b.good.pos c.good.pos fun n => ?_) b.good.nd
    rw [b.eq, c.eq, h]
end Sk

set_option maxHeartbeats 1000000
/-! A list without another one's things. -/
namespace Sk
open PySem PySem.Spec PyProof.Rows L2 Dv SkE
/-- the least of what there is too little -/
structure Least (L M : List Str) (m : Str) : Prop where
  mem : m ∈ M
  few : cntZ L m < cntZ M m
  least : ∀ y ∈ M, cntZ L y < cntZ M y → leB m y = true
theorem first_at : ∀ {R : List Str} {n : Str}, n ∈ R → ∃ j, R[j]? = some n ∧ ∀ m : Nat, m < j → R[m]? ≠ some n
  | [], _, h => nomatch h
  | a :: R, n, h => by
    by_cases e : a = n
    · exact ⟨0, by rw [e]; rfl, fun m hm => absurd hm (Nat.not_lt_zero m)⟩
    · obtain ⟨j, h1, h2⟩ := first_at ((List.mem_cons.mp h).resolve_left fun z => e z.symm)
      refine ⟨j + 1, by simpa using h1, fun m hm => ?_⟩
      cases m with
      | zero => simpa using e
      | succ m => simpa using h2 m (by omega)
def fs__law_left : FS := ⟨[false, false], false, fun ds Q _ => ∃ L M, ds = [.lst (L.map D.str), .lst (M.map D.str)] ∧ (L.length ≤ 400 ∧ M.length ≤ 400) ∧ (∀ R : List Str, R.length ≤ L.length → (∀ n, cntZ L n = cntZ R n + cntZ M n) → Q (.tup [.lst (R.map D.str), .non]) []) ∧ (∀ m, Least L M m → Q (.tup [.non, .str m]) [])⟩
def fs__law_less : FS := ⟨[false, false], false, fun ds Q _ => ∃ cs es, ds = [bagD cs, bagD es] ∧ GoodC cs ∧ GoodC es ∧ (∀ n, short cs es = some n → Q (.str n) []) ∧ (short cs es = none → Q (bagD (lessC cs es)) [])⟩
section
variable {P : Program} {w : World} {K : PySem.W.Frag} {mg : Str → Option Value} {base : Heap}
theorem cal__law_less (Y : Yes K mg) : C8.Cal P w K mg base 16 "_law_less" (fs__law_less.to K) [] := by
  obtain ⟨fd, F⟩ := Y.f__law_less
  refine calD F Y.g__law_less sc__law_less (fun _ _ _ _ _ _ us hl => match us, hl with | [_, _], _ => rfl) (FS.len rfl) (fun cdv A outer s H vs Q E hr h => ?_)
  have hu := hu_of hr
  refine ⟨_, (pss_cons (ps_try_as (i := 2) rfl rfl sc__law_less.nd rfl rfl ⟨rfl, by decide, .inl Y.g_NotHeld⟩ takes0 (fun W pn xe tk _ => (pss_one (ps_ret (pe_mtX (metX_Bag_less Y) tk hr (by decide) (pv 0) (pa_cons (pv 1) pa_nil)))))
  (fun a oe cls d pn hz hf => (pss_one (ps_ret (pe_xf (ExcG.xfc Y.xg_NotHeld) (ExcG.no Y.xg_NotHeld) hz hf (pv 2)))))) pss_nil),
    body_ok0 (f := fs__law_less) (sim_seq (sim_tryAs (c := "NotHeld") (i := 2) (ExcG.exm Y.xg_NotHeld) (fun W' => (sim_ret (sim_methX (.e (sim_var 0)) (.cons (.e (sim_var 1)) .nil) rfl (fun _ => .nil) (by decide) rfl)))
  (fun a d => (sim_ret (sim_xf (a := a) (d := d) (c := "NotHeld") (f := "name") (.s 2))))) sim_next)
    (by decide) (fun ds Q9 E9 h => ?_) h⟩
  obtain ⟨cs, es, rfl, g1, g2, k1, k2⟩ := h
  exact ⟨⟨rfl, rfl⟩, cs, es, rfl, g1, g2, fun n hn => ⟨_, rfl, fun a d => ⟨⟨rfl, rfl, rfl⟩, k1 n hn⟩⟩, k2⟩
theorem cal__law_left (Y : Yes K mg) : C8.Cal P w K mg base 1 "_law_left" (fs__law_left.to K) [] := by
  obtain ⟨fd, F⟩ := Y.f__law_left
  refine calD F Y.g__law_left sc__law_left (fun _ _ _ _ _ _ us hl => match us, hl with | [_, _], _ => rfl) (FS.len rfl) (fun cdv A outer s H vs Q E hr h => ?_)
  have hu := hu_of hr
  refine ⟨_, (pss_cons (ps_set (i := 2) sc__law_left.nd rfl (.inl rfl) (pe_callTy (call_listK K) (by rfl) Y.n_list (by decide +kernel) (pa_cons (pv 0) pa_nil)))
  (pss_cons (ps_for PassesOwn.never rfl (pi_listK K (pv 1)) (pg_name (i := 3) sc__law_left.nd rfl (.inl rfl))
  (pss_one (ps_if (pt_cmpR (op_inK K) (pv 3) (pv 2) rfl) (pss_one (ps_expr (pe_bmK K PySem.F.plainAttrs_list PySem.F.slot_list_remove PySem.F.type_list_remove SkR.mt_removeZ (pv 2) (pa_cons (pv 3) pa_nil)))) (pss_one (ps_ret (pe_tup (pa_cons pe_non (pa_cons (pe_callB (SkR.cr_minZ K rfl hu) (by rfl) Y.n_min (by decide +kernel) (pa_cons (pe_lc (own := [("_law_one", 4)]) (g := gName 4)  rfl sc__law_left.nd (pi_listK K (pv 1)) (blkOk_by (N := ["_law_mine", "_law_its", "_law_left_here", "_law_name", "_law_one"]) (own := [("_law_one", 4)]) (sc := (defScope s__law_left)) (by decide +kernel)) (fun _ _ _ _ _ => (pg_name (i := 4) sc__law_left.nd rfl (.inl rfl))) (fun _ _ _ _ _ => (pts_one (pt_cmpR op_gt (pe_bmK K PySem.F.plainAttrs_list PySem.F.slot_list_count PySem.F.type_list_count (SkR.mt_lcountZ K) (pv 1) (pa_cons (pv 4) pa_nil)) (pe_bmK K PySem.F.plainAttrs_list PySem.F.slot_list_count PySem.F.type_list_count (SkR.mt_lcountZ K) (pv 0) (pa_cons (pv 4) pa_nil)) (nomark _)))) (fun _ _ _ _ _ => (pv 4))) pa_nil)) pa_nil))))))))
  (pss_one (ps_ret (pe_tup (pa_cons (pv 2) (pa_cons pe_non pa_nil))))))),
    body_ok0 (f := fs__law_left) (sim_seq (sim_setO (sim_cbN sc_list (.cons (.s 0) .nil)))
  (sim_seq (sim_for (simi_list (sim_var 1)) (simg_name (vs := [3]) 3 (by decide))
  (sim_ifS (sim_test (sim_op2 (s2_in (neg := false)) (.s 3) (.s 2))) (sim_drop (sim_mut sm_removeZ (sim_cons (sim_var 3) sim_nil))) (sim_ret (sim_tup (sim_cons sim_non (sim_cons (sim_cb sc_minZ (.cons (.e ((sim_lc (simi_list (sim_var 1)) (simg_name (vs := [4]) 4 (by decide)) (sim_test (sim_op2 s2_gt (.e (sim_countZ (sim_var 1) (sim_cons (sim_var 4) sim_nil))) (.e (sim_countZ (sim_var 0) (sim_cons (sim_var 4) sim_nil))))) (sim_var 4))).e) .nil)) sim_nil))))))
  (sim_ret (sim_frzE (i := 2) (sim_tup (sim_cons (sim_var 2) (sim_cons sim_non sim_nil)))))))
    (by decide) (fun ds Q9 E9 h => ?_) h⟩
  obtain ⟨L, M, rfl, hl, k1, k2⟩ := h
  conv => whnf
  refine forL_map (f := D.str) (l := M) (fun done ys e => ∃ (R : List Str) (y3 y4 : Sl), e = [.im (.lst (L.map D.str)), .im (.lst (M.map D.str)), .ow false (.lst (R.map D.str)), y3, y4] ∧ R.length ≤ L.length ∧ ∀ n, cntZ L n = cntZ R n + cntZ done n) ⟨L, _, _, rfl, Nat.le_refl _, fun n => by rw [cnt_nil]; rfl⟩ (fun done n ys e el h ih => ?_) (fun e h => ?_)
  · obtain ⟨R, y3, y4, rfl, hR, hc⟩ := h
    conv => whnf
    refine ⟨.str n, R.map V.str, rfl, vFlats_strs R, ?_⟩
    by_cases hn : n ∈ R
    · refine ifB_t (show inV (.str n) (R.map V.str) = true by rw [inV_str]; exact decide_eq_true hn) ?_
      obtain ⟨j, hj, hjn⟩ := first_at hn
      refine ⟨R, j, rfl, hj, hjn, ih _ ⟨R.eraseIdx j, _, _, rfl, Nat.le_trans (List.length_eraseIdx_le _ _) hR, fun k => ?_⟩⟩
      rw [hc k, cnt_erase R j n k hj, cnt_app, cnt_cons, cnt_nil]
      omega
    · clear ih
      refine ifB_f (show inV (.str n) (R.map V.str) = false by rw [inV_str]; exact decide_eq_false hn) ?_
      conv => whnf
      refine lcL_map (f := D.str) (l := M) (fun ys acc e => ∃ (dn : List Str) (y4 : Sl), M = dn ++ ys ∧ acc = (dn.filter fun k => decide (cntZ L k < cntZ M k)).map D.str ∧ e = [.im (.lst (L.map D.str)), .im (.lst (M.map D.str)), .ow false (.lst (R.map D.str)), .im (.str n), y4]) ⟨[], _, rfl, rfl, rfl⟩ (fun x ys acc env hx hp rest hr => ?_) (fun acc e hp => ?_)
      · obtain ⟨dn, y4, e1, rfl, rfl⟩ := hp
        refine ⟨M, rfl, L, rfl, ?_⟩
        conv => whnf
        have hdn : dn.length ≤ 400 := by
          have := congrArg List.length e1
          rw [List.length_append] at this
          omega
        by_cases hk : cntZ L x < cntZ M x
        · refine ifB_t (decide_eq_true (Int.ofNat_lt.mpr hk)) ⟨?_, hr _ _ ⟨dn ++ [x], _, by rw [e1]; simp, ?_, rfl⟩⟩
          · have := List.length_filter_le (fun k => decide (cntZ L k < cntZ M k)) dn
            rw [List.length_map]
            omega
          · rw [List.filter_append, List.map_append]
            simp [hk]
        · refine ifB_f (decide_eq_false fun z => hk (Int.ofNat_lt.mp z)) (hr _ _ ⟨dn ++ [x], _, by rw [e1]; simp, ?_, rfl⟩)
          rw [List.filter_append, List.map_append]
          simp [hk]
      · obtain ⟨dn, y4, e1, rfl, rfl⟩ := hp
        rw [List.append_nil] at e1
        subst e1
        refine ⟨_, rfl, ?_, fun m hm hl2 => ?_⟩
        · refine List.ne_nil_of_mem (a := n) (List.mem_filter.mpr ⟨by rw [el]; simp, decide_eq_true ?_⟩)
          have h1 := hc n
          have h2 : cntZ R n = 0 := by
            have := mt cnt_pos.mp hn
            omega
          have h3 := congrArg (fun z => cntZ z n) el
          rw [cnt_app, cnt_cons, if_pos rfl] at h3
          omega
        · refine ⟨by simp, k2 m ?_⟩
          obtain ⟨h1, h2⟩ := List.mem_filter.mp hm
          exact ⟨h1, by simpa using h2, fun y hy hy2 => hl2 y (List.mem_filter.mpr ⟨hy, by simpa using hy2⟩)⟩
  · obtain ⟨R, y3, y4, rfl, hR, hc⟩ := h
    exact ⟨by simp, k1 R hR hc⟩
end
end Sk

set_option maxHeartbeats 1000000
/-! The text of a list's bag. -/
namespace Sk
open PySem PySem.Spec PyProof.Rows L2 Dv SkE
theorem BL.srt {cs : List (Str × Int)} {L ys : List Str} (b : BL cs L) (hs : sortedS ys = true) (nd : ys.Nodup) (hm : ∀ k, k ∈ ys ↔ k ∈ L) : ys = srt (keysOf cs) := by
  refine srt_of ?_ hs
  rw [List.perm_ext_iff_of_nodup nd b.good.nd]
  exact fun k => (hm k).trans (b.mem k).symm
def fs__law_text : FS := ⟨[false], false, fun ds Q _ => ∃ cs L, ds = [.lst (L.map D.str)] ∧ BL cs L ∧ L.length ≤ 400 ∧ Q (.str (textOf cs)) []⟩
section
variable {P : Program} {w : World} {K : PySem.W.Frag} {mg : Str → Option Value} {base : Heap}
theorem cal__law_text (Y : Yes K mg) : C8.Cal P w K mg base 1 "_law_text" (fs__law_text.to K) [] := by
  obtain ⟨fd, F⟩ := Y.f__law_text
  refine calD F Y.g__law_text sc__law_text (fun _ _ _ _ _ _ us hl => match us, hl with | [_], _ => rfl) (FS.len rfl) (fun cdv A outer s H vs Q E hr h => ?_)
  have hu := hu_of hr
  refine ⟨_, (pss_cons (ps_set (i := 1) sc__law_text.nd rfl (.inl rfl) (pe_lst pa_nil))
  (pss_cons (ps_for PassesOwn.never rfl (pi_listK K (pe_callB (SkR.call_sortedU rfl) (by rfl) Y.n_sorted (by decide +kernel) (pa_cons (pe_callTy (SkR.call_setY rfl) (by rfl) Y.n_set (by decide +kernel) (pa_cons (pv 0) pa_nil)) pa_nil))) (pg_name (i := 2) sc__law_text.nd rfl (.inl rfl))
  (pss_one (ps_expr (pe_bmK K PySem.F.plainAttrs_list PySem.F.slot_list_append PySem.F.type_list_append mt_append (pv 1) (pa_cons (pe_op op_add_str (pv 2) (pe_op op_mul_str (pe_op op_add_str pe_str (pe_callTy call_str_int (by rfl) Y.n_str (by decide +kernel) (pa_cons (pe_bmK K PySem.F.plainAttrs_list PySem.F.slot_list_count PySem.F.type_list_count (SkR.mt_lcountZ K) (pv 0) (pa_cons (pv 2) pa_nil)) pa_nil))) (pe_callTy call_int1 (by rfl) Y.n_int (by decide +kernel) (pa_cons (pe_cmpR op_gt (pe_bmK K PySem.F.plainAttrs_list PySem.F.slot_list_count PySem.F.type_list_count (SkR.mt_lcountZ K) (pv 0) (pa_cons (pv 2) pa_nil)) pe_int (nomark _)) pa_nil)))) pa_nil)))))
  (pss_one (ps_ret (pe_joinK K pe_str (pv 1)))))),
    body_ok0 (f := fs__law_text) (sim_seq (sim_setO (sim_lst sim_nil))
  (sim_seq (sim_for (simi_list ((sim_sortSetU (sim_var 0))).e) (simg_name (vs := [2]) 2 (by decide))
  (sim_drop (sim_mut sm_append (sim_cons (sim_op2 s2_catS (.s 2) (.e (sim_op2 s2_mulS (.e (sim_op2 s2_catS (.e sim_str) (.e (sim_cb sc_strI (.cons (.e (sim_countZ (sim_var 0) (sim_cons (sim_var 2) sim_nil))) .nil))))) (.e (sim_cb sc_int (.cons (.e (sim_op2 s2_gt (.e (sim_countZ (sim_var 0) (sim_cons (sim_var 2) sim_nil))) (.e sim_int))) .nil)))))) sim_nil))))
  (sim_ret (sim_join sim_str (.s 1)))))
    (by decide) (fun ds Q9 E9 h => ?_) h⟩
  obtain ⟨cs, L, rfl, b, hl, k⟩ := h
  have few := b.good.few
  have good := b.good
  refine ⟨by simp, L, keysOf cs, rfl, by omega, fun n h => (b.mem n).mpr h, by unfold keysOf; rw [List.length_map]; exact few, fun ys hs nd hm => ?_⟩
  have ey := b.srt hs nd hm
  subst ey
  have sl : (srt (keysOf cs)).length < 64 := by rw [length_srt]; unfold keysOf; rw [List.length_map]; exact few
  have wl : ∀ n ∈ srt (keysOf cs), ∃ c, look cs n = some c ∧ 1 ≤ c ∧ c ≤ 100000 ∧ isName n = true := fun n hn => by
    obtain ⟨⟨n', c⟩, hq1, e⟩ := List.mem_map.mp (mem_srt.mp hn)
    cases e
    exact ⟨c, look_of good.nd hq1, good.pos _ hq1, good.le _ hq1, good.nm _ hq1⟩
  refine forL_map (f := D.str) (l := srt (keysOf cs)) (fun done ys e => ∃ y2, e = [.im (.lst (L.map D.str)), .ow false (.lst ((done.map fun n => wordOf n ((look cs n).getD 0)).map D.str)), y2]) ⟨_, rfl⟩ (fun done nn ys e el h ih => ?_) (fun e h => ?_)
  · obtain ⟨y2, rfl⟩ := h
    have hm : nn ∈ srt (keysOf cs) := by rw [el]; simp
    obtain ⟨c, lk, c1, c2, inm⟩ := wl nn hm
    have hc : ((cntZ L nn : Nat) : Int) = c := by rw [← b.eq nn, lk]; rfl
    refine ⟨L, rfl, ?_⟩
    rw [hc]
    have dl := congrArg List.length el
    rw [List.length_append] at dl
    simp only [List.length_cons] at dl
    have ln := numT_len (c := c) (by omega) (by omega)
    have ls : (Str.ofString "*").length = 1 := by decide +kernel
    have nl := (isName_len inm).2
    have ln' : (toString c : Str).length ≤ 6 := ln
    have tl6 : (Str.ofString "*" ++ numT c).length ≤ 7 := by rw [append_len]; omega
    have fin : ∀ w : Str, w = wordOf nn c → ∃ y2, [Sl.im (.lst (L.map D.str)), .ow false (.lst ((done.map fun n => wordOf n ((look cs n).getD 0)).map D.str ++ [.str w])), .im (.str nn)] = [.im (.lst (L.map D.str)), .ow false (.lst (((done ++ [nn]).map fun n => wordOf n ((look cs n).getD 0)).map D.str)), y2] := fun w hw => by
      refine ⟨.im (.str nn), ?_⟩
      rw [List.map_append, List.map_append, hw]
      show _ = [Sl.im (.lst (L.map D.str)), .ow false (.lst (_ ++ [.str (wordOf nn ((look cs nn).getD 0))])), .im (.str nn)]
      rw [lk]
      rfl
    refine ⟨log_small (by omega) (by omega), by show _ + (toString c : Str).length ≤ _; omega, L, rfl, ?_⟩
    rw [hc]
    by_cases e : c = 1
    · have em : Txt.mul (Str.ofString "*" ++ Str.ofString (toString c)) (if decide (1 < c) = true then 1 else 0) = Str.ofString "" := by
        rw [decide_eq_false (show ¬ 1 < c by omega)]
        exact mul_zero _
      refine ⟨⟨by split <;> omega, by split <;> omega, Nat.le_trans tl6 (by omega)⟩, ?_⟩
      conv => whnf
      rw [em, app_empty]
      exact ⟨by have : (Str.ofString "").length = 0 := by decide +kernel
                omega, by rw [List.length_map, List.length_map]; omega, ih _ (fin _ (by unfold wordOf; rw [if_pos e]))⟩
    · have em : Txt.mul (Str.ofString "*" ++ Str.ofString (toString c)) (if decide (1 < c) = true then 1 else 0) = Str.ofString "*" ++ Str.ofString (toString c) := by
        rw [decide_eq_true (show 1 < c by omega)]
        exact mul_one _
      refine ⟨⟨by split <;> omega, by split <;> omega, Nat.le_trans tl6 (by omega)⟩, ?_⟩
      conv => whnf
      rw [em]
      exact ⟨by have : (Str.ofString "*" ++ Str.ofString (toString c)).length ≤ 7 := tl6
                omega, by rw [List.length_map, List.length_map]; omega, ih _ (fin _ (by unfold wordOf; rw [if_neg e, app_assoc]; rfl))⟩
  · obtain ⟨y2, rfl⟩ := h
    refine ⟨(srt (keysOf cs)).map fun n => wordOf n ((look cs n).getD 0), rfl, ?_, k⟩
    refine Nat.le_trans (words_size (by decide +kernel) (by rw [List.length_map]; omega) fun x hx => ?_) (by omega)
    obtain ⟨n, hn, rfl⟩ := List.mem_map.mp hx
    obtain ⟨c, lk, c1, c2, inm⟩ := wl n hn
    rw [lk]
    exact wordOf_len (isName_len inm).2 (by show 0 ≤ c; omega) (by show c < 1000000; omega)
end
end Sk

set_option maxHeartbeats 1000000
/-! What is reckoned of bags and of their lists. -/
namespace Sk
open PySem PySem.Spec PyProof.Rows L2 Dv SkE
section
variable {cs es : List (Str × Int)} {L M R : List Str}
theorem BL.few (b : BL cs L) {ns : List Str} (h : ∀ n ∈ L, n ∈ ns) : cs.length ≤ ns.length := by
  have := SkR.nodup_len b.good.nd fun n hn => h n ((b.mem n).mp hn)
  unfold keysOf at this
  rwa [List.length_map] at this
theorem BL.plus (b : BL cs L) (c : BL es M) {ns : List Str} (h1 : ∀ n ∈ L, n ∈ ns) (h2 : ∀ n ∈ M, n ∈ ns) (hn : ns.length ≤ 26) (hl : L.length + M.length ≤ 400) : BL (plusC cs es) (L ++ M) := by
  have f1 := b.few h1
  have f2 := c.few h2
  have e : ∀ n, (look (plusC cs es) n).getD 0 = ((cntZ (L ++ M) n : Nat) : Int) := fun n => by
    unfold plusC
    rw [look_nz n _ (accs_nd _ [] (by simp [keysOf])), acc_two b.good c.good, b.eq, c.eq, cnt_app]
    omega
  refine ⟨good_two b.good c.good (by omega) (fun n => ?_) ?_, e⟩
  · rw [b.eq, c.eq]
    omega
  · rw [b.len, c.len]
    omega
theorem BL.less (b : BL cs L) (c : BL es M) {ns : List Str} (h1 : ∀ n ∈ L, n ∈ ns) (h2 : ∀ n ∈ M, n ∈ ns) (hn : ns.length ≤ 26) (hl : L.length ≤ 400) (hr : ∀ n, cntZ L n = cntZ R n + cntZ M n) : BL (lessC cs es) R := by
  have f1 := b.few h1
  have f2 := c.few h2
  have e : ∀ n, (look (lessC cs es) n).getD 0 = ((cntZ R n : Nat) : Int) := fun n => by
    unfold lessC
    rw [look_nz n _ (accs_nd _ [] (by simp [keysOf])), acc_two b.good c.good, b.eq, c.eq, hr]
    omega
  refine ⟨good_two b.good c.good (by omega) (fun n => ?_) ?_, e⟩
  · rw [b.eq, c.eq, hr]
    omega
  · rw [b.len, c.len]
    omega
theorem BL.times (b : BL cs L) {ns : List Str} (h1 : ∀ n ∈ L, n ∈ ns) (hn : ns.length ≤ 26) (k : Nat) (hl : L.length * k ≤ 400) : BL (timesC cs (k : Int)) (List.replicate k L).flatten := by
  have f1 := b.few h1
  have e : ∀ n, (look (timesC cs (k : Int)) n).getD 0 = ((cntZ (List.replicate k L).flatten n : Nat) : Int) := fun n => by
    unfold timesC
    rw [look_nz n _ (accs_nd _ [] (by simp [keysOf])), acc_one b.good, b.eq, cnt_mul, Int.natCast_mul]
  refine ⟨?_, e⟩
  unfold timesC
  refine good_nz (accs_nd _ [] (by simp [keysOf])) (fun p hp => ?_) (fun n => ?_) ?_ ?_
  · rcases key_accM (k : Int) cs [] p hp with h | h
    · simp [keysOf] at h
    · obtain ⟨u, hu, eu⟩ := List.mem_map.mp h
      rw [← eu]
      exact b.good.nm u hu
  · rw [acc_one b.good, b.eq, ← Int.natCast_mul]
    omega
  · have := accs_len [(cs, (k : Int))] []
    simp at this
    omega
  · show sumC (accM [] cs (k : Int)) ≤ _
    rw [sumC_accM (k : Int) cs [] (by simp [keysOf]), show sumC ([] : List (Str × Int)) = 0 from rfl, b.len, ← Int.natCast_mul, Nat.mul_comm]
    omega
theorem find_least {p : Str → Bool} {m : Str} : ∀ {l : List Str}, l.Pairwise (fun a b => leB a b = true) → m ∈ l → p m = true → (∀ y ∈ l, p y = true → leB m y = true) → l.find? p = some m
  | [], _, h, _, _ => nomatch h
  | a :: l, pw, h, hp, hl => by
    obtain ⟨w1, w2⟩ := List.pairwise_cons.mp pw
    rw [List.find?_cons]
    cases e : p a with
    | true =>
      have h1 := hl a List.mem_cons_self e
      rcases List.mem_cons.mp h with rfl | h
      · rfl
      · exact congrArg some (leB_anti (w1 m h) h1)
    | false =>
      rcases List.mem_cons.mp h with rfl | h
      · rw [hp] at e
        cases e
      · exact find_least w2 h hp fun y hy => hl y (List.mem_cons_of_mem _ hy)
theorem BL.short (b : BL cs L) (c : BL es M) {m : Str} (h : Least L M m) : short cs es = some m := by
  unfold Sk.short
  have key : ∀ y, decide ((look cs y).getD 0 < (look es y).getD 0) = decide (cntZ L y < cntZ M y) := fun y => by
    rw [b.eq, c.eq]
    exact decide_eq_decide.mpr Int.ofNat_lt
  refine find_least (srt_pw _) (mem_srt.mpr ((c.mem m).mpr h.mem)) (by rw [key]; exact decide_eq_true h.few) fun y hy hy2 => ?_
  rw [key] at hy2
  exact h.least y ((c.mem y).mp (mem_srt.mp hy)) (of_decide_eq_true hy2)
theorem BL.noShort (b : BL cs L) (c : BL es M) (h : ∀ n, cntZ L n = cntZ R n + cntZ M n) : Sk.short cs es = none := by
  unfold Sk.short
  refine List.find?_eq_none.mpr fun y _ z => ?_
  rw [b.eq, c.eq] at z
  have z := of_decide_eq_true z
  have := h y
  omega
end
end Sk

set_option maxHeartbeats 4000000
/-! xs * int(c); text.upper(). -/
namespace Sk
open PySem PySem.Spec PyProof.Rows L2
theorem q_mul_int (l : Addr) (items : Array Value) (n : Nat) (d : Option Addr) (sl : Array (Option Value)) (x : Int) (u : Tok) (hc0 : ¬(!Builtin.List.listFitsIndex x) = true)
    (hc1 : ¬items.size * x.toNat > (2 ^ 63 - 1) / 8) (hc2 : ¬Builtin.List.listTooLong (items.size * x.toNat) = true) :
    Meets (Builtin.«list.__mul__» ⟨[.ref l, .int x u], []⟩) (fun _ R s => s.heap.get? l = some { cls := .type "list", dict := d, data := .seq items n, slots := sl } ∧ R (.ok (.ret (Value.ref s.heap.objs.size))) { s with heap := s.heap.push { cls := Value.type "list", data := Data.seq (List.foldl (fun x1 x2 => x1 ++ x2) #[] (List.replicate (if items.isEmpty = true then 0 else x.toNat) items)) }, toks := s.toks }) :=
  .of_wp fun prog w A R s h => by
    obtain ⟨hp, g, d, tk, os⟩ := s; obtain ⟨hl, h⟩ := h
    have hsz := AutoListH.joined_fits hc2
    wp_walk; refine wpAny_ite_false (decide_eq_false (Nat.not_lt.mpr hsz)) ?_; wp_walk; exact ⟨_, rfl, h⟩
theorem q_rmul_int (a : Int) (t : Tok) (l : Addr) (items : Array Value) (n : Nat) (d : Option Addr) (sl : Array (Option Value)) :
    Meets (Builtin.«int.__rmul__» ⟨[.int a t, .ref l], []⟩) (fun _ R s => s.heap.get? l = some { cls := .type "list", dict := d, data := .seq items n, slots := sl } ∧ R (.ok (.ret Value.notImplemented)) s) :=
  .of_wp fun prog w A R s h => by obtain ⟨hp, g, d, tk, os⟩ := s; obtain ⟨hl, h⟩ := h; wp_walk; exact ⟨_, rfl, h⟩
section
variable {X : Cx}
def rMulL (K : PySem.W.Frag) : R2 := fun x y H Q => ∃ a xs k, x = V.ref a ∧ y = V.int (if k = true then 1 else 0) ∧ SqL K H a xs ∧ ∀ p, H p = none → Q (.ref p) (upd H p (.lst (if k = true then xs else [])))
theorem op_mul_li (K : PySem.W.Frag) (hK : X.K = K := by rfl) : OpR X (binaryOp .Mult) (rMulL K) := by
  subst hK
  intro pins s σ H x y v u Q I rx ry h
  obtain ⟨a, xs, k, rfl, rfl, hs, q⟩ := h
  obtain rfl : v = Value.ref a := rx
  obtain ⟨t, rfl⟩ := ry
  obtain ⟨its, rv, ⟨⟨cls, dd, data, sl⟩, n, ho, hc, hdn, hd⟩, hlen⟩ := I.list hs
  have hc1 : cls = Value.type "list" := hc
  have hd1 : data = Data.seq its.toArray n := hd
  subst hc1 hd1
  have hz : its.length ≤ sizeLine := by rw [← rv.length]; exact hlen
  have hsl := sizeLine_eq
  have hk : (if k = true then (1 : Int) else 0).toNat ≤ 1 := by cases k <;> simp
  have hm : its.toArray.size * (if k = true then (1 : Int) else 0).toNat ≤ its.length := by
    rw [List.size_toArray]
    exact Nat.le_trans (Nat.mul_le_mul_left _ hk) (Nat.le_of_eq (Nat.mul_one _))
  refine wpAny_binaryOp_repeat_ref (T := "list") (U := "int") (by decide) ⟨_, ho, rfl⟩ (fun s' => typeIs_int s' _ t) noFill_list_mul F.fills_int_mul F.slot_int_rmul repeat_list F.slot_int_index.lookup
    (call_meets F.slot_int_rmul (typeIs_int _ _ t) F.entry_int_rmul (F.args_int_rmul_2 _ _) (q_rmul_int _ t a its.toArray n dd sl)
      ⟨ho, rfl, ⟨_, ho, rfl⟩, call_meets F.slot_list_mul ⟨_, ho, rfl⟩ F.entry_list_mul (F.args_list_mul_2 _ _)
        (q_mul_int a its.toArray n dd sl _ t (by cases k <;> decide) (by omega) (by simp only [Builtin.List.listTooLong, decide_eq_true_eq]; omega))
        ⟨ho, ?_⟩⟩)
  have e : List.foldl (fun x1 x2 => x1 ++ x2) #[] (List.replicate (if its.toArray.isEmpty = true then 0 else (if k = true then (1 : Int) else 0).toNat) its.toArray) = (if k = true then its else []).toArray := by
    rw [listMul_foldl_if]
    cases k <;> simp
  rw [e]
  refine ⟨.ref s.heap.objs.size, upd H s.heap.objs.size (.lst (if k = true then xs else [])), I.laid (t' := s.toks) (fun b o e => Heap.get?_push_of_some _ e) (Nat.le_refl _) ⟨?_, _, 0, ?_, Heap.get?_push_size _ rfl⟩, rfl, q _ (I.hok.fresh (Nat.le_refl _))⟩
  · cases k
    · exact Nat.zero_le _
    · exact hlen
  · cases k
    · exact .nil
    · exact rv
end
end Sk
namespace Dv
open PySem PySem.Spec PyProof.Rows L2 Sk
section
variable {K : PySem.W.Frag} {W : WX} {G : Gh} {L LL : List (Addr × Obj)} {env : Sls} {σ : L2.St} {F F' H H' : Hp} {p a : Addr} {o : HO} {d x : D} {fr : Bool}
def fMulL : Fn2 := fun x y Q => match x, y with
  | .lst xs, .int i => ∃ k : Bool, i = (if k = true then 1 else 0) ∧ Q (.lst (if k = true then xs else []))
  | _, _ => False
theorem s2_mulL : Sim2N K fMulL (rMulL K) := ⟨fun {F H x y v w} s hx hy Q9 Q f k => by
  unfold fMulL at f
  split at f
  · obtain ⟨a, vs, rfl, ha, ra⟩ := hx.lst s
    obtain ⟨b, rfl, f⟩ := f
    refine ⟨a, vs, b, rfl, hy.int, SqL.of ha, fun p hp => k _ p _ hp (Has.mkL upd_same ?_) f⟩
    cases b
    · exact .nil
    · exact ra
  · exact f.elim⟩
def dUpper (d : DE) : DE := fun X env Q => d X env fun x e => match x with
  | .str z => z.length ≤ 5592405 ∧ Q (.str (Txt.upper z)) e
  | _ => False
theorem sim_upper {d : DE} {t : TE} (s : SimE K W d t) : SimE K W (dUpper d) (tM0 (fun x xs H Q => ∃ a, x = .str a ∧ xs = [] ∧ a.length ≤ 5592405 ∧ Q (.str (Txt.upper a)) H) t) := ⟨fun {G L env σ F H X9 Q9 Q} r h q x => s.run r h (fun y e v F1 H1 r1 s1 i1 h1 => by
  split at h1
  · exact ⟨⟨_, i1.ofS⟩, _, i1.ofS, rfl, h1.1, q _ e _ F1 H1 r1 s1 .str h1.2⟩
  · exact h1.elim) x⟩
end
end Dv

set_option maxHeartbeats 4000000
/-! xs * n, n a small number. -/
namespace Sk
open PySem PySem.Spec PyProof.Rows L2
theorem lenN {α : Type _} (vs : List α) : ∀ n : Nat, (List.replicate n vs).flatten.length = vs.length * n
  | 0 => rfl
  | n + 1 => by
    rw [List.replicate_succ, List.flatten_cons, List.length_append, lenN vs n, Nat.mul_succ]
    omega
theorem valsN {vs : List V} {its : List Value} (h : Vals vs its) : ∀ n : Nat, Vals (List.replicate n vs).flatten (List.replicate n its).flatten
  | 0 => .nil
  | n + 1 => by
    rw [List.replicate_succ, List.replicate_succ, List.flatten_cons, List.flatten_cons]
    exact h.append (valsN h n)
section
variable {X : Cx}
def rMulN (K : PySem.W.Frag) : R2 := fun x y H Q => ∃ a xs, ∃ n : Nat, x = V.ref a ∧ y = V.int (n : Int) ∧ SqL K H a xs ∧ n ≤ 16 ∧ xs.length * n ≤ 16777216 ∧ ∀ p, H p = none → Q (.ref p) (upd H p (.lst (List.replicate n xs).flatten))
theorem op_mul_ln (K : PySem.W.Frag) (hK : X.K = K := by rfl) : OpR X (binaryOp .Mult) (rMulN K) := by
  subst hK
  intro pins s σ H x y v u Q I rx ry h
  obtain ⟨a, xs, k, rfl, rfl, hs, hk, hkl, q⟩ := h
  obtain rfl : v = Value.ref a := rx
  obtain ⟨t, rfl⟩ := ry
  obtain ⟨its, rv, ⟨⟨cls, dd, data, sl⟩, n, ho, hc, hdn, hd⟩, hlen⟩ := I.list hs
  have hc1 : cls = Value.type "list" := hc
  have hd1 : data = Data.seq its.toArray n := hd
  subst hc1 hd1
  have hl := rv.length
  have hz : its.length ≤ sizeLine := by rw [← rv.length]; exact hlen
  have hsl := sizeLine_eq
  have hm : its.toArray.size * ((k : Nat) : Int).toNat ≤ 16777216 := by
    rw [List.size_toArray, Int.toNat_natCast, ← hl]
    exact hkl
  have hfit : ¬ (!Builtin.List.listFitsIndex ((k : Nat) : Int)) = true := by
    rw [fitsIndex_both (by omega) (by omega)]
    exact Bool.false_ne_true
  generalize hx : ((k : Nat) : Int) = x at hm hfit
  have hx2 : x.toNat = k := by omega
  have qq := q_mul_int a its.toArray n dd sl x t hfit
  clear hfit
  generalize hN : its.toArray.size * x.toNat = N at hm qq
  have qq := qq (by omega) (by simp only [Builtin.List.listTooLong, decide_eq_true_eq]; omega)
  refine wpAny_binaryOp_repeat_ref (T := "list") (U := "int") (by decide) ⟨_, ho, rfl⟩ (fun s' => typeIs_int s' _ t) noFill_list_mul F.fills_int_mul F.slot_int_rmul repeat_list F.slot_int_index.lookup
    (call_meets F.slot_int_rmul (typeIs_int _ _ t) F.entry_int_rmul (F.args_int_rmul_2 _ _) (q_rmul_int _ t a its.toArray n dd sl)
      ⟨ho, rfl, ⟨_, ho, rfl⟩, call_meets F.slot_list_mul ⟨_, ho, rfl⟩ F.entry_list_mul (F.args_list_mul_2 _ _)
        qq
        ⟨ho, ?_⟩⟩)
  have e : List.foldl (fun x1 x2 => x1 ++ x2) #[] (List.replicate (if its.toArray.isEmpty = true then 0 else x.toNat) its.toArray) = (List.replicate k its).flatten.toArray := by
    rw [listMul_foldl_if, hx2]
  rw [e]
  refine ⟨.ref s.heap.objs.size, upd H s.heap.objs.size (.lst (List.replicate k xs).flatten), I.laid (t' := s.toks) (fun b o e => Heap.get?_push_of_some _ e) (Nat.le_refl _) ⟨?_, _, 0, valsN rv k, Heap.get?_push_size _ rfl⟩, rfl, q _ (I.hok.fresh (Nat.le_refl _))⟩
  rw [lenN, hsl]
  exact hkl
end
end Sk
namespace Dv
open PySem PySem.Spec PyProof.Rows L2 Sk
theorem isLN {K : PySem.W.Frag} {F : Hp} {xs : List D} {vs : List V} (h : IsL K F xs vs) : ∀ n : Nat, IsL K F (List.replicate n xs).flatten (List.replicate n vs).flatten
  | 0 => .nil
  | n + 1 => by
    rw [List.replicate_succ, List.replicate_succ, List.flatten_cons, List.flatten_cons]
    exact h.append (isLN h n)
section
variable {K : PySem.W.Frag} {W : WX}
def fMulN : Fn2 := fun x y Q => match x, y with
  | .lst xs, .int i => ∃ n : Nat, i = (n : Int) ∧ n ≤ 16 ∧ xs.length * n ≤ 16777216 ∧ Q (.lst (List.replicate n xs).flatten)
  | _, _ => False
theorem s2_mulN : Sim2N K fMulN (rMulN K) := ⟨fun {F H x y v w} s hx hy Q9 Q f k => by
  unfold fMulN at f
  split at f
  · obtain ⟨a, vs, rfl, ha, ra⟩ := hx.lst s
    obtain ⟨n, rfl, h1, h2, f⟩ := f
    exact ⟨a, vs, n, rfl, hy.int, SqL.of ha, h1, by rw [← ra.length]; exact h2, fun p hp => k _ p _ hp (Has.mkL upd_same (isLN ra n)) f⟩
  · exact f.elim⟩
end
end Dv

set_option maxHeartbeats 1000000
/-! One deed: the bag and the list that come of it. -/
namespace Sk
open PySem PySem.Spec PyProof.Rows L2 Dv SkE
/-- a bag and its list, of these names -/
structure OkB (ns : List Str) (b : List (Str × Int) × List Str) : Prop where
  bl : BL b.1 b.2
  sub : ∀ n ∈ b.2, n ∈ ns
  few : b.2.length ≤ 400
def bagsD (bs : List (List (Str × Int) × List Str)) : D := .lst (bs.map fun b => bagD b.1)
def listsD (bs : List (List (Str × Int) × List Str)) : D := .lst (bs.map fun b => .lst (b.2.map D.str))
theorem at_pair {bs : List (List (Str × Int) × List Str)} {v : Int} (h0 : 0 ≤ v) (h1 : v < (bs.length : Nat)) : ∃ b ∈ bs, atI (bs.map fun b => bagD b.1) v = some (bagD b.1) ∧ atI (bs.map fun b => D.lst (b.2.map D.str)) v = some (.lst (b.2.map D.str)) := by
  obtain ⟨k, rfl⟩ := Int.eq_ofNat_of_zero_le h0
  have hk : k < bs.length := by omega
  exact ⟨bs[k], List.getElem_mem hk, atI_nat (by rw [List.getElem?_map, List.getElem?_eq_getElem hk]; rfl), atI_nat (by rw [List.getElem?_map, List.getElem?_eq_getElem hk]; rfl)⟩
theorem gname {i : Nat} {x : D} {env : Sls} {Q : Sls → Prop} (h : Q (env.set i (.im x))) : dgName i x env Q := h
def fs__law_made : FS := ⟨[true, false, true, true], false, fun ds Q _ => ∃ st ns n bs, ds = [st, .lst (ns.map D.str), bagsD bs, listsD bs] ∧ dr n st ∧ n ≤ 800000000 ∧ GoodN ns ∧ 1 ≤ ns.length ∧ ns.length ≤ 4 ∧ 1 ≤ bs.length ∧ bs.length ≤ 6 ∧ (∀ b ∈ bs, OkB ns b) ∧ ∀ b st', OkB ns b → dr (n + 20) st' → Q (.tup [bagD b.1, .lst (b.2.map D.str)]) [st', bagsD bs, listsD bs]⟩
section
variable {P : Program} {w : World} {K : PySem.W.Frag} {mg : Str → Option Value} {base : Heap}
theorem cal__law_made (Y : Yes K mg) : C8.Cal P w K mg base 20 "_law_made" (fs__law_made.to K) [] := by
  obtain ⟨fd, F⟩ := Y.f__law_made
  refine calD F Y.g__law_made sc__law_made (fun _ _ _ _ _ _ us hl => match us, hl with | [_, _, _, _], _ => rfl) (FS.len rfl) (fun cdv A outer s H vs Q E hr h => ?_)
  have hu := hu_of hr
  refine ⟨_, (pss_cons (ps_par (i := 4) (j := 5) rfl sc__law_made.nd rfl rfl (by decide) rfl rfl (pa_cons (C8.pe_c (cal__law_draw Y) hr (by decide) rfl (pa_cons (pv 0) (pa_cons (pe_callB (call_lenK K) (by rfl) Y.n_len (by decide +kernel) (pa_cons (pv 2) pa_nil)) pa_nil))) (pa_cons (C8.pe_c (cal__law_draw Y) hr (by decide) rfl (pa_cons (pv 0) (pa_cons (pe_callB (call_lenK K) (by rfl) Y.n_len (by decide +kernel) (pa_cons (pv 2) pa_nil)) pa_nil))) pa_nil)) (by rfl))
  (pss_cons (ps_set (i := 6) sc__law_made.nd rfl (.inl rfl) (C8.pe_c (cal__law_draw Y) hr (by decide) rfl (pa_cons (pv 0) (pa_cons pe_int pa_nil))))
  (pss_cons (ps_if (PW.pt (pw_and (pt_cmpR op_eq (pv 6) pe_int (nomark _)) (pw_and1 (pt_cmpR op_le (pe_op op_add (pe_callB (call_lenK K) (by rfl) Y.n_len (by decide +kernel) (pa_cons (pe_ix (ix_listK K) (pv 3) (pv 4) (fun _ _ => rfl)) pa_nil)) (pe_callB (call_lenK K) (by rfl) Y.n_len (by decide +kernel) (pa_cons (pe_ix (ix_listK K) (pv 3) (pv 5) (fun _ _ => rfl)) pa_nil))) pe_int (nomark _))))) (pss_one (ps_ret (pe_tup (pa_cons (C8.pe_mt (met_Bag_plus Y) hr (by decide) (pe_ix (ix_listK K) (pv 2) (pv 4) (fun _ _ => rfl)) (pa_cons (pe_ix (ix_listK K) (pv 2) (pv 5) (fun _ _ => rfl)) pa_nil)) (pa_cons (pe_op op_cat (pe_ix (ix_listK K) (pv 3) (pv 4) (fun _ _ => rfl)) (pe_ix (ix_listK K) (pv 3) (pv 5) (fun _ _ => rfl))) pa_nil))))) pss_nil)
  (pss_cons (ps_if (pt_cmpR op_eq (pv 6) pe_int (nomark _)) (pss_cons (ps_asg (C8.pe_c (cal__law_left Y) hr (by decide) rfl (pa_cons (pe_ix (ix_listK K) (pv 3) (pv 4) (fun _ _ => rfl)) (pa_cons (pe_ix (ix_listK K) (pv 3) (pv 5) (fun _ _ => rfl)) pa_nil))) (pg_tup rfl (pgs_cons (pg_name (i := 7) sc__law_made.nd rfl (.inl rfl)) (pgs_cons (pg_name (i := 8) sc__law_made.nd rfl (.inl rfl)) pgs_nil))))
  (pss_cons (ps_set (i := 9) sc__law_made.nd rfl (.inl rfl) (C8.pe_c (cal__law_less Y) hr (by decide) rfl (pa_cons (pe_ix (ix_listK K) (pv 2) (pv 4) (fun _ _ => rfl)) (pa_cons (pe_ix (ix_listK K) (pv 2) (pv 5) (fun _ _ => rfl)) pa_nil))))
  (pss_cons (ps_if (pt_cmpR op_isN (pv 7) pe_non (nomark _)) (pss_one (ps_ret (pe_tup (pa_cons (pe_ifExp (pt_cmpR op_eq (pv 9) (pv 8) (nomark _)) (pe_ix (ix_listK K) (pv 2) (pv 4) (fun _ _ => rfl)) pe_non) (pa_cons (pe_ix (ix_listK K) (pv 3) (pv 4) (fun _ _ => rfl)) pa_nil))))) pss_nil)
  (pss_one (ps_ret (pe_tup (pa_cons (pv 9) (pa_cons (pv 7) pa_nil)))))))) pss_nil)
  (pss_cons (ps_set (i := 10) sc__law_made.nd rfl (.inl rfl) (C8.pe_c (cal__law_draw Y) hr (by decide) rfl (pa_cons (pv 0) (pa_cons pe_int pa_nil))))
  (pss_cons (ps_if (PW.pt (pw_and (pt_cmpR op_eq (pv 6) pe_int (nomark _)) (pw_and1 (pt_cmpR op_le (pe_op op_mulW (pe_callB (call_lenK K) (by rfl) Y.n_len (by decide +kernel) (pa_cons (pe_ix (ix_listK K) (pv 3) (pv 4) (fun _ _ => rfl)) pa_nil)) (pv 10)) pe_int (nomark _))))) (pss_one (ps_ret (pe_tup (pa_cons (C8.pe_mt (met_Bag_times Y) hr (by decide) (pe_ix (ix_listK K) (pv 2) (pv 4) (fun _ _ => rfl)) (pa_cons (pv 10) pa_nil)) (pa_cons (pe_op (op_mul_ln K) (pe_ix (ix_listK K) (pv 3) (pv 4) (fun _ _ => rfl)) (pv 10)) pa_nil))))) pss_nil)
  (pss_cons (ps_setLc (i := 11) (own := [("_law_turn", 12)]) (g := gName 12) (tt := tYes) rfl sc__law_made.nd rfl rfl (sw_true rfl rfl rfl (by decide +kernel)) (pi_range1 rfl Y.n_range (pa_cons (C8.pe_c (cal__law_draw Y) hr (by decide) rfl (pa_cons (pv 0) (pa_cons pe_int pa_nil))) pa_nil)) (blkOk_by (N := ["_law_draws_here", "_law_names_here", "_law_bags", "_law_lists", "_law_one", "_law_other", "_law_way", "_law_left_here", "_law_name", "_law_found", "_law_often", "_law_things", "_law_turn"]) (own := [("_law_turn", 12)]) (sc := (defScope s__law_made)) (by decide +kernel)) (fun _ _ _ _ _ => (pg_name (i := 12) sc__law_made.nd rfl (.inl rfl))) (fun _ _ _ _ _ => pts_nil) (fun _ _ _ _ _ => (pe_ix (ix_listK K) (pv 1) (C8.pe_c (cal__law_draw Y) hr (by decide) rfl (pa_cons (pv 0) (pa_cons (pe_callB (call_lenK K) (by rfl) Y.n_len (by decide +kernel) (pa_cons (pv 1) pa_nil)) pa_nil))) (fun _ _ => rfl))))
  (pss_one (ps_ret (pe_tup (pa_cons (C8.pe_mk (mk1_Bag Y) hr (by decide) rfl (pa_cons (pe_joinK K pe_str (pv 11)) pa_nil)) (pa_cons (pv 11) pa_nil)))))))))))),
    body_ok0 (f := fs__law_made) (sim_seq (sim_par (sim_cons (sim_call (.cons (.s 0) (.cons (.e (sim_cb sc_len (.cons (.s 2) .nil))) .nil)) rfl (fun _ => .nil) (by decide) hE0 rfl) (sim_cons (sim_call (.cons (.s 0) (.cons (.e (sim_cb sc_len (.cons (.s 2) .nil))) .nil)) rfl (fun _ => .nil) (by decide) hE0 rfl) sim_nil)))
  (sim_seq (sim_set (sim_call (.cons (.s 0) (.cons (.e sim_int) .nil)) rfl (fun _ => .nil) (by decide) hE0 rfl))
  (sim_seq (sim_ifS (sim_and (sim_test (sim_op2 s2_eq (.s 6) (.e sim_int))) (sim_test (sim_op2 s2_le (.e (sim_op2 s2_add (.e (sim_cb sc_len (.cons (.e (sim_op2 s2_ixL (.s 3) (.s 4))) .nil))) (.e (sim_cb sc_len (.cons (.e (sim_op2 s2_ixL (.s 3) (.s 5))) .nil))))) (.e sim_int)))) (sim_ret (sim_tup (sim_cons (sim_meth (.e (sim_op2 s2_ixL (.s 2) (.s 4))) (.cons (.e (sim_op2 s2_ixL (.s 2) (.s 5))) .nil) rfl (fun _ => .nil) (by decide) hE0 rfl) (sim_cons ((sim_op2N s2_catL (.e (sim_op2 s2_ixL (.s 3) (.s 4))) (.e (sim_op2 s2_ixL (.s 3) (.s 5))))).e sim_nil)))) sim_next)
  (sim_seq (sim_ifS (sim_test (sim_op2 s2_eq (.s 6) (.e sim_int))) (sim_seq (sim_asg (sim_call (.cons (.e (sim_op2 s2_ixL (.s 3) (.s 4))) (.cons (.e (sim_op2 s2_ixL (.s 3) (.s 5))) .nil)) rfl (fun _ => .nil) (by decide) hE0 rfl) (simg_tup (simg_cons (simg_name (vs := [7, 8]) 7 (by decide)) (simg_cons (simg_name (vs := [7, 8]) 8 (by decide)) simg_nil))))
  (sim_seq (sim_set (sim_call (.cons (.e (sim_op2 s2_ixL (.s 2) (.s 4))) (.cons (.e (sim_op2 s2_ixL (.s 2) (.s 5))) .nil)) rfl (fun _ => .nil) (by decide) hE0 rfl))
  (sim_seq (sim_ifS (sim_test (sim_op2 s2_isN (.s 7) (.e sim_non))) (sim_ret (sim_tup (sim_cons (sim_if (sim_test (sim_op2 s2_eq (.s 9) (.s 8))) (sim_op2 s2_ixL (.s 2) (.s 4)) sim_non) (sim_cons (sim_op2 s2_ixL (.s 3) (.s 4)) sim_nil)))) sim_next)
  (sim_ret (sim_tup (sim_cons (sim_var 9) (sim_cons (sim_var 7) sim_nil))))))) sim_next)
  (sim_seq (sim_set (sim_call (.cons (.s 0) (.cons (.e sim_int) .nil)) rfl (fun _ => .nil) (by decide) hE0 rfl))
  (sim_seq (sim_ifS (sim_and (sim_test (sim_op2 s2_eq (.s 6) (.e sim_int))) (sim_test (sim_op2 s2_le (.e (sim_op2 s2_mulW (.e (sim_cb sc_len (.cons (.e (sim_op2 s2_ixL (.s 3) (.s 4))) .nil))) (.s 10))) (.e sim_int)))) (sim_ret (sim_tup (sim_cons (sim_meth (.e (sim_op2 s2_ixL (.s 2) (.s 4))) (.cons (.e (sim_var 10)) .nil) rfl (fun _ => .nil) (by decide) hE0 rfl) (sim_cons ((sim_op2N s2_mulN (.e (sim_op2 s2_ixL (.s 3) (.s 4))) (.s 10))).e sim_nil)))) sim_next)
  (sim_seq (sim_set ((sim_lc (simi_rng1 (.cons (.e (sim_call (.cons (.s 0) (.cons (.e sim_int) .nil)) rfl (fun _ => .nil) (by decide) hE0 rfl)) .nil)) (simg_name (vs := [12]) 12 (by decide)) sim_yes (sim_op2 s2_ixL (.s 1) (.e (sim_call (.cons (.s 0) (.cons (.e (sim_cb sc_len (.cons (.s 1) .nil))) .nil)) rfl (fun _ => .nil) (by decide) hE0 rfl))))).e)
  (sim_ret (sim_tup (sim_cons ((sim_make (c := "Bag") (.cons (.e (sim_join sim_str (.s 11))) .nil) rfl (fun _ => .nil) (by decide) hE0 rfl)).e (sim_cons (sim_var 11) sim_nil)))))))))))
    (by decide) (fun ds Q9 E9 h => ?_) h⟩
  obtain ⟨st, ns, n, bs, rfl, hd, hn, gn, n1, n4, b1, b6, ok, k⟩ := h
  unfold bagsD listsD at k ⊢
  have bl : ((bs.map fun b => bagD b.1).length : Int) = (bs.length : Nat) := by rw [List.length_map]
  have nsl : ((ns.map D.str).length : Int) = (ns.length : Nat) := by rw [List.length_map]
  refine ⟨st, (bs.length : Nat), n, by rw [← bl]; rfl, hd, by omega, by omega, by omega, fun one st1 o0 o1 d1 => ⟨st1, (bs.length : Nat), n + 1, by rw [← bl]; rfl, d1, by omega, by omega, by omega, fun other st2 p0 p1 d2 => ⟨st2, 4, n + 2, rfl, d2, by omega, by omega, by omega, fun way st3 w0 w1 d3 => ?_⟩⟩⟩
  refine gname ?_
  dsimp only
  generalize he : List.set (putMus _ _ _) _ _ = e4
  obtain rfl : e4 = [.ow true st3, .im (.lst (ns.map D.str)), .ow true (.lst (bs.map fun b => bagD b.1)), .ow true (.lst (bs.map fun b => .lst (b.2.map D.str))), .im (.int one), .im (.int other), .im (.int way), .un, .un, .un, .un, .un, .un] := he.symm.trans rfl
  clear he
  obtain ⟨b, hb, e1, e2⟩ := at_pair o0 o1
  obtain ⟨c, hc, e3, e4⟩ := at_pair p0 p1
  have okb := ok b hb
  have okc := ok c hc
  have fb := okb.few
  have fc := okc.few
  refine seq_tail (fun e => e = [.ow true st3, .im (.lst (ns.map D.str)), .ow true (.lst (bs.map fun b => bagD b.1)), .ow true (.lst (bs.map fun b => .lst (b.2.map D.str))), .im (.int one), .im (.int other), .im (.int way), .un, .un, .un, .un, .un, .un]) (fun e he => ?_) (fun nx hnx => ?_)
  · subst he
    refine seq_tail (fun e => e = [.ow true st3, .im (.lst (ns.map D.str)), .ow true (.lst (bs.map fun b => bagD b.1)), .ow true (.lst (bs.map fun b => .lst (b.2.map D.str))), .im (.int one), .im (.int other), .im (.int way), .un, .un, .un, .un, .un, .un]) (fun e he => ?_) (fun nx hnx => ?_)
    · subst he
      refine ⟨st3, 4, n + 3, rfl, d3, by omega, by omega, by omega, fun often st4 q0 q1 d4 => ?_⟩
      refine gname ?_
      dsimp only
      refine seq_tail (fun e => ∃ st4, dr (n + 4) st4 ∧ e = [.ow true st4, .im (.lst (ns.map D.str)), .ow true (.lst (bs.map fun b => bagD b.1)), .ow true (.lst (bs.map fun b => .lst (b.2.map D.str))), .im (.int one), .im (.int other), .im (.int way), .un, .un, .un, .im (.int often), .un, .un]) (fun e he => ?_) (fun nx hnx => ?_)
      · obtain ⟨st4, d4, rfl⟩ := he
        refine ⟨st4, 7, n + 4, rfl, d4, by omega, by omega, by omega, fun many st5 m0 m1 d5 => ⟨by omega, ?_⟩⟩
        conv => whnf
        generalize he : wipe9 _ _ = e4
        obtain rfl : e4 = [.ow true st5, .im (.lst (ns.map D.str)), .ow true (.lst (bs.map fun b => bagD b.1)), .ow true (.lst (bs.map fun b => .lst (b.2.map D.str))), .im (.int one), .im (.int other), .im (.int way), .un, .un, .un, .im (.int often), .un, .un] := he.symm.trans rfl
        clear he
        refine lcL_rng (fun i acc e => ∃ (a : List Str) (st : D), acc = a.map D.str ∧ a.length = i ∧ (∀ p ∈ a, p ∈ ns) ∧ e = [.ow true st, .im (.lst (ns.map D.str)), .ow true (.lst (bs.map fun b => bagD b.1)), .ow true (.lst (bs.map fun b => .lst (b.2.map D.str))), .im (.int one), .im (.int other), .im (.int way), .un, .un, .un, .im (.int often), .un, .un] ∧ dr (n + 5 + i) st) ⟨[], st5, rfl, rfl, (fun _ h => nomatch h), rfl, d5⟩ (fun i acc e hi h rest hr => ?_) (fun acc e h => ?_)
        · obtain ⟨a, st, rfl, a2, a3, rfl, a4⟩ := h
          refine ⟨st, (ns.length : Nat), n + 5 + i, by rw [← nsl]; rfl, a4, by omega, by omega, by omega, fun v st6 v0 v1 d6 => ?_⟩
          obtain ⟨x, hx, hm⟩ := at_mem (xs := ns.map D.str) v0 (by rw [nsl]; exact v1)
          obtain ⟨z, hz, rfl⟩ := List.mem_map.mp hm
          exact some9_of hx ⟨by rw [List.length_map]; omega, hr _ _ ⟨a ++ [z], st6, by rw [List.map_append]; rfl, by simp [a2], fun p hp => (List.mem_append.mp hp).elim (a3 p) fun hp => by rw [List.mem_singleton.mp hp]; exact hz, rfl, d6⟩⟩
        · obtain ⟨a, st, rfl, a2, a3, rfl, a4⟩ := h
          have na : ∀ z ∈ a, isName z = true := fun z hz => gn.nm z (a3 z hz)
          have l8 : ∀ z ∈ a, z.length ≤ 8 := fun z hz => (isName_len (na z hz)).2
          obtain ⟨cs, h1, h2⟩ := BL.text na (by omega)
          have jl := join_len l8
          exact ⟨a, rfl, Nat.le_trans (words_size (by decide +kernel) (by omega) fun x hx => Nat.le_trans (l8 x hx) (by omega)) (by omega), _, cs, rfl, by omega, h1, by simp, k (cs, a) st ⟨h2, a3, by show a.length ≤ 400; omega⟩ (a4.mono (by omega))⟩
      · refine ifD (fun hw => ?_) (fun hw => hnx _ ⟨st4, d4, rfl⟩)
        have bl2 : ((b.2.map D.str).length : Int) = (b.2.length : Nat) := by rw [List.length_map]
        refine some9_of e2 ⟨mul2 (by omega) (by omega) (by omega) (by omega), ifD (fun hs => ?_) (fun hs => hnx _ ⟨st4, d4, rfl⟩)⟩
        rw [bl2] at hs
        obtain ⟨m, rfl⟩ := Int.eq_ofNat_of_zero_le q0
        have hs : b.2.length * m ≤ 400 := by rw [← Int.natCast_mul] at hs; omega
        have okp : OkB ns (timesC b.1 (m : Nat), (List.replicate m b.2).flatten) := ⟨okb.bl.times okb.sub (by omega) m hs, fun z hz => by
          obtain ⟨l, hl, hz⟩ := List.mem_flatten.mp hz
          exact okb.sub z ((List.mem_replicate.mp hl).2 ▸ hz), by rw [lenN]; exact hs⟩
        have := k _ st4 okp (d4.mono (by omega))
        dsimp only at this
        refine some9_of e1 ⟨⟨rfl, rfl⟩, b.1, (m : Nat), rfl, okb.bl.good, by omega, by omega, some9_of e2 ⟨m, rfl, by omega, by rw [List.length_map]; omega, ?_⟩⟩
        have em : (List.replicate m (b.2.map D.str)).flatten = ((List.replicate m b.2).flatten).map D.str := by rw [List.map_flatten, List.map_replicate]
        rw [em]
        exact ⟨by simp, this⟩
    · refine ifD (fun hw => ?_) (fun hw => hnx _ rfl)
      refine some9_of e2 (some9_of e4 ⟨b.2, c.2, rfl, ⟨fb, fc⟩, fun R hR hr => ?_, fun m hm => ?_⟩)
      · refine ⟨rfl, some9_of e1 (some9_of e3 ?_)⟩
        refine ⟨b.1, c.1, rfl, okb.bl.good, okc.bl.good, fun m hm => ?_, fun hm => ?_⟩
        · rw [okb.bl.noShort okc.bl hr] at hm
          cases hm
        · have okl : OkB ns (lessC b.1 c.1, R) := ⟨okb.bl.less okc.bl okb.sub okc.sub (by omega) fb hr, fun z hz => okb.sub z (cnt_pos.mp (by have : 0 < cntZ R z := cnt_pos.mpr hz; have := hr z; omega)), by show R.length ≤ 400; omega⟩
          exact ⟨by simp, k _ st3 okl (d3.mono (by omega))⟩
      · refine ⟨rfl, some9_of e1 (some9_of e3 ?_)⟩
        refine ⟨b.1, c.1, rfl, okb.bl.good, okc.bl.good, fun m2 hm2 => ?_, fun hm2 => ?_⟩
        · rw [okb.bl.short okc.bl hm] at hm2
          cases hm2
          refine ifD_t rfl (some9_of e1 (some9_of e2 ⟨by simp, k _ st3 okb (d3.mono (by omega))⟩))
        · rw [okb.bl.short okc.bl hm] at hm2
          cases hm2
  · refine ifD (fun hw => ?_) (fun hw => hnx _ rfl)
    refine some9_of e2 (some9_of e4 (ifD (fun hs => ?_) (fun hs => hnx _ rfl)))
    rw [List.length_map, List.length_map] at hs
    have okp : OkB ns (plusC b.1 c.1, b.2 ++ c.2) := ⟨okb.bl.plus okc.bl okb.sub okc.sub (by omega) (by omega), fun m hm => (List.mem_append.mp hm).elim (okb.sub m) (okc.sub m), by rw [List.length_append]; omega⟩
    have := k _ st3 okp (d3.mono (by omega))
    dsimp only at this
    rw [List.map_append] at this
    refine some9_of e1 ⟨⟨rfl, rfl⟩, some9_of e3 ⟨b.1, c.1, rfl, okb.bl.good, okc.bl.good, some9_of e2 (some9_of e4 ⟨?_, ?_⟩)⟩⟩
    · rw [List.length_map, List.length_map]
      omega
    · exact ⟨by simp, this⟩
end
end Sk

set_option maxHeartbeats 1000000
/-! How the bags and the lists stand. -/
namespace Sk
open PySem PySem.Spec PyProof.Rows L2 Dv SkE
def fs__law_stand : FS := ⟨[false, false], false, fun ds Q _ => ∃ ns bs, ds = [bagsD bs, listsD bs] ∧ bs.length ≤ 6 ∧ ns.length ≤ 4 ∧ (∀ b ∈ bs, OkB ns b) ∧ Q (.bl true) []⟩
theorem forL_mapR {g : DG} {b : DS} {X : XK9} {E : E9} {env : Sls} {α : Type} {f : α → D} {l : List α} (P : List α → List α → Sls → Prop) (h0 : P [] l env) (hs : ∀ done x ys env, l = done ++ x :: ys → P done (x :: ys) env → ∀ rest : Sls → Prop, (∀ e, P (done ++ [x]) ys e → rest e) →
    g (f x) env fun e1 => b X { E with nx := rest, ct := rest, bk := E.nx } e1) (hn : ∀ env, P l [] env → E.nx env) : forL g b X E (l.map f) env :=
  forL_map P h0 (fun done x ys e el h ih => hs done x ys e el h _ ih) hn
theorem gpair {i j : Nat} {x y : D} {env : Sls} {Q : Sls → Prop} (h : Q ((env.set i (.im x)).set j (.im y))) : dgCons (dgName i) (dgCons (dgName j) dgNil) [x, y] env Q := h
theorem perm_cnt {L M : List Str} (h : ∀ n, cntZ L n = cntZ M n) : L.Perm M := List.perm_iff_count.mpr fun n => by
  have := h n
  unfold cntZ at this
  unfold List.count
  have e : (fun m : Str => m == n) = fun m => decide (m = n) := by
    funext m
    by_cases q : m = n
    · rw [decide_eq_true q, q]
      exact beq_self_eq_true n
    · rw [decide_eq_false q]
      exact beq_eq_false_iff_ne.mpr q
  show List.countP (fun m => m == n) L = List.countP (fun m => m == n) M
  rw [e]
  exact this
theorem srt_same {cs es : List (Str × Int)} {L M ys zs : List Str} (b : BL cs L) (c : BL es M) (p : ys.Perm L) (q : zs.Perm M) (hy : sortedS ys = true) (hz : sortedS zs = true) : sameC cs es = decide (ys = zs) := by
  have key : sameC cs es = true ↔ ys = zs := by
    rw [b.same c]
    constructor
    · intro h
      have pm : ys.Perm zs := (p.trans (perm_cnt h)).trans q.symm
      exact List.Perm.eq_of_pairwise (le := fun a b => leB a b = true) (fun _ _ _ _ h1 h2 => leB_anti h1 h2) (sorted_pw hy) (sorted_pw hz) pm
    · intro h n
      exact cnt_perm (p.symm.trans (h ▸ q)) n
  by_cases e : ys = zs
  · rw [decide_eq_true e, key.mpr e]
  · rw [decide_eq_false e]
    exact Bool.eq_false_iff.mpr fun z => e (key.mp z)
theorem eq_strsD {ys zs : List Str} {Q : D → Prop} (hy : ∀ z ∈ ys, isName z = true) (hz : ∀ z ∈ zs, isName z = true) (q : Q (.bl (decide (ys = zs)))) : fEqDp false (.lst (ys.map D.str)) (.lst (zs.map D.str)) Q := by
  refine ⟨_, _, pyd_strs ys, pyd_strs zs, shaped_strs fun z hz => strOk_name (hy z hz), shaped_strs fun z h => strOk_name (hz z h), ?_⟩
  have e : PyData.eqv (.list (ys.map .str)) (.list (zs.map .str)) = decide (ys = zs) := by
    show PyData.eqvAll _ _ = _
    rw [eqv_strs]
  rw [e]
  exact q
def pairB (b : List (Str × Int) × List Str) : D := .tup [bagD b.1, .lst (b.2.map D.str)]
theorem zip_pair : ∀ bs : List (List (Str × Int) × List Str), zip9 (bs.map fun b => bagD b.1) (bs.map fun b => .lst (b.2.map D.str)) = bs.map pairB
  | [] => rfl
  | b :: bs => by
    simp only [List.map_cons, zip9]
    rw [zip_pair bs]
    rfl
section
variable {P : Program} {w : World} {K : PySem.W.Frag} {mg : Str → Option Value} {base : Heap}
theorem cal__law_stand (Y : Yes K mg) : C8.Cal P w K mg base 20 "_law_stand" (fs__law_stand.to K) [] := by
  obtain ⟨fd, F⟩ := Y.f__law_stand
  refine calD F Y.g__law_stand sc__law_stand (fun _ _ _ _ _ _ us hl => match us, hl with | [_, _], _ => rfl) (FS.len rfl) (fun cdv A outer s H vs Q E hr h => ?_)
  have hu := hu_of hr
  refine ⟨_, (pss_cons (ps_for PassesOwn.never rfl (pi_zip (by rfl) Y.n_zip (pa_cons (pv 0) (pa_cons (pv 1) pa_nil))) (pg_tup rfl (pgs_cons (pg_name (i := 2) sc__law_stand.nd rfl (.inr rfl)) (pgs_cons (pg_name (i := 3) sc__law_stand.nd rfl (.inr rfl)) pgs_nil)))
  (pss_cons (ps_if (PW.pt (pw_or (pt_not (pt_val (pe_callB (call_isiK K) (by rfl) Y.n_isinstance (by decide +kernel) (pa_cons (pv 2) (pa_cons (C8.pe_gc (v := .ref (He.ga K "Bag")) rfl ⟨_, Y.g_Bag, rfl⟩) pa_nil))))) (pw_or (pt_cmpR op_ne (pe_callTy (call_strOwn (met_Bag_str Y) (hr.mono (by decide))) (by rfl) Y.n_str (by decide +kernel) (pa_cons (pv 2) pa_nil)) (C8.pe_c (cal__law_text Y) hr (by decide) rfl (pa_cons (pv 3) pa_nil)) (nomark _)) (pw_or1 (pt_cmpR op_ne (pe_callB (call_lenOwn (met_Bag_len Y) (hr.mono (by decide))) (by rfl) Y.n_len (by decide +kernel) (pa_cons (pv 2) pa_nil)) (pe_callB (call_lenK K) (by rfl) Y.n_len (by decide +kernel) (pa_cons (pv 3) pa_nil)) (nomark _)))))) (pss_one (ps_ret pe_bl)) pss_nil)
  (pss_cons (ps_if (pt_cmpR (op_neDK K hr.units) (C8.pe_mt0 (met_Bag_names Y) hr (by decide) (pv 2)) (pe_callB (SkR.call_sortedU rfl) (by rfl) Y.n_sorted (by decide +kernel) (pa_cons (pe_callTy (SkR.call_setY rfl) (by rfl) Y.n_set (by decide +kernel) (pa_cons (pv 3) pa_nil)) pa_nil)) (nomark _)) (pss_one (ps_ret pe_bl)) pss_nil)
  (pss_one (ps_if (pt_not (pt_val (pe_callB (cr_allK K rfl) (by rfl) Y.n_all (by decide +kernel) (pa_cons (pe_lc (own := [("_law_name", 6)]) (g := gName 6) (tt := tYes) rfl sc__law_stand.nd (pi_listK K (pv 3)) (blkOk_by (N := ["_law_bags", "_law_lists", "_law_bag", "_law_things", "_law_other", "_law_more", "_law_name"]) (own := [("_law_name", 6)]) (sc := (defScope s__law_stand)) (by decide +kernel)) (fun _ _ _ _ _ => (pg_name (i := 6) sc__law_stand.nd rfl (.inl rfl))) (fun _ _ _ _ _ => pts_nil) (fun _ _ _ _ _ => (pe_cmpR op_eq (C8.pe_mt (met_Bag_count_of Y) hr (by decide) (pv 2) (pa_cons (pv 6) pa_nil)) (pe_bmK K PySem.F.plainAttrs_list PySem.F.slot_list_count PySem.F.type_list_count (SkR.mt_lcountZ K) (pv 3) (pa_cons (pv 6) pa_nil)) (nomark _)))) pa_nil)))) (pss_one (ps_ret pe_bl)) pss_nil)))))
  (pss_cons (ps_for PassesOwn.never rfl (pi_zip (by rfl) Y.n_zip (pa_cons (pv 0) (pa_cons (pv 1) pa_nil))) (pg_tup rfl (pgs_cons (pg_name (i := 2) sc__law_stand.nd rfl (.inr rfl)) (pgs_cons (pg_name (i := 3) sc__law_stand.nd rfl (.inr rfl)) pgs_nil)))
  (pss_one (ps_for PassesOwn.never rfl (pi_zip (by rfl) Y.n_zip (pa_cons (pv 0) (pa_cons (pv 1) pa_nil))) (pg_tup rfl (pgs_cons (pg_name (i := 4) sc__law_stand.nd rfl (.inl rfl)) (pgs_cons (pg_name (i := 5) sc__law_stand.nd rfl (.inl rfl)) pgs_nil)))
  (pss_cons (ps_if (pt_cmpR op_ne (pe_cmpR (op_eqOwn K (met_Bag_eq Y) (hr.mono (by decide))) (pv 2) (pv 4) (nomark _)) (pe_cmpR (op_eqDK K hr.units) (pe_callB (SkR.cr_sortedZ K) (by rfl) Y.n_sorted (by decide +kernel) (pa_cons (pv 3) pa_nil)) (pe_callB (SkR.cr_sortedZ K) (by rfl) Y.n_sorted (by decide +kernel) (pa_cons (pv 5) pa_nil)) (nomark _)) (nomark _)) (pss_one (ps_ret pe_bl)) pss_nil)
  (pss_one (ps_if (pt_cmpR op_ne (C8.pe_mt (met_Bag_holds Y) hr (by decide) (pv 2) (pa_cons (pv 4) pa_nil)) (pe_cmpR op_notN (pe_ix (ix_tupK K) (C8.pe_c (cal__law_left Y) hr (by decide) rfl (pa_cons (pv 3) (pa_cons (pv 5) pa_nil))) pe_int (fun _ _ => rfl)) pe_non (nomark _)) (nomark _)) (pss_one (ps_ret pe_bl)) pss_nil))))))
  (pss_one (ps_ret pe_bl)))),
    body_ok0 (f := fs__law_stand) (sim_seq (sim_for (simi_zip (sim_var 0) (sim_var 1)) (simg_tup (simg_cons (simg_name (vs := [2, 3]) 2 (by decide)) (simg_cons (simg_name (vs := [2, 3]) 3 (by decide)) simg_nil)))
  (sim_seq (sim_ifS (sim_or (sim_not (sim_B (sim_cb (sc_isiO Y.is_Bag) (.cons (.s 2) (.cons (.e (sim_c fun _ => .ref)) .nil))))) (sim_or (sim_test (sim_op2 s2_ne (.e (sim_ownStr (c := "Bag") (sim_var 2) rfl rfl)) (.e (sim_call (.cons (.e (sim_var 3)) .nil) rfl (fun _ => .nil) (by decide) hE0 rfl)))) (sim_test (sim_op2 s2_ne (.e (sim_ownLen (c := "Bag") (sim_var 2) rfl rfl)) (.e (sim_cb sc_len (.cons (.s 3) .nil))))))) (sim_ret sim_bl) sim_next)
  (sim_seq (sim_ifS (sim_test (sim_op2 s2_neDp (.e ((sim_methF (.e (sim_var 2)) .nil rfl (fun _ => .nil) (by decide) hE0 rfl)).e) (.e ((sim_sortSetU (sim_var 3))).e))) (sim_ret sim_bl) sim_next)
  (sim_ifS (sim_not (sim_B (sim_cb sc_all (.cons (.e ((sim_lc (simi_list (sim_var 3)) (simg_name (vs := [6]) 6 (by decide)) sim_yes (sim_op2 s2_eq (.e (sim_meth (.e (sim_var 2)) (.cons (.e (sim_var 6)) .nil) rfl (fun _ => .nil) (by decide) hE0 rfl)) (.e (sim_countZ (sim_var 3) (sim_cons (sim_var 6) sim_nil)))))).e) .nil)))) (sim_ret sim_bl) sim_next))))
  (sim_seq (sim_for (simi_zip (sim_var 0) (sim_var 1)) (simg_tup (simg_cons (simg_name (vs := [2, 3]) 2 (by decide)) (simg_cons (simg_name (vs := [2, 3]) 3 (by decide)) simg_nil)))
  (sim_for (simi_zip (sim_var 0) (sim_var 1)) (simg_tup (simg_cons (simg_name (vs := [4, 5]) 4 (by decide)) (simg_cons (simg_name (vs := [4, 5]) 5 (by decide)) simg_nil)))
  (sim_seq (sim_ifS (sim_test (sim_op2 s2_ne (.e (sim_ownEq (c := "Bag") Y.is_Bag (sim_var 2) (sim_var 4) rfl rfl)) (.e (sim_op2 s2_eqDp (.e ((sim_cbN sc_sortedZ (.cons (.s 3) .nil))).e) (.e ((sim_cbN sc_sortedZ (.cons (.s 5) .nil))).e))))) (sim_ret sim_bl) sim_next)
  (sim_ifS (sim_test (sim_op2 s2_ne (.e (sim_meth (.e (sim_var 2)) (.cons (.e (sim_var 4)) .nil) rfl (fun _ => .nil) (by decide) hE0 rfl)) (.e (sim_op2 s2_notN (.e (sim_op2 s2_ixT (.e (sim_call (.cons (.e (sim_var 3)) (.cons (.e (sim_var 5)) .nil)) rfl (fun _ => .nil) (by decide) hE0 rfl)) (.e sim_int))) (.e sim_non))))) (sim_ret sim_bl) sim_next))))
  (sim_ret sim_bl)))
    (by decide) (fun ds Q9 E9 h => ?_) h⟩
  obtain ⟨ns, bs, rfl, b6, n4, ok, k⟩ := h
  unfold bagsD listsD
  refine seq_tail (fun e => ∃ y2 y3 y6, e = [.im (.lst (bs.map fun b => bagD b.1)), .im (.lst (bs.map fun b => .lst (b.2.map D.str))), y2, y3, .un, .un, y6]) (fun e he => ?_) (fun nx hnx => ?_)
  · obtain ⟨y2, y3, y6, rfl⟩ := he
    refine seq_tail (fun e => ∃ y2 y3 y4 y5 y6, e = [.im (.lst (bs.map fun b => bagD b.1)), .im (.lst (bs.map fun b => .lst (b.2.map D.str))), y2, y3, y4, y5, y6]) (fun e he => ?_) (fun nx hnx => ?_)
    · obtain ⟨y2, y3, y4, y5, y6, rfl⟩ := he
      exact k
    conv => whnf
    rw [zip_pair]
    refine forL_mapR (f := pairB) (l := bs) (fun done ys e => ∃ y2 y3 y4 y5 y6, e = [.im (.lst (bs.map fun b => bagD b.1)), .im (.lst (bs.map fun b => .lst (b.2.map D.str))), y2, y3, y4, y5, y6]) ⟨_, _, _, _, _, rfl⟩ (fun done b ys e el h rest hr => ?_) (fun e h => hnx _ h)
    obtain ⟨y2, y3, y4, y5, y6, rfl⟩ := h
    have okb := ok b (by rw [el]; simp)
    have good := okb.bl.good
    have fb := okb.few
    refine ⟨rfl, gpair ?_⟩
    dsimp only
    conv => whnf
    rw [zip_pair]
    refine forL_mapR (f := pairB) (l := bs) (fun done ys e => ∃ y4 y5 y6, e = [.im (.lst (bs.map fun b => bagD b.1)), .im (.lst (bs.map fun b => .lst (b.2.map D.str))), .im (bagD b.1), .im (.lst (b.2.map D.str)), y4, y5, y6]) ⟨_, _, _, rfl⟩ (fun done c ys e el h rest2 hr2 => ?_) (fun e h => ?_)
    · obtain ⟨y4, y5, y6, rfl⟩ := h
      have okc := ok c (by rw [el]; simp)
      have goodc := okc.bl.good
      have fc := okc.few
      refine ⟨rfl, gpair ?_⟩
      dsimp only
      refine seq_tail (fun e => e = [.im (.lst (bs.map fun b => bagD b.1)), .im (.lst (bs.map fun b => .lst (b.2.map D.str))), .im (bagD b.1), .im (.lst (b.2.map D.str)), .im (bagD c.1), .im (.lst (c.2.map D.str)), y6]) (fun e he => ?_) (fun nx hnx => ?_)
      · subst he
        have hh := holds_short (cs := b.1) goodc.nd
        refine ⟨⟨rfl, rfl⟩, b.1, c.1, rfl, by have := goodc.few; omega, b.2, c.2, rfl, ⟨fb, fc⟩, fun R hR hr => ?_, fun m hm => ?_⟩
        · rw [okb.bl.noShort okc.bl hr] at hh
          rw [hh]
          exact hr2 _ ⟨_, _, _, rfl⟩
        · rw [okb.bl.short okc.bl hm] at hh
          rw [hh]
          exact hr2 _ ⟨_, _, _, rfl⟩
      · refine ⟨⟨rfl, rfl⟩, b.1, c.1, rfl, ?_⟩
        conv => whnf
        refine ⟨b.2, rfl, by omega, fun ys py sy => ⟨c.2, rfl, by omega, fun zs pz sz => eq_strsD (fun z hz => okb.bl.name z (py.mem_iff.mp hz)) (fun z hz => okc.bl.name z (pz.mem_iff.mp hz)) ?_⟩⟩
        rw [srt_same okb.bl okc.bl py pz sy sz]
        refine ifDN_t ?_ (hnx _ rfl)
        rfl
    · obtain ⟨y4, y5, y6, rfl⟩ := h
      exact hr _ ⟨_, _, _, _, _, rfl⟩
  · conv => whnf
    rw [zip_pair]
    refine forL_mapR (f := pairB) (l := bs) (fun done ys e => ∃ y2 y3 y6, e = [.im (.lst (bs.map fun b => bagD b.1)), .im (.lst (bs.map fun b => .lst (b.2.map D.str))), y2, y3, .un, .un, y6]) ⟨_, _, _, rfl⟩ (fun done b ys e el h rest hr => ?_) (fun e h => hnx _ h)
    obtain ⟨y2, y3, y6, rfl⟩ := h
    have okb := ok b (by rw [el]; simp)
    have good := okb.bl.good
    have fb := okb.few
    refine ⟨rfl, gpair ?_⟩
    dsimp only
    refine seq_tail (fun e => ∃ y6, e = [.im (.lst (bs.map fun b => bagD b.1)), .im (.lst (bs.map fun b => .lst (b.2.map D.str))), .im (bagD b.1), .im (.lst (b.2.map D.str)), .un, .un, y6]) (fun e he => ?_) (fun nx hnx => ?_)
    · obtain ⟨y6, rfl⟩ := he
      refine seq_tail (fun e => ∃ y6, e = [.im (.lst (bs.map fun b => bagD b.1)), .im (.lst (bs.map fun b => .lst (b.2.map D.str))), .im (bagD b.1), .im (.lst (b.2.map D.str)), .un, .un, y6]) (fun e he => ?_) (fun nx hnx => ?_)
      · obtain ⟨y6, rfl⟩ := he
        refine lcL_fun (f := D.str) (l := b.2) (fun n => .bl true) (by omega) (fun n hn acc rest hr2 ha => ?_) ?_
        · refine ⟨⟨rfl, rfl⟩, b.1, n, rfl, b.2, rfl, ?_⟩
          rw [okb.bl.eq n]
          conv => whnf
          rw [decide_eq_true rfl]
          exact ⟨ha, hr2⟩
        · refine ⟨b.2.map fun _ => true, by rw [List.map_map]; rfl, ?_⟩
          have e : (b.2.map fun _ => true).all id = true := by simp
          rw [e]
          exact hr _ ⟨_, _, _, rfl⟩
      · refine ⟨⟨rfl, rfl⟩, b.1, rfl, good.few, b.2, ns, rfl, by omega, okb.sub, by omega, fun ys hs nd hm => ?_⟩
        have ey := okb.bl.srt hs nd hm
        subst ey
        refine ne_strs (fun z hz => ?_) (hnx _ ⟨_, rfl⟩)
        exact okb.bl.name z ((hm z).mp hz)
    · refine ⟨⟨rfl, rfl⟩, rfl, b.1, rfl, good, b.1, b.2, rfl, okb.bl, fb, ifDN_t rfl ⟨rfl, b.1, rfl, good, ?_⟩⟩
      conv => whnf
      rw [okb.bl.len]
      exact ⟨⟨by omega, by omega⟩, ifDN_t (by rw [List.length_map]) (hnx _ ⟨_, rfl⟩)⟩
end
end Sk

set_option maxHeartbeats 1000000
namespace Sk
open PySem PySem.Spec PyProof.Rows L2 Dv SkE
theorem ixN_nat {n j : Nat} (hj : j < n) : ixN n (j : Int) = some j := by
  unfold ixN
  rw [if_pos (by omega), if_pos (by omega), Int.toNat_natCast]
theorem bl_nil : BL [] [] := ⟨⟨by decide, by simp [keysOf], (fun _ h => nomatch h), (fun _ h => nomatch h), by decide⟩, fun n => rfl⟩
def spLaw (K : PySem.W.Frag) : Sp := fun vs H Q _ => ∃ (a : Addr) (ns : List Int), vs = [.ref a] ∧ SqL K H a (ns.map V.int) ∧ ns.length ≤ 63 ∧ ∀ H', Q (.bl true) H'
def fs_law : FS := ⟨[false], false, fun ds Q _ => ∃ ns, ds = [.scr ns] ∧ ns.length ≤ 63 ∧ Q (.bl true) []⟩
theorem spLaw_to {K : PySem.W.Frag} {vs : List V} {H : Hp} {Q : VK} {E : XK} (h : spLaw K vs H Q E) : fs_law.to K vs H Q E := by
  obtain ⟨a, ns, rfl, hS, hl, k⟩ := h
  refine ⟨fun b => if b = a then H b else none, [], [.scr ns], (fun r _ => r = .bl true), (fun _ _ => False), ⟨.im (.scr ?_) .nil, List.nodup_nil, fun b o e => ?_, (fun _ h => nomatch h)⟩, ⟨ns, rfl, hl, rfl⟩, fun r nd e F' H' v po mr hv => ?_, fun _ _ z => z.elim⟩
  · rcases hS with (e | ⟨o, e⟩) | e
    · exact .inl (.inl (show (if a = a then H a else none) = _ by rw [if_pos rfl]; exact e))
    · exact .inl (.inr ⟨o, show (if a = a then H a else none) = _ by rw [if_pos rfl]; exact e⟩)
    · exact .inr e
  · by_cases n : b = a
    · rw [if_pos n] at e
      exact .inl e
    · rw [if_neg n] at e
      cases e
  · have hv : Is K F' r v := hv
    rw [e] at hv
    cases hv
    exact k H'
theorem bdN (m len : Int) (h0 : 0 ≤ len) (hm : 1 ≤ m) : 1 ≤ (if (if len < m then len else m) > 1 then (if len < m then len else m) else 1) ∧ (if (if len < m then len else m) > 1 then (if len < m then len else m) else 1) ≤ m := by
  by_cases h1 : len < m
  · rw [if_pos h1]
    by_cases h2 : len > 1
    · rw [if_pos h2]; omega
    · rw [if_neg h2]; omega
  · rw [if_neg h1]
    by_cases h2 : m > 1
    · rw [if_pos h2]; omega
    · rw [if_neg h2]; omega
theorem bd5 (len : Int) (h0 : 0 ≤ len) : 1 ≤ (if (if len < 5 then len else 5) > 1 then (if len < 5 then len else 5) else 1) ∧ (if (if len < 5 then len else 5) > 1 then (if len < 5 then len else 5) else 1) ≤ 5 := bdN 5 len h0 (by decide)

section
variable {P : Program} {w : World} {K : PySem.W.Frag} {mg : Str → Option Value} {base : Heap}
theorem ok_law {f : Addr} {fd : FuncData} (Y : Yes K mg) (F : FunD K "law" "law" (defArgs s_law) (defBody s_law) (defScope s_law) [] [] f fd) : FnOk P w K mg base C8.CX0 60 f fd ["_law_script"] (spLaw K) := by
  refine fnD0 F sc_law (fun vs H Q E h => ?_) (fun cdv A outer s H vs Q E hr h => ?_)
  · obtain ⟨_, _, rfl, _⟩ := h
    rfl
  · have hu := hu_of hr
    refine ⟨_, (pss_cons (ps_for PassesOwn.never rfl (pi_range1 rfl Y.n_range (pa_cons (pe_callB (call_max2 rfl) (by rfl) Y.n_max (by decide +kernel) (pa_cons pe_int (pa_cons (pe_callB (call_min2 rfl) (by rfl) Y.n_min (by decide +kernel) (pa_cons pe_int (pa_cons (pe_callB (call_lenK K) (by rfl) Y.n_len (by decide +kernel) (pa_cons (pv 0) pa_nil)) pa_nil))) pa_nil))) pa_nil)) (pg_name (i := 1) sc_law.nd rfl (.inl rfl))
  (pss_cons (ps_set (i := 2) sc_law.nd rfl (.inl rfl) (C8.pe_c (cal__law_draws Y) hr (by decide) rfl (pa_cons (pv 0) (pa_cons (pv 1) pa_nil))))
  (pss_cons (ps_set (i := 3) sc_law.nd rfl (.inl rfl) (C8.pe_c (cal__law_names Y) hr (by decide) rfl (pa_cons (pv 2) (pa_cons (pe_op op_add pe_int (C8.pe_c (cal__law_draw Y) hr (by decide) rfl (pa_cons (pv 2) (pa_cons pe_int pa_nil)))) pa_nil))))
  (pss_cons (ps_par (i := 4) (j := 5) rfl sc_law.nd rfl rfl (by decide) rfl rfl (pa_cons (pe_lst (pa_cons (pe_mk0 (mk0_Bag Y) hr (by decide) rfl) pa_nil)) (pa_cons (pe_lst (pa_cons (pe_lst pa_nil) pa_nil)) pa_nil)) (by rfl))
  (pss_cons (ps_for PassesOwn.never rfl (pi_range1 rfl Y.n_range (pa_cons (C8.pe_c (cal__law_draw Y) hr (by decide) rfl (pa_cons (pv 2) (pa_cons pe_int pa_nil))) pa_nil)) (pg_name (i := 6) sc_law.nd rfl (.inl rfl))
  (pss_cons (ps_asg (C8.pe_c (cal__law_made Y) hr (by decide) rfl (pa_cons (pv 2) (pa_cons (pv 3) (pa_cons (pv 4) (pa_cons (pv 5) pa_nil))))) (pg_tup rfl (pgs_cons (pg_name (i := 7) sc_law.nd rfl (.inl rfl)) (pgs_cons (pg_name (i := 8) sc_law.nd rfl (.inl rfl)) pgs_nil))))
  (pss_cons (ps_if (pt_cmpR op_lt (pe_callB (call_lenK K) (by rfl) Y.n_len (by decide +kernel) (pa_cons (pv 4) pa_nil)) pe_int (nomark _)) (pss_cons (ps_expr (pe_bmK K PySem.F.plainAttrs_list PySem.F.slot_list_append PySem.F.type_list_append mt_append (pv 4) (pa_cons (pv 7) pa_nil)))
  (pss_one (ps_expr (pe_bmK K PySem.F.plainAttrs_list PySem.F.slot_list_append PySem.F.type_list_append mt_append (pv 5) (pa_cons (pv 8) pa_nil))))) (pss_cons (ps_set (i := 9) sc_law.nd rfl (.inl rfl) (C8.pe_c (cal__law_draw Y) hr (by decide) rfl (pa_cons (pv 2) (pa_cons pe_int pa_nil))))
  (pss_one (ps_asg (pe_tup (pa_cons (pv 7) (pa_cons (pv 8) pa_nil))) (pg_tup rfl (pgs_cons (pg_sub (pv 4) (pv 9) set_list) (pgs_cons (pg_sub (pv 5) (pv 9) set_list) pgs_nil)))))))
  (pss_one (ps_if (PW.pt (pw_and (pt_cmpR op_eq (pe_op op_mod (pv 6) pe_int) pe_int (nomark _)) (pw_and1 (pt_not (pt_val (C8.pe_c (cal__law_stand Y) hr (by decide) rfl (pa_cons (pv 4) (pa_cons (pv 5) pa_nil)))))))) (pss_one (ps_ret pe_bl)) pss_nil)))))
  (pss_one (ps_if (pt_not (pt_val (C8.pe_c (cal__law_stand Y) hr (by decide) rfl (pa_cons (pv 4) (pa_cons (pv 5) pa_nil))))) (pss_one (ps_ret pe_bl)) pss_nil)))))))
  (pss_one (ps_ret pe_bl))),
    body_ok0 (f := fs_law) (sim_seq (sim_for (simi_rng1 (.cons (.e (sim_cb sc_max2 (.cons (.e sim_int) (.cons (.e (sim_cb sc_min2 (.cons (.e sim_int) (.cons (.e (sim_cb sc_len (.cons (.s 0) .nil))) .nil)))) .nil)))) .nil)) (simg_name (vs := [1]) 1 (by decide))
  (sim_seq (sim_setO (sim_callF (.cons (.e (sim_var 0)) (.cons (.e (sim_var 1)) .nil)) rfl (fun _ => .nil) (by decide) hE0 rfl))
  (sim_seq (sim_set ((sim_callF (.cons (.s 2) (.cons (.e (sim_op2 s2_add (.e sim_int) (.e (sim_call (.cons (.s 2) (.cons (.e sim_int) .nil)) rfl (fun _ => .nil) (by decide) hE0 rfl)))) .nil)) rfl (fun _ => .nil) (by decide) hE0 rfl)).e)
  (sim_seq (sim_parO (sim_lst (sim_cons ((sim_make (c := "Bag") .nil rfl (fun F9 => (.cons .str .nil)) (by decide) hE0 rfl)).e sim_nil)) (sim_lst (sim_cons ((sim_lst sim_nil)).e sim_nil)))
  (sim_seq (sim_for (simi_rng1 (.cons (.e (sim_call (.cons (.s 2) (.cons (.e sim_int) .nil)) rfl (fun _ => .nil) (by decide) hE0 rfl)) .nil)) (simg_name (vs := [6]) 6 (by decide))
  (sim_seq (sim_asg (sim_call (.cons (.s 2) (.cons (.e (sim_var 3)) (.cons (.s 4) (.cons (.s 5) .nil)))) rfl (fun _ => .nil) (by decide) hE0 rfl) (simg_tup (simg_cons (simg_name (vs := [7, 8]) 7 (by decide)) (simg_cons (simg_name (vs := [7, 8]) 8 (by decide)) simg_nil))))
  (sim_seq (sim_ifS (sim_test (sim_op2 s2_lt (.e (sim_cb sc_len (.cons (.s 4) .nil))) (.e sim_int))) (sim_seq (sim_drop (sim_mut sm_append (sim_cons (sim_var 7) sim_nil)))
  (sim_drop (sim_mut sm_append (sim_cons (sim_var 8) sim_nil)))) (sim_seq (sim_set (sim_call (.cons (.s 2) (.cons (.e sim_int) .nil)) rfl (fun _ => .nil) (by decide) hE0 rfl))
  (sim_asg (sim_tup (sim_cons (sim_var 7) (sim_cons (sim_var 8) sim_nil))) (simg_tup (simg_cons (simg_item (vs := []) 4 9) (simg_cons (simg_item (vs := []) 5 9) simg_nil))))))
  (sim_ifS (sim_and (sim_test (sim_op2 s2_eq (.e (sim_op2 s2_mod (.s 6) (.e sim_int))) (.e sim_int))) (sim_not (sim_B (sim_lend2 (f := fs__law_stand) (i := 4) (j := 5) rfl rfl (by decide))))) (sim_ret sim_bl) sim_next))))
  (sim_ifS (sim_not (sim_B (sim_lend2 (f := fs__law_stand) (i := 4) (j := 5) rfl rfl (by decide)))) (sim_ret sim_bl) sim_next))))))
  (sim_ret sim_bl))
    (by decide) (fun ds Q9 E9 h => ?_) (spLaw_to h)⟩
    obtain ⟨ns, rfl, hl, k⟩ := h
    obtain ⟨m0', m1⟩ := bdN 3 (ns.length : Int) (by omega) (by decide)
    refine ⟨⟨by omega, by omega⟩, ?_⟩
    refine forL_rng (fun i e => ∃ y1 y2 y3 y4 y5 y6 y7 y8 y9, e = [.im (.scr ns), y1, y2, y3, y4, y5, y6, y7, y8, y9]) ⟨_, _, _, _, _, _, _, _, _, rfl⟩ (fun i e hi h rest hr => ?_) (fun e h => ?_)
    · obtain ⟨y1, y2, y3, y4, y5, y6, y7, y8, y9, rfl⟩ := h
      refine ⟨ns, i, by show [D.scr ns, D.int (0 + (i : Int))] = _; rw [Int.zero_add], by omega, by omega, fun st dr0 => ?_⟩
      refine ⟨st, 4, 0, rfl, dr0, by omega, by omega, by omega, fun v st1 v0 v1 dr1 => ?_⟩
      (try dsimp only)
      generalize he : putMus _ _ _ = e4
      obtain rfl : e4 = [.im (.scr ns), .im (.int (0 + (i : Int))), .ow false st1, y3, y4, y5, y6, y7, y8, y9] := he.symm.trans rfl
      clear he
      obtain ⟨kv, rfl⟩ := Int.eq_ofNat_of_zero_le v0
      refine ⟨st1, 1 + kv, 1, rfl, dr1, by omega, by omega, by omega, fun names st2 gn l0 l1 dr2 => ?_⟩
      (try dsimp only)
      generalize he : putMus _ _ _ = e4
      obtain rfl : e4 = [.im (.scr ns), .im (.int (0 + (i : Int))), .ow false st2, y3, y4, y5, y6, y7, y8, y9] := he.symm.trans rfl
      clear he
      refine gname ?_
      show dSeq _ _ _ _ [.im (.scr ns), .im (.int (0 + (i : Int))), .ow false st2, .im (.lst (names.map D.str)), y4, y5, y6, y7, y8, y9]
      refine seq_tail (fun e => e = [.im (.scr ns), .im (.int (0 + (i : Int))), .ow false st2, .im (.lst (names.map D.str)), .ow false (bagsD [([], [])]), .ow false (listsD [([], [])]), y6, y7, y8, y9]) (fun e he => ?_) (fun nx hnx => ?_)
      · subst he
        refine seq_tail (fun e => ∃ bs st y6 y7 y8 y9, dr 2000 st ∧ 1 ≤ bs.length ∧ bs.length ≤ 6 ∧ (∀ b ∈ bs, OkB names b) ∧ e = [.im (.scr ns), .im (.int (0 + (i : Int))), .ow false st, .im (.lst (names.map D.str)), .ow false (bagsD bs), .ow false (listsD bs), y6, y7, y8, y9]) (fun e he => ?_) (fun nx hnx => ?_)
        · obtain ⟨bs, st, y6, y7, y8, y9, drx, b1, b6, ok, rfl⟩ := he
          refine ⟨names, bs, rfl, b6, by omega, ok, ?_⟩
          conv => whnf
          exact ⟨true, rfl, hr _ ⟨_, _, _, _, _, _, _, _, _, rfl⟩⟩
        · refine ⟨st2, 41, _, rfl, dr2, by omega, by omega, by omega, fun v st3 v0 v1 dr3 => ⟨by omega, ?_⟩⟩
          refine forL_rng (fun i9 e => ∃ bs st y6 y7 y8 y9, dr (30 + 30 * i9) st ∧ 1 ≤ bs.length ∧ bs.length ≤ 6 ∧ (∀ b ∈ bs, OkB names b) ∧ e = [.im (.scr ns), .im (.int (0 + (i : Int))), .ow false st, .im (.lst (names.map D.str)), .ow false (bagsD bs), .ow false (listsD bs), y6, y7, y8, y9])
            ⟨[([], [])], st3, _, _, _, _, dr3.mono (by omega), by decide, by decide, fun b hb => by rw [List.mem_singleton.mp hb]; exact ⟨bl_nil, (fun _ h => nomatch h), by decide⟩, rfl⟩ (fun i9 e hi9 h rest2 hr2 => ?_) (fun e h => ?_)
          · obtain ⟨bs, st, y6, y7, y8, y9, drx, b1, b6, ok, rfl⟩ := h
            refine gname ?_
            show dSeq _ _ _ _ [.im (.scr ns), .im (.int (0 + (i : Int))), .ow false st, .im (.lst (names.map D.str)), .ow false (bagsD bs), .ow false (listsD bs), .im (.int (0 + (i9 : Int))), y7, y8, y9]
            refine seq_tail (fun e => ∃ b st, dr (50 + 30 * i9) st ∧ OkB names b ∧ e = [.im (.scr ns), .im (.int (0 + (i : Int))), .ow false st, .im (.lst (names.map D.str)), .ow false (bagsD bs), .ow false (listsD bs), .im (.int (0 + (i9 : Int))), .im (bagD b.1), .im (.lst (b.2.map D.str)), y9]) (fun e he => ?_) (fun nx hnx => ?_)
            · obtain ⟨b, st, drx, okb, rfl⟩ := he
              refine seq_tail (fun e => ∃ bs st y9, dr (51 + 30 * i9) st ∧ 1 ≤ bs.length ∧ bs.length ≤ 6 ∧ (∀ b ∈ bs, OkB names b) ∧ e = [.im (.scr ns), .im (.int (0 + (i : Int))), .ow false st, .im (.lst (names.map D.str)), .ow false (bagsD bs), .ow false (listsD bs), .im (.int (0 + (i9 : Int))), .im (bagD b.1), .im (.lst (b.2.map D.str)), y9]) (fun e he => ?_) (fun nx hnx => ?_)
              · obtain ⟨bs, st, y9, drx, b1, b6, ok, rfl⟩ := he
                have := hr2 [.im (.scr ns), .im (.int (0 + (i : Int))), .ow false st, .im (.lst (names.map D.str)), .ow false (bagsD bs), .ow false (listsD bs), .im (.int (0 + (i9 : Int))), .im (bagD b.1), .im (.lst (b.2.map D.str)), y9] ⟨bs, st, _, _, _, _, drx.mono (by omega), b1, b6, ok, rfl⟩
                conv => whnf
                exact ⟨by show (0 : Int) < 10; decide, ifD (fun hx => ⟨names, bs, rfl, b6, by omega, ok, true, rfl, this⟩) (fun _ => this)⟩
              · conv => whnf
                refine ifD (fun hx => ?_) (fun hx => ?_)
                · refine ⟨by rw [List.length_map]; omega, by rw [List.length_map]; omega, hnx _ ⟨bs ++ [b], st, y9, drx.mono (by omega), by simp, by rw [List.length_append]; rw [List.length_map] at hx; simp; omega, fun c hc => (List.mem_append.mp hc).elim (ok c) fun hc => by rw [List.mem_singleton.mp hc]; exact okb, ?_⟩⟩
                  unfold bagsD listsD
                  rw [List.map_append, List.map_append]
                  rfl
                · refine ⟨st, 6, _, rfl, drx, by omega, by omega, by omega, fun v st' q0 q1 dx => ?_⟩
                  have bl6 : bs.length = 6 := by rw [List.length_map] at hx; omega
                  obtain ⟨kv, rfl⟩ := Int.eq_ofNat_of_zero_le q0
                  refine ⟨by simp, rfl, ?_⟩
                  refine some9_of (ixN_nat (by rw [List.length_map]; omega)) ?_
                  refine some9_of (ixN_nat (by rw [List.length_map]; omega)) ?_
                  refine hnx _ ⟨bs.set kv b, st', .im (.int (kv : Int)), dx.mono (by omega), by rw [List.length_set]; omega, by rw [List.length_set]; omega, fun c hc => (List.mem_or_eq_of_mem_set hc).elim (ok c) fun hc => by rw [hc]; exact okb, ?_⟩
                  unfold bagsD listsD
                  rw [List.map_set, List.map_set]
                  rfl
            · conv => whnf
              exact ⟨st, names, _, bs, rfl, drx, by omega, gn, l0, by omega, b1, b6, ok, fun b st' okb dx => ⟨rfl, gpair (hnx _ ⟨b, st', dx.mono (by omega), okb, rfl⟩)⟩⟩
          · obtain ⟨bs, st, y6, y7, y8, y9, drx, b1, b6, ok, rfl⟩ := h
            exact hnx _ ⟨bs, st, _, _, _, _, drx.mono (by omega), b1, b6, ok, rfl⟩
      · conv => whnf
        exact ⟨Str.ofString "", [], rfl, by decide +kernel, bag_none, by simp, by simp, by simp, hnx _ rfl⟩
    · obtain ⟨y1, y2, y3, y4, y5, y6, y7, y8, y9, rfl⟩ := h
      exact k
end
end Sk

set_option maxHeartbeats 0
namespace Sk
open PySem PySem.Spec PyProof.Rows L2

theorem facts {P : Program} {w : World} {K : PySem.W.Frag} {h : Heap} {mg : Str → Option Value} {f : Addr} (X : K.In h) (G : h.Ns mainGlobals mg) (hfa : mg ("law" : Str) = some (.ref f)) (c : He.SaysD fa fn K) (x : ex K = true) (hP : P = PySem.Challenge.pw_skinrooms_k05_whole_bags_by_lists) :
    ∃ fd : FuncData, (∀ (s : Shared) (v : Value), BindsTo s fd ⟨[v], []⟩ [("_law_script", v)]) ∧ ∀ base : Heap, K.In base → base.Ns mainGlobals mg → FnOk P w K mg base C8.CX0 60 f fd ["_law_script"] (spLaw K) := by
  have Y : Yes K mg := ⟨c, x, h, X, G⟩
  obtain ⟨fd, F⟩ := Y.f_law
  have e := hfa.symm.trans Y.g_law
  cases e
  have b := FunD.bindsA (ps := ["_law_script"]) F fun _ _ _ _ _ _ us hl => match us, hl with | [_], _ => rfl
  exact ⟨fd, fun s v => b s [v] rfl, fun base _ _ => ok_law Y F⟩
end Sk
open PySem PySem.W PySem.Calls PyProof.Rows
theorem PySem.Challenge.cw_skinrooms_k05_whole_bags_by_lists_holds : PySem.Challenge.rw_skinrooms_k05_whole_bags_by_lists.Holds := by
  w_on; o_law
  refine HandSHeadRun.head_any (r := OpenLaw.row PySem.Challenge.rw_skinrooms_k05_whole_bags_by_lists) (q := view (OpenLaw.row PySem.Challenge.rw_skinrooms_k05_whole_bags_by_lists).prog [22]) (H := Sk.hk) (ob := Sk.ob) (M := 6000) (loose := Sk.loose) (d := HandSHeadRun.topDef (OpenLaw.row PySem.Challenge.rw_skinrooms_k05_whole_bags_by_lists).prog 22) (kwd := []) Sk.ob_eq
    (by kernel_rfl) (fun s => by kernel_rfl) Sk.run (by kernel_rfl) (by kernel_rfl) (by kernel_rfl) (by rfl) (by first | assumption | decide +kernel) (by decide +kernel) ⟨rfl, rfl, rfl, rfl, rfl, by decide +kernel⟩ ?hw ?hc
  case hw => w_witness2
  case hc =>
    refine L2.walk_ofE (l := PySem.Challenge.rw_skinrooms_k05_whole_bags_by_lists) (n := 63) (k := 60) (x := "_law_script") (CX := C8.CX0) rfl (by decide) (by kernel_rfl) ⟨rfl, by decide, by decide⟩ ?F (fun _ _ _ _ z => z)
    intro w mg fa h Y G hmg0
    obtain ⟨K, KX, c, x⟩ := Y
    have hmg : mg ("law" : PySem.Str) = some (.ref fa) := by
      have e : (HandSHeadRun.topDef (OpenLaw.row PySem.Challenge.rw_skinrooms_k05_whole_bags_by_lists).prog 22).name = ("law" : PySem.Str) := by kernel_rfl
      rw [← e]
      exact hmg0
    obtain ⟨fd, hb, hF⟩ := Sk.facts (P := (PySem.Challenge.rw_skinrooms_k05_whole_bags_by_lists).prog) (w := w) KX G hmg c x rfl
    exact ⟨K, fd, Sk.spLaw K, KX, hb, fun H a ns hl _ hS => ⟨a, ns, rfl, hS, hl, fun _ => rfl⟩, hF⟩
