import PyProof.Rows.All
import Wide.All
import OpenK.AllK
import Wide.FinOn
import HandS.ForMost
import HandS.More
import HandS.OwnEq
import HandS.Star
import HandS.IsInst
import HandS.Strs
import HandS.Style
import HandS.Property
import HandS.Exc
import HandS.ExcInit
import HandS.TryOnly
import HandS.WordsExc
import HandS.Flow
import HandS.Codes
import HandS.Walk
import HandS.DeepEq
import KE.DatumOrd
import PySem.Challenge.RW_threecounts_k14_whole_lists_and_texts
set_option Elab.async false
set_option linter.all false
set_option maxRecDepth 100000
set_option maxHeartbeats 0
/-! Rules that the hand layer lacks. -/
namespace K14
open PySem PySem.Spec PyProof.Rows L2

section
variable {X : Cx} {pins : List (Addr × Obj)} {σ : L2.St} {H : Hp} {s : Shared} {CX : CXT} {k : Nat} {f C : Addr} {sp : Sp} {E : XK}
/-- the callee runs, somewhere below the body -/
theorem run_fnA {A : Around} {Q : VK} {us : List Value} {vs : List V} (hA : A.frames = X.A.frames) (F : FnR X.prog X.w X.K X.mg X.base CX k f sp) (hr : Room k A) (hx : Passes CX X E) (I : Inv X pins σ H s) (r : Vals vs us)
    (h : sp vs H Q E) : wpAny (model X.prog X.w) A (call (.ref f) us) (EP X pins σ Q) X.xe s := by
  have e0 : Env0 X.prog X.w X.K X.mg X.base A X.stack s H := by
    have e := I.env0
    exact ⟨by rw [hA]; exact e.frames, e.mod, e.bs, e.bsz, e.funs, e.frf, e.hok, e.bare⟩
  refine wpAny_call (codeAny_mono (F A X.stack s H us vs Q E hr e0 r h) fun r s' hq => ?_)
  cases r with
  | error e => exact hx pins σ H s e s' I hq
  | ok fl =>
    cases fl with
    | ret u => exact I.after hq
    | next => exact False.elim hq
    | brk => exact False.elim hq
    | cont => exact False.elim hq
/-- the instance, as the library's rules want it -/
theorem inst_at {a dx : Addr} {fs : List (Str × V)} (I : Inv X pins σ H s) (h : H a = some (.ins C dx fs)) : ∃ od, PySem.W.InstAt s.heap a (PySem.W.instObj C dx) C (some od) := by
  obtain ⟨mA, J, _⟩ := ins_get I.hok h
  obtain ⟨od, J, _⟩ := J.look
  exact ⟨od, J⟩
end

section
variable {X : Cx} {CX : CXT} {k : Nat} {f C : Addr} {sp : Sp} {E : XK}
/-- len(o) by an own __len__ -/
def rLenO (C : Addr) (sp : Sp) (E : XK) : List V → Hp → VK → Prop := fun xs H Q => ∃ a dx fs, xs = [.ref a] ∧ H a = some (.ins C dx fs) ∧ sp [.ref a] H (fun v H' => ∃ n : Int, v = .int n ∧ 0 ≤ n ∧ n < 2 ^ 63 ∧ Q (.int n) H') E
theorem call_lenO (F : FnR X.prog X.w X.K X.mg X.base CX k f sp) (hr : Room (k + 1) X.A) (hs : PySem.W.findIn X.K (.ref C) "__len__" = some (some (.ref f))) (hf : PySem.W.isFn X.K (.ref f) = true) (hx : Passes CX X E) :
    CallR X (.builtin "len") (rLenO C sp E) := by
  intro pins s σ H xs us Q I r h
  obtain ⟨a, dx, fs, rfl, ha, q⟩ := h
  obtain ⟨u, rfl, ru⟩ := Vals.one r
  cases ru
  obtain ⟨od, J⟩ := inst_at I ha
  obtain ⟨m, hF⟩ := I.fr
  refine PySem.W.len_K hF I.ok.mod.kin J hs hf (thn (run_fnA (vs := [.ref a]) rfl F hr.in1 hx I (.cons rfl .nil) q) fun v s' z => ?_)
  obtain ⟨w, H', I', rw', n, ew, h0, h1, q'⟩ := z
  subst ew
  obtain ⟨t, rfl⟩ := rw'
  exact ⟨⟨h0, h1⟩, .int n, H', I'.tok _, ⟨_, rfl⟩, q'⟩

/-- a comparison of two instances by the class's own method -/
def rOwn (C : Addr) (sp : Sp) (E : XK) : R2 := fun x y H Q => ∃ a b dx dy fs gs, x = .ref a ∧ y = .ref b ∧ H a = some (.ins C dx fs) ∧ H b = some (.ins C dy gs) ∧
  sp [.ref a, .ref b] H (fun v H' => ∃ c, v = .bl c ∧ Q (.bl c) H') E
theorem rc_own {op : CmpOp} {A : Around} {pins : List (Addr × Obj)} {σ : L2.St} {H : Hp} {s : Shared} {Q : VK} {a b dx dy : Addr} {fs gs : List (Str × V)} (hA : A.frames = X.A.frames) (F : FnR X.prog X.w X.K X.mg X.base CX k f sp) (hr : Room k A)
    (hs : PySem.W.findIn X.K (.ref C) (cmpInfo op).2.1 = some (some (.ref f))) (hf : PySem.W.isFn X.K (.ref f) = true) (hx : Passes CX X E) (I : Inv X pins σ H s) (ha : H a = some (.ins C dx fs)) (hb : H b = some (.ins C dy gs))
    (q : sp [.ref a, .ref b] H (fun v H' => ∃ c, v = .bl c ∧ Q (.bl c) H') E) : wpAny (model X.prog X.w) A (richCompare op (.ref a) (.ref b)) (EP X pins σ Q) X.xe s := by
  obtain ⟨od, J⟩ := inst_at I ha
  obtain ⟨od', J'⟩ := inst_at I hb
  obtain ⟨m, hF⟩ := I.fr
  refine PySem.W.cmp_K (tb := .ref C) hr.units0 hF I.ok.mod.kin J J'.type (by simp [PySem.W.notFirst]) hs hf (thn (run_fnA (vs := [.ref a, .ref b]) hA F hr hx I (.cons rfl (.cons rfl .nil)) q) fun v s' z => ?_)
  obtain ⟨w, H', I', rw', c, ew, q'⟩ := z
  subst ew
  cases rw'
  exact ⟨.bl c, H', I', rfl, q'⟩
theorem op_own {op : CmpOp} (F : FnR X.prog X.w X.K X.mg X.base CX k f sp) (hr : Room k X.A) (hs : PySem.W.findIn X.K (.ref C) (cmpInfo op).2.1 = some (some (.ref f))) (hf : PySem.W.isFn X.K (.ref f) = true) (hx : Passes CX X E)
    (ho : ∀ u v, compareOp op u v = richCompare op u v := by intros; rfl) : OpR X (compareOp op) (rOwn C sp E) := by
  intro pins s σ H x y v u Q I rx ry h
  obtain ⟨a, b, dx, dy, fs, gs, rfl, rfl, ha, hb, q⟩ := h
  cases rx
  cases ry
  rw [ho]
  exact rc_own rfl F hr hs hf hx I ha hb q
end
end K14

namespace K14N
open PySem PySem.Spec PyProof.Rows PySem.SeqAt
section
variable {M : Model} {prog : Program} {w : World} {A : Around} {E : Value → Shared → Prop} {s : Shared} {K : PySem.W.Frag} {x y C f : Addr} {ox : Obj} {od : Option Obj}
/-- a slot of object's, found for an instance -/
theorem ifBound_slot {name : Str} {id : String} {args : List Value} {Q : Option Value → Shared → Prop} (X : K.In s.heap) (I : PySem.W.InstAt s.heap x ox C od) (hs : PySem.W.findIn K (.ref C) name = some (some (.builtin id)))
    (hb : ∀ self, bindSpecial (.builtin id) self = pure (.builtin id, [self])) (h : wpAny M A (call (.builtin id) (.ref x :: args)) (fun v => Q (some v)) E s) : wpAny M A (callSpecialIfBound? (.ref x) name args) Q E s := by
  simp only [callSpecialIfBound?, bindSpecialIfBound?]
  refine wpAny_holding (wpAny_bind (wpAny_bind (wpAny_bind (I.type.here ((PySem.W.looks_findIn X hs).here ?_)))))
  refine wpAny_bind (wpAny_askSetting (wpAny_ite ?_))
  have fin : wpAny M A (call (.builtin id) ([.ref x] ++ args) >>= fun v => pure (some v)) Q E s := wpAny_bind (wpAny_mono h (fun v s' h' => wpAny_pure h') fun _ _ h' => h')
  split
  · exact wpAny_bind (wpAny_of_eq (hb _) (wpAny_pure (by exact fin)))
  · exact wpAny_tryCatch (wpAny_bind (wpAny_of_eq (hb _) (wpAny_pure (by exact fin))))
theorem gtKind : builtinKind "object.__gt__" = some .slot := by decide +kernel
theorem gtSplit : splitId "object.__gt__" = some ("object", "__gt__") := by decide +kernel
theorem gt_entry {v : Value} {Q : Fin → Shared → Prop} (hq : Q (.done (.ret .notImplemented)) s) : wpAny M A (Builtin.«object.__gt__» ⟨[.ref x, v], []⟩) Q E s := by
  show wpAny M A (do let _ ← PySem.slotArgs "__gt__" 1 ⟨[.ref x, v], []⟩; PySem.ret .notImplemented) Q E s
  repeat (first | wp_step)
  exact hq
theorem call_gt {v : Value} {Q : Value → Shared → Prop} (X : K.In s.heap) (I : PySem.W.InstAt s.heap x ox C od) (hm : PySem.W.mroIn K C (.type "object") = some true) (hq : Q .notImplemented s) :
    wpAny (model prog w) A (call (.builtin "object.__gt__") [.ref x, v]) Q E s :=
  wpAny_call (codeAny_call_builtin F.slot_object_gt.plain F.entry_object_gt (PySem.W.check_slot gtKind gtSplit (I.type.andThen (PySem.W.looks_mroIn X hm)) (F.args_object_gt_2 _ _) (gt_entry hq)))
theorem ne_entry {Q : Fin → Shared → Prop} (hu : A.units < cLine) (X : K.In s.heap) (I : PySem.W.InstAt s.heap x ox C od) (he : PySem.W.findIn K (.ref C) "__eq__" = some (some (.ref f))) (hf : PySem.W.isFn K (.ref f) = true)
    (h : wpAny (model prog w) A (call (.ref f) [.ref x, .ref y]) (fun v s' => ∃ b, v = .bool b ∧ Q (.done (.ret (.bool (!b)))) s') E s) : wpAny (model prog w) A (Builtin.«object.__ne__» ⟨[.ref x, .ref y], []⟩) Q E s := by
  unfold Builtin.«object.__ne__»
  repeat (first
    | with_reducible refine wpAny_cRoomFor hu ?_
    | (refine wpAny_bind (m := callSpecialIfBound? (.ref x) (Str.ofString "__eq__") [.ref y])
        (PySem.W.ifBound_K X I he hf (wpAny_mono h (fun r s' hr => by
          obtain ⟨b, rfl, hq⟩ := hr
          repeat (first | exact hq | exact wpAny_pure hq | exact wpAny_truthy_bool hq | (refine wpAny_bind (m := truthy (.bool _)) (wpAny_truthy_bool ?_)) | wp_step)) fun _ _ e => e)))
    | wp_step)
theorem call_ne {Q : Value → Shared → Prop} (hu : A.units + 1 < cLine) (X : K.In s.heap) (I : PySem.W.InstAt s.heap x ox C od) (hm : PySem.W.mroIn K C (.type "object") = some true) (he : PySem.W.findIn K (.ref C) "__eq__" = some (some (.ref f))) (hf : PySem.W.isFn K (.ref f) = true)
    (h : wpAny (model prog w) A.in1 (call (.ref f) [.ref x, .ref y]) (fun v s' => ∃ b, v = .bool b ∧ Q (.bool (!b)) s') E s) : wpAny (model prog w) A (call (.builtin "object.__ne__") [.ref x, .ref y]) Q E s :=
  wpAny_call (codeAny_call_builtin F.slot_object_ne.plain F.cmpEntry_ne (PySem.W.check_slot F.cmpKind_ne F.cmpSplit_ne (I.type.andThen (PySem.W.looks_mroIn X hm)) (F.cmpArgs_ne _ _)
    (ne_entry (A := A.in1) hu X I he hf (wpAny_mono h (fun v s' hv => hv) fun _ _ e => e))))
end
end K14N

namespace K14N
open PySem PySem.Spec PyProof.Rows PySem.SeqAt
section
variable {prog : Program} {w : World} {A : Around} {E : Value → Shared → Prop} {s : Shared} {K : PySem.W.Frag} {x y C f : Addr} {ox oy : Obj} {od od' : Option Obj}
theorem rc_ne {Q : Value → Shared → Prop} (hu : A.units + 1 < cLine) (X : K.In s.heap) (I : PySem.W.InstAt s.heap x ox C od) (I' : PySem.W.InstAt s.heap y oy C od') (hm : PySem.W.mroIn K C (.type "object") = some true)
    (hn : PySem.W.findIn K (.ref C) "__ne__" = some (some (.builtin "object.__ne__"))) (he : PySem.W.findIn K (.ref C) "__eq__" = some (some (.ref f))) (hf : PySem.W.isFn K (.ref f) = true)
    (h : wpAny (model prog w) A.in1 (call (.ref f) [.ref x, .ref y]) (fun v s' => ∃ b, v = .bool b ∧ Q (.bool (!b)) s') E s) : wpAny (model prog w) A (richCompare .NotEq (.ref x) (.ref y)) Q E s := by
  have one : wpAny (model prog w) A (tryCompare (.ref x) "__ne__" (.ref y)) (fun r s' => ∃ b, r = some (.bool b) ∧ Q (.bool b) s') E s := by
    unfold tryCompare
    refine wpAny_bind (ifBound_slot X I hn (fun _ => F.slot_object_ne.bind _) (call_ne hu X I hm he hf (wpAny_mono h (fun v s' z => ?_) fun _ _ e => e)))
    obtain ⟨b, rfl, q⟩ := z
    exact ⟨b, rfl, wpAny_pure ⟨_, rfl, q⟩⟩
  simp only [richCompare, cmpInfo, oneThing_ref]
  refine wpAny_holding (wpAny_bind (wpAny_cRoomFor (by omega) ?_))
  refine wpAny_bind (I.type.here (wpAny_bind (I'.type.here ?_)))
  split
  · rename_i q
    exact absurd q (by simp)
  · refine wpAny_bind (wpAny_pure ?_)
    simp only [Bool.false_eq_true, if_false]
    refine wpAny_bind (wpAny_mono one (fun r s' z => ?_) fun _ _ e => e)
    obtain ⟨b, rfl, hq⟩ := z
    exact wpAny_pure hq
theorem rc_gt {Q : Value → Shared → Prop} (hu : A.units + 1 < cLine) (X : K.In s.heap) (I : PySem.W.InstAt s.heap x ox C od) (I' : PySem.W.InstAt s.heap y oy C od') (hm : PySem.W.mroIn K C (.type "object") = some true)
    (hn : PySem.W.findIn K (.ref C) "__gt__" = some (some (.builtin "object.__gt__"))) (he : PySem.W.findIn K (.ref C) "__lt__" = some (some (.ref f))) (hf : PySem.W.isFn K (.ref f) = true)
    (h : wpAny (model prog w) A (call (.ref f) [.ref y, .ref x]) (fun v s' => ∃ b, v = .bool b ∧ Q (.bool b) s') E s) : wpAny (model prog w) A (richCompare .Gt (.ref x) (.ref y)) Q E s := by
  have one : wpAny (model prog w) A (tryCompare (.ref x) "__gt__" (.ref y)) (fun r s' => r = none ∧ s' = s) E s := by
    unfold tryCompare
    exact wpAny_bind (ifBound_slot X I hn (fun _ => F.slot_object_gt.bind _) (call_gt X I hm (wpAny_pure ⟨rfl, rfl⟩)))
  have two : wpAny (model prog w) A (tryCompare (.ref y) "__lt__" (.ref x)) (fun r s' => ∃ b, r = some (.bool b) ∧ Q (.bool b) s') E s := by
    unfold tryCompare
    refine wpAny_bind (PySem.W.ifBound_K X I' he hf (wpAny_mono h (fun v s' z => ?_) fun _ _ e => e))
    obtain ⟨b, rfl, q⟩ := z
    exact wpAny_pure ⟨_, rfl, q⟩
  simp only [richCompare, cmpInfo, oneThing_ref]
  refine wpAny_holding (wpAny_bind (wpAny_cRoomFor (by omega) ?_))
  refine wpAny_bind (I.type.here (wpAny_bind (I'.type.here ?_)))
  split
  · rename_i q
    exact absurd q (by simp)
  · refine wpAny_bind (wpAny_pure ?_)
    simp only [Bool.false_eq_true, if_false, Bool.not_false, if_true]
    refine wpAny_bind (wpAny_mono one (fun r s' z => ?_) fun _ _ e => e)
    obtain ⟨z1, z2⟩ := z
    subst z1
    subst z2
    refine wpAny_bind (wpAny_mono two (fun r s' z => ?_) fun _ _ e => e)
    obtain ⟨b, rfl, hq⟩ := z
    exact wpAny_pure hq
end
end K14N
namespace K14
open PySem PySem.Spec PyProof.Rows L2
section
variable {X : Cx} {CX : CXT} {k : Nat} {f C : Addr} {sp : Sp} {E : XK}
/-- a != b by the class's own __eq__ -/
def rOwnNe (C : Addr) (sp : Sp) (E : XK) : R2 := fun x y H Q => ∃ a b dx dy fs gs, x = .ref a ∧ y = .ref b ∧ H a = some (.ins C dx fs) ∧ H b = some (.ins C dy gs) ∧
  sp [.ref a, .ref b] H (fun v H' => ∃ c, v = .bl c ∧ Q (.bl (!c)) H') E
theorem rc_neO {A : Around} {pins : List (Addr × Obj)} {σ : L2.St} {H : Hp} {s : Shared} {Q : VK} {a b dx dy : Addr} {fs gs : List (Str × V)} (hA : A.frames = X.A.frames) (F : FnR X.prog X.w X.K X.mg X.base CX k f sp) (hr : Room (k + 1) A)
    (hm : PySem.W.mroIn X.K C (.type "object") = some true) (hn : PySem.W.findIn X.K (.ref C) "__ne__" = some (some (.builtin "object.__ne__"))) (he : PySem.W.findIn X.K (.ref C) "__eq__" = some (some (.ref f))) (hf : PySem.W.isFn X.K (.ref f) = true)
    (hx : Passes CX X E) (I : Inv X pins σ H s) (ha : H a = some (.ins C dx fs)) (hb : H b = some (.ins C dy gs))
    (q : sp [.ref a, .ref b] H (fun v H' => ∃ c, v = .bl c ∧ Q (.bl (!c)) H') E) : wpAny (model X.prog X.w) A (richCompare .NotEq (.ref a) (.ref b)) (EP X pins σ Q) X.xe s := by
  obtain ⟨od, J⟩ := inst_at I ha
  obtain ⟨od', J'⟩ := inst_at I hb
  refine K14N.rc_ne (by have := hr.un; omega) I.kIn J J' hm hn he hf (thn (run_fnA (A := A.in1) (vs := [.ref a, .ref b]) hA F hr.in1 hx I (.cons rfl (.cons rfl .nil)) q) fun v s' z => ?_)
  obtain ⟨w, H', I', rw', c, ew, q'⟩ := z
  subst ew
  cases rw'
  exact ⟨c, rfl, .bl (!c), H', I', rfl, q'⟩
theorem op_neO (F : FnR X.prog X.w X.K X.mg X.base CX k f sp) (hr : Room (k + 1) X.A) (hm : PySem.W.mroIn X.K C (.type "object") = some true)
    (hn : PySem.W.findIn X.K (.ref C) "__ne__" = some (some (.builtin "object.__ne__"))) (he : PySem.W.findIn X.K (.ref C) "__eq__" = some (some (.ref f))) (hf : PySem.W.isFn X.K (.ref f) = true) (hx : Passes CX X E) : OpR X (compareOp .NotEq) (rOwnNe C sp E) := by
  intro pins s σ H x y v u Q I rx ry h
  obtain ⟨a, b, dx, dy, fs, gs, rfl, rfl, ha, hb, q⟩ := h
  cases rx
  cases ry
  exact rc_neO rfl F hr hm hn he hf hx I ha hb q
/-- a > b by the class's own __lt__, turned round -/
def rOwnGt (C : Addr) (sp : Sp) (E : XK) : R2 := fun x y H Q => ∃ a b dx dy fs gs, x = .ref a ∧ y = .ref b ∧ H a = some (.ins C dx fs) ∧ H b = some (.ins C dy gs) ∧
  sp [.ref b, .ref a] H (fun v H' => ∃ c, v = .bl c ∧ Q (.bl c) H') E
theorem op_gtO (F : FnR X.prog X.w X.K X.mg X.base CX k f sp) (hr : Room (k + 1) X.A) (hm : PySem.W.mroIn X.K C (.type "object") = some true)
    (hn : PySem.W.findIn X.K (.ref C) "__gt__" = some (some (.builtin "object.__gt__"))) (he : PySem.W.findIn X.K (.ref C) "__lt__" = some (some (.ref f))) (hf : PySem.W.isFn X.K (.ref f) = true) (hx : Passes CX X E) : OpR X (compareOp .Gt) (rOwnGt C sp E) := by
  intro pins s σ H x y v u Q I rx ry h
  obtain ⟨a, b, dx, dy, fs, gs, rfl, rfl, ha, hb, q⟩ := h
  cases rx
  cases ry
  obtain ⟨od, J⟩ := inst_at I ha
  obtain ⟨od', J'⟩ := inst_at I hb
  refine K14N.rc_gt (by have := hr.un; omega) I.kIn J J' hm hn he hf (thn (run_fnA (A := X.A) (vs := [.ref b, .ref a]) rfl F (hr.mono (by omega)) hx I (.cons rfl (.cons rfl .nil)) q) fun v s' z => ?_)
  obtain ⟨w, H', I', rw', c, ew, q'⟩ := z
  subst ew
  cases rw'
  exact ⟨c, rfl, .bl c, H', I', rfl, q'⟩

/-! ### lists of ints in order -/
theorem holds_ints {pins : List (Addr × Obj)} {σ : L2.St} {H : Hp} {s : Shared} {a : Addr} {ns : List Int} (I : Inv X pins σ H s) (h : SqL X.K H a (ns.map V.int)) : ∃ its : List Value, IntsAre its ns ∧ PlainL s.heap a its.toArray := by
  obtain ⟨its, r, pl, _⟩ := I.list h
  exact ⟨its, Vals.ints r, pl⟩
end
end K14

namespace K14
open PySem PySem.Spec PyProof.Rows L2
section
variable {X : Cx}
theorem dp_ints {K : PySem.W.Frag} {H : Hp} : ∀ ns : List Int, DpAll K H (ns.map V.int) (ns.map PySem.W.Datum.toD)
  | [] => .nil
  | n :: r => .cons (.int n) (dp_ints r)
theorem dp_bls {K : PySem.W.Frag} {H : Hp} : ∀ ns : List Bool, DpAll K H (ns.map V.bl) (ns.map PySem.W.Datum.toD)
  | [] => .nil
  | n :: r => .cons (.bl n) (dp_bls r)
theorem holdsI {pins : List (Addr × Obj)} {σ : L2.St} {H : Hp} {s : Shared} {a : Addr} {ns : List Int} (I : Inv X pins σ H s) (h : SqL X.K H a (ns.map V.int)) : PySem.W.Holds s.heap (.ref a) ns :=
  Dp.reads I (.list (ns.map PySem.W.Datum.toD)) (.ref a) (.ref a) (.lst h (dp_ints ns)) rfl
theorem holdsB {pins : List (Addr × Obj)} {σ : L2.St} {H : Hp} {s : Shared} {a : Addr} {ns : List Bool} (I : Inv X pins σ H s) (h : SqL X.K H a (ns.map V.bl)) : PySem.W.Holds s.heap (.ref a) ns :=
  Dp.reads I (.list (ns.map PySem.W.Datum.toD)) (.ref a) (.ref a) (.lst h (dp_bls ns)) rfl
/-- two lists of ints are compared -/
def rLL (K : PySem.W.Frag) (g : List Int → List Int → Bool) : R2 := fun x y H Q => ∃ (a b : Addr) (ns ms : List Int), x = .ref a ∧ y = .ref b ∧ SqL K H a (ns.map V.int) ∧ SqL K H b (ms.map V.int) ∧ Q (.bl (g ns ms)) H
def rBB (K : PySem.W.Frag) (g : List Bool → List Bool → Bool) : R2 := fun x y H Q => ∃ (a b : Addr) (ns ms : List Bool), x = .ref a ∧ y = .ref b ∧ SqL K H a (ns.map V.bl) ∧ SqL K H b (ms.map V.bl) ∧ Q (.bl (g ns ms)) H
theorem op_eqL (hu : X.A.units + 64 < cLine) : OpR X (compareOp .Eq) (rLL X.K fun a b => decide (a = b)) := by
  intro pins s σ H x y v u Q I rx ry h
  obtain ⟨a, b, ns, ms, rfl, rfl, ha, hb, q⟩ := h
  cases rx
  cases ry
  exact PySem.W.eq_datum (holdsI I ha) (holdsI I hb) (Nat.lt_of_le_of_lt (Nat.add_le_add_left (by decide) _) hu) ⟨.bl _, H, I, rfl, q⟩
theorem op_neL (hu : X.A.units + 64 < cLine) : OpR X (compareOp .NotEq) (rLL X.K fun a b => decide (a ≠ b)) := by
  intro pins s σ H x y v u Q I rx ry h
  obtain ⟨a, b, ns, ms, rfl, rfl, ha, hb, q⟩ := h
  cases rx
  cases ry
  exact PySem.W.ne_datum (holdsI I ha) (holdsI I hb) (Nat.lt_of_le_of_lt (Nat.add_le_add_left (by decide) _) hu) ⟨.bl _, H, I, rfl, q⟩
theorem op_ltL (hu : X.A.units + 64 < cLine) : OpR X (compareOp .Lt) (rLL X.K fun a b => PySem.W.listLt a b) := by
  intro pins s σ H x y v u Q I rx ry h
  obtain ⟨a, b, ns, ms, rfl, rfl, ha, hb, q⟩ := h
  cases rx
  cases ry
  exact PySem.W.lt_datum (holdsI I ha) (holdsI I hb) (Nat.lt_of_le_of_lt (Nat.add_le_add_left (by decide) _) hu) ⟨.bl _, H, I, rfl, q⟩
theorem op_gtL (hu : X.A.units + 64 < cLine) : OpR X (compareOp .Gt) (rLL X.K fun a b => PySem.W.listLt b a) := by
  intro pins s σ H x y v u Q I rx ry h
  obtain ⟨a, b, ns, ms, rfl, rfl, ha, hb, q⟩ := h
  cases rx
  cases ry
  exact PySem.W.gt_datum (holdsI I ha) (holdsI I hb) (Nat.lt_of_le_of_lt (Nat.add_le_add_left (by decide) _) hu) ⟨.bl _, H, I, rfl, q⟩
theorem op_eqLB (hu : X.A.units + 64 < cLine) : OpR X (compareOp .Eq) (rBB X.K fun a b => decide (a = b)) := by
  intro pins s σ H x y v u Q I rx ry h
  obtain ⟨a, b, ns, ms, rfl, rfl, ha, hb, q⟩ := h
  cases rx
  cases ry
  exact PySem.W.eq_datum (holdsB I ha) (holdsB I hb) (Nat.lt_of_le_of_lt (Nat.add_le_add_left (by decide) _) hu) ⟨.bl _, H, I, rfl, q⟩
end

/-! ### d.get(k, x) of a written dict with int keys -/
structure KInts (K : PySem.W.Frag) (d : Addr) (kvs : List (Int × V)) : Prop where
  ex : ∃ (vs : List (Int × Value)) (es : Array DictEntry) (n : Nat), K.lookup d = some ⟨.type "dict", none, .dict es n, #[]⟩ ∧ Paired (fun (e : DictEntry) (p : Int × Value) => e.hash = hashInt p.1 ∧ (∃ t, e.key = .int p.1 t) ∧ e.val = p.2) es.toList vs ∧
    Paired (fun (p : Int × V) (q : Int × Value) => p.1 = q.1 ∧ RelV p.2 q.2) kvs vs ∧ (vs.map (·.1)).Nodup
  ne : (d == sysModules) = false
theorem kints_of {P : Program} {w : World} {K : PySem.W.Frag} {h : Heap} {d : Addr} {kvs : List (Int × V)} (D : KInts K d kvs) (X : K.In h) : ∃ vs, Paired (fun (p : Int × V) (q : Int × Value) => p.1 = q.1 ∧ RelV p.2 q.2) kvs vs ∧ h.DictOf (intKind P w) d vs := by
  obtain ⟨vs, es, n, hl, hp, hr, nd⟩ := D.ex
  refine ⟨vs, hr, _, es, n, X _ _ hl, ⟨rfl, rfl, rfl⟩, rfl, ?_, ?_, nd⟩
  · have all : ∀ {l : List DictEntry} {m : List (Int × Value)}, Paired (fun (e : DictEntry) (p : Int × Value) => e.hash = hashInt p.1 ∧ (∃ t, e.key = .int p.1 t) ∧ e.val = p.2) l m → ∀ e ∈ l, ∃ k, (intKind P w).is k e.key = true ∧ e.hash = (intKind P w).hash k := by
      intro l m q
      induction q with
      | nil => intro x hx; exact nomatch hx
      | @cons p q ps qs hq t ih =>
        intro x hx
        rcases List.mem_cons.mp hx with e | hx
        · subst e
          obtain ⟨h1, ⟨t, h2⟩, _⟩ := hq
          exact ⟨q.1, by rw [h2]; exact intKind_is P w _ _, h1⟩
        · exact ih x hx
    exact fun e he => all hp e (by simpa using he)
  · have all : ∀ {l : List DictEntry} {m : List (Int × Value)}, Paired (fun (e : DictEntry) (p : Int × Value) => e.hash = hashInt p.1 ∧ (∃ t, e.key = .int p.1 t) ∧ e.val = p.2) l m → Pairs (intKind P w) l m := by
      intro l m q
      induction q with
      | nil => exact .nil
      | @cons p q ps qs hq t ih =>
        obtain ⟨h1, ⟨t, h2⟩, h3⟩ := hq
        exact .cons (by rw [h2]; exact intKind_is P w _ _) h3 ih
    exact all hp
/-- what is found at i, or z -/
def getI (kvs : List (Int × V)) (i : Int) (z : V) : V := ((kvs.find? fun p => decide (p.1 = i)).map (·.2)).getD z
theorem getI_rel {i : Int} {z : V} {r : Value} (rz : RelV z r) : ∀ {kvs : List (Int × V)} {vs : List (Int × Value)}, Paired (fun (p : Int × V) (q : Int × Value) => p.1 = q.1 ∧ RelV p.2 q.2) kvs vs → RelV (getI kvs i z) ((valueAt vs i).getD r)
  | _, _, .nil => rz
  | _, _, .cons (a := p) (b := q) h t => by
    have ih := getI_rel (i := i) rz t
    unfold getI valueAt at ih ⊢
    rw [List.find?_cons, List.find?_cons]
    obtain ⟨h1, h2⟩ := h
    rw [h1]
    by_cases e : q.1 = i
    · simp only [e, decide_true]
      exact h2
    · simp only [e, decide_false]
      exact ih
def tKDGet (d : Addr) (kvs : List (Int × V)) (td ty tx : TE) : TE := fun σ H Q => td σ H fun x H1 => x = .ref d ∧ ty σ H1 fun y H2 => tx σ H2 fun z H3 => ∃ i, y = .int i ∧ Q (getI kvs i z) H3
theorem pe_kdget {X : Cx} {o e f : Expr} {apos cpos : Pos} {td ty tx : TE} {d : Addr} {kvs : List (Int × V)} (D : KInts X.K d kvs) (ho : PE X o td) (he : PE X e ty) (hf : PE X f tx) (m : M2 X o "get" apos e f cpos) :
    PE X (.Call (.Attribute o "get" apos) [e, f] [] cpos) (tKDGet d kvs td ty tx) := by
  refine ⟨fun pins s σ H Q I h => ?_⟩
  refine wpAny_Call_method m.base m.few m.line PySem.F.plainAttrs_dict PySem.F.slot_dict_get PySem.F.type_dict_get (thn (ho.run pins s σ H _ I h) fun u s1 ⟨x, H1, I1, rx, ex, q1⟩ => ?_)
  subst ex
  obtain rfl : u = Value.ref d := rx
  obtain ⟨vs, hr, dd⟩ := kints_of (P := X.prog) (w := X.w) D I1.kIn
  have hnd : ∀ b, Value.ref d = .ref b → ∃ ob, s1.heap.get? b = some ob ∧ ob.dict = none := fun b q => by
    cases q
    obtain ⟨ob, _, _, h1, h2, _⟩ := id dd
    exact ⟨ob, h1, h2.2.1⟩
  refine ⟨dd.typeIs, hnd, ?_⟩
  rw [m.trees]
  refine Calls.callWith_builtin rfl (Calls.evalArgs_plain (Calls.spliced_cons (thn (he.run pins s1 σ H1 _ I1 q1) fun iv s2 ⟨y, H2, I2, ry, q2⟩ =>
    Calls.spliced_cons (thn (hf.run pins s2 σ H2 _ I2 q2) fun fv s3 ⟨z, H3, I3, rz, i, ey, q3⟩ => Calls.spliced_nil ?_))))
  subst ey
  obtain ⟨t, rfl⟩ := ry
  obtain ⟨vs3, hr3, dd3⟩ := kints_of (P := X.prog) (w := X.w) D I3.kIn
  refine call_meetsIn PySem.F.slot_dict_get dd3.typeIs PySem.F.entry_dict_get (PySem.F.args_dict_get_3 _ _ _) (meets_dict_get_default (intKind X.prog X.w) d (intKind_is X.prog X.w i t) D.ne fv) ⟨_, dd3.mapOf, ⟨_, H3, I3.tok _, getI_rel rz hr3, q3⟩⟩

/-! ### B.__init__(self, ..) where B is an own class over ValueError without an __init__ -/
structure PeB (K : PySem.W.Frag) (mg : Str → Option Value) (x : Str) (B : Addr) : Prop where
  mg : mg x = some (.ref B)
  ga : PySem.W.specialIn K (.ref B) "__getattribute__" = some (some (.builtin "type.__getattribute__"))
  rd : PySem.W.readsIn K B (.type "type") = true
  cv : PySem.W.findCls K (.ref B) (.type "type") "__init__" = some (.val (.builtin "ValueError.__init__"))
theorem pe_binit {X : Cx} {x : Str} {B : Addr} {e : Expr} {es : List Expr} {ta : TA} {p1 p2 pos : Pos} {pl : Sem Bool} (T : PeB X.K X.mg x B) (hg : Gl X x) (ha : PA X (e :: es) ta) (hdb : (x == ("__debug__" : Str)) = false := by decide)
    (hc : eval (.Call (.Attribute (.Name x p1) "__init__" p2) (e :: es) [] pos) X.env = (do
      let ov ← eval (.Name x p1) X.env
      standAt p2.atName
      let (f, first) ← holding [ov] (getMethod ov "__init__" pl)
      callWith pos f first (backTo pos (starEach (e :: es) X.env)) (backToKw pos (keywordEach [] X.env))) := by rfl)
    (he : starEach (e :: es) X.env = (false, eval e X.env) :: starEach es X.env := by rfl) (hpl : (backTo pos (starEach es X.env)).any (·.1) = false := by rfl) :
    PE X (.Call (.Attribute (.Name x p1) "__init__" p2) (e :: es) [] pos) (tVeI X.K ta) := by
  refine ⟨fun pins s σ H Q I h => ?_⟩
  refine PySem.W.methodCall_KW (ld_glob I hg T.mg ?_ hdb) hc
  refine PySem.W.method_cls I.kIn T.ga (PySem.W.cls_value I.kIn T.rd T.cv (by decide +kernel) ?_)
  show wpAny _ _ (callWith pos (Value.builtin "ValueError.__init__") [] (backTo pos (starEach (e :: es) X.env)) []) _ _ _
  refine PyProof.Rows.callWith_method1 (thn (ha.run pos pins _ σ H _ (I.tok _) h) fun us s1 ⟨vs, H1, I1, r1, a, C, ws, ev, hl, T, ea, q⟩ => ?_) he hpl
  subst ev
  cases r1 with
  | @cons _ u0 _ ur ra rw' =>
    obtain rfl : u0 = Value.ref a := ra
    have hlen : ur.length ≤ sizeLine := by
      rw [← Paired.length rw', sizeLine_eq]
      omega
    exact oinit_ok T I1 ea hlen fun s' J => ⟨.non, H1, J, rfl, q⟩
end K14

namespace K14Q
open PySem PySem.SeqAt
open AutoSeq1 (wpAny_loadPart')
open MeetsSeq MeetsSeq2 MeetsSeq3 SeqRoads2
open GQ
section
variable {prog : Program} {w : World} {A : Around} {R : Result → Shared → Prop}
theorem tuple_neG (l b : Addr) (items items2 : Array Value) (n n2 : Nat) (dd dd2 : Option Addr) (sl sl2 : Array (Option Value)) (hsz : items.size = items2.size) (I : Nat → Shared → Prop)
    (turn : ∀ i (h1 : i < items.size) (h2 : i < items2.size) s, I i s → wpAny (model prog w) A.in1 (eqBool items[i] items2[i]) (fun r s' => r = true ∧ I (i + 1) s') (fun e s' => R (.error e) s') s)
    (fin : ∀ s, I items.size s → R (.ok (.ret (.bool false))) s) {s : Shared} (hl1 : s.heap.get? l = some { cls := .type "tuple", dict := dd, data := .seq items n, slots := sl }) (hb1 : s.heap.get? b = some { cls := .type "tuple", dict := dd2, data := .seq items2 n2, slots := sl2 }) (h : I 0 s) :
    wpAny (model prog w) A.in1 (Builtin.«tuple.__ne__» ⟨[.ref l, .ref b], []⟩) (FinOf prog w A R) (fun e s' => R (.error e) s') s := by
  have f2 := AutoSeq1.sub_tuple_tuple
  have hZ : (items.toList.zip items2.toList).length = items.size := by simp [hsz]
  have h0 := h
  obtain ⟨hp, g, d, tk, os⟩ := s
  wp_walk using wpAny_loadPart' hl1, wpAny_loadPart' hb1, wpAny_forIn_list _ (fun rest b s' => b.1 = none ∧ ∃ i, rest = (items.toList.zip items2.toList).drop i ∧ i ≤ items.size ∧ I i s') _
  case turn =>
    rintro ⟨y, x⟩ rest b s' ⟨hb', i, hz, hi, hI⟩
    have hlt : i < (items.toList.zip items2.toList).length := by
      rcases Nat.lt_or_ge i (items.toList.zip items2.toList).length with h' | h'
      · exact h'
      · rw [List.drop_of_length_le h'] at hz; cases hz
    have h1 : i < items.size := hZ ▸ hlt
    have h2 : i < items2.size := hsz ▸ h1
    rw [List.drop_eq_getElem_cons hlt] at hz
    injection hz with hyx hrest
    have hy : y = items[i] := by have := congrArg Prod.fst hyx; simpa using this
    have hx : x = items2[i] := by have := congrArg Prod.snd hyx; simpa using this
    subst hy hx
    refine wpAny_bind (wpAny_mono (turn i h1 h2 s' hI) (fun r s2 q2 => ?_) fun _ _ x => x)
    obtain ⟨hr, q2⟩ := q2
    subst hr
    wp_walk
    exact ⟨rfl, i + 1, hrest, h1, q2⟩
  case fin =>
    rintro ⟨b1, b2⟩ s' ⟨hb', i, hz, hi, hI⟩
    simp only at hb'
    subst hb'
    have hge : items.size ≤ i := by
      rcases Nat.lt_or_ge i (items.toList.zip items2.toList).length with h' | h'
      · rw [List.drop_eq_getElem_cons h'] at hz; cases hz
      · exact hZ ▸ h'
    have hi' : i = items.size := by omega
    have hR : R (.ok (.ret (.bool false))) s' := fin s' (hi' ▸ hI)
    wp_walk
    simpa [Builtin.Tuple.tupleCompareSizes, hsz] using hR
  case h =>
    exact ⟨rfl, 0, rfl, Nat.zero_le _, h0⟩
end
section
variable {prog : Program} {w : World} {A : Around} {E : Value → Shared → Prop} {s : Shared}
theorem rc_tupNe {l b : Addr} {items items2 : Array Value} {Q : Value → Shared → Prop} (hsz : items.size = items2.size) (hu : A.units < cLine) (I : Nat → Shared → Prop)
    (hl : s.heap.IsTuple l items) (hb : s.heap.IsTuple b items2)
    (turn : ∀ i (h1 : i < items.size) (h2 : i < items2.size) s, I i s → wpAny (model prog w) A.in1 (eqBool items[i] items2[i]) (fun r s' => r = true ∧ I (i + 1) s') E s)
    (fin : ∀ s, I items.size s → Q (.bool false) s) (h : I 0 s) : wpAny (model prog w) A (richCompare .NotEq (.ref l) (.ref b)) Q E s := by
  obtain ⟨⟨cls, dd, data, sl⟩, ho, hc, n, hd⟩ := id hl
  obtain ⟨⟨cls2, dd2, data2, sl2⟩, ho2, hc2, n2, hd2⟩ := id hb
  simp only at hc hd hc2 hd2
  subst hc hd hc2 hd2
  refine wpAny_richCompare_same_room (op := .NotEq) ⟨_, ho, rfl⟩ ⟨_, ho2, rfl⟩ F.slot_tuple_ne (call_here F.slot_tuple_ne ⟨_, ho, rfl⟩ F.entry_tuple_ne (F.args_tuple_ne_2 _ _) ?_) hu
  exact tuple_neG (R := wants (fun v s' => v ≠ .notImplemented ∧ Q v s') E) l b items items2 n n2 dd dd2 sl sl2 hsz I turn (fun s' q => ⟨(fun x => nomatch x), fin s' q⟩) ho ho2 h
end
end K14Q
namespace K14
open PySem PySem.Spec PyProof.Rows L2
section
variable {X : Cx} {n : Nat} {D : Eqv}
/-- two tuples whose items are pairwise equal: != gives False -/
def rNeTup (K : PySem.W.Frag) (D : Eqv) : R2 := fun x y H Q => DTup K D x y H ∧ ∀ H', Same H H' → Q (.bl false) H'
theorem op_neTup (hD : Mon D) (h : EqG X n D) (hr : Room (n + 1) X.A) : OpR X (compareOp .NotEq) (rNeTup X.K D) := by
  intro pins s σ H x y v u Q I rx ry hq
  obtain ⟨⟨a, b, xs, ys, rfl, rfl, ha, hb, p⟩, q⟩ := hq
  cases rx
  cases ry
  obtain ⟨its, r, e, z⟩ := I.tuple ha
  obtain ⟨its2, r2, e2, z2⟩ := I.tuple hb
  have hsz : its.toArray.size = its2.toArray.size := by rw [List.size_toArray, List.size_toArray, ← r.length, ← r2.length]; exact p.1
  show wpAny (model X.prog X.w) X.A (richCompare .NotEq (.ref a) (.ref b)) (EP X pins σ Q) X.xe s
  refine K14Q.rc_tupNe hsz hr.units0 (fun _ s' => LoopI X pins σ H s') e e2 (fun i h1 h2 s' q => turnG hD h ⟨hr, rfl⟩ p r r2 i h1 h2 s' q) (fun s' z => ?_) ⟨H, I, Ext.rfl'⟩
  obtain ⟨H', I', e'⟩ := z
  exact ⟨.bl false, H', I', rfl, q H' e'⟩
/-- instances of C, equal by the class's own __eq__ -/
theorem eqG_own {CX : CXT} {C f : Addr} {k : Nat} {sp : Sp} {E : XK} {R : Addr → Addr → Hp → Prop} (F : FnR X.prog X.w X.K X.mg X.base CX n f sp) (hs : PySem.W.findIn X.K (.ref C) "__eq__" = some (some (.ref f))) (hf : PySem.W.isFn X.K (.ref f) = true)
    (hx : Passes CX X E) (hR : ∀ a b H, R a b H → (∃ dx dy fs gs, H a = some (.ins C dx fs) ∧ H b = some (.ins C dy gs)) ∧ sp [.ref a, .ref b] H (fun v H' => v = .bl true ∧ Same H H') E) :
    EqG X n (fun x y H => ∃ a b, x = .ref a ∧ y = .ref b ∧ R a b H) := by
  intro A pins s σ H x y u v sb I rx ry d
  obtain ⟨a, b, rfl, rfl, r⟩ := d
  cases rx
  cases ry
  by_cases hab : a = b
  · subst hab
    exact SeqAt.EqAt.same (A := A) (s := s) (.ref a) X.prog X.w X.xe _ ⟨rfl, H, I, Ext.rfl'⟩
  · obtain ⟨⟨dx, dy, fs, gs, ha, hb⟩, q⟩ := hR a b H r
    refine GQ.eqBool_refG hab (wpAny_mono (rc_own (op := .Eq) (Q := fun v H' => v = .bl true ∧ Same H H') sb.fr F sb.room hs hf hx I ha hb ?_) (fun r s' z => ?_) fun _ _ x => x)
    · have m : ∀ v H', (v = V.bl true ∧ Same H H') → ∃ c, v = V.bl c ∧ V.bl c = V.bl true ∧ Same H H' := fun v H' z => ⟨true, z.1, rfl, z.2⟩
      have eq : (fun (v : V) H' => ∃ c, v = V.bl c ∧ V.bl c = V.bl true ∧ Same H H') = (fun (v : V) H' => v = V.bl true ∧ Same H H') := by
        funext v H'
        exact propext ⟨fun ⟨c, e, e2, h⟩ => ⟨e.trans e2, h⟩, m v H'⟩
      rw [eq]
      exact q
    · obtain ⟨w, H', I', rw', ew, e⟩ := z
      subst ew
      cases rw'
      exact ⟨true, rfl, rfl, H', I', e⟩
end
end K14

namespace K14
open PySem PySem.Spec PyProof.Rows L2
/-- a def of the module, by its promise -/
structure GD (P : Program) (w : World) (K : PySem.W.Frag) (mg : Str → Option Value) (base : Heap) (CX : CXT) (k : Nat) (x : Str) (f : Addr) (sp : Sp) : Prop where
  ok : FnR P w K mg base CX k f sp
  mgx : mg x = some (.ref f)
  kp : PySem.W.keepIn K (.ref f) = true
/-- a method of the class at C, by its promise -/
structure GM (P : Program) (w : World) (K : PySem.W.Frag) (mg : Str → Option Value) (base : Heap) (CX : CXT) (k : Nat) (C : Addr) (m : Str) (f : Addr) (sp : Sp) : Prop where
  ok : FnR P w K mg base CX k f sp
  me : Meth K C m f
def tCallR (sp : Sp) (E : XK) (t : TA) : TE := fun σ H Q => t σ H fun vs H1 => sp vs H1 Q E
section
variable {X : Cx} {CX : CXT} {k n : Nat} {f C : Addr} {sp : Sp} {E : XK} {x m : Str} {p pos apos : Pos} {e o : Expr} {es : List Expr} {ta : TE} {t : TA}
theorem pe_callD (G : GD X.prog X.w X.K X.mg X.base CX k x f sp) (hr : Room n X.A) (hx : Passes CX X E) (ha : PA X (e :: es) t) (hn : k ≤ n := by decide) (hg : Gl X x := by rfl)
    (hd : (x == ("__debug__" : Str)) = false := by decide) (he : starEach (e :: es) X.env = (false, eval e X.env) :: starEach es X.env := by rfl) (hpl : (backTo pos (starEach es X.env)).any (·.1) = false := by rfl) :
    PE X (.Call (.Name x p) (e :: es) [] pos) (tCallR sp E t) := by
  refine ⟨fun pins s σ H Q I h => ?_⟩
  refine wpAny_Call_Name_kw (ld_glob I hg G.mgx ?_ hd)
  refine PySem.W.callWith_K (h₀ := X.base) I.ok.mod.kin G.kp (thn (ha.run pos pins s σ H _ I h) fun us s1 ⟨vs, H1, I1, r, q⟩ => ⟨I1.kIn, ?_⟩) he hpl
  exact wpAny_call (run_fnR G.ok (hr.mono hn) hx I1 r q)
theorem pe_methD {pl : Sem Bool} (he : PE X o ta) (c : Cls X.K C) (G : GM X.prog X.w X.K X.mg X.base CX k C m f sp) (hr : Room n X.A) (hx : Passes CX X E) (ha : PA X (e :: es) t) (hn : k ≤ n := by decide)
    (hst : starEach (e :: es) X.env = (false, eval e X.env) :: starEach es X.env := by rfl) (hpl : (backTo pos (starEach es X.env)).any (·.1) = false := by rfl)
    (ht : eval (.Call (.Attribute o m apos) (e :: es) [] pos) X.env = (do
      let ov ← eval o X.env
      standAt apos.atName
      let (f, first) ← holding [ov] (getMethod ov m pl)
      callWith pos f first (backTo pos (starEach (e :: es) X.env)) (backToKw pos (keywordEach [] X.env))) := by rfl) :
    PE X (.Call (.Attribute o m apos) (e :: es) [] pos) (tMethR C m sp E ta t) := pe_methR he c G.me G.ok (hr.mono hn) hx ha hst hpl ht
theorem pe_methD0 {pl : Sem Bool} (he : PE X o ta) (c : Cls X.K C) (G : GM X.prog X.w X.K X.mg X.base CX k C m f sp) (hr : Room n X.A) (hx : Passes CX X E) (hn : k ≤ n := by decide)
    (ht : eval (.Call (.Attribute o m apos) [] [] pos) X.env = (do
      let ov ← eval o X.env
      standAt apos.atName
      let (f, first) ← holding [ov] (getMethod ov m pl)
      callWith pos f first (backTo pos (starEach [] X.env)) (backToKw pos (keywordEach [] X.env))) := by rfl) :
    PE X (.Call (.Attribute o m apos) [] [] pos) (tMethR C m sp E ta tNil) := by
  refine ⟨fun pins s σ H Q I h => ?_⟩
  refine PySem.W.methodCall_KW (pl := pl) (thn (he.run pins s σ H _ I h) fun u s1 ⟨x, H1, I1, rx, a, dx, fs, ex, ea, l, q⟩ => ?_) ht
  subst ex
  obtain rfl : u = Value.ref a := rx
  refine getmeth_ok I1 ea c G.me l ?_
  exact PySem.W.callWith_K0 (first := [.ref a]) I1.kIn G.me.kp (wpAny_call (run_fnR (us := [.ref a]) (vs := [.ref a]) G.ok (hr.mono hn) hx I1 (.cons rfl .nil) q))
end
section
variable {P : Program} {w : World} {K : PySem.W.Frag} {mg : Str → Option Value} {base : Heap}
/-- THE RULE for a def, its promise by values -/
theorem okR {x qual : Str} {st : Stmt} {f : Addr} {N ps : List Str} {k : Nat} {sp : Sp} (F : ∃ fd, Fun K x qual st f fd) (S : FnScope N ps (defScope st)) (len : ∀ vs H Q E, sp vs H Q E → vs.length = ps.length)
    (hb : ∀ (kV doc pm : Value) (an : Option Addr) (cdv ct : Value) (us : List Value), us.length = ps.length → bindArgs (PySem.W.fnOf x qual (defArgs st) (defBody st) (defScope st) .none kV doc pm an cdv ct) ⟨us, []⟩ = pure (ps.zip us))
    (hbody : ∀ (cdv : Value) (A : Around) (outer : List Env) (s : Shared) (H : Hp) (vs : List V) (Q : VK) (E : XK), Room k (A.deeper (envOfC qual (defScope st) s.heap.objs.size f cdv)) → sp vs H Q E →
      ∃ t, PSs (cxOf CX0 P w K mg base N qual (defScope st) f cdv A outer s H E).nox (defBody st) t ∧ t { nx := fun _ H' => Q .non H', rt := Q } (start N vs) H) : FnR P w K mg base CX0 (k + 1) f sp := by
  obtain ⟨fd, F⟩ := F
  have G : FnOk P w K mg base CX0 (k + 1) f fd ps sp := F.ok S len hbody
  exact (FnOk.raw G (F.binds hb) .nil).imp fun vs H Q E h => by rw [List.append_nil]; exact h
/-- .. for a def that may raise -/
theorem okRX {x qual : Str} {st : Stmt} {f : Addr} {N ps : List Str} {k : Nat} {sp : Sp} (F : ∃ fd, Fun K x qual st f fd) (S : FnScope N ps (defScope st)) (len : ∀ vs H Q E, sp vs H Q E → vs.length = ps.length)
    (hb : ∀ (kV doc pm : Value) (an : Option Addr) (cdv ct : Value) (us : List Value), us.length = ps.length → bindArgs (PySem.W.fnOf x qual (defArgs st) (defBody st) (defScope st) .none kV doc pm an cdv ct) ⟨us, []⟩ = pure (ps.zip us))
    (hbody : ∀ (cdv : Value) (A : Around) (outer : List Env) (s : Shared) (H : Hp) (vs : List V) (Q : VK) (E : XK), Room k (A.deeper (envOfC qual (defScope st) s.heap.objs.size f cdv)) → sp vs H Q E →
      ∃ t, PSs (cxOf (L2.CX P w) P w K mg base N qual (defScope st) f cdv A outer s H E) (defBody st) t ∧ t { nx := fun _ H' => Q .non H', rt := Q } (start N vs) H) : FnR P w K mg base (L2.CX P w) (k + 1) f sp := by
  obtain ⟨fd, F⟩ := F
  have G : FnOk P w K mg base (L2.CX P w) (k + 1) f fd ps sp := F.okX S len hbody
  exact (FnOk.raw G (F.binds hb) .nil).imp fun vs H Q E h => by rw [List.append_nil]; exact h
end
/-! ### heaps -/
/-- all but x is as it was -/
def SameX (x : Addr) (H H' : Hp) : Prop := ∀ b o, H b = some o → b ≠ x → H' b = some o
theorem SameX.refl (x : Addr) (H : Hp) : SameX x H H := fun _ _ h _ => h
theorem SameX.trans {x : Addr} {H H1 H2 : Hp} (a : SameX x H H1) (b : SameX x H1 H2) : SameX x H H2 := fun c o h n => b c o (a c o h n) n
theorem SameX.of {x : Addr} {H H' : Hp} (a : Same H H') : SameX x H H' := fun c o h _ => a c o h
theorem SameX.upd {x : Addr} {o : HO} {H : Hp} : SameX x H (upd H x o) := fun c u h n => by rw [upd_ne n]; exact h
theorem Same.new {H : Hp} {p : Addr} {o : HO} (h : H p = none) : Same H (upd H p o) := fun a u e => by rw [upd_ne (ne_of_none e h)]; exact e
/-- the heap without what stands at x -/
def wo (H : Hp) (x : Addr) : Hp := fun b => if b = x then none else H b
theorem wo_ne {H : Hp} {x b : Addr} (h : b ≠ x) : wo H x b = H b := if_neg h
theorem wo_same {H : Hp} {x : Addr} : wo H x x = none := if_pos rfl
theorem wo_to {H : Hp} {x : Addr} : Same (wo H x) H := fun b o e => by
  by_cases h : b = x
  · rw [h, wo_same] at e; cases e
  · rw [wo_ne h] at e; exact e
theorem SameX.wo {x : Addr} {H H' : Hp} (s : SameX x H H') : Same (wo H x) (K14.wo H' x) := fun b o e => by
  by_cases h : b = x
  · rw [h, wo_same] at e; cases e
  · rw [wo_ne h] at e ⊢; exact s b o e h
theorem Same.into {x : Addr} {H H' : Hp} (s : Same H H') (h : H x = none) : Same H (wo H' x) := fun b o e => by
  rw [wo_ne (ne_of_none e h)]; exact s b o e
/-- what is new of H' over H -/
def nw (H H' : Hp) : Hp := fun b => if (H b).isSome then none else H' b
theorem nw_to {H H' : Hp} : Same (nw H H') H' := fun b o e => by
  unfold nw at e
  split at e
  · cases e
  · exact e
theorem nw_of {H H' : Hp} {b : Addr} (h : H b = none) : nw H H' b = H' b := by
  unfold nw; rw [h]; rfl
theorem nw_wo {H H' : Hp} {x : Addr} {o : HO} (hx : H x = some o) : Same (nw H H') (wo H' x) := fun b u e => by
  have h : b ≠ x := fun z => by
    unfold nw at e
    rw [z, hx] at e
    cases e
  rw [wo_ne h]
  exact nw_to b u e
theorem nw_mono {H H1 H2 : Hp} (s : Same H1 H2) : Same (nw H H1) (nw H H2) := fun b o e => by
  unfold nw at e ⊢
  split at e
  · cases e
  · rename_i h
    rw [if_neg h]
    exact s b o e
theorem nw_back {H H1 H2 : Hp} (s : Same H H1) : Same (nw H1 H2) (nw H H2) := fun b o e => by
  unfold nw at e ⊢
  split at e
  · cases e
  · rename_i h
    have hn : (H b).isSome = false := by
      cases q : H b with
      | none => rfl
      | some u => rw [s b u q] at h; exact absurd rfl h
    rw [hn]
    exact e
end K14

namespace K14
open PySem PySem.Spec PyProof.Rows L2
/-! ### the text by places -/
def top (i : Nat) : Stmt := PySem.Challenge.pw_threecounts_k14_whole_lists_and_texts.main.body.getD i (.Pass ⟨0, 0, 0, 0⟩)
abbrev s_is_integer : Stmt := top 21
abbrev s_is_char : Stmt := top 22
abbrev s_is_list : Stmt := top 23
abbrev s_is_kind : Stmt := top 24
abbrev s_need_char : Stmt := top 35
abbrev s_need_kind : Stmt := top 36
abbrev s_need_chars : Stmt := top 37
abbrev s_wide : Stmt := top 38
abbrev s_bytes_in : Stmt := top 39
abbrev s_items_in : Stmt := top 40
abbrev s_counts_in : Stmt := top 41
abbrev s_chars_of : Stmt := top 43
abbrev s_need_more : Stmt := top 44
abbrev s_need_text : Stmt := top 45
abbrev s_joined : Stmt := top 46
abbrev s_all_items : Stmt := top 47
abbrev s_compare : Stmt := top 48
abbrev s_byte_list : Stmt := top 58
abbrev s_unit_list : Stmt := top 59
abbrev s_is_items : Stmt := top 60
abbrev s_need_items : Stmt := top 61
abbrev s_byte_size : Stmt := top 62
abbrev s_unit_size : Stmt := top 63
abbrev s_size_of : Stmt := top 64
abbrev s_goes_on : Stmt := top 65
abbrev s_char_of : Stmt := top 66
abbrev s_text_of : Stmt := top 68
abbrev s_text_of_bytes : Stmt := top 69
abbrev s_text_of_units : Stmt := top 70
abbrev s_beginning : Stmt := top 71
abbrev s_law_cell : Stmt := top 73
abbrev s_law_box : Stmt := top 74
abbrev s_law_take : Stmt := top 75
abbrev s_law_char : Stmt := top 76
abbrev s_law_chars : Stmt := top 77
abbrev s_law_sign : Stmt := top 78
abbrev s_law_pair_right : Stmt := top 79
abbrev s_law_cut_right : Stmt := top 80
abbrev s_law : Stmt := top 81
abbrev s_Text_init : Stmt := inClass (top 42) 0
abbrev s_Text_chars : Stmt := inClass (top 42) 1
abbrev s_Text_count : Stmt := inClass (top 42) 2
abbrev s_Text_part : Stmt := inClass (top 42) 6
abbrev s_Text_len : Stmt := inClass (top 42) 7
abbrev s_Text_add : Stmt := inClass (top 42) 11
abbrev s_Text_eq : Stmt := inClass (top 42) 13
abbrev s_Text_lt : Stmt := inClass (top 42) 14
abbrev s_Reader_init : Stmt := inClass (top 67) 0
abbrev s_Reader_read : Stmt := inClass (top 67) 1
abbrev s_Reader_feed : Stmt := inClass (top 67) 2
abbrev s_Reader_pending : Stmt := inClass (top 67) 3
abbrev s_Reader_text : Stmt := inClass (top 67) 5
abbrev s_Reader_close : Stmt := inClass (top 67) 6
abbrev s_Reader_len : Stmt := inClass (top 67) 7
abbrev s_Reader_missing : Stmt := inClass (top 67) 4
abbrev s_Bad_init : Stmt := inClass (top 9) 0
/-! ### the facts -/
structure DF (K : PySem.W.Frag) (mg : Str → Option Value) (x : Str) (st : Stmt) (f : Addr) : Prop where
  fn : ∃ fd, Fun K x x st f fd
  mgx : mg x = some (.ref f)
  kp : PySem.W.keepIn K (.ref f) = true
structure MF (K : PySem.W.Frag) (C : Addr) (m qual : Str) (st : Stmt) (f : Addr) : Prop where
  fn : ∃ fd, Fun K m qual st f fd
  me : Meth K C m f
/-- a constant of the module -/
def CG (mg : Str → Option Value) (x : Str) (v : V) : Prop := ∃ u, mg x = some u ∧ RelV v u
/-- a written tuple -/
def KT (K : PySem.W.Frag) (p : Addr) (xs : List V) : Prop := ∀ H, SqT K H p xs
structure AD where
  d_is_integer : Addr
  d_is_char : Addr
  d_is_list : Addr
  d_is_kind : Addr
  d_need_char : Addr
  d_need_kind : Addr
  d_need_chars : Addr
  d_wide : Addr
  d_bytes_in : Addr
  d_items_in : Addr
  d_counts_in : Addr
  d_chars_of : Addr
  d_need_more : Addr
  d_need_text : Addr
  d_joined : Addr
  d_all_items : Addr
  d_compare : Addr
  d_byte_list : Addr
  d_unit_list : Addr
  d_is_items : Addr
  d_need_items : Addr
  d_byte_size : Addr
  d_unit_size : Addr
  d_size_of : Addr
  d_goes_on : Addr
  d_char_of : Addr
  d_text_of : Addr
  d_text_of_bytes : Addr
  d_text_of_units : Addr
  d_beginning : Addr
  d_law_cell : Addr
  d_law_box : Addr
  d_law_take : Addr
  d_law_char : Addr
  d_law_chars : Addr
  d_law_sign : Addr
  d_law_pair_right : Addr
  d_law_cut_right : Addr
  d_law : Addr
  c_Text : Addr
  m_Text_init : Addr
  m_Text_chars : Addr
  m_Text_count : Addr
  m_Text_part : Addr
  m_Text_len : Addr
  m_Text_add : Addr
  m_Text_eq : Addr
  m_Text_lt : Addr
  c_Reader : Addr
  m_Reader_init : Addr
  m_Reader_read : Addr
  m_Reader_feed : Addr
  m_Reader_pending : Addr
  m_Reader_text : Addr
  m_Reader_close : Addr
  m_Reader_len : Addr
  p_missing : Addr
  m_Reader_missing : Addr
  c_Bad : Addr
  m_Bad_init : Addr
  c_Place : Addr
  t_KINDS : Addr
  t_OTHERS : Addr
  t_HIGHS : Addr
  t_LOWS : Addr
  t_LEADS_texts : Addr
  t_SECONDS : Addr
  t_LEADS : Addr
  t_sec0 : Addr
  t_sec1 : Addr
  t_sec2 : Addr
  t_sec3 : Addr
  t_lead0 : Addr
  t_lead1 : Addr
  t_lead2 : Addr
structure Txt (K : PySem.W.Frag) (mg : Str → Option Value) (a : AD) : Prop where
  d_is_integer : DF K mg "is_integer" s_is_integer a.d_is_integer
  d_is_char : DF K mg "is_char" s_is_char a.d_is_char
  d_is_list : DF K mg "is_list" s_is_list a.d_is_list
  d_is_kind : DF K mg "is_kind" s_is_kind a.d_is_kind
  d_need_char : DF K mg "need_char" s_need_char a.d_need_char
  d_need_kind : DF K mg "need_kind" s_need_kind a.d_need_kind
  d_need_chars : DF K mg "need_chars" s_need_chars a.d_need_chars
  d_wide : DF K mg "wide" s_wide a.d_wide
  d_bytes_in : DF K mg "bytes_in" s_bytes_in a.d_bytes_in
  d_items_in : DF K mg "items_in" s_items_in a.d_items_in
  d_counts_in : DF K mg "counts_in" s_counts_in a.d_counts_in
  d_chars_of : DF K mg "chars_of" s_chars_of a.d_chars_of
  d_need_more : DF K mg "need_more" s_need_more a.d_need_more
  d_need_text : DF K mg "need_text" s_need_text a.d_need_text
  d_joined : DF K mg "joined" s_joined a.d_joined
  d_all_items : DF K mg "all_items" s_all_items a.d_all_items
  d_compare : DF K mg "compare" s_compare a.d_compare
  d_byte_list : DF K mg "byte_list" s_byte_list a.d_byte_list
  d_unit_list : DF K mg "unit_list" s_unit_list a.d_unit_list
  d_is_items : DF K mg "is_items" s_is_items a.d_is_items
  d_need_items : DF K mg "need_items" s_need_items a.d_need_items
  d_byte_size : DF K mg "byte_size" s_byte_size a.d_byte_size
  d_unit_size : DF K mg "unit_size" s_unit_size a.d_unit_size
  d_size_of : DF K mg "size_of" s_size_of a.d_size_of
  d_goes_on : DF K mg "goes_on" s_goes_on a.d_goes_on
  d_char_of : DF K mg "char_of" s_char_of a.d_char_of
  d_text_of : DF K mg "text_of" s_text_of a.d_text_of
  d_text_of_bytes : DF K mg "text_of_bytes" s_text_of_bytes a.d_text_of_bytes
  d_text_of_units : DF K mg "text_of_units" s_text_of_units a.d_text_of_units
  d_beginning : DF K mg "beginning" s_beginning a.d_beginning
  d_law_cell : DF K mg "_law_cell" s_law_cell a.d_law_cell
  d_law_box : DF K mg "_law_box" s_law_box a.d_law_box
  d_law_take : DF K mg "_law_take" s_law_take a.d_law_take
  d_law_char : DF K mg "_law_char" s_law_char a.d_law_char
  d_law_chars : DF K mg "_law_chars" s_law_chars a.d_law_chars
  d_law_sign : DF K mg "_law_sign" s_law_sign a.d_law_sign
  d_law_pair_right : DF K mg "_law_pair_right" s_law_pair_right a.d_law_pair_right
  d_law_cut_right : DF K mg "_law_cut_right" s_law_cut_right a.d_law_cut_right
  d_law : DF K mg "law" s_law a.d_law
  m_Text_init : MF K a.c_Text "__init__" "Text.__init__" s_Text_init a.m_Text_init
  m_Text_chars : MF K a.c_Text "chars" "Text.chars" s_Text_chars a.m_Text_chars
  m_Text_count : MF K a.c_Text "count" "Text.count" s_Text_count a.m_Text_count
  m_Text_part : MF K a.c_Text "part" "Text.part" s_Text_part a.m_Text_part
  m_Text_len : MF K a.c_Text "__len__" "Text.__len__" s_Text_len a.m_Text_len
  m_Text_add : MF K a.c_Text "__add__" "Text.__add__" s_Text_add a.m_Text_add
  m_Text_eq : MF K a.c_Text "__eq__" "Text.__eq__" s_Text_eq a.m_Text_eq
  m_Text_lt : MF K a.c_Text "__lt__" "Text.__lt__" s_Text_lt a.m_Text_lt
  g_Text : mg "Text" = some (.ref a.c_Text)
  i_Text : C8.InsC K a.c_Text
  k_Text : Mk K a.c_Text a.m_Text_init
  n_Text_own_chars : NoAttr K a.c_Text "own_chars"
  n_Text_own_counts : NoAttr K a.c_Text "own_counts"
  m_Reader_init : MF K a.c_Reader "__init__" "Reader.__init__" s_Reader_init a.m_Reader_init
  m_Reader_read : MF K a.c_Reader "read" "Reader.read" s_Reader_read a.m_Reader_read
  m_Reader_feed : MF K a.c_Reader "feed" "Reader.feed" s_Reader_feed a.m_Reader_feed
  m_Reader_pending : MF K a.c_Reader "pending" "Reader.pending" s_Reader_pending a.m_Reader_pending
  m_Reader_text : MF K a.c_Reader "text" "Reader.text" s_Reader_text a.m_Reader_text
  m_Reader_close : MF K a.c_Reader "close" "Reader.close" s_Reader_close a.m_Reader_close
  m_Reader_len : MF K a.c_Reader "__len__" "Reader.__len__" s_Reader_len a.m_Reader_len
  g_Reader : mg "Reader" = some (.ref a.c_Reader)
  i_Reader : C8.InsC K a.c_Reader
  k_Reader : Mk K a.c_Reader a.m_Reader_init
  n_Reader_own_kind : NoAttr K a.c_Reader "own_kind"
  n_Reader_found_chars : NoAttr K a.c_Reader "found_chars"
  n_Reader_waiting : NoAttr K a.c_Reader "waiting"
  n_Reader_fed_items : NoAttr K a.c_Reader "fed_items"
  n_Reader_is_closed : NoAttr K a.c_Reader "is_closed"
  ne_Text : PySem.W.findIn K (.ref a.c_Text) "__ne__" = some (some (.builtin "object.__ne__"))
  gt_Text : PySem.W.findIn K (.ref a.c_Text) "__gt__" = some (some (.builtin "object.__gt__"))
  sf_Text : PySem.W.selfFirst K a.c_Text = true
  f_missing : ∃ fd, Fun K "missing" "Reader.missing" s_Reader_missing a.m_Reader_missing fd
  p_missing : PropOf K a.c_Reader "missing" a.p_missing a.m_Reader_missing
  f_Bad : ∃ fd, Fun K "__init__" "BadSequence.__init__" s_Bad_init a.m_Bad_init fd
  o_Bad : OexC K a.c_Bad
  g_Bad : mg "BadSequence" = some (.ref a.c_Bad)
  i_Bad : PySem.W.findIn K (.ref a.c_Bad) "__init__" = some (some (.ref a.m_Bad_init))
  ti_Bad : PySem.W.typeIn K (.ref a.m_Bad_init) = some (.type "function")
  n_Bad : PySem.W.findIn K (.ref a.c_Bad) "index" = some none
  e_Bad : PySem.W.exmOne K (.ref a.c_Bad) (.ref a.c_Bad) = some true
  b_Place : PeB K mg "PlaceError" a.c_Place
  c_LAST_CHAR : CG mg "LAST_CHAR" (.int 1114111)
  c_LOW_GAP : CG mg "LOW_GAP" (.int 55296)
  c_HIGH_GAP : CG mg "HIGH_GAP" (.int 57343)
  c_TWO : CG mg "TWO" (.int 128)
  c_THREE : CG mg "THREE" (.int 2048)
  c_FOUR : CG mg "FOUR" (.int 65536)
  c_HIGH : CG mg "HIGH" (.int 55296)
  c_LOW : CG mg "LOW" (.int 56320)
  c_LAST_BYTE : CG mg "LAST_BYTE" (.int 255)
  c_LAST_UNIT : CG mg "LAST_UNIT" (.int 65535)
  c_FIRST_OF_MORE : CG mg "FIRST_OF_MORE" (.int 65536)
  c_BYTES_texts : CG mg "BYTES_texts" (.str "bytes")
  c_UNITS_texts : CG mg "UNITS_texts" (.str "units")
  c_CHARS_texts : CG mg "CHARS_texts" (.str "chars")
  c_KINDS : CG mg "KINDS" (.ref a.t_KINDS)
  t_KINDS : KT K a.t_KINDS [.str "bytes", .str "units", .str "chars"]
  c_OTHERS : CG mg "OTHERS" (.ref a.t_OTHERS)
  t_OTHERS : KT K a.t_OTHERS [.int 128, .int 191]
  c_HIGHS : CG mg "HIGHS" (.ref a.t_HIGHS)
  t_HIGHS : KT K a.t_HIGHS [.int 55296, .int 56319]
  c_LOWS : CG mg "LOWS" (.ref a.t_LOWS)
  t_LOWS : KT K a.t_LOWS [.int 56320, .int 57343]
  c_LEADS_texts : CG mg "LEADS_texts" (.ref a.t_LEADS_texts)
  t_LEADS_texts : KT K a.t_LEADS_texts [.int 0, .int 0, .int 192, .int 224, .int 240]
  c_SECONDS : CG mg "SECONDS" (.ref a.t_SECONDS)
  t_SECONDS : KInts K a.t_SECONDS [(224, .ref a.t_sec0), (237, .ref a.t_sec1), (240, .ref a.t_sec2), (244, .ref a.t_sec3)]
  t_sec0 : KT K a.t_sec0 [.int 160, .int 191]
  t_sec1 : KT K a.t_sec1 [.int 128, .int 159]
  t_sec2 : KT K a.t_sec2 [.int 144, .int 191]
  t_sec3 : KT K a.t_sec3 [.int 128, .int 143]
  c_LEADS : CG mg "LEADS_codecs" (.ref a.t_LEADS)
  t_LEADS : KT K a.t_LEADS [.ref a.t_lead0, .ref a.t_lead1, .ref a.t_lead2]
  t_lead0 : KT K a.t_lead0 [.int 194, .int 223, .int 2]
  t_lead1 : KT K a.t_lead1 [.int 224, .int 239, .int 3]
  t_lead2 : KT K a.t_lead2 [.int 240, .int 244, .int 4]
  n_isinstance : mg "isinstance" = none
  n_int : mg "int" = none
  n_bool : mg "bool" = none
  n_str : mg "str" = none
  n_list : mg "list" = none
  n_tuple : mg "tuple" = none
  n_sum : mg "sum" = none
  n_len : mg "len" = none
  n_range : mg "range" = none
  n_enumerate : mg "enumerate" = none
  n_all : mg "all" = none
  n_min : mg "min" = none
  n_max : mg "max" = none
end K14

namespace K14
open PySem PySem.Spec PyProof.Rows L2
theorem kit_self {K : PySem.W.Frag} {C : Addr} : PySem.W.kitOne K (.ref C) (.ref C) = some true := by
  unfold PySem.W.kitOne
  rw [if_pos (by simp)]
/-- an error of the class at S is what «except S» names -/
theorem exm_self {K : PySem.W.Frag} {S : Addr} (h1 : PySem.W.subIn K (.ref S) (.type "BaseException") = some true) (h2 : PySem.W.isClsIn K S = true) (h3 : PySem.W.typeIn K (.ref S) = some (.type "type")) (h4 : PySem.W.subIn K (.ref S) (.ref S) = some true) :
    PySem.W.exmOne K (.ref S) (.ref S) = some true := by
  have e1 : (PySem.W.subIn K (.ref S) (.type "BaseException") == some true) = true := by rw [h1] <;> rfl
  have e2 : ((PySem.W.clsIn K S).isSome && PySem.W.typeIn K (.ref S) == some (.type "type")) = true := by
    have h2' : (PySem.W.clsIn K S).isSome = true := h2
    rw [h2', h3] <;> rfl
  show (if (PySem.W.subIn K (.ref S) (.type "BaseException") == some true) = true then (if ((PySem.W.clsIn K S).isSome && PySem.W.typeIn K (.ref S) == some (.type "type")) = true then PySem.W.subIn K (.ref S) (.ref S) else none) else none) = some true
  rw [if_pos e1, if_pos e2]
  exact h4
theorem txt_mk {K : PySem.W.Frag} {h : Heap} {mg : Str → Option Value} (X : K.In h) (G : h.Ns mainGlobals mg) {d_is_integer d_is_char d_is_list d_is_kind d_need_char d_need_kind d_need_chars d_wide d_bytes_in d_items_in d_counts_in d_chars_of d_need_more d_need_text d_joined d_all_items d_compare d_byte_list d_unit_list d_is_items d_need_items d_byte_size d_unit_size d_size_of d_goes_on d_char_of d_text_of d_text_of_bytes d_text_of_units d_beginning d_law_cell d_law_box d_law_take d_law_char d_law_chars d_law_sign d_law_pair_right d_law_cut_right d_law c_Text m_Text_init m_Text_chars m_Text_count m_Text_part m_Text_len m_Text_add m_Text_eq m_Text_lt c_Reader m_Reader_init m_Reader_read m_Reader_feed m_Reader_pending m_Reader_text m_Reader_close m_Reader_len p_missing m_Reader_missing c_Bad m_Bad_init c_Place t_KINDS t_OTHERS t_HIGHS t_LOWS t_LEADS_texts t_SECONDS t_LEADS t_sec0 t_sec1 t_sec2 t_sec3 t_lead0 t_lead1 t_lead2 : Addr}
    {oc_d_is_integer kV_d_is_integer dc_d_is_integer pm_d_is_integer cd_d_is_integer ct_d_is_integer : Value} {od_d_is_integer an_d_is_integer : Option Addr} {sl_d_is_integer : Array (Option Value)}
    {oc_d_is_char kV_d_is_char dc_d_is_char pm_d_is_char cd_d_is_char ct_d_is_char : Value} {od_d_is_char an_d_is_char : Option Addr} {sl_d_is_char : Array (Option Value)}
    {oc_d_is_list kV_d_is_list dc_d_is_list pm_d_is_list cd_d_is_list ct_d_is_list : Value} {od_d_is_list an_d_is_list : Option Addr} {sl_d_is_list : Array (Option Value)}
    {oc_d_is_kind kV_d_is_kind dc_d_is_kind pm_d_is_kind cd_d_is_kind ct_d_is_kind : Value} {od_d_is_kind an_d_is_kind : Option Addr} {sl_d_is_kind : Array (Option Value)}
    {oc_d_need_char kV_d_need_char dc_d_need_char pm_d_need_char cd_d_need_char ct_d_need_char : Value} {od_d_need_char an_d_need_char : Option Addr} {sl_d_need_char : Array (Option Value)}
    {oc_d_need_kind kV_d_need_kind dc_d_need_kind pm_d_need_kind cd_d_need_kind ct_d_need_kind : Value} {od_d_need_kind an_d_need_kind : Option Addr} {sl_d_need_kind : Array (Option Value)}
    {oc_d_need_chars kV_d_need_chars dc_d_need_chars pm_d_need_chars cd_d_need_chars ct_d_need_chars : Value} {od_d_need_chars an_d_need_chars : Option Addr} {sl_d_need_chars : Array (Option Value)}
    {oc_d_wide kV_d_wide dc_d_wide pm_d_wide cd_d_wide ct_d_wide : Value} {od_d_wide an_d_wide : Option Addr} {sl_d_wide : Array (Option Value)}
    {oc_d_bytes_in kV_d_bytes_in dc_d_bytes_in pm_d_bytes_in cd_d_bytes_in ct_d_bytes_in : Value} {od_d_bytes_in an_d_bytes_in : Option Addr} {sl_d_bytes_in : Array (Option Value)}
    {oc_d_items_in kV_d_items_in dc_d_items_in pm_d_items_in cd_d_items_in ct_d_items_in : Value} {od_d_items_in an_d_items_in : Option Addr} {sl_d_items_in : Array (Option Value)}
    {oc_d_counts_in kV_d_counts_in dc_d_counts_in pm_d_counts_in cd_d_counts_in ct_d_counts_in : Value} {od_d_counts_in an_d_counts_in : Option Addr} {sl_d_counts_in : Array (Option Value)}
    {oc_d_chars_of kV_d_chars_of dc_d_chars_of pm_d_chars_of cd_d_chars_of ct_d_chars_of : Value} {od_d_chars_of an_d_chars_of : Option Addr} {sl_d_chars_of : Array (Option Value)}
    {oc_d_need_more kV_d_need_more dc_d_need_more pm_d_need_more cd_d_need_more ct_d_need_more : Value} {od_d_need_more an_d_need_more : Option Addr} {sl_d_need_more : Array (Option Value)}
    {oc_d_need_text kV_d_need_text dc_d_need_text pm_d_need_text cd_d_need_text ct_d_need_text : Value} {od_d_need_text an_d_need_text : Option Addr} {sl_d_need_text : Array (Option Value)}
    {oc_d_joined kV_d_joined dc_d_joined pm_d_joined cd_d_joined ct_d_joined : Value} {od_d_joined an_d_joined : Option Addr} {sl_d_joined : Array (Option Value)}
    {oc_d_all_items kV_d_all_items dc_d_all_items pm_d_all_items cd_d_all_items ct_d_all_items : Value} {od_d_all_items an_d_all_items : Option Addr} {sl_d_all_items : Array (Option Value)}
    {oc_d_compare kV_d_compare dc_d_compare pm_d_compare cd_d_compare ct_d_compare : Value} {od_d_compare an_d_compare : Option Addr} {sl_d_compare : Array (Option Value)}
    {oc_d_byte_list kV_d_byte_list dc_d_byte_list pm_d_byte_list cd_d_byte_list ct_d_byte_list : Value} {od_d_byte_list an_d_byte_list : Option Addr} {sl_d_byte_list : Array (Option Value)}
    {oc_d_unit_list kV_d_unit_list dc_d_unit_list pm_d_unit_list cd_d_unit_list ct_d_unit_list : Value} {od_d_unit_list an_d_unit_list : Option Addr} {sl_d_unit_list : Array (Option Value)}
    {oc_d_is_items kV_d_is_items dc_d_is_items pm_d_is_items cd_d_is_items ct_d_is_items : Value} {od_d_is_items an_d_is_items : Option Addr} {sl_d_is_items : Array (Option Value)}
    {oc_d_need_items kV_d_need_items dc_d_need_items pm_d_need_items cd_d_need_items ct_d_need_items : Value} {od_d_need_items an_d_need_items : Option Addr} {sl_d_need_items : Array (Option Value)}
    {oc_d_byte_size kV_d_byte_size dc_d_byte_size pm_d_byte_size cd_d_byte_size ct_d_byte_size : Value} {od_d_byte_size an_d_byte_size : Option Addr} {sl_d_byte_size : Array (Option Value)}
    {oc_d_unit_size kV_d_unit_size dc_d_unit_size pm_d_unit_size cd_d_unit_size ct_d_unit_size : Value} {od_d_unit_size an_d_unit_size : Option Addr} {sl_d_unit_size : Array (Option Value)}
    {oc_d_size_of kV_d_size_of dc_d_size_of pm_d_size_of cd_d_size_of ct_d_size_of : Value} {od_d_size_of an_d_size_of : Option Addr} {sl_d_size_of : Array (Option Value)}
    {oc_d_goes_on kV_d_goes_on dc_d_goes_on pm_d_goes_on cd_d_goes_on ct_d_goes_on : Value} {od_d_goes_on an_d_goes_on : Option Addr} {sl_d_goes_on : Array (Option Value)}
    {oc_d_char_of kV_d_char_of dc_d_char_of pm_d_char_of cd_d_char_of ct_d_char_of : Value} {od_d_char_of an_d_char_of : Option Addr} {sl_d_char_of : Array (Option Value)}
    {oc_d_text_of kV_d_text_of dc_d_text_of pm_d_text_of cd_d_text_of ct_d_text_of : Value} {od_d_text_of an_d_text_of : Option Addr} {sl_d_text_of : Array (Option Value)}
    {oc_d_text_of_bytes kV_d_text_of_bytes dc_d_text_of_bytes pm_d_text_of_bytes cd_d_text_of_bytes ct_d_text_of_bytes : Value} {od_d_text_of_bytes an_d_text_of_bytes : Option Addr} {sl_d_text_of_bytes : Array (Option Value)}
    {oc_d_text_of_units kV_d_text_of_units dc_d_text_of_units pm_d_text_of_units cd_d_text_of_units ct_d_text_of_units : Value} {od_d_text_of_units an_d_text_of_units : Option Addr} {sl_d_text_of_units : Array (Option Value)}
    {oc_d_beginning kV_d_beginning dc_d_beginning pm_d_beginning cd_d_beginning ct_d_beginning : Value} {od_d_beginning an_d_beginning : Option Addr} {sl_d_beginning : Array (Option Value)}
    {oc_d_law_cell kV_d_law_cell dc_d_law_cell pm_d_law_cell cd_d_law_cell ct_d_law_cell : Value} {od_d_law_cell an_d_law_cell : Option Addr} {sl_d_law_cell : Array (Option Value)}
    {oc_d_law_box kV_d_law_box dc_d_law_box pm_d_law_box cd_d_law_box ct_d_law_box : Value} {od_d_law_box an_d_law_box : Option Addr} {sl_d_law_box : Array (Option Value)}
    {oc_d_law_take kV_d_law_take dc_d_law_take pm_d_law_take cd_d_law_take ct_d_law_take : Value} {od_d_law_take an_d_law_take : Option Addr} {sl_d_law_take : Array (Option Value)}
    {oc_d_law_char kV_d_law_char dc_d_law_char pm_d_law_char cd_d_law_char ct_d_law_char : Value} {od_d_law_char an_d_law_char : Option Addr} {sl_d_law_char : Array (Option Value)}
    {oc_d_law_chars kV_d_law_chars dc_d_law_chars pm_d_law_chars cd_d_law_chars ct_d_law_chars : Value} {od_d_law_chars an_d_law_chars : Option Addr} {sl_d_law_chars : Array (Option Value)}
    {oc_d_law_sign kV_d_law_sign dc_d_law_sign pm_d_law_sign cd_d_law_sign ct_d_law_sign : Value} {od_d_law_sign an_d_law_sign : Option Addr} {sl_d_law_sign : Array (Option Value)}
    {oc_d_law_pair_right kV_d_law_pair_right dc_d_law_pair_right pm_d_law_pair_right cd_d_law_pair_right ct_d_law_pair_right : Value} {od_d_law_pair_right an_d_law_pair_right : Option Addr} {sl_d_law_pair_right : Array (Option Value)}
    {oc_d_law_cut_right kV_d_law_cut_right dc_d_law_cut_right pm_d_law_cut_right cd_d_law_cut_right ct_d_law_cut_right : Value} {od_d_law_cut_right an_d_law_cut_right : Option Addr} {sl_d_law_cut_right : Array (Option Value)}
    {oc_d_law kV_d_law dc_d_law pm_d_law cd_d_law ct_d_law : Value} {od_d_law an_d_law : Option Addr} {sl_d_law : Array (Option Value)}
    {oc_m_Text_init kV_m_Text_init dc_m_Text_init pm_m_Text_init cd_m_Text_init ct_m_Text_init : Value} {od_m_Text_init an_m_Text_init : Option Addr} {sl_m_Text_init : Array (Option Value)}
    {oc_m_Text_chars kV_m_Text_chars dc_m_Text_chars pm_m_Text_chars cd_m_Text_chars ct_m_Text_chars : Value} {od_m_Text_chars an_m_Text_chars : Option Addr} {sl_m_Text_chars : Array (Option Value)}
    {oc_m_Text_count kV_m_Text_count dc_m_Text_count pm_m_Text_count cd_m_Text_count ct_m_Text_count : Value} {od_m_Text_count an_m_Text_count : Option Addr} {sl_m_Text_count : Array (Option Value)}
    {oc_m_Text_part kV_m_Text_part dc_m_Text_part pm_m_Text_part cd_m_Text_part ct_m_Text_part : Value} {od_m_Text_part an_m_Text_part : Option Addr} {sl_m_Text_part : Array (Option Value)}
    {oc_m_Text_len kV_m_Text_len dc_m_Text_len pm_m_Text_len cd_m_Text_len ct_m_Text_len : Value} {od_m_Text_len an_m_Text_len : Option Addr} {sl_m_Text_len : Array (Option Value)}
    {oc_m_Text_add kV_m_Text_add dc_m_Text_add pm_m_Text_add cd_m_Text_add ct_m_Text_add : Value} {od_m_Text_add an_m_Text_add : Option Addr} {sl_m_Text_add : Array (Option Value)}
    {oc_m_Text_eq kV_m_Text_eq dc_m_Text_eq pm_m_Text_eq cd_m_Text_eq ct_m_Text_eq : Value} {od_m_Text_eq an_m_Text_eq : Option Addr} {sl_m_Text_eq : Array (Option Value)}
    {oc_m_Text_lt kV_m_Text_lt dc_m_Text_lt pm_m_Text_lt cd_m_Text_lt ct_m_Text_lt : Value} {od_m_Text_lt an_m_Text_lt : Option Addr} {sl_m_Text_lt : Array (Option Value)}
    {oc_m_Reader_init kV_m_Reader_init dc_m_Reader_init pm_m_Reader_init cd_m_Reader_init ct_m_Reader_init : Value} {od_m_Reader_init an_m_Reader_init : Option Addr} {sl_m_Reader_init : Array (Option Value)}
    {oc_m_Reader_read kV_m_Reader_read dc_m_Reader_read pm_m_Reader_read cd_m_Reader_read ct_m_Reader_read : Value} {od_m_Reader_read an_m_Reader_read : Option Addr} {sl_m_Reader_read : Array (Option Value)}
    {oc_m_Reader_feed kV_m_Reader_feed dc_m_Reader_feed pm_m_Reader_feed cd_m_Reader_feed ct_m_Reader_feed : Value} {od_m_Reader_feed an_m_Reader_feed : Option Addr} {sl_m_Reader_feed : Array (Option Value)}
    {oc_m_Reader_pending kV_m_Reader_pending dc_m_Reader_pending pm_m_Reader_pending cd_m_Reader_pending ct_m_Reader_pending : Value} {od_m_Reader_pending an_m_Reader_pending : Option Addr} {sl_m_Reader_pending : Array (Option Value)}
    {oc_m_Reader_text kV_m_Reader_text dc_m_Reader_text pm_m_Reader_text cd_m_Reader_text ct_m_Reader_text : Value} {od_m_Reader_text an_m_Reader_text : Option Addr} {sl_m_Reader_text : Array (Option Value)}
    {oc_m_Reader_close kV_m_Reader_close dc_m_Reader_close pm_m_Reader_close cd_m_Reader_close ct_m_Reader_close : Value} {od_m_Reader_close an_m_Reader_close : Option Addr} {sl_m_Reader_close : Array (Option Value)}
    {oc_m_Reader_len kV_m_Reader_len dc_m_Reader_len pm_m_Reader_len cd_m_Reader_len ct_m_Reader_len : Value} {od_m_Reader_len an_m_Reader_len : Option Addr} {sl_m_Reader_len : Array (Option Value)}
    {rest_missing : List Value}
    {oc_m_Reader_missing kV_m_Reader_missing dc_m_Reader_missing pm_m_Reader_missing cd_m_Reader_missing ct_m_Reader_missing : Value} {od_m_Reader_missing an_m_Reader_missing : Option Addr} {sl_m_Reader_missing : Array (Option Value)}
    {oc_m_Bad_init kV_m_Bad_init dc_m_Bad_init pm_m_Bad_init cd_m_Bad_init ct_m_Bad_init : Value} {od_m_Bad_init an_m_Bad_init : Option Addr} {sl_m_Bad_init : Array (Option Value)}
    {nmB qB : Str} {NB : Addr} {bsB : List Value} {snB : List Str} {subB : List Value} {abB : Bool} {colB : Option Bool} {ddB : Option Addr} {m0 m1 m2 m3 m5 : Option Value}
    {tk_LAST_CHAR : Tok}
    {tk_LOW_GAP : Tok}
    {tk_HIGH_GAP : Tok}
    {tk_TWO : Tok}
    {tk_THREE : Tok}
    {tk_FOUR : Tok}
    {tk_HIGH : Tok}
    {tk_LOW : Tok}
    {tk_LAST_BYTE : Tok}
    {tk_LAST_UNIT : Tok}
    {tk_FIRST_OF_MORE : Tok}
    {tk_BYTES_texts : Tok}
    {tk_UNITS_texts : Tok}
    {tk_CHARS_texts : Tok}
    {tk_t_KINDS_0 tk_t_KINDS_1 tk_t_KINDS_2 : Tok}
    {dd_t_KINDS : Option Addr} {nn_t_KINDS : Nat} {sl_t_KINDS : Array (Option Value)}
    {tk_t_OTHERS_0 tk_t_OTHERS_1 : Tok}
    {dd_t_OTHERS : Option Addr} {nn_t_OTHERS : Nat} {sl_t_OTHERS : Array (Option Value)}
    {tk_t_HIGHS_0 tk_t_HIGHS_1 : Tok}
    {dd_t_HIGHS : Option Addr} {nn_t_HIGHS : Nat} {sl_t_HIGHS : Array (Option Value)}
    {tk_t_LOWS_0 tk_t_LOWS_1 : Tok}
    {dd_t_LOWS : Option Addr} {nn_t_LOWS : Nat} {sl_t_LOWS : Array (Option Value)}
    {tk_t_LEADS_texts_0 tk_t_LEADS_texts_1 tk_t_LEADS_texts_2 tk_t_LEADS_texts_3 tk_t_LEADS_texts_4 : Tok}
    {dd_t_LEADS_texts : Option Addr} {nn_t_LEADS_texts : Nat} {sl_t_LEADS_texts : Array (Option Value)}
    {ts0 ts1 ts2 ts3 : Tok} {nS : Nat}
    {tk_t_sec0_0 tk_t_sec0_1 : Tok}
    {dd_t_sec0 : Option Addr} {nn_t_sec0 : Nat} {sl_t_sec0 : Array (Option Value)}
    {tk_t_sec1_0 tk_t_sec1_1 : Tok}
    {dd_t_sec1 : Option Addr} {nn_t_sec1 : Nat} {sl_t_sec1 : Array (Option Value)}
    {tk_t_sec2_0 tk_t_sec2_1 : Tok}
    {dd_t_sec2 : Option Addr} {nn_t_sec2 : Nat} {sl_t_sec2 : Array (Option Value)}
    {tk_t_sec3_0 tk_t_sec3_1 : Tok}
    {dd_t_sec3 : Option Addr} {nn_t_sec3 : Nat} {sl_t_sec3 : Array (Option Value)}
    {dd_t_LEADS : Option Addr} {nn_t_LEADS : Nat} {sl_t_LEADS : Array (Option Value)}
    {tk_t_lead0_0 tk_t_lead0_1 tk_t_lead0_2 : Tok}
    {dd_t_lead0 : Option Addr} {nn_t_lead0 : Nat} {sl_t_lead0 : Array (Option Value)}
    {tk_t_lead1_0 tk_t_lead1_1 tk_t_lead1_2 : Tok}
    {dd_t_lead1 : Option Addr} {nn_t_lead1 : Nat} {sl_t_lead1 : Array (Option Value)}
    {tk_t_lead2_0 tk_t_lead2_1 tk_t_lead2_2 : Tok}
    {dd_t_lead2 : Option Addr} {nn_t_lead2 : Nat} {sl_t_lead2 : Array (Option Value)}
    (a_d_is_integer : PySem.W.nsIn K mainGlobals "is_integer" = some (some (.ref d_is_integer)))
    (l_d_is_integer : K.lookup d_is_integer = some ⟨oc_d_is_integer, od_d_is_integer, .func (PySem.W.fnOf "is_integer" "is_integer" (defArgs s_is_integer) (defBody s_is_integer) (defScope s_is_integer) .none kV_d_is_integer dc_d_is_integer pm_d_is_integer an_d_is_integer cd_d_is_integer ct_d_is_integer), sl_d_is_integer⟩)
    (o_d_is_integer : PySem.W.codeIn K cd_d_is_integer "is_integer" = true)
    (k_d_is_integer : PySem.W.keepIn K (.ref d_is_integer) = true)
    (a_d_is_char : PySem.W.nsIn K mainGlobals "is_char" = some (some (.ref d_is_char)))
    (l_d_is_char : K.lookup d_is_char = some ⟨oc_d_is_char, od_d_is_char, .func (PySem.W.fnOf "is_char" "is_char" (defArgs s_is_char) (defBody s_is_char) (defScope s_is_char) .none kV_d_is_char dc_d_is_char pm_d_is_char an_d_is_char cd_d_is_char ct_d_is_char), sl_d_is_char⟩)
    (o_d_is_char : PySem.W.codeIn K cd_d_is_char "is_char" = true)
    (k_d_is_char : PySem.W.keepIn K (.ref d_is_char) = true)
    (a_d_is_list : PySem.W.nsIn K mainGlobals "is_list" = some (some (.ref d_is_list)))
    (l_d_is_list : K.lookup d_is_list = some ⟨oc_d_is_list, od_d_is_list, .func (PySem.W.fnOf "is_list" "is_list" (defArgs s_is_list) (defBody s_is_list) (defScope s_is_list) .none kV_d_is_list dc_d_is_list pm_d_is_list an_d_is_list cd_d_is_list ct_d_is_list), sl_d_is_list⟩)
    (o_d_is_list : PySem.W.codeIn K cd_d_is_list "is_list" = true)
    (k_d_is_list : PySem.W.keepIn K (.ref d_is_list) = true)
    (a_d_is_kind : PySem.W.nsIn K mainGlobals "is_kind" = some (some (.ref d_is_kind)))
    (l_d_is_kind : K.lookup d_is_kind = some ⟨oc_d_is_kind, od_d_is_kind, .func (PySem.W.fnOf "is_kind" "is_kind" (defArgs s_is_kind) (defBody s_is_kind) (defScope s_is_kind) .none kV_d_is_kind dc_d_is_kind pm_d_is_kind an_d_is_kind cd_d_is_kind ct_d_is_kind), sl_d_is_kind⟩)
    (o_d_is_kind : PySem.W.codeIn K cd_d_is_kind "is_kind" = true)
    (k_d_is_kind : PySem.W.keepIn K (.ref d_is_kind) = true)
    (a_d_need_char : PySem.W.nsIn K mainGlobals "need_char" = some (some (.ref d_need_char)))
    (l_d_need_char : K.lookup d_need_char = some ⟨oc_d_need_char, od_d_need_char, .func (PySem.W.fnOf "need_char" "need_char" (defArgs s_need_char) (defBody s_need_char) (defScope s_need_char) .none kV_d_need_char dc_d_need_char pm_d_need_char an_d_need_char cd_d_need_char ct_d_need_char), sl_d_need_char⟩)
    (o_d_need_char : PySem.W.codeIn K cd_d_need_char "need_char" = true)
    (k_d_need_char : PySem.W.keepIn K (.ref d_need_char) = true)
    (a_d_need_kind : PySem.W.nsIn K mainGlobals "need_kind" = some (some (.ref d_need_kind)))
    (l_d_need_kind : K.lookup d_need_kind = some ⟨oc_d_need_kind, od_d_need_kind, .func (PySem.W.fnOf "need_kind" "need_kind" (defArgs s_need_kind) (defBody s_need_kind) (defScope s_need_kind) .none kV_d_need_kind dc_d_need_kind pm_d_need_kind an_d_need_kind cd_d_need_kind ct_d_need_kind), sl_d_need_kind⟩)
    (o_d_need_kind : PySem.W.codeIn K cd_d_need_kind "need_kind" = true)
    (k_d_need_kind : PySem.W.keepIn K (.ref d_need_kind) = true)
    (a_d_need_chars : PySem.W.nsIn K mainGlobals "need_chars" = some (some (.ref d_need_chars)))
    (l_d_need_chars : K.lookup d_need_chars = some ⟨oc_d_need_chars, od_d_need_chars, .func (PySem.W.fnOf "need_chars" "need_chars" (defArgs s_need_chars) (defBody s_need_chars) (defScope s_need_chars) .none kV_d_need_chars dc_d_need_chars pm_d_need_chars an_d_need_chars cd_d_need_chars ct_d_need_chars), sl_d_need_chars⟩)
    (o_d_need_chars : PySem.W.codeIn K cd_d_need_chars "need_chars" = true)
    (k_d_need_chars : PySem.W.keepIn K (.ref d_need_chars) = true)
    (a_d_wide : PySem.W.nsIn K mainGlobals "wide" = some (some (.ref d_wide)))
    (l_d_wide : K.lookup d_wide = some ⟨oc_d_wide, od_d_wide, .func (PySem.W.fnOf "wide" "wide" (defArgs s_wide) (defBody s_wide) (defScope s_wide) .none kV_d_wide dc_d_wide pm_d_wide an_d_wide cd_d_wide ct_d_wide), sl_d_wide⟩)
    (o_d_wide : PySem.W.codeIn K cd_d_wide "wide" = true)
    (k_d_wide : PySem.W.keepIn K (.ref d_wide) = true)
    (a_d_bytes_in : PySem.W.nsIn K mainGlobals "bytes_in" = some (some (.ref d_bytes_in)))
    (l_d_bytes_in : K.lookup d_bytes_in = some ⟨oc_d_bytes_in, od_d_bytes_in, .func (PySem.W.fnOf "bytes_in" "bytes_in" (defArgs s_bytes_in) (defBody s_bytes_in) (defScope s_bytes_in) .none kV_d_bytes_in dc_d_bytes_in pm_d_bytes_in an_d_bytes_in cd_d_bytes_in ct_d_bytes_in), sl_d_bytes_in⟩)
    (o_d_bytes_in : PySem.W.codeIn K cd_d_bytes_in "bytes_in" = true)
    (k_d_bytes_in : PySem.W.keepIn K (.ref d_bytes_in) = true)
    (a_d_items_in : PySem.W.nsIn K mainGlobals "items_in" = some (some (.ref d_items_in)))
    (l_d_items_in : K.lookup d_items_in = some ⟨oc_d_items_in, od_d_items_in, .func (PySem.W.fnOf "items_in" "items_in" (defArgs s_items_in) (defBody s_items_in) (defScope s_items_in) .none kV_d_items_in dc_d_items_in pm_d_items_in an_d_items_in cd_d_items_in ct_d_items_in), sl_d_items_in⟩)
    (o_d_items_in : PySem.W.codeIn K cd_d_items_in "items_in" = true)
    (k_d_items_in : PySem.W.keepIn K (.ref d_items_in) = true)
    (a_d_counts_in : PySem.W.nsIn K mainGlobals "counts_in" = some (some (.ref d_counts_in)))
    (l_d_counts_in : K.lookup d_counts_in = some ⟨oc_d_counts_in, od_d_counts_in, .func (PySem.W.fnOf "counts_in" "counts_in" (defArgs s_counts_in) (defBody s_counts_in) (defScope s_counts_in) .none kV_d_counts_in dc_d_counts_in pm_d_counts_in an_d_counts_in cd_d_counts_in ct_d_counts_in), sl_d_counts_in⟩)
    (o_d_counts_in : PySem.W.codeIn K cd_d_counts_in "counts_in" = true)
    (k_d_counts_in : PySem.W.keepIn K (.ref d_counts_in) = true)
    (a_d_chars_of : PySem.W.nsIn K mainGlobals "chars_of" = some (some (.ref d_chars_of)))
    (l_d_chars_of : K.lookup d_chars_of = some ⟨oc_d_chars_of, od_d_chars_of, .func (PySem.W.fnOf "chars_of" "chars_of" (defArgs s_chars_of) (defBody s_chars_of) (defScope s_chars_of) .none kV_d_chars_of dc_d_chars_of pm_d_chars_of an_d_chars_of cd_d_chars_of ct_d_chars_of), sl_d_chars_of⟩)
    (o_d_chars_of : PySem.W.codeIn K cd_d_chars_of "chars_of" = true)
    (k_d_chars_of : PySem.W.keepIn K (.ref d_chars_of) = true)
    (a_d_need_more : PySem.W.nsIn K mainGlobals "need_more" = some (some (.ref d_need_more)))
    (l_d_need_more : K.lookup d_need_more = some ⟨oc_d_need_more, od_d_need_more, .func (PySem.W.fnOf "need_more" "need_more" (defArgs s_need_more) (defBody s_need_more) (defScope s_need_more) .none kV_d_need_more dc_d_need_more pm_d_need_more an_d_need_more cd_d_need_more ct_d_need_more), sl_d_need_more⟩)
    (o_d_need_more : PySem.W.codeIn K cd_d_need_more "need_more" = true)
    (k_d_need_more : PySem.W.keepIn K (.ref d_need_more) = true)
    (a_d_need_text : PySem.W.nsIn K mainGlobals "need_text" = some (some (.ref d_need_text)))
    (l_d_need_text : K.lookup d_need_text = some ⟨oc_d_need_text, od_d_need_text, .func (PySem.W.fnOf "need_text" "need_text" (defArgs s_need_text) (defBody s_need_text) (defScope s_need_text) .none kV_d_need_text dc_d_need_text pm_d_need_text an_d_need_text cd_d_need_text ct_d_need_text), sl_d_need_text⟩)
    (o_d_need_text : PySem.W.codeIn K cd_d_need_text "need_text" = true)
    (k_d_need_text : PySem.W.keepIn K (.ref d_need_text) = true)
    (a_d_joined : PySem.W.nsIn K mainGlobals "joined" = some (some (.ref d_joined)))
    (l_d_joined : K.lookup d_joined = some ⟨oc_d_joined, od_d_joined, .func (PySem.W.fnOf "joined" "joined" (defArgs s_joined) (defBody s_joined) (defScope s_joined) .none kV_d_joined dc_d_joined pm_d_joined an_d_joined cd_d_joined ct_d_joined), sl_d_joined⟩)
    (o_d_joined : PySem.W.codeIn K cd_d_joined "joined" = true)
    (k_d_joined : PySem.W.keepIn K (.ref d_joined) = true)
    (a_d_all_items : PySem.W.nsIn K mainGlobals "all_items" = some (some (.ref d_all_items)))
    (l_d_all_items : K.lookup d_all_items = some ⟨oc_d_all_items, od_d_all_items, .func (PySem.W.fnOf "all_items" "all_items" (defArgs s_all_items) (defBody s_all_items) (defScope s_all_items) .none kV_d_all_items dc_d_all_items pm_d_all_items an_d_all_items cd_d_all_items ct_d_all_items), sl_d_all_items⟩)
    (o_d_all_items : PySem.W.codeIn K cd_d_all_items "all_items" = true)
    (k_d_all_items : PySem.W.keepIn K (.ref d_all_items) = true)
    (a_d_compare : PySem.W.nsIn K mainGlobals "compare" = some (some (.ref d_compare)))
    (l_d_compare : K.lookup d_compare = some ⟨oc_d_compare, od_d_compare, .func (PySem.W.fnOf "compare" "compare" (defArgs s_compare) (defBody s_compare) (defScope s_compare) .none kV_d_compare dc_d_compare pm_d_compare an_d_compare cd_d_compare ct_d_compare), sl_d_compare⟩)
    (o_d_compare : PySem.W.codeIn K cd_d_compare "compare" = true)
    (k_d_compare : PySem.W.keepIn K (.ref d_compare) = true)
    (a_d_byte_list : PySem.W.nsIn K mainGlobals "byte_list" = some (some (.ref d_byte_list)))
    (l_d_byte_list : K.lookup d_byte_list = some ⟨oc_d_byte_list, od_d_byte_list, .func (PySem.W.fnOf "byte_list" "byte_list" (defArgs s_byte_list) (defBody s_byte_list) (defScope s_byte_list) .none kV_d_byte_list dc_d_byte_list pm_d_byte_list an_d_byte_list cd_d_byte_list ct_d_byte_list), sl_d_byte_list⟩)
    (o_d_byte_list : PySem.W.codeIn K cd_d_byte_list "byte_list" = true)
    (k_d_byte_list : PySem.W.keepIn K (.ref d_byte_list) = true)
    (a_d_unit_list : PySem.W.nsIn K mainGlobals "unit_list" = some (some (.ref d_unit_list)))
    (l_d_unit_list : K.lookup d_unit_list = some ⟨oc_d_unit_list, od_d_unit_list, .func (PySem.W.fnOf "unit_list" "unit_list" (defArgs s_unit_list) (defBody s_unit_list) (defScope s_unit_list) .none kV_d_unit_list dc_d_unit_list pm_d_unit_list an_d_unit_list cd_d_unit_list ct_d_unit_list), sl_d_unit_list⟩)
    (o_d_unit_list : PySem.W.codeIn K cd_d_unit_list "unit_list" = true)
    (k_d_unit_list : PySem.W.keepIn K (.ref d_unit_list) = true)
    (a_d_is_items : PySem.W.nsIn K mainGlobals "is_items" = some (some (.ref d_is_items)))
    (l_d_is_items : K.lookup d_is_items = some ⟨oc_d_is_items, od_d_is_items, .func (PySem.W.fnOf "is_items" "is_items" (defArgs s_is_items) (defBody s_is_items) (defScope s_is_items) .none kV_d_is_items dc_d_is_items pm_d_is_items an_d_is_items cd_d_is_items ct_d_is_items), sl_d_is_items⟩)
    (o_d_is_items : PySem.W.codeIn K cd_d_is_items "is_items" = true)
    (k_d_is_items : PySem.W.keepIn K (.ref d_is_items) = true)
    (a_d_need_items : PySem.W.nsIn K mainGlobals "need_items" = some (some (.ref d_need_items)))
    (l_d_need_items : K.lookup d_need_items = some ⟨oc_d_need_items, od_d_need_items, .func (PySem.W.fnOf "need_items" "need_items" (defArgs s_need_items) (defBody s_need_items) (defScope s_need_items) .none kV_d_need_items dc_d_need_items pm_d_need_items an_d_need_items cd_d_need_items ct_d_need_items), sl_d_need_items⟩)
    (o_d_need_items : PySem.W.codeIn K cd_d_need_items "need_items" = true)
    (k_d_need_items : PySem.W.keepIn K (.ref d_need_items) = true)
    (a_d_byte_size : PySem.W.nsIn K mainGlobals "byte_size" = some (some (.ref d_byte_size)))
    (l_d_byte_size : K.lookup d_byte_size = some ⟨oc_d_byte_size, od_d_byte_size, .func (PySem.W.fnOf "byte_size" "byte_size" (defArgs s_byte_size) (defBody s_byte_size) (defScope s_byte_size) .none kV_d_byte_size dc_d_byte_size pm_d_byte_size an_d_byte_size cd_d_byte_size ct_d_byte_size), sl_d_byte_size⟩)
    (o_d_byte_size : PySem.W.codeIn K cd_d_byte_size "byte_size" = true)
    (k_d_byte_size : PySem.W.keepIn K (.ref d_byte_size) = true)
    (a_d_unit_size : PySem.W.nsIn K mainGlobals "unit_size" = some (some (.ref d_unit_size)))
    (l_d_unit_size : K.lookup d_unit_size = some ⟨oc_d_unit_size, od_d_unit_size, .func (PySem.W.fnOf "unit_size" "unit_size" (defArgs s_unit_size) (defBody s_unit_size) (defScope s_unit_size) .none kV_d_unit_size dc_d_unit_size pm_d_unit_size an_d_unit_size cd_d_unit_size ct_d_unit_size), sl_d_unit_size⟩)
    (o_d_unit_size : PySem.W.codeIn K cd_d_unit_size "unit_size" = true)
    (k_d_unit_size : PySem.W.keepIn K (.ref d_unit_size) = true)
    (a_d_size_of : PySem.W.nsIn K mainGlobals "size_of" = some (some (.ref d_size_of)))
    (l_d_size_of : K.lookup d_size_of = some ⟨oc_d_size_of, od_d_size_of, .func (PySem.W.fnOf "size_of" "size_of" (defArgs s_size_of) (defBody s_size_of) (defScope s_size_of) .none kV_d_size_of dc_d_size_of pm_d_size_of an_d_size_of cd_d_size_of ct_d_size_of), sl_d_size_of⟩)
    (o_d_size_of : PySem.W.codeIn K cd_d_size_of "size_of" = true)
    (k_d_size_of : PySem.W.keepIn K (.ref d_size_of) = true)
    (a_d_goes_on : PySem.W.nsIn K mainGlobals "goes_on" = some (some (.ref d_goes_on)))
    (l_d_goes_on : K.lookup d_goes_on = some ⟨oc_d_goes_on, od_d_goes_on, .func (PySem.W.fnOf "goes_on" "goes_on" (defArgs s_goes_on) (defBody s_goes_on) (defScope s_goes_on) .none kV_d_goes_on dc_d_goes_on pm_d_goes_on an_d_goes_on cd_d_goes_on ct_d_goes_on), sl_d_goes_on⟩)
    (o_d_goes_on : PySem.W.codeIn K cd_d_goes_on "goes_on" = true)
    (k_d_goes_on : PySem.W.keepIn K (.ref d_goes_on) = true)
    (a_d_char_of : PySem.W.nsIn K mainGlobals "char_of" = some (some (.ref d_char_of)))
    (l_d_char_of : K.lookup d_char_of = some ⟨oc_d_char_of, od_d_char_of, .func (PySem.W.fnOf "char_of" "char_of" (defArgs s_char_of) (defBody s_char_of) (defScope s_char_of) .none kV_d_char_of dc_d_char_of pm_d_char_of an_d_char_of cd_d_char_of ct_d_char_of), sl_d_char_of⟩)
    (o_d_char_of : PySem.W.codeIn K cd_d_char_of "char_of" = true)
    (k_d_char_of : PySem.W.keepIn K (.ref d_char_of) = true)
    (a_d_text_of : PySem.W.nsIn K mainGlobals "text_of" = some (some (.ref d_text_of)))
    (l_d_text_of : K.lookup d_text_of = some ⟨oc_d_text_of, od_d_text_of, .func (PySem.W.fnOf "text_of" "text_of" (defArgs s_text_of) (defBody s_text_of) (defScope s_text_of) .none kV_d_text_of dc_d_text_of pm_d_text_of an_d_text_of cd_d_text_of ct_d_text_of), sl_d_text_of⟩)
    (o_d_text_of : PySem.W.codeIn K cd_d_text_of "text_of" = true)
    (k_d_text_of : PySem.W.keepIn K (.ref d_text_of) = true)
    (a_d_text_of_bytes : PySem.W.nsIn K mainGlobals "text_of_bytes" = some (some (.ref d_text_of_bytes)))
    (l_d_text_of_bytes : K.lookup d_text_of_bytes = some ⟨oc_d_text_of_bytes, od_d_text_of_bytes, .func (PySem.W.fnOf "text_of_bytes" "text_of_bytes" (defArgs s_text_of_bytes) (defBody s_text_of_bytes) (defScope s_text_of_bytes) .none kV_d_text_of_bytes dc_d_text_of_bytes pm_d_text_of_bytes an_d_text_of_bytes cd_d_text_of_bytes ct_d_text_of_bytes), sl_d_text_of_bytes⟩)
    (o_d_text_of_bytes : PySem.W.codeIn K cd_d_text_of_bytes "text_of_bytes" = true)
    (k_d_text_of_bytes : PySem.W.keepIn K (.ref d_text_of_bytes) = true)
    (a_d_text_of_units : PySem.W.nsIn K mainGlobals "text_of_units" = some (some (.ref d_text_of_units)))
    (l_d_text_of_units : K.lookup d_text_of_units = some ⟨oc_d_text_of_units, od_d_text_of_units, .func (PySem.W.fnOf "text_of_units" "text_of_units" (defArgs s_text_of_units) (defBody s_text_of_units) (defScope s_text_of_units) .none kV_d_text_of_units dc_d_text_of_units pm_d_text_of_units an_d_text_of_units cd_d_text_of_units ct_d_text_of_units), sl_d_text_of_units⟩)
    (o_d_text_of_units : PySem.W.codeIn K cd_d_text_of_units "text_of_units" = true)
    (k_d_text_of_units : PySem.W.keepIn K (.ref d_text_of_units) = true)
    (a_d_beginning : PySem.W.nsIn K mainGlobals "beginning" = some (some (.ref d_beginning)))
    (l_d_beginning : K.lookup d_beginning = some ⟨oc_d_beginning, od_d_beginning, .func (PySem.W.fnOf "beginning" "beginning" (defArgs s_beginning) (defBody s_beginning) (defScope s_beginning) .none kV_d_beginning dc_d_beginning pm_d_beginning an_d_beginning cd_d_beginning ct_d_beginning), sl_d_beginning⟩)
    (o_d_beginning : PySem.W.codeIn K cd_d_beginning "beginning" = true)
    (k_d_beginning : PySem.W.keepIn K (.ref d_beginning) = true)
    (a_d_law_cell : PySem.W.nsIn K mainGlobals "_law_cell" = some (some (.ref d_law_cell)))
    (l_d_law_cell : K.lookup d_law_cell = some ⟨oc_d_law_cell, od_d_law_cell, .func (PySem.W.fnOf "_law_cell" "_law_cell" (defArgs s_law_cell) (defBody s_law_cell) (defScope s_law_cell) .none kV_d_law_cell dc_d_law_cell pm_d_law_cell an_d_law_cell cd_d_law_cell ct_d_law_cell), sl_d_law_cell⟩)
    (o_d_law_cell : PySem.W.codeIn K cd_d_law_cell "_law_cell" = true)
    (k_d_law_cell : PySem.W.keepIn K (.ref d_law_cell) = true)
    (a_d_law_box : PySem.W.nsIn K mainGlobals "_law_box" = some (some (.ref d_law_box)))
    (l_d_law_box : K.lookup d_law_box = some ⟨oc_d_law_box, od_d_law_box, .func (PySem.W.fnOf "_law_box" "_law_box" (defArgs s_law_box) (defBody s_law_box) (defScope s_law_box) .none kV_d_law_box dc_d_law_box pm_d_law_box an_d_law_box cd_d_law_box ct_d_law_box), sl_d_law_box⟩)
    (o_d_law_box : PySem.W.codeIn K cd_d_law_box "_law_box" = true)
    (k_d_law_box : PySem.W.keepIn K (.ref d_law_box) = true)
    (a_d_law_take : PySem.W.nsIn K mainGlobals "_law_take" = some (some (.ref d_law_take)))
    (l_d_law_take : K.lookup d_law_take = some ⟨oc_d_law_take, od_d_law_take, .func (PySem.W.fnOf "_law_take" "_law_take" (defArgs s_law_take) (defBody s_law_take) (defScope s_law_take) .none kV_d_law_take dc_d_law_take pm_d_law_take an_d_law_take cd_d_law_take ct_d_law_take), sl_d_law_take⟩)
    (o_d_law_take : PySem.W.codeIn K cd_d_law_take "_law_take" = true)
    (k_d_law_take : PySem.W.keepIn K (.ref d_law_take) = true)
    (a_d_law_char : PySem.W.nsIn K mainGlobals "_law_char" = some (some (.ref d_law_char)))
    (l_d_law_char : K.lookup d_law_char = some ⟨oc_d_law_char, od_d_law_char, .func (PySem.W.fnOf "_law_char" "_law_char" (defArgs s_law_char) (defBody s_law_char) (defScope s_law_char) .none kV_d_law_char dc_d_law_char pm_d_law_char an_d_law_char cd_d_law_char ct_d_law_char), sl_d_law_char⟩)
    (o_d_law_char : PySem.W.codeIn K cd_d_law_char "_law_char" = true)
    (k_d_law_char : PySem.W.keepIn K (.ref d_law_char) = true)
    (a_d_law_chars : PySem.W.nsIn K mainGlobals "_law_chars" = some (some (.ref d_law_chars)))
    (l_d_law_chars : K.lookup d_law_chars = some ⟨oc_d_law_chars, od_d_law_chars, .func (PySem.W.fnOf "_law_chars" "_law_chars" (defArgs s_law_chars) (defBody s_law_chars) (defScope s_law_chars) .none kV_d_law_chars dc_d_law_chars pm_d_law_chars an_d_law_chars cd_d_law_chars ct_d_law_chars), sl_d_law_chars⟩)
    (o_d_law_chars : PySem.W.codeIn K cd_d_law_chars "_law_chars" = true)
    (k_d_law_chars : PySem.W.keepIn K (.ref d_law_chars) = true)
    (a_d_law_sign : PySem.W.nsIn K mainGlobals "_law_sign" = some (some (.ref d_law_sign)))
    (l_d_law_sign : K.lookup d_law_sign = some ⟨oc_d_law_sign, od_d_law_sign, .func (PySem.W.fnOf "_law_sign" "_law_sign" (defArgs s_law_sign) (defBody s_law_sign) (defScope s_law_sign) .none kV_d_law_sign dc_d_law_sign pm_d_law_sign an_d_law_sign cd_d_law_sign ct_d_law_sign), sl_d_law_sign⟩)
    (o_d_law_sign : PySem.W.codeIn K cd_d_law_sign "_law_sign" = true)
    (k_d_law_sign : PySem.W.keepIn K (.ref d_law_sign) = true)
    (a_d_law_pair_right : PySem.W.nsIn K mainGlobals "_law_pair_right" = some (some (.ref d_law_pair_right)))
    (l_d_law_pair_right : K.lookup d_law_pair_right = some ⟨oc_d_law_pair_right, od_d_law_pair_right, .func (PySem.W.fnOf "_law_pair_right" "_law_pair_right" (defArgs s_law_pair_right) (defBody s_law_pair_right) (defScope s_law_pair_right) .none kV_d_law_pair_right dc_d_law_pair_right pm_d_law_pair_right an_d_law_pair_right cd_d_law_pair_right ct_d_law_pair_right), sl_d_law_pair_right⟩)
    (o_d_law_pair_right : PySem.W.codeIn K cd_d_law_pair_right "_law_pair_right" = true)
    (k_d_law_pair_right : PySem.W.keepIn K (.ref d_law_pair_right) = true)
    (a_d_law_cut_right : PySem.W.nsIn K mainGlobals "_law_cut_right" = some (some (.ref d_law_cut_right)))
    (l_d_law_cut_right : K.lookup d_law_cut_right = some ⟨oc_d_law_cut_right, od_d_law_cut_right, .func (PySem.W.fnOf "_law_cut_right" "_law_cut_right" (defArgs s_law_cut_right) (defBody s_law_cut_right) (defScope s_law_cut_right) .none kV_d_law_cut_right dc_d_law_cut_right pm_d_law_cut_right an_d_law_cut_right cd_d_law_cut_right ct_d_law_cut_right), sl_d_law_cut_right⟩)
    (o_d_law_cut_right : PySem.W.codeIn K cd_d_law_cut_right "_law_cut_right" = true)
    (k_d_law_cut_right : PySem.W.keepIn K (.ref d_law_cut_right) = true)
    (a_d_law : PySem.W.nsIn K mainGlobals "law" = some (some (.ref d_law)))
    (l_d_law : K.lookup d_law = some ⟨oc_d_law, od_d_law, .func (PySem.W.fnOf "law" "law" (defArgs s_law) (defBody s_law) (defScope s_law) .none kV_d_law dc_d_law pm_d_law an_d_law cd_d_law ct_d_law), sl_d_law⟩)
    (o_d_law : PySem.W.codeIn K cd_d_law "law" = true)
    (k_d_law : PySem.W.keepIn K (.ref d_law) = true)
    (a_Text : PySem.W.nsIn K mainGlobals "Text" = some (some (.ref c_Text)))
    (a_m_Text_init : PySem.W.findIn K (.ref c_Text) "__init__" = some (some (.ref m_Text_init)))
    (i_m_Text_init : PySem.W.isFn K (.ref m_Text_init) = true)
    (l_m_Text_init : K.lookup m_Text_init = some ⟨oc_m_Text_init, od_m_Text_init, .func (PySem.W.fnOf "__init__" "Text.__init__" (defArgs s_Text_init) (defBody s_Text_init) (defScope s_Text_init) .none kV_m_Text_init dc_m_Text_init pm_m_Text_init an_m_Text_init cd_m_Text_init ct_m_Text_init), sl_m_Text_init⟩)
    (o_m_Text_init : PySem.W.codeIn K cd_m_Text_init "Text.__init__" = true)
    (k_m_Text_init : PySem.W.keepIn K (.ref m_Text_init) = true)
    (a_m_Text_chars : PySem.W.findIn K (.ref c_Text) "chars" = some (some (.ref m_Text_chars)))
    (i_m_Text_chars : PySem.W.isFn K (.ref m_Text_chars) = true)
    (l_m_Text_chars : K.lookup m_Text_chars = some ⟨oc_m_Text_chars, od_m_Text_chars, .func (PySem.W.fnOf "chars" "Text.chars" (defArgs s_Text_chars) (defBody s_Text_chars) (defScope s_Text_chars) .none kV_m_Text_chars dc_m_Text_chars pm_m_Text_chars an_m_Text_chars cd_m_Text_chars ct_m_Text_chars), sl_m_Text_chars⟩)
    (o_m_Text_chars : PySem.W.codeIn K cd_m_Text_chars "Text.chars" = true)
    (k_m_Text_chars : PySem.W.keepIn K (.ref m_Text_chars) = true)
    (a_m_Text_count : PySem.W.findIn K (.ref c_Text) "count" = some (some (.ref m_Text_count)))
    (i_m_Text_count : PySem.W.isFn K (.ref m_Text_count) = true)
    (l_m_Text_count : K.lookup m_Text_count = some ⟨oc_m_Text_count, od_m_Text_count, .func (PySem.W.fnOf "count" "Text.count" (defArgs s_Text_count) (defBody s_Text_count) (defScope s_Text_count) .none kV_m_Text_count dc_m_Text_count pm_m_Text_count an_m_Text_count cd_m_Text_count ct_m_Text_count), sl_m_Text_count⟩)
    (o_m_Text_count : PySem.W.codeIn K cd_m_Text_count "Text.count" = true)
    (k_m_Text_count : PySem.W.keepIn K (.ref m_Text_count) = true)
    (a_m_Text_part : PySem.W.findIn K (.ref c_Text) "part" = some (some (.ref m_Text_part)))
    (i_m_Text_part : PySem.W.isFn K (.ref m_Text_part) = true)
    (l_m_Text_part : K.lookup m_Text_part = some ⟨oc_m_Text_part, od_m_Text_part, .func (PySem.W.fnOf "part" "Text.part" (defArgs s_Text_part) (defBody s_Text_part) (defScope s_Text_part) .none kV_m_Text_part dc_m_Text_part pm_m_Text_part an_m_Text_part cd_m_Text_part ct_m_Text_part), sl_m_Text_part⟩)
    (o_m_Text_part : PySem.W.codeIn K cd_m_Text_part "Text.part" = true)
    (k_m_Text_part : PySem.W.keepIn K (.ref m_Text_part) = true)
    (a_m_Text_len : PySem.W.findIn K (.ref c_Text) "__len__" = some (some (.ref m_Text_len)))
    (i_m_Text_len : PySem.W.isFn K (.ref m_Text_len) = true)
    (l_m_Text_len : K.lookup m_Text_len = some ⟨oc_m_Text_len, od_m_Text_len, .func (PySem.W.fnOf "__len__" "Text.__len__" (defArgs s_Text_len) (defBody s_Text_len) (defScope s_Text_len) .none kV_m_Text_len dc_m_Text_len pm_m_Text_len an_m_Text_len cd_m_Text_len ct_m_Text_len), sl_m_Text_len⟩)
    (o_m_Text_len : PySem.W.codeIn K cd_m_Text_len "Text.__len__" = true)
    (k_m_Text_len : PySem.W.keepIn K (.ref m_Text_len) = true)
    (a_m_Text_add : PySem.W.findIn K (.ref c_Text) "__add__" = some (some (.ref m_Text_add)))
    (i_m_Text_add : PySem.W.isFn K (.ref m_Text_add) = true)
    (l_m_Text_add : K.lookup m_Text_add = some ⟨oc_m_Text_add, od_m_Text_add, .func (PySem.W.fnOf "__add__" "Text.__add__" (defArgs s_Text_add) (defBody s_Text_add) (defScope s_Text_add) .none kV_m_Text_add dc_m_Text_add pm_m_Text_add an_m_Text_add cd_m_Text_add ct_m_Text_add), sl_m_Text_add⟩)
    (o_m_Text_add : PySem.W.codeIn K cd_m_Text_add "Text.__add__" = true)
    (k_m_Text_add : PySem.W.keepIn K (.ref m_Text_add) = true)
    (a_m_Text_eq : PySem.W.findIn K (.ref c_Text) "__eq__" = some (some (.ref m_Text_eq)))
    (i_m_Text_eq : PySem.W.isFn K (.ref m_Text_eq) = true)
    (l_m_Text_eq : K.lookup m_Text_eq = some ⟨oc_m_Text_eq, od_m_Text_eq, .func (PySem.W.fnOf "__eq__" "Text.__eq__" (defArgs s_Text_eq) (defBody s_Text_eq) (defScope s_Text_eq) .none kV_m_Text_eq dc_m_Text_eq pm_m_Text_eq an_m_Text_eq cd_m_Text_eq ct_m_Text_eq), sl_m_Text_eq⟩)
    (o_m_Text_eq : PySem.W.codeIn K cd_m_Text_eq "Text.__eq__" = true)
    (k_m_Text_eq : PySem.W.keepIn K (.ref m_Text_eq) = true)
    (a_m_Text_lt : PySem.W.findIn K (.ref c_Text) "__lt__" = some (some (.ref m_Text_lt)))
    (i_m_Text_lt : PySem.W.isFn K (.ref m_Text_lt) = true)
    (l_m_Text_lt : K.lookup m_Text_lt = some ⟨oc_m_Text_lt, od_m_Text_lt, .func (PySem.W.fnOf "__lt__" "Text.__lt__" (defArgs s_Text_lt) (defBody s_Text_lt) (defScope s_Text_lt) .none kV_m_Text_lt dc_m_Text_lt pm_m_Text_lt an_m_Text_lt cd_m_Text_lt ct_m_Text_lt), sl_m_Text_lt⟩)
    (o_m_Text_lt : PySem.W.codeIn K cd_m_Text_lt "Text.__lt__" = true)
    (k_m_Text_lt : PySem.W.keepIn K (.ref m_Text_lt) = true)
    (pg_Text : PySem.W.plainGet K c_Text Str.empty = true)
    (hd_Text : PySem.W.hasDictIn K c_Text = true)
    (po_Text : PySem.W.plainOver K c_Text = true)
    (sa_Text : PySem.W.findIn K (.ref c_Text) "__setattr__" = some (some (.builtin "object.__setattr__")))
    (ca_Text : PySem.W.findIn K (.ref c_Text) "__class__" = some (some (.builtin "object.__class__")))
    (mo_Text : PySem.W.mroIn K c_Text (.type "object") = some true)
    (mk_Text : PySem.W.makesIn K c_Text = true)
    (kc_Text : PySem.W.keepIn K (.ref c_Text) = true)
    (n_Text_own_chars : PySem.W.findIn K (.ref c_Text) "own_chars" = some none)
    (n_Text_own_counts : PySem.W.findIn K (.ref c_Text) "own_counts" = some none)
    (a_Reader : PySem.W.nsIn K mainGlobals "Reader" = some (some (.ref c_Reader)))
    (a_m_Reader_init : PySem.W.findIn K (.ref c_Reader) "__init__" = some (some (.ref m_Reader_init)))
    (i_m_Reader_init : PySem.W.isFn K (.ref m_Reader_init) = true)
    (l_m_Reader_init : K.lookup m_Reader_init = some ⟨oc_m_Reader_init, od_m_Reader_init, .func (PySem.W.fnOf "__init__" "Reader.__init__" (defArgs s_Reader_init) (defBody s_Reader_init) (defScope s_Reader_init) .none kV_m_Reader_init dc_m_Reader_init pm_m_Reader_init an_m_Reader_init cd_m_Reader_init ct_m_Reader_init), sl_m_Reader_init⟩)
    (o_m_Reader_init : PySem.W.codeIn K cd_m_Reader_init "Reader.__init__" = true)
    (k_m_Reader_init : PySem.W.keepIn K (.ref m_Reader_init) = true)
    (a_m_Reader_read : PySem.W.findIn K (.ref c_Reader) "read" = some (some (.ref m_Reader_read)))
    (i_m_Reader_read : PySem.W.isFn K (.ref m_Reader_read) = true)
    (l_m_Reader_read : K.lookup m_Reader_read = some ⟨oc_m_Reader_read, od_m_Reader_read, .func (PySem.W.fnOf "read" "Reader.read" (defArgs s_Reader_read) (defBody s_Reader_read) (defScope s_Reader_read) .none kV_m_Reader_read dc_m_Reader_read pm_m_Reader_read an_m_Reader_read cd_m_Reader_read ct_m_Reader_read), sl_m_Reader_read⟩)
    (o_m_Reader_read : PySem.W.codeIn K cd_m_Reader_read "Reader.read" = true)
    (k_m_Reader_read : PySem.W.keepIn K (.ref m_Reader_read) = true)
    (a_m_Reader_feed : PySem.W.findIn K (.ref c_Reader) "feed" = some (some (.ref m_Reader_feed)))
    (i_m_Reader_feed : PySem.W.isFn K (.ref m_Reader_feed) = true)
    (l_m_Reader_feed : K.lookup m_Reader_feed = some ⟨oc_m_Reader_feed, od_m_Reader_feed, .func (PySem.W.fnOf "feed" "Reader.feed" (defArgs s_Reader_feed) (defBody s_Reader_feed) (defScope s_Reader_feed) .none kV_m_Reader_feed dc_m_Reader_feed pm_m_Reader_feed an_m_Reader_feed cd_m_Reader_feed ct_m_Reader_feed), sl_m_Reader_feed⟩)
    (o_m_Reader_feed : PySem.W.codeIn K cd_m_Reader_feed "Reader.feed" = true)
    (k_m_Reader_feed : PySem.W.keepIn K (.ref m_Reader_feed) = true)
    (a_m_Reader_pending : PySem.W.findIn K (.ref c_Reader) "pending" = some (some (.ref m_Reader_pending)))
    (i_m_Reader_pending : PySem.W.isFn K (.ref m_Reader_pending) = true)
    (l_m_Reader_pending : K.lookup m_Reader_pending = some ⟨oc_m_Reader_pending, od_m_Reader_pending, .func (PySem.W.fnOf "pending" "Reader.pending" (defArgs s_Reader_pending) (defBody s_Reader_pending) (defScope s_Reader_pending) .none kV_m_Reader_pending dc_m_Reader_pending pm_m_Reader_pending an_m_Reader_pending cd_m_Reader_pending ct_m_Reader_pending), sl_m_Reader_pending⟩)
    (o_m_Reader_pending : PySem.W.codeIn K cd_m_Reader_pending "Reader.pending" = true)
    (k_m_Reader_pending : PySem.W.keepIn K (.ref m_Reader_pending) = true)
    (a_m_Reader_text : PySem.W.findIn K (.ref c_Reader) "text" = some (some (.ref m_Reader_text)))
    (i_m_Reader_text : PySem.W.isFn K (.ref m_Reader_text) = true)
    (l_m_Reader_text : K.lookup m_Reader_text = some ⟨oc_m_Reader_text, od_m_Reader_text, .func (PySem.W.fnOf "text" "Reader.text" (defArgs s_Reader_text) (defBody s_Reader_text) (defScope s_Reader_text) .none kV_m_Reader_text dc_m_Reader_text pm_m_Reader_text an_m_Reader_text cd_m_Reader_text ct_m_Reader_text), sl_m_Reader_text⟩)
    (o_m_Reader_text : PySem.W.codeIn K cd_m_Reader_text "Reader.text" = true)
    (k_m_Reader_text : PySem.W.keepIn K (.ref m_Reader_text) = true)
    (a_m_Reader_close : PySem.W.findIn K (.ref c_Reader) "close" = some (some (.ref m_Reader_close)))
    (i_m_Reader_close : PySem.W.isFn K (.ref m_Reader_close) = true)
    (l_m_Reader_close : K.lookup m_Reader_close = some ⟨oc_m_Reader_close, od_m_Reader_close, .func (PySem.W.fnOf "close" "Reader.close" (defArgs s_Reader_close) (defBody s_Reader_close) (defScope s_Reader_close) .none kV_m_Reader_close dc_m_Reader_close pm_m_Reader_close an_m_Reader_close cd_m_Reader_close ct_m_Reader_close), sl_m_Reader_close⟩)
    (o_m_Reader_close : PySem.W.codeIn K cd_m_Reader_close "Reader.close" = true)
    (k_m_Reader_close : PySem.W.keepIn K (.ref m_Reader_close) = true)
    (a_m_Reader_len : PySem.W.findIn K (.ref c_Reader) "__len__" = some (some (.ref m_Reader_len)))
    (i_m_Reader_len : PySem.W.isFn K (.ref m_Reader_len) = true)
    (l_m_Reader_len : K.lookup m_Reader_len = some ⟨oc_m_Reader_len, od_m_Reader_len, .func (PySem.W.fnOf "__len__" "Reader.__len__" (defArgs s_Reader_len) (defBody s_Reader_len) (defScope s_Reader_len) .none kV_m_Reader_len dc_m_Reader_len pm_m_Reader_len an_m_Reader_len cd_m_Reader_len ct_m_Reader_len), sl_m_Reader_len⟩)
    (o_m_Reader_len : PySem.W.codeIn K cd_m_Reader_len "Reader.__len__" = true)
    (k_m_Reader_len : PySem.W.keepIn K (.ref m_Reader_len) = true)
    (pg_Reader : PySem.W.plainGet K c_Reader Str.empty = true)
    (hd_Reader : PySem.W.hasDictIn K c_Reader = true)
    (po_Reader : PySem.W.plainOver K c_Reader = true)
    (sa_Reader : PySem.W.findIn K (.ref c_Reader) "__setattr__" = some (some (.builtin "object.__setattr__")))
    (ca_Reader : PySem.W.findIn K (.ref c_Reader) "__class__" = some (some (.builtin "object.__class__")))
    (mo_Reader : PySem.W.mroIn K c_Reader (.type "object") = some true)
    (mk_Reader : PySem.W.makesIn K c_Reader = true)
    (kc_Reader : PySem.W.keepIn K (.ref c_Reader) = true)
    (n_Reader_own_kind : PySem.W.findIn K (.ref c_Reader) "own_kind" = some none)
    (n_Reader_found_chars : PySem.W.findIn K (.ref c_Reader) "found_chars" = some none)
    (n_Reader_waiting : PySem.W.findIn K (.ref c_Reader) "waiting" = some none)
    (n_Reader_fed_items : PySem.W.findIn K (.ref c_Reader) "fed_items" = some none)
    (n_Reader_is_closed : PySem.W.findIn K (.ref c_Reader) "is_closed" = some none)
    (h_get : PySem.W.specialIn K (.builtin "object.__class__") "__get__" = some (some (.builtin "getset_descriptor.__get__")))
    (h_tak : PySem.W.takesIn K (.builtin "object.__class__") = some true)
    (ne_Text : PySem.W.findIn K (.ref c_Text) "__ne__" = some (some (.builtin "object.__ne__")))
    (gt_Text : PySem.W.findIn K (.ref c_Text) "__gt__" = some (some (.builtin "object.__gt__")))
    (sf_Text : PySem.W.selfFirst K c_Text = true)
    (a_missing : PySem.W.findIn K (.ref c_Reader) "missing" = some (some (.ref p_missing)))
    (r_missing : PySem.W.recIn K p_missing "property" = some (.ref m_Reader_missing :: rest_missing))
    (s_missing : PySem.W.specialIn K (.ref p_missing) "__get__" = some (some (.builtin "property.__get__")))
    (t_missing : PySem.W.takesIn K (.ref p_missing) = some true)
    (l_m_Reader_missing : K.lookup m_Reader_missing = some ⟨oc_m_Reader_missing, od_m_Reader_missing, .func (PySem.W.fnOf "missing" "Reader.missing" (defArgs s_Reader_missing) (defBody s_Reader_missing) (defScope s_Reader_missing) .none kV_m_Reader_missing dc_m_Reader_missing pm_m_Reader_missing an_m_Reader_missing cd_m_Reader_missing ct_m_Reader_missing), sl_m_Reader_missing⟩)
    (o_m_Reader_missing : PySem.W.codeIn K cd_m_Reader_missing "Reader.missing" = true)
    (k_m_Reader_missing : PySem.W.keepIn K (.ref m_Reader_missing) = true)
    (a_Bad : PySem.W.nsIn K mainGlobals "BadSequence" = some (some (.ref c_Bad)))
    (i_Bad : PySem.W.findIn K (.ref c_Bad) "__init__" = some (some (.ref m_Bad_init)))
    (l_m_Bad_init : K.lookup m_Bad_init = some ⟨oc_m_Bad_init, od_m_Bad_init, .func (PySem.W.fnOf "__init__" "BadSequence.__init__" (defArgs s_Bad_init) (defBody s_Bad_init) (defScope s_Bad_init) .none kV_m_Bad_init dc_m_Bad_init pm_m_Bad_init an_m_Bad_init cd_m_Bad_init ct_m_Bad_init), sl_m_Bad_init⟩)
    (o_m_Bad_init : PySem.W.codeIn K cd_m_Bad_init "BadSequence.__init__" = true)
    (k_m_Bad_init : PySem.W.keepIn K (.ref m_Bad_init) = true)
    (x_Bad : K.lookup c_Bad = some (excClassObj nmB qB c_Bad NB bsB [.ref c_Place, .type "ValueError", .type "Exception", .type "BaseException", .type "object"] true snB subB abB colB ddB m0 m1 m2 m3 m5 "ValueError.__new__"))
    (sa_Bad : PySem.W.findIn K (.ref c_Bad) "__setattr__" = some (some (.builtin "object.__setattr__")))
    (eC_Bad : PySem.W.subIn K (.ref c_Bad) (.type "BaseException") = some true)
    (tC_Bad : PySem.W.typeIn K (.ref c_Bad) = some (.type "type"))
    (kC_Bad : PySem.W.keepIn K (.ref c_Bad) = true)
    (iC_Bad : PySem.W.isClsIn K c_Bad = true)
    (sC_Bad : PySem.W.subIn K (.ref c_Bad) (.ref c_Bad) = some true)
    (ti_Bad : PySem.W.typeIn K (.ref m_Bad_init) = some (.type "function"))
    (n_Bad : PySem.W.findIn K (.ref c_Bad) "index" = some none)
    (a_Place : PySem.W.nsIn K mainGlobals "PlaceError" = some (some (.ref c_Place)))
    (ga_Place : PySem.W.specialIn K (.ref c_Place) "__getattribute__" = some (some (.builtin "type.__getattribute__")))
    (rd_Place : PySem.W.readsIn K c_Place (.type "type") = true)
    (cv_Place : PySem.W.findCls K (.ref c_Place) (.type "type") "__init__" = some (.val (.builtin "ValueError.__init__")))
    (a_LAST_CHAR : PySem.W.nsIn K mainGlobals "LAST_CHAR" = some (some (.int 1114111 tk_LAST_CHAR)))
    (a_LOW_GAP : PySem.W.nsIn K mainGlobals "LOW_GAP" = some (some (.int 55296 tk_LOW_GAP)))
    (a_HIGH_GAP : PySem.W.nsIn K mainGlobals "HIGH_GAP" = some (some (.int 57343 tk_HIGH_GAP)))
    (a_TWO : PySem.W.nsIn K mainGlobals "TWO" = some (some (.int 128 tk_TWO)))
    (a_THREE : PySem.W.nsIn K mainGlobals "THREE" = some (some (.int 2048 tk_THREE)))
    (a_FOUR : PySem.W.nsIn K mainGlobals "FOUR" = some (some (.int 65536 tk_FOUR)))
    (a_HIGH : PySem.W.nsIn K mainGlobals "HIGH" = some (some (.int 55296 tk_HIGH)))
    (a_LOW : PySem.W.nsIn K mainGlobals "LOW" = some (some (.int 56320 tk_LOW)))
    (a_LAST_BYTE : PySem.W.nsIn K mainGlobals "LAST_BYTE" = some (some (.int 255 tk_LAST_BYTE)))
    (a_LAST_UNIT : PySem.W.nsIn K mainGlobals "LAST_UNIT" = some (some (.int 65535 tk_LAST_UNIT)))
    (a_FIRST_OF_MORE : PySem.W.nsIn K mainGlobals "FIRST_OF_MORE" = some (some (.int 65536 tk_FIRST_OF_MORE)))
    (a_BYTES_texts : PySem.W.nsIn K mainGlobals "BYTES_texts" = some (some (.str "bytes" tk_BYTES_texts)))
    (a_UNITS_texts : PySem.W.nsIn K mainGlobals "UNITS_texts" = some (some (.str "units" tk_UNITS_texts)))
    (a_CHARS_texts : PySem.W.nsIn K mainGlobals "CHARS_texts" = some (some (.str "chars" tk_CHARS_texts)))
    (a_KINDS : PySem.W.nsIn K mainGlobals "KINDS" = some (some (.ref t_KINDS)))
    (l_t_KINDS : K.lookup t_KINDS = some ⟨.type "tuple", dd_t_KINDS, .seq #[.str "bytes" tk_t_KINDS_0, .str "units" tk_t_KINDS_1, .str "chars" tk_t_KINDS_2] nn_t_KINDS, sl_t_KINDS⟩)
    (a_OTHERS : PySem.W.nsIn K mainGlobals "OTHERS" = some (some (.ref t_OTHERS)))
    (l_t_OTHERS : K.lookup t_OTHERS = some ⟨.type "tuple", dd_t_OTHERS, .seq #[.int 128 tk_t_OTHERS_0, .int 191 tk_t_OTHERS_1] nn_t_OTHERS, sl_t_OTHERS⟩)
    (a_HIGHS : PySem.W.nsIn K mainGlobals "HIGHS" = some (some (.ref t_HIGHS)))
    (l_t_HIGHS : K.lookup t_HIGHS = some ⟨.type "tuple", dd_t_HIGHS, .seq #[.int 55296 tk_t_HIGHS_0, .int 56319 tk_t_HIGHS_1] nn_t_HIGHS, sl_t_HIGHS⟩)
    (a_LOWS : PySem.W.nsIn K mainGlobals "LOWS" = some (some (.ref t_LOWS)))
    (l_t_LOWS : K.lookup t_LOWS = some ⟨.type "tuple", dd_t_LOWS, .seq #[.int 56320 tk_t_LOWS_0, .int 57343 tk_t_LOWS_1] nn_t_LOWS, sl_t_LOWS⟩)
    (a_LEADS_texts : PySem.W.nsIn K mainGlobals "LEADS_texts" = some (some (.ref t_LEADS_texts)))
    (l_t_LEADS_texts : K.lookup t_LEADS_texts = some ⟨.type "tuple", dd_t_LEADS_texts, .seq #[.int 0 tk_t_LEADS_texts_0, .int 0 tk_t_LEADS_texts_1, .int 192 tk_t_LEADS_texts_2, .int 224 tk_t_LEADS_texts_3, .int 240 tk_t_LEADS_texts_4] nn_t_LEADS_texts, sl_t_LEADS_texts⟩)
    (a_SECONDS : PySem.W.nsIn K mainGlobals "SECONDS" = some (some (.ref t_SECONDS)))
    (l_SECONDS : K.lookup t_SECONDS = some ⟨.type "dict", none, .dict #[⟨224, .int 224 ts0, .ref t_sec0⟩, ⟨237, .int 237 ts1, .ref t_sec1⟩, ⟨240, .int 240 ts2, .ref t_sec2⟩, ⟨244, .int 244 ts3, .ref t_sec3⟩] nS, #[]⟩)
    (ne_SECONDS : (t_SECONDS == sysModules) = false)
    (l_t_sec0 : K.lookup t_sec0 = some ⟨.type "tuple", dd_t_sec0, .seq #[.int 160 tk_t_sec0_0, .int 191 tk_t_sec0_1] nn_t_sec0, sl_t_sec0⟩)
    (l_t_sec1 : K.lookup t_sec1 = some ⟨.type "tuple", dd_t_sec1, .seq #[.int 128 tk_t_sec1_0, .int 159 tk_t_sec1_1] nn_t_sec1, sl_t_sec1⟩)
    (l_t_sec2 : K.lookup t_sec2 = some ⟨.type "tuple", dd_t_sec2, .seq #[.int 144 tk_t_sec2_0, .int 191 tk_t_sec2_1] nn_t_sec2, sl_t_sec2⟩)
    (l_t_sec3 : K.lookup t_sec3 = some ⟨.type "tuple", dd_t_sec3, .seq #[.int 128 tk_t_sec3_0, .int 143 tk_t_sec3_1] nn_t_sec3, sl_t_sec3⟩)
    (a_LEADS : PySem.W.nsIn K mainGlobals "LEADS_codecs" = some (some (.ref t_LEADS)))
    (l_t_LEADS : K.lookup t_LEADS = some ⟨.type "tuple", dd_t_LEADS, .seq #[.ref t_lead0, .ref t_lead1, .ref t_lead2] nn_t_LEADS, sl_t_LEADS⟩)
    (l_t_lead0 : K.lookup t_lead0 = some ⟨.type "tuple", dd_t_lead0, .seq #[.int 194 tk_t_lead0_0, .int 223 tk_t_lead0_1, .int 2 tk_t_lead0_2] nn_t_lead0, sl_t_lead0⟩)
    (l_t_lead1 : K.lookup t_lead1 = some ⟨.type "tuple", dd_t_lead1, .seq #[.int 224 tk_t_lead1_0, .int 239 tk_t_lead1_1, .int 3 tk_t_lead1_2] nn_t_lead1, sl_t_lead1⟩)
    (l_t_lead2 : K.lookup t_lead2 = some ⟨.type "tuple", dd_t_lead2, .seq #[.int 240 tk_t_lead2_0, .int 244 tk_t_lead2_1, .int 4 tk_t_lead2_2] nn_t_lead2, sl_t_lead2⟩)
    (z_isinstance : PySem.W.nsIn K mainGlobals "isinstance" = some none)
    (z_int : PySem.W.nsIn K mainGlobals "int" = some none)
    (z_bool : PySem.W.nsIn K mainGlobals "bool" = some none)
    (z_str : PySem.W.nsIn K mainGlobals "str" = some none)
    (z_list : PySem.W.nsIn K mainGlobals "list" = some none)
    (z_tuple : PySem.W.nsIn K mainGlobals "tuple" = some none)
    (z_sum : PySem.W.nsIn K mainGlobals "sum" = some none)
    (z_len : PySem.W.nsIn K mainGlobals "len" = some none)
    (z_range : PySem.W.nsIn K mainGlobals "range" = some none)
    (z_enumerate : PySem.W.nsIn K mainGlobals "enumerate" = some none)
    (z_all : PySem.W.nsIn K mainGlobals "all" = some none)
    (z_min : PySem.W.nsIn K mainGlobals "min" = some none)
    (z_max : PySem.W.nsIn K mainGlobals "max" = some none)
    : Txt K mg ⟨d_is_integer, d_is_char, d_is_list, d_is_kind, d_need_char, d_need_kind, d_need_chars, d_wide, d_bytes_in, d_items_in, d_counts_in, d_chars_of, d_need_more, d_need_text, d_joined, d_all_items, d_compare, d_byte_list, d_unit_list, d_is_items, d_need_items, d_byte_size, d_unit_size, d_size_of, d_goes_on, d_char_of, d_text_of, d_text_of_bytes, d_text_of_units, d_beginning, d_law_cell, d_law_box, d_law_take, d_law_char, d_law_chars, d_law_sign, d_law_pair_right, d_law_cut_right, d_law, c_Text, m_Text_init, m_Text_chars, m_Text_count, m_Text_part, m_Text_len, m_Text_add, m_Text_eq, m_Text_lt, c_Reader, m_Reader_init, m_Reader_read, m_Reader_feed, m_Reader_pending, m_Reader_text, m_Reader_close, m_Reader_len, p_missing, m_Reader_missing, c_Bad, m_Bad_init, c_Place, t_KINDS, t_OTHERS, t_HIGHS, t_LOWS, t_LEADS_texts, t_SECONDS, t_LEADS, t_sec0, t_sec1, t_sec2, t_sec3, t_lead0, t_lead1, t_lead2⟩ :=
  { d_is_integer := ⟨⟨_, fun_mk (st := s_is_integer) l_d_is_integer o_d_is_integer k_d_is_integer⟩, PySem.W.mg_of X G a_d_is_integer, k_d_is_integer⟩,
    d_is_char := ⟨⟨_, fun_mk (st := s_is_char) l_d_is_char o_d_is_char k_d_is_char⟩, PySem.W.mg_of X G a_d_is_char, k_d_is_char⟩,
    d_is_list := ⟨⟨_, fun_mk (st := s_is_list) l_d_is_list o_d_is_list k_d_is_list⟩, PySem.W.mg_of X G a_d_is_list, k_d_is_list⟩,
    d_is_kind := ⟨⟨_, fun_mk (st := s_is_kind) l_d_is_kind o_d_is_kind k_d_is_kind⟩, PySem.W.mg_of X G a_d_is_kind, k_d_is_kind⟩,
    d_need_char := ⟨⟨_, fun_mk (st := s_need_char) l_d_need_char o_d_need_char k_d_need_char⟩, PySem.W.mg_of X G a_d_need_char, k_d_need_char⟩,
    d_need_kind := ⟨⟨_, fun_mk (st := s_need_kind) l_d_need_kind o_d_need_kind k_d_need_kind⟩, PySem.W.mg_of X G a_d_need_kind, k_d_need_kind⟩,
    d_need_chars := ⟨⟨_, fun_mk (st := s_need_chars) l_d_need_chars o_d_need_chars k_d_need_chars⟩, PySem.W.mg_of X G a_d_need_chars, k_d_need_chars⟩,
    d_wide := ⟨⟨_, fun_mk (st := s_wide) l_d_wide o_d_wide k_d_wide⟩, PySem.W.mg_of X G a_d_wide, k_d_wide⟩,
    d_bytes_in := ⟨⟨_, fun_mk (st := s_bytes_in) l_d_bytes_in o_d_bytes_in k_d_bytes_in⟩, PySem.W.mg_of X G a_d_bytes_in, k_d_bytes_in⟩,
    d_items_in := ⟨⟨_, fun_mk (st := s_items_in) l_d_items_in o_d_items_in k_d_items_in⟩, PySem.W.mg_of X G a_d_items_in, k_d_items_in⟩,
    d_counts_in := ⟨⟨_, fun_mk (st := s_counts_in) l_d_counts_in o_d_counts_in k_d_counts_in⟩, PySem.W.mg_of X G a_d_counts_in, k_d_counts_in⟩,
    d_chars_of := ⟨⟨_, fun_mk (st := s_chars_of) l_d_chars_of o_d_chars_of k_d_chars_of⟩, PySem.W.mg_of X G a_d_chars_of, k_d_chars_of⟩,
    d_need_more := ⟨⟨_, fun_mk (st := s_need_more) l_d_need_more o_d_need_more k_d_need_more⟩, PySem.W.mg_of X G a_d_need_more, k_d_need_more⟩,
    d_need_text := ⟨⟨_, fun_mk (st := s_need_text) l_d_need_text o_d_need_text k_d_need_text⟩, PySem.W.mg_of X G a_d_need_text, k_d_need_text⟩,
    d_joined := ⟨⟨_, fun_mk (st := s_joined) l_d_joined o_d_joined k_d_joined⟩, PySem.W.mg_of X G a_d_joined, k_d_joined⟩,
    d_all_items := ⟨⟨_, fun_mk (st := s_all_items) l_d_all_items o_d_all_items k_d_all_items⟩, PySem.W.mg_of X G a_d_all_items, k_d_all_items⟩,
    d_compare := ⟨⟨_, fun_mk (st := s_compare) l_d_compare o_d_compare k_d_compare⟩, PySem.W.mg_of X G a_d_compare, k_d_compare⟩,
    d_byte_list := ⟨⟨_, fun_mk (st := s_byte_list) l_d_byte_list o_d_byte_list k_d_byte_list⟩, PySem.W.mg_of X G a_d_byte_list, k_d_byte_list⟩,
    d_unit_list := ⟨⟨_, fun_mk (st := s_unit_list) l_d_unit_list o_d_unit_list k_d_unit_list⟩, PySem.W.mg_of X G a_d_unit_list, k_d_unit_list⟩,
    d_is_items := ⟨⟨_, fun_mk (st := s_is_items) l_d_is_items o_d_is_items k_d_is_items⟩, PySem.W.mg_of X G a_d_is_items, k_d_is_items⟩,
    d_need_items := ⟨⟨_, fun_mk (st := s_need_items) l_d_need_items o_d_need_items k_d_need_items⟩, PySem.W.mg_of X G a_d_need_items, k_d_need_items⟩,
    d_byte_size := ⟨⟨_, fun_mk (st := s_byte_size) l_d_byte_size o_d_byte_size k_d_byte_size⟩, PySem.W.mg_of X G a_d_byte_size, k_d_byte_size⟩,
    d_unit_size := ⟨⟨_, fun_mk (st := s_unit_size) l_d_unit_size o_d_unit_size k_d_unit_size⟩, PySem.W.mg_of X G a_d_unit_size, k_d_unit_size⟩,
    d_size_of := ⟨⟨_, fun_mk (st := s_size_of) l_d_size_of o_d_size_of k_d_size_of⟩, PySem.W.mg_of X G a_d_size_of, k_d_size_of⟩,
    d_goes_on := ⟨⟨_, fun_mk (st := s_goes_on) l_d_goes_on o_d_goes_on k_d_goes_on⟩, PySem.W.mg_of X G a_d_goes_on, k_d_goes_on⟩,
    d_char_of := ⟨⟨_, fun_mk (st := s_char_of) l_d_char_of o_d_char_of k_d_char_of⟩, PySem.W.mg_of X G a_d_char_of, k_d_char_of⟩,
    d_text_of := ⟨⟨_, fun_mk (st := s_text_of) l_d_text_of o_d_text_of k_d_text_of⟩, PySem.W.mg_of X G a_d_text_of, k_d_text_of⟩,
    d_text_of_bytes := ⟨⟨_, fun_mk (st := s_text_of_bytes) l_d_text_of_bytes o_d_text_of_bytes k_d_text_of_bytes⟩, PySem.W.mg_of X G a_d_text_of_bytes, k_d_text_of_bytes⟩,
    d_text_of_units := ⟨⟨_, fun_mk (st := s_text_of_units) l_d_text_of_units o_d_text_of_units k_d_text_of_units⟩, PySem.W.mg_of X G a_d_text_of_units, k_d_text_of_units⟩,
    d_beginning := ⟨⟨_, fun_mk (st := s_beginning) l_d_beginning o_d_beginning k_d_beginning⟩, PySem.W.mg_of X G a_d_beginning, k_d_beginning⟩,
    d_law_cell := ⟨⟨_, fun_mk (st := s_law_cell) l_d_law_cell o_d_law_cell k_d_law_cell⟩, PySem.W.mg_of X G a_d_law_cell, k_d_law_cell⟩,
    d_law_box := ⟨⟨_, fun_mk (st := s_law_box) l_d_law_box o_d_law_box k_d_law_box⟩, PySem.W.mg_of X G a_d_law_box, k_d_law_box⟩,
    d_law_take := ⟨⟨_, fun_mk (st := s_law_take) l_d_law_take o_d_law_take k_d_law_take⟩, PySem.W.mg_of X G a_d_law_take, k_d_law_take⟩,
    d_law_char := ⟨⟨_, fun_mk (st := s_law_char) l_d_law_char o_d_law_char k_d_law_char⟩, PySem.W.mg_of X G a_d_law_char, k_d_law_char⟩,
    d_law_chars := ⟨⟨_, fun_mk (st := s_law_chars) l_d_law_chars o_d_law_chars k_d_law_chars⟩, PySem.W.mg_of X G a_d_law_chars, k_d_law_chars⟩,
    d_law_sign := ⟨⟨_, fun_mk (st := s_law_sign) l_d_law_sign o_d_law_sign k_d_law_sign⟩, PySem.W.mg_of X G a_d_law_sign, k_d_law_sign⟩,
    d_law_pair_right := ⟨⟨_, fun_mk (st := s_law_pair_right) l_d_law_pair_right o_d_law_pair_right k_d_law_pair_right⟩, PySem.W.mg_of X G a_d_law_pair_right, k_d_law_pair_right⟩,
    d_law_cut_right := ⟨⟨_, fun_mk (st := s_law_cut_right) l_d_law_cut_right o_d_law_cut_right k_d_law_cut_right⟩, PySem.W.mg_of X G a_d_law_cut_right, k_d_law_cut_right⟩,
    d_law := ⟨⟨_, fun_mk (st := s_law) l_d_law o_d_law k_d_law⟩, PySem.W.mg_of X G a_d_law, k_d_law⟩,
    m_Text_init := ⟨⟨_, fun_mk (st := s_Text_init) l_m_Text_init o_m_Text_init k_m_Text_init⟩, ⟨a_m_Text_init, i_m_Text_init, k_m_Text_init⟩⟩,
    m_Text_chars := ⟨⟨_, fun_mk (st := s_Text_chars) l_m_Text_chars o_m_Text_chars k_m_Text_chars⟩, ⟨a_m_Text_chars, i_m_Text_chars, k_m_Text_chars⟩⟩,
    m_Text_count := ⟨⟨_, fun_mk (st := s_Text_count) l_m_Text_count o_m_Text_count k_m_Text_count⟩, ⟨a_m_Text_count, i_m_Text_count, k_m_Text_count⟩⟩,
    m_Text_part := ⟨⟨_, fun_mk (st := s_Text_part) l_m_Text_part o_m_Text_part k_m_Text_part⟩, ⟨a_m_Text_part, i_m_Text_part, k_m_Text_part⟩⟩,
    m_Text_len := ⟨⟨_, fun_mk (st := s_Text_len) l_m_Text_len o_m_Text_len k_m_Text_len⟩, ⟨a_m_Text_len, i_m_Text_len, k_m_Text_len⟩⟩,
    m_Text_add := ⟨⟨_, fun_mk (st := s_Text_add) l_m_Text_add o_m_Text_add k_m_Text_add⟩, ⟨a_m_Text_add, i_m_Text_add, k_m_Text_add⟩⟩,
    m_Text_eq := ⟨⟨_, fun_mk (st := s_Text_eq) l_m_Text_eq o_m_Text_eq k_m_Text_eq⟩, ⟨a_m_Text_eq, i_m_Text_eq, k_m_Text_eq⟩⟩,
    m_Text_lt := ⟨⟨_, fun_mk (st := s_Text_lt) l_m_Text_lt o_m_Text_lt k_m_Text_lt⟩, ⟨a_m_Text_lt, i_m_Text_lt, k_m_Text_lt⟩⟩,
    g_Text := PySem.W.mg_of X G a_Text,
    i_Text := ⟨⟨pg_Text, hd_Text, po_Text, sa_Text⟩, ca_Text, h_get, h_tak, mo_Text, kit_self⟩,
    k_Text := ⟨mk_Text, a_m_Text_init, i_m_Text_init, kc_Text⟩,
    n_Text_own_chars := n_Text_own_chars,
    n_Text_own_counts := n_Text_own_counts,
    m_Reader_init := ⟨⟨_, fun_mk (st := s_Reader_init) l_m_Reader_init o_m_Reader_init k_m_Reader_init⟩, ⟨a_m_Reader_init, i_m_Reader_init, k_m_Reader_init⟩⟩,
    m_Reader_read := ⟨⟨_, fun_mk (st := s_Reader_read) l_m_Reader_read o_m_Reader_read k_m_Reader_read⟩, ⟨a_m_Reader_read, i_m_Reader_read, k_m_Reader_read⟩⟩,
    m_Reader_feed := ⟨⟨_, fun_mk (st := s_Reader_feed) l_m_Reader_feed o_m_Reader_feed k_m_Reader_feed⟩, ⟨a_m_Reader_feed, i_m_Reader_feed, k_m_Reader_feed⟩⟩,
    m_Reader_pending := ⟨⟨_, fun_mk (st := s_Reader_pending) l_m_Reader_pending o_m_Reader_pending k_m_Reader_pending⟩, ⟨a_m_Reader_pending, i_m_Reader_pending, k_m_Reader_pending⟩⟩,
    m_Reader_text := ⟨⟨_, fun_mk (st := s_Reader_text) l_m_Reader_text o_m_Reader_text k_m_Reader_text⟩, ⟨a_m_Reader_text, i_m_Reader_text, k_m_Reader_text⟩⟩,
    m_Reader_close := ⟨⟨_, fun_mk (st := s_Reader_close) l_m_Reader_close o_m_Reader_close k_m_Reader_close⟩, ⟨a_m_Reader_close, i_m_Reader_close, k_m_Reader_close⟩⟩,
    m_Reader_len := ⟨⟨_, fun_mk (st := s_Reader_len) l_m_Reader_len o_m_Reader_len k_m_Reader_len⟩, ⟨a_m_Reader_len, i_m_Reader_len, k_m_Reader_len⟩⟩,
    g_Reader := PySem.W.mg_of X G a_Reader,
    i_Reader := ⟨⟨pg_Reader, hd_Reader, po_Reader, sa_Reader⟩, ca_Reader, h_get, h_tak, mo_Reader, kit_self⟩,
    k_Reader := ⟨mk_Reader, a_m_Reader_init, i_m_Reader_init, kc_Reader⟩,
    n_Reader_own_kind := n_Reader_own_kind,
    n_Reader_found_chars := n_Reader_found_chars,
    n_Reader_waiting := n_Reader_waiting,
    n_Reader_fed_items := n_Reader_fed_items,
    n_Reader_is_closed := n_Reader_is_closed,
    ne_Text := ne_Text,
    gt_Text := gt_Text,
    sf_Text := sf_Text,
    f_missing := ⟨_, fun_mk (st := s_Reader_missing) l_m_Reader_missing o_m_Reader_missing k_m_Reader_missing⟩,
    p_missing := ⟨a_missing, s_missing, t_missing, ⟨_, r_missing⟩⟩,
    f_Bad := ⟨_, fun_mk (st := s_Bad_init) l_m_Bad_init o_m_Bad_init k_m_Bad_init⟩,
    o_Bad := ⟨⟨nmB, qB, NB, bsB, _, snB, subB, abB, colB, ddB, m0, m1, m2, m3, m5, x_Bad, rfl⟩, sa_Bad, eC_Bad, tC_Bad, kC_Bad⟩,
    g_Bad := PySem.W.mg_of X G a_Bad,
    i_Bad := i_Bad,
    ti_Bad := ti_Bad,
    n_Bad := n_Bad,
    e_Bad := exm_self eC_Bad iC_Bad tC_Bad sC_Bad,
    b_Place := ⟨PySem.W.mg_of X G a_Place, ga_Place, rd_Place, cv_Place⟩,
    c_LAST_CHAR := ⟨_, PySem.W.mg_of X G a_LAST_CHAR, ⟨_, rfl⟩⟩,
    c_LOW_GAP := ⟨_, PySem.W.mg_of X G a_LOW_GAP, ⟨_, rfl⟩⟩,
    c_HIGH_GAP := ⟨_, PySem.W.mg_of X G a_HIGH_GAP, ⟨_, rfl⟩⟩,
    c_TWO := ⟨_, PySem.W.mg_of X G a_TWO, ⟨_, rfl⟩⟩,
    c_THREE := ⟨_, PySem.W.mg_of X G a_THREE, ⟨_, rfl⟩⟩,
    c_FOUR := ⟨_, PySem.W.mg_of X G a_FOUR, ⟨_, rfl⟩⟩,
    c_HIGH := ⟨_, PySem.W.mg_of X G a_HIGH, ⟨_, rfl⟩⟩,
    c_LOW := ⟨_, PySem.W.mg_of X G a_LOW, ⟨_, rfl⟩⟩,
    c_LAST_BYTE := ⟨_, PySem.W.mg_of X G a_LAST_BYTE, ⟨_, rfl⟩⟩,
    c_LAST_UNIT := ⟨_, PySem.W.mg_of X G a_LAST_UNIT, ⟨_, rfl⟩⟩,
    c_FIRST_OF_MORE := ⟨_, PySem.W.mg_of X G a_FIRST_OF_MORE, ⟨_, rfl⟩⟩,
    c_BYTES_texts := ⟨_, PySem.W.mg_of X G a_BYTES_texts, ⟨_, rfl⟩⟩,
    c_UNITS_texts := ⟨_, PySem.W.mg_of X G a_UNITS_texts, ⟨_, rfl⟩⟩,
    c_CHARS_texts := ⟨_, PySem.W.mg_of X G a_CHARS_texts, ⟨_, rfl⟩⟩,
    c_KINDS := ⟨_, PySem.W.mg_of X G a_KINDS, rfl⟩,
    t_KINDS := fun H => .inr ⟨_, #[.str "bytes" tk_t_KINDS_0, .str "units" tk_t_KINDS_1, .str "chars" tk_t_KINDS_2], nn_t_KINDS, l_t_KINDS, rfl, rfl, (by rw [sizeLine_eq]; show 3 ≤ 16777216; decide), .cons ⟨_, rfl⟩ (.cons ⟨_, rfl⟩ (.cons ⟨_, rfl⟩ (.nil)))⟩,
    c_OTHERS := ⟨_, PySem.W.mg_of X G a_OTHERS, rfl⟩,
    t_OTHERS := fun H => .inr ⟨_, #[.int 128 tk_t_OTHERS_0, .int 191 tk_t_OTHERS_1], nn_t_OTHERS, l_t_OTHERS, rfl, rfl, (by rw [sizeLine_eq]; show 2 ≤ 16777216; decide), .cons ⟨_, rfl⟩ (.cons ⟨_, rfl⟩ (.nil))⟩,
    c_HIGHS := ⟨_, PySem.W.mg_of X G a_HIGHS, rfl⟩,
    t_HIGHS := fun H => .inr ⟨_, #[.int 55296 tk_t_HIGHS_0, .int 56319 tk_t_HIGHS_1], nn_t_HIGHS, l_t_HIGHS, rfl, rfl, (by rw [sizeLine_eq]; show 2 ≤ 16777216; decide), .cons ⟨_, rfl⟩ (.cons ⟨_, rfl⟩ (.nil))⟩,
    c_LOWS := ⟨_, PySem.W.mg_of X G a_LOWS, rfl⟩,
    t_LOWS := fun H => .inr ⟨_, #[.int 56320 tk_t_LOWS_0, .int 57343 tk_t_LOWS_1], nn_t_LOWS, l_t_LOWS, rfl, rfl, (by rw [sizeLine_eq]; show 2 ≤ 16777216; decide), .cons ⟨_, rfl⟩ (.cons ⟨_, rfl⟩ (.nil))⟩,
    c_LEADS_texts := ⟨_, PySem.W.mg_of X G a_LEADS_texts, rfl⟩,
    t_LEADS_texts := fun H => .inr ⟨_, #[.int 0 tk_t_LEADS_texts_0, .int 0 tk_t_LEADS_texts_1, .int 192 tk_t_LEADS_texts_2, .int 224 tk_t_LEADS_texts_3, .int 240 tk_t_LEADS_texts_4], nn_t_LEADS_texts, l_t_LEADS_texts, rfl, rfl, (by rw [sizeLine_eq]; show 5 ≤ 16777216; decide), .cons ⟨_, rfl⟩ (.cons ⟨_, rfl⟩ (.cons ⟨_, rfl⟩ (.cons ⟨_, rfl⟩ (.cons ⟨_, rfl⟩ (.nil)))))⟩,
    c_SECONDS := ⟨_, PySem.W.mg_of X G a_SECONDS, rfl⟩,
    t_SECONDS := ⟨⟨[(224, .ref t_sec0), (237, .ref t_sec1), (240, .ref t_sec2), (244, .ref t_sec3)], _, nS, l_SECONDS, .cons ⟨(show (224 : Int) = hashInt 224 by decide +kernel), ⟨_, rfl⟩, rfl⟩ (.cons ⟨(show (237 : Int) = hashInt 237 by decide +kernel), ⟨_, rfl⟩, rfl⟩ (.cons ⟨(show (240 : Int) = hashInt 240 by decide +kernel), ⟨_, rfl⟩, rfl⟩ (.cons ⟨(show (244 : Int) = hashInt 244 by decide +kernel), ⟨_, rfl⟩, rfl⟩ (.nil)))), .cons ⟨rfl, rfl⟩ (.cons ⟨rfl, rfl⟩ (.cons ⟨rfl, rfl⟩ (.cons ⟨rfl, rfl⟩ (.nil)))), by simp⟩, ne_SECONDS⟩,
    t_sec0 := fun H => .inr ⟨_, #[.int 160 tk_t_sec0_0, .int 191 tk_t_sec0_1], nn_t_sec0, l_t_sec0, rfl, rfl, (by rw [sizeLine_eq]; show 2 ≤ 16777216; decide), .cons ⟨_, rfl⟩ (.cons ⟨_, rfl⟩ (.nil))⟩,
    t_sec1 := fun H => .inr ⟨_, #[.int 128 tk_t_sec1_0, .int 159 tk_t_sec1_1], nn_t_sec1, l_t_sec1, rfl, rfl, (by rw [sizeLine_eq]; show 2 ≤ 16777216; decide), .cons ⟨_, rfl⟩ (.cons ⟨_, rfl⟩ (.nil))⟩,
    t_sec2 := fun H => .inr ⟨_, #[.int 144 tk_t_sec2_0, .int 191 tk_t_sec2_1], nn_t_sec2, l_t_sec2, rfl, rfl, (by rw [sizeLine_eq]; show 2 ≤ 16777216; decide), .cons ⟨_, rfl⟩ (.cons ⟨_, rfl⟩ (.nil))⟩,
    t_sec3 := fun H => .inr ⟨_, #[.int 128 tk_t_sec3_0, .int 143 tk_t_sec3_1], nn_t_sec3, l_t_sec3, rfl, rfl, (by rw [sizeLine_eq]; show 2 ≤ 16777216; decide), .cons ⟨_, rfl⟩ (.cons ⟨_, rfl⟩ (.nil))⟩,
    c_LEADS := ⟨_, PySem.W.mg_of X G a_LEADS, rfl⟩,
    t_LEADS := fun H => .inr ⟨_, #[.ref t_lead0, .ref t_lead1, .ref t_lead2], nn_t_LEADS, l_t_LEADS, rfl, rfl, (by rw [sizeLine_eq]; show 3 ≤ 16777216; decide), .cons rfl (.cons rfl (.cons rfl (.nil)))⟩,
    t_lead0 := fun H => .inr ⟨_, #[.int 194 tk_t_lead0_0, .int 223 tk_t_lead0_1, .int 2 tk_t_lead0_2], nn_t_lead0, l_t_lead0, rfl, rfl, (by rw [sizeLine_eq]; show 3 ≤ 16777216; decide), .cons ⟨_, rfl⟩ (.cons ⟨_, rfl⟩ (.cons ⟨_, rfl⟩ (.nil)))⟩,
    t_lead1 := fun H => .inr ⟨_, #[.int 224 tk_t_lead1_0, .int 239 tk_t_lead1_1, .int 3 tk_t_lead1_2], nn_t_lead1, l_t_lead1, rfl, rfl, (by rw [sizeLine_eq]; show 3 ≤ 16777216; decide), .cons ⟨_, rfl⟩ (.cons ⟨_, rfl⟩ (.cons ⟨_, rfl⟩ (.nil)))⟩,
    t_lead2 := fun H => .inr ⟨_, #[.int 240 tk_t_lead2_0, .int 244 tk_t_lead2_1, .int 4 tk_t_lead2_2], nn_t_lead2, l_t_lead2, rfl, rfl, (by rw [sizeLine_eq]; show 3 ≤ 16777216; decide), .cons ⟨_, rfl⟩ (.cons ⟨_, rfl⟩ (.cons ⟨_, rfl⟩ (.nil)))⟩,
    n_isinstance := PySem.W.mg_none_of X G z_isinstance,
    n_int := PySem.W.mg_none_of X G z_int,
    n_bool := PySem.W.mg_none_of X G z_bool,
    n_str := PySem.W.mg_none_of X G z_str,
    n_list := PySem.W.mg_none_of X G z_list,
    n_tuple := PySem.W.mg_none_of X G z_tuple,
    n_sum := PySem.W.mg_none_of X G z_sum,
    n_len := PySem.W.mg_none_of X G z_len,
    n_range := PySem.W.mg_none_of X G z_range,
    n_enumerate := PySem.W.mg_none_of X G z_enumerate,
    n_all := PySem.W.mg_none_of X G z_all,
    n_min := PySem.W.mg_none_of X G z_min,
    n_max := PySem.W.mg_none_of X G z_max }
end K14

namespace K14
/-! ### the mirror: plain functions -/
inductive Kd where
  | b | u | c
  deriving DecidableEq
def Kd.str : Kd → PySem.Str
  | .b => "bytes"
  | .u => "units"
  | .c => "chars"
/-- a character -/
def Ch (c : Int) : Prop := 0 ≤ c ∧ c ≤ 1114111 ∧ ¬ (55296 ≤ c ∧ c ≤ 57343)
def Chs (cs : List Int) : Prop := ∀ c ∈ cs, Ch c
def b2 (p : Bool) : Int := if p then 1 else 0
def wid : Kd → Int → Int
  | .c, _ => 1
  | .u, c => 1 + b2 (decide (65536 ≤ c))
  | .b, c => 1 + b2 (decide (128 ≤ c)) + b2 (decide (2048 ≤ c)) + b2 (decide (65536 ≤ c))
def enc : Kd → Int → List Int
  | .c, c => [c]
  | .u, c => if c < 65536 then [c] else [55296 + (c - 65536) / 1024, 56320 + (c - 65536) % 1024]
  | .b, c => if c < 128 then [c] else if c < 2048 then [192 + c / 64, 128 + c % 64]
    else if c < 65536 then [224 + c / 64 / 64, 128 + c / 64 % 64, 128 + c % 64]
    else [240 + c / 64 / 64 / 64, 128 + c / 64 / 64 % 64, 128 + c / 64 % 64, 128 + c % 64]
def encs (k : Kd) (cs : List Int) : List Int := cs.flatMap (enc k)
def cnt (k : Kd) (cs : List Int) : Int := (cs.map (wid k)).sum
def leads : List (Int × Int × Int) := [(194, 223, 2), (224, 239, 3), (240, 244, 4)]
def szB (f : Int) : Int := if f < 128 then 1 else ((leads.filter fun t => decide (t.1 ≤ f) && decide (f ≤ t.2.1)).map fun t => t.2.2).sum
def szU (f : Int) : Int := if 55296 ≤ f ∧ f ≤ 56319 then 2 else if 56320 ≤ f ∧ f ≤ 57343 then 0 else 1
def sz : Kd → Int → Int
  | .c, _ => 1
  | .u, f => szU f
  | .b, f => szB f
def secR (f : Int) : Int × Int := if f = 224 then (160, 191) else if f = 237 then (128, 159) else if f = 240 then (144, 191) else if f = 244 then (128, 143) else (128, 191)
def goes : Kd → Int → Int → Int → Bool
  | .b, f, p, x => let r := if p = 1 then secR f else (128, 191); decide (r.1 ≤ x) && decide (x ≤ r.2)
  | _, _, _, x => decide (56320 ≤ x) && decide (x ≤ 57343)
def chrB (l : List Int) : Int := l.tail.foldl (fun f x => f * 64 + x - 128) (l.headD 0 - (if l.length = 2 then 192 else if l.length = 3 then 224 else 240))
def chrU (l : List Int) : Int := 65536 + (l.headD 0 - 55296) * 1024 + (l.getD 1 0) - 56320
def chr : Kd → List Int → Int
  | k, l => if l.length = 1 then l.headD 0 else match k with
    | .b => chrB l
    | _ => chrU l
/-- one more item behind those that wait: refused, or the characters that it completes and those that wait then -/
def stp (k : Kd) (left : List Int) (x : Int) : Option (List Int × List Int) :=
  let l := left ++ [x]
  let s := sz k (l.headD 0)
  if s = 0 ∨ (1 < l.length ∧ goes k (l.headD 0) ((l.length : Int) - 1) x = false) then none
  else if (l.length : Int) = s then some ([chr k l], []) else some ([], l)
def rdf (k : Kd) (s : Option (List Int × List Int)) (x : Int) : Option (List Int × List Int) := match s with
  | none => none
  | some (f, l) => match stp k l x with
    | none => none
    | some (g, m) => some (f ++ g, m)
def rd (k : Kd) (left : List Int) (xs : List Int) : Option (List Int × List Int) := xs.foldl (rdf k) (some ([], left))
end K14

namespace K14
open PySem PySem.Spec PyProof.Rows L2
section
variable {P : Program} {w : World} {K : PySem.W.Frag} {mg : Str → Option Value} {base : Heap} {a : AD}
theorem ifT {c : Bool} {A B : Prop} (hc : c = true) (h : A) : if c = true then A else B := by rw [if_pos hc]; exact h
theorem ifF {c : Bool} {A B : Prop} (hc : c = false) (h : B) : if c = true then A else B := by rw [hc, if_neg Bool.false_ne_true]; exact h
/-! ### validation -/
def spIsInt : Sp := fun vs H Q _ => ∃ i lo hi : Int, vs = [.int i, .int lo, .int hi] ∧ Q (.bl (decide (lo ≤ i) && decide (i ≤ hi))) H
theorem ok_is_integer (T : Txt K mg a) : GD P w K mg base CX0 1 "is_integer" a.d_is_integer spIsInt := by
  have S : FnScope ["value", "low", "high"] ["value", "low", "high"] (defScope s_is_integer) := C8.fnScope_by (by decide +kernel)
  refine ⟨okR T.d_is_integer.fn S (fun vs H Q E h => ?_) (fun _ _ _ _ _ _ us hl => match us, hl with | [_, _, _], _ => rfl) (fun cdv A outer s H vs Q E hr h => ?_), T.d_is_integer.mgx, T.d_is_integer.kp⟩
  · obtain ⟨i, lo, hi, rfl, _⟩ := h
    rfl
  · obtain ⟨i, lo, hi, rfl, q⟩ := h
    refine ⟨_, pss_one (ps_ret (pe_and (pe_callB call_isi (by rfl) T.n_isinstance (by decide +kernel) (pa_cons (pv 0) (pa_cons (pe_bltn (v := .ty "int") (by rfl) T.n_int (by decide +kernel) rfl) pa_nil)))
      (pe_and (pe_not (pe_callB call_isi (by rfl) T.n_isinstance (by decide +kernel) (pa_cons (pv 0) (pa_cons (pe_bltn (v := .ty "bool") (by rfl) T.n_bool (by decide +kernel) rfl) pa_nil))))
      (pe_one (pe_chain op_le op_le (pv 1) (pv 0) (pv 2)))))), ?_⟩
    refine ⟨_, rfl, _, _, _, _, true, rfl, .ty "int", .base (.int i), kit_ty (by decide +kernel), true, rfl, iteT ?_⟩
    refine ⟨_, rfl, _, _, _, _, false, rfl, .ty "bool", .base (.int i), kit_ty (by decide +kernel), false, rfl, true, rfl, iteT ?_⟩
    refine ⟨_, rfl, _, rfl, _, _, rfl, rfl, _, rfl, ?_⟩
    refine ite2 (fun h1 => ?_) (fun h1 => ?_)
    · refine ⟨_, rfl, _, _, rfl, rfl, ?_⟩
      rw [h1] at q
      exact q
    · have e : decide (lo ≤ i) = false := by simpa using h1
      rw [e] at q
      exact q
/-- isinstance(x, T) of an int -/
def spIsChar : Sp := fun vs H Q _ => ∃ i : Int, vs = [.int i] ∧ Ch i ∧ Q (.bl true) H
theorem ok_is_char (T : Txt K mg a) : GD P w K mg base CX0 2 "is_char" a.d_is_char spIsChar := by
  have G1 : GD P w K mg base CX0 1 "is_integer" a.d_is_integer spIsInt := ok_is_integer T
  have S : FnScope ["value"] ["value"] (defScope s_is_char) := C8.fnScope_by (by decide +kernel)
  refine ⟨okR T.d_is_char.fn S (fun vs H Q E h => ?_) (fun _ _ _ _ _ _ us hl => match us, hl with | [_], _ => rfl) (fun cdv A outer s H vs Q E hr h => ?_), T.d_is_char.mgx, T.d_is_char.kp⟩
  · obtain ⟨i, rfl, _⟩ := h
    rfl
  · obtain ⟨i, rfl, ⟨h1, h2, h3⟩, q⟩ := h
    refine ⟨_, pss_one (ps_ret (pe_and (pe_callD G1 hr pass0 (pa_cons (pv 0) (pa_cons pe_int (pa_cons (C8.pe_gc rfl T.c_LAST_CHAR) pa_nil))))
      (pe_one (pe_not (pe_chain op_le op_le (C8.pe_gc rfl T.c_LOW_GAP) (pv 0) (C8.pe_gc rfl T.c_HIGH_GAP)))))), ?_⟩
    refine ⟨_, rfl, i, 0, 1114111, rfl, true, by simp [h1, h2], iteT ?_⟩
    refine ⟨_, rfl, _, _, rfl, rfl, _, rfl, ?_⟩
    refine ite2 (fun h4 => ?_) (fun h4 => ?_)
    · refine ⟨_, _, rfl, rfl, false, ?_, q⟩
      have h5 : ¬ i ≤ 57343 := fun z => h3 ⟨of_decide_eq_true h4, z⟩
      exact congrArg V.bl (decide_eq_false h5)
    · exact ⟨false, rfl, q⟩
def spIsList : Sp := fun vs H Q _ => ∃ (p : Addr) (xs : List V), vs = [.ref p] ∧ H p = some (.lst xs) ∧ ∀ H', Same H H' → Q (.bl true) H'
theorem ok_is_list (T : Txt K mg a) : GD P w K mg base CX0 1 "is_list" a.d_is_list spIsList := by
  have S : FnScope ["value"] ["value"] (defScope s_is_list) := C8.fnScope_by (by decide +kernel)
  refine ⟨okR T.d_is_list.fn S (fun vs H Q E h => ?_) (fun _ _ _ _ _ _ us hl => match us, hl with | [_], _ => rfl) (fun cdv A outer s H vs Q E hr h => ?_), T.d_is_list.mgx, T.d_is_list.kp⟩
  · obtain ⟨p, xs, rfl, _⟩ := h
    rfl
  · obtain ⟨p, xs, rfl, hp, q⟩ := h
    refine ⟨_, pss_one (ps_ret (pe_callB call_isiT (by rfl) T.n_isinstance (by decide +kernel) (pa_cons (pv 0) (pa_cons (pe_tup (pa_cons (pe_bltn (v := .ty "list") (by rfl) T.n_list (by decide +kernel) rfl)
      (pa_cons (pe_bltn (v := .ty "tuple") (by rfl) T.n_tuple (by decide +kernel) rfl) pa_nil))) pa_nil)))), ?_⟩
    refine ⟨_, rfl, (by show 2 ≤ sizeLine; decide), fun t ht => ?_⟩
    have hp' : upd H t (.tup [.ty "list", .ty "tuple"]) p = some (.lst xs) := by rw [upd_ne (ne_of_none hp ht)]; exact hp
    refine ⟨_, t, _, _, _, true, rfl, upd_same, .cons (.ty "list") (.cons (.ty "tuple") .nil), .base (.lst hp'), ?_, q _ (Same.new ht)⟩
    exact kitAny_cons (b := true) (kit_ty (by decide +kernel)) (fun z => nomatch z) fun _ => rfl
def spIsKind : Sp := fun vs H Q _ => ∃ k : Kd, vs = [.str k.str] ∧ Q (.bl true) H
theorem ok_is_kind (T : Txt K mg a) : GD P w K mg base CX0 1 "is_kind" a.d_is_kind spIsKind := by
  have S : FnScope ["value"] ["value"] (defScope s_is_kind) := C8.fnScope_by (by decide +kernel)
  refine ⟨okR T.d_is_kind.fn S (fun vs H Q E h => ?_) (fun _ _ _ _ _ _ us hl => match us, hl with | [_], _ => rfl) (fun cdv A outer s H vs Q E hr h => ?_), T.d_is_kind.mgx, T.d_is_kind.kp⟩
  · obtain ⟨k, rfl, _⟩ := h
    rfl
  · obtain ⟨k, rfl, q⟩ := h
    refine ⟨_, pss_one (ps_ret (pe_and (pe_callB call_isi (by rfl) T.n_isinstance (by decide +kernel) (pa_cons (pv 0) (pa_cons (pe_bltn (v := .ty "str") (by rfl) T.n_str (by decide +kernel) rfl) pa_nil)))
      (pe_one (pe_cmpR op_in_seq (pv 0) (C8.pe_gc rfl T.c_KINDS) (by rfl))))), ?_⟩
    refine ⟨_, rfl, _, _, _, _, true, rfl, .ty "str", .base (.str _), kit_ty (by decide +kernel), true, rfl, iteT ?_⟩
    refine ⟨_, rfl, _, _, rfl, .inr (T.t_KINDS _), rfl, rfl, ?_⟩
    have e : inV (.str k.str) [.str "bytes", .str "units", .str "chars"] = true := by cases k <;> decide +kernel
    rw [if_neg Bool.false_ne_true, e]
    exact q
/-! ### texts: checks -/
def spNeedChar : Sp := fun vs H Q _ => ∃ i : Int, vs = [.int i] ∧ Ch i ∧ Q .non H
theorem ok_need_char (T : Txt K mg a) : GD P w K mg base CX0 3 "need_char" a.d_need_char spNeedChar := by
  have G1 : GD P w K mg base CX0 2 "is_char" a.d_is_char spIsChar := ok_is_char T
  have S : FnScope ["value"] ["value"] (defScope s_need_char) := C8.fnScope_by (by decide +kernel)
  refine ⟨okR T.d_need_char.fn S (fun vs H Q E h => ?_) (fun _ _ _ _ _ _ us hl => match us, hl with | [_], _ => rfl) (fun cdv A outer s H vs Q E hr h => ?_), T.d_need_char.mgx, T.d_need_char.kp⟩
  · obtain ⟨i, rfl, _⟩ := h
    rfl
  · obtain ⟨i, rfl, hc, q⟩ := h
    refine ⟨_, pss_one (ps_if (pt_not (pt_val (pe_callD G1 hr pass0 (pa_cons (pv 0) pa_nil)))) (pss_one ps_never) pss_nil), ?_⟩
    exact ⟨_, rfl, i, rfl, hc, true, rfl, iteF q⟩
def spNeedKind : Sp := fun vs H Q _ => ∃ k : Kd, vs = [.str k.str] ∧ Q .non H
theorem ok_need_kind (T : Txt K mg a) : GD P w K mg base CX0 2 "need_kind" a.d_need_kind spNeedKind := by
  have G1 : GD P w K mg base CX0 1 "is_kind" a.d_is_kind spIsKind := ok_is_kind T
  have S : FnScope ["value"] ["value"] (defScope s_need_kind) := C8.fnScope_by (by decide +kernel)
  refine ⟨okR T.d_need_kind.fn S (fun vs H Q E h => ?_) (fun _ _ _ _ _ _ us hl => match us, hl with | [_], _ => rfl) (fun cdv A outer s H vs Q E hr h => ?_), T.d_need_kind.mgx, T.d_need_kind.kp⟩
  · obtain ⟨k, rfl, _⟩ := h
    rfl
  · obtain ⟨k, rfl, q⟩ := h
    refine ⟨_, pss_one (ps_if (pt_not (pt_val (pe_callD G1 hr pass0 (pa_cons (pv 0) pa_nil)))) (pss_one ps_never) pss_nil), ?_⟩
    exact ⟨_, rfl, k, rfl, true, rfl, iteF q⟩
theorem ints_at {ns : List Int} {i : Nat} {y : V} (h : (ns.map V.int)[i]? = some y) : ∃ z, ns[i]? = some z ∧ y = V.int z := by
  rw [List.getElem?_map] at h
  cases e : ns[i]? with
  | none => rw [e] at h; cases h
  | some z => rw [e] at h; exact ⟨z, rfl, (Option.some.inj h).symm⟩
def spNeedChars : Sp := fun vs H Q _ => ∃ (p : Addr) (cs : List Int), vs = [.ref p] ∧ H p = some (.lst (cs.map V.int)) ∧ Chs cs ∧ ∀ H', Same H H' → Q .non H'
theorem ok_need_chars (T : Txt K mg a) : GD P w K mg base CX0 4 "need_chars" a.d_need_chars spNeedChars := by
  have G1 : GD P w K mg base CX0 1 "is_list" a.d_is_list spIsList := ok_is_list T
  have G2 : GD P w K mg base CX0 3 "need_char" a.d_need_char spNeedChar := ok_need_char T
  have S : FnScope ["value", "item"] ["value"] (defScope s_need_chars) := C8.fnScope_by (by decide +kernel)
  refine ⟨okR T.d_need_chars.fn S (fun vs H Q E h => ?_) (fun _ _ _ _ _ _ us hl => match us, hl with | [_], _ => rfl) (fun cdv A outer s H vs Q E hr h => ?_), T.d_need_chars.mgx, T.d_need_chars.kp⟩
  · obtain ⟨i, cs, rfl, _⟩ := h
    rfl
  · obtain ⟨p, cs, rfl, hp, hc, q⟩ := h
    refine ⟨_, pss_cons (ps_if (pt_not (pt_val (pe_callD G1 hr pass0 (pa_cons (pv 0) pa_nil)))) (pss_one ps_never) pss_nil)
      (pss_one (ps_for PassesOwn.never rfl (pi_list (pv 0)) (pg_name (i := 1) S.nd rfl (Or.inl rfl)) (pss_one (ps_expr (pe_callD G2 hr pass0 (pa_cons (pv 1) pa_nil)))))), ?_⟩
    refine ⟨_, rfl, p, _, rfl, hp, fun H1 s1 => ⟨true, rfl, iteF ?_⟩⟩
    refine ⟨_, rfl, p, rfl, ⟨_, SqL.of (s1 _ _ hp)⟩, for_list (K := K) (a := p) (xs := cs.map V.int) (fun i σ H2 => (∃ v, σ = [some (.ref p), v]) ∧ Same H H2) ⟨⟨none, rfl⟩, s1⟩ (fun i σ H2 _ ⟨_, s2⟩ => SqL.of (s2 _ _ hp)) ?_ ?_⟩
    · rintro i y σ H2 hi ⟨⟨v, rfl⟩, s2⟩
      obtain ⟨z, hz, rfl⟩ := ints_at hi
      exact ⟨_, rfl, z, rfl, hc z (List.mem_of_getElem? hz), ⟨_, rfl⟩, s2⟩
    · rintro σ H2 ⟨_, s2⟩
      exact q _ s2
/-! ### widths -/
def spWide : Sp := fun vs H Q _ => ∃ (k : Kd) (c : Int), vs = [.int c, .str k.str] ∧ Q (.int (wid k c)) H
theorem ok_wide (T : Txt K mg a) : GD P w K mg base CX0 1 "wide" a.d_wide spWide := by
  have S : FnScope ["char", "kind"] ["char", "kind"] (defScope s_wide) := C8.fnScope_by (by decide +kernel)
  refine ⟨okR T.d_wide.fn S (fun vs H Q E h => ?_) (fun _ _ _ _ _ _ us hl => match us, hl with | [_, _], _ => rfl) (fun cdv A outer s H vs Q E hr h => ?_), T.d_wide.mgx, T.d_wide.kp⟩
  · obtain ⟨k, c, rfl, _⟩ := h
    rfl
  · obtain ⟨k, c, rfl, q⟩ := h
    refine ⟨_, pss_cons (ps_if (pt_cmpR op_eq (pv 1) (C8.pe_gc rfl T.c_CHARS_texts) (nomark _)) (pss_one (ps_ret pe_int)) pss_nil)
      (pss_cons (ps_if (pt_cmpR op_eq (pv 1) (C8.pe_gc rfl T.c_UNITS_texts) (nomark _)) (pss_one (ps_ret (pe_op op_add pe_int (pe_callTy call_int1 (by rfl) T.n_int (by decide +kernel) (pa_cons (pe_cmpR op_ge (pv 0) (C8.pe_gc rfl T.c_FOUR) (nomark _)) pa_nil))))) pss_nil)
      (pss_one (ps_ret (pe_op op_add (pe_op op_add (pe_op op_add pe_int
        (pe_callTy call_int1 (by rfl) T.n_int (by decide +kernel) (pa_cons (pe_cmpR op_ge (pv 0) (C8.pe_gc rfl T.c_TWO) (nomark _)) pa_nil)))
        (pe_callTy call_int1 (by rfl) T.n_int (by decide +kernel) (pa_cons (pe_cmpR op_ge (pv 0) (C8.pe_gc rfl T.c_THREE) (nomark _)) pa_nil)))
        (pe_callTy call_int1 (by rfl) T.n_int (by decide +kernel) (pa_cons (pe_cmpR op_ge (pv 0) (C8.pe_gc rfl T.c_FOUR) (nomark _)) pa_nil)))))), ?_⟩
    refine ⟨_, rfl, rfl, _, rfl, ?_⟩
    cases k with
    | c =>
      refine ifT (by decide +kernel) ?_
      exact q
    | u =>
      refine ifF (by decide +kernel) ?_
      refine ⟨_, rfl, rfl, _, rfl, ?_⟩
      refine ifT (by decide +kernel) ?_
      exact ⟨_, rfl, _, _, rfl, rfl, .inr ⟨_, rfl, _, _, rfl, rfl, q⟩⟩
    | b =>
      refine ifF (by decide +kernel) ?_
      refine ⟨_, rfl, rfl, _, rfl, ?_⟩
      refine ifF (by decide +kernel) ?_
      exact ⟨_, rfl, _, _, rfl, rfl, .inr ⟨_, rfl, _, _, rfl, rfl, _, rfl, _, _, rfl, rfl, .inr ⟨_, rfl, _, _, rfl, rfl, _, rfl, _, _, rfl, rfl, .inr ⟨_, rfl, _, _, rfl, rfl, q⟩⟩⟩⟩
end
end K14

namespace K14
open PySem PySem.Spec PyProof.Rows L2
/-! ### the bytes of a character: the loop's plain law -/
/-- the rest behind i turns -/
def rst (c : Int) : Nat → Int
  | 0 => c
  | i + 1 => rst c i / 64
/-- what is found behind i turns -/
def fnd (c : Int) : Nat → List Int
  | 0 => []
  | i + 1 => fnd c i ++ [128 + rst c i % 64]
def lead (n : Int) : Int := if n = 2 then 192 else if n = 3 then 224 else 240
theorem wid_b {c : Int} (h : 0 ≤ c) : (wid .b c = 1 ∧ enc .b c = [c]) ∨ ∃ n : Nat, 1 ≤ n ∧ n ≤ 3 ∧ wid .b c = (n : Int) + 1 ∧ enc .b c = (lead ((n : Int) + 1) + rst c n) :: (fnd c n).reverse := by
  have wb : wid .b c = 1 + b2 (decide (128 ≤ c)) + b2 (decide (2048 ≤ c)) + b2 (decide (65536 ≤ c)) := rfl
  have eb : enc .b c = if c < 128 then [c] else if c < 2048 then [192 + c / 64, 128 + c % 64]
    else if c < 65536 then [224 + c / 64 / 64, 128 + c / 64 % 64, 128 + c % 64]
    else [240 + c / 64 / 64 / 64, 128 + c / 64 / 64 % 64, 128 + c / 64 % 64, 128 + c % 64] := rfl
  rw [wb, eb]
  by_cases h1 : c < 128
  · left
    have e1 : decide ((128 : Int) ≤ c) = false := decide_eq_false (by omega)
    have e2 : decide ((2048 : Int) ≤ c) = false := decide_eq_false (by omega)
    have e3 : decide ((65536 : Int) ≤ c) = false := decide_eq_false (by omega)
    rw [e1, e2, e3, if_pos h1]
    exact ⟨rfl, rfl⟩
  · right
    have e1 : decide ((128 : Int) ≤ c) = true := decide_eq_true (by omega)
    by_cases h2 : c < 2048
    · have e2 : decide ((2048 : Int) ≤ c) = false := decide_eq_false (by omega)
      have e3 : decide ((65536 : Int) ≤ c) = false := decide_eq_false (by omega)
      rw [e1, e2, e3, if_neg h1, if_pos h2]
      exact ⟨1, by decide, by decide, rfl, rfl⟩
    · have e2 : decide ((2048 : Int) ≤ c) = true := decide_eq_true (by omega)
      by_cases h3 : c < 65536
      · have e3 : decide ((65536 : Int) ≤ c) = false := decide_eq_false (by omega)
        rw [e1, e2, e3, if_neg h1, if_neg h2, if_pos h3]
        exact ⟨2, by decide, by decide, rfl, rfl⟩
      · have e3 : decide ((65536 : Int) ≤ c) = true := decide_eq_true (by omega)
        rw [e1, e2, e3, if_neg h1, if_neg h2, if_neg h3]
        exact ⟨3, by decide, by decide, rfl, rfl⟩
theorem fnd_length (c : Int) : ∀ i, (fnd c i).length = i
  | 0 => rfl
  | i + 1 => by
    show (fnd c i ++ [_]).length = i + 1
    rw [List.length_append, fnd_length c i]
    rfl
section
variable {P : Program} {w : World} {K : PySem.W.Frag} {mg : Str → Option Value} {base : Heap} {a : AD}
def spBytesIn : Sp := fun vs H Q _ => ∃ c : Int, vs = [.int c] ∧ 0 ≤ c ∧ ∀ H' p, Same H H' → H p = none → H' p = some (.lst ((enc .b c).map V.int)) → Q (.ref p) H'
theorem ok_bytes_in (T : Txt K mg a) : GD P w K mg base CX0 2 "bytes_in" a.d_bytes_in spBytesIn := by
  have G1 : GD P w K mg base CX0 1 "wide" a.d_wide spWide := ok_wide T
  have S : FnScope ["char", "many", "rest", "found", "step"] ["char"] (defScope s_bytes_in) := C8.fnScope_by (by decide +kernel)
  refine ⟨okR T.d_bytes_in.fn S (fun vs H Q E h => ?_) (fun _ _ _ _ _ _ us hl => match us, hl with | [_], _ => rfl) (fun cdv A outer s H vs Q E hr h => ?_), T.d_bytes_in.mgx, T.d_bytes_in.kp⟩
  · obtain ⟨c, rfl, _⟩ := h
    rfl
  · obtain ⟨c, rfl, hc, q⟩ := h
    refine ⟨_, pss_cons (ps_set (i := 1) S.nd rfl (Or.inl rfl) (pe_callD G1 hr pass0 (pa_cons (pv 0) (pa_cons (C8.pe_gc rfl T.c_BYTES_texts) pa_nil))))
      (pss_cons (ps_if (pt_cmpR op_eq (pv 1) pe_int (nomark _)) (pss_one (ps_ret (pe_lst (pa_cons (pv 0) pa_nil)))) pss_nil)
      (pss_cons (ps_par (i := 2) (j := 3) (by rfl) S.nd rfl rfl (by decide) rfl rfl (pa_cons (pv 0) (pa_cons (pe_lst pa_nil) pa_nil)) (by rfl))
      (pss_cons (ps_for PassesOwn.never rfl (pi_range1 rfl T.n_range (pa_cons (pe_op op_sub (pv 1) pe_int) pa_nil)) (pg_name (i := 4) S.nd rfl (Or.inl rfl))
        (pss_cons (ps_expr (pe_bm PySem.F.plainAttrs_list PySem.F.slot_list_append PySem.F.type_list_append mt_append (pv 3) (pa_cons (pe_op op_add pe_int (pe_op op_mod (pv 2) pe_int)) pa_nil)))
        (pss_one (ps_set (i := 2) S.nd rfl (Or.inl rfl) (pe_op op_fdiv (pv 2) pe_int)))))
      (pss_one (ps_ret (pe_op op_cat (pe_lst (pa_cons (pe_op op_add (pe_ix ix_tup (C8.pe_gc rfl T.c_LEADS_texts) (pv 1) (fun _ _ => rfl)) (pv 2)) pa_nil)) (pe_revL (pv 3)))))))), ?_⟩
    refine ⟨_, rfl, .b, c, rfl, _, rfl, rfl, _, rfl, ?_⟩
    rcases wid_b hc with ⟨e1, e2⟩ | ⟨n, h1, h3, e1, e2⟩
    · refine ifT (decide_eq_true (by rw [e1])) ?_
      refine ⟨_, rfl, (by show 1 ≤ sizeLine; decide), fun p hp => q _ p (Same.new hp) hp ?_⟩
      rw [e2]
      exact upd_same
    · refine ifF (decide_eq_false (by rw [e1]; intro z; have z' := V.int.inj z; omega)) ?_
      refine ⟨_, rfl, Nat.zero_le _, fun l hl => ⟨_, _, rfl, ?_⟩⟩
      refine ⟨_, rfl, _, _, rfl, rfl, _, rfl, by rw [e1]; omega, by rw [e1]; omega, for_range (lo := 0) (n := (wid .b c - 1).toNat) (fun i σ H2 => (∃ v, σ = [some (.int c), some (.int (wid .b c)), some (.int (rst c i)), some (.ref l), v]) ∧ Same H H2 ∧ H2 l = some (.lst ((fnd c i).map V.int)))
        ⟨⟨none, rfl⟩, Same.new hl, upd_same⟩ ?_ ?_⟩
      · rintro i σ H2 hi ⟨⟨v, rfl⟩, s2, hl2⟩
        refine ⟨_, rfl, .inl ⟨rfl, _, SqL.of hl2⟩, _, rfl, _, _, rfl, rfl, (by show (0 : Int) < 64; decide), _, _, rfl, rfl, l, _, _, rfl, rfl, hl2, ?_, ?_⟩
        · rw [List.length_map, fnd_length]
          have : i < 3 := by omega
          exact Nat.lt_trans this (by decide)
        refine ⟨_, rfl, _, _, rfl, rfl, ⟨by decide, by decide⟩, ⟨_, rfl⟩, fun b o e => ?_, ?_⟩
        · rw [upd_ne (fun z => by rw [z, hl] at e; cases e)]
          exact s2 _ _ e
        · rw [upd_same]
          show some (HO.lst ((fnd c i).map V.int ++ [V.int (128 + rst c i % 64)])) = some (HO.lst ((fnd c i ++ [128 + rst c i % 64]).map V.int))
          rw [List.map_append]
          rfl
      · rintro σ H2 ⟨⟨v, rfl⟩, s2, hl2⟩
        have en : (wid .b c - 1).toNat = n := by rw [e1]; omega
        rw [en] at hl2 ⊢
        have el : atI ([.int 0, .int 0, .int 192, .int 224, .int 240] : List V) (wid .b c) = some (.int (lead ((n : Int) + 1))) := by
          rw [e1]
          have : n = 1 ∨ n = 2 ∨ n = 3 := by omega
          rcases this with z | z | z <;> subst z <;> decide +kernel
        refine ⟨_, rfl, _, _, _, _, rfl, rfl, T.t_LEADS_texts _, el, _, rfl, _, _, rfl, rfl, (by show 1 ≤ sizeLine; decide), fun p1 n1 => ?_⟩
        have l1 : upd H2 p1 (.lst [.int (lead ((n : Int) + 1) + rst c n)]) l = some (.lst ((fnd c n).map V.int)) := by rw [upd_ne (ne_of_none hl2 n1)]; exact hl2
        refine ⟨_, rfl, l, _, rfl, SqL.of l1, fun p2 n2 => ?_⟩
        refine ⟨p1, p2, _, _, rfl, rfl, by rw [upd_ne (ne_of_none upd_same n2)]; exact upd_same, upd_same, ?_, fun p3 n3 => ?_⟩
        · rw [List.length_reverse, List.length_map, fnd_length]
          have : [V.int (lead ((n : Int) + 1) + rst c n)].length + n ≤ 4 := by show 1 + n ≤ 4; omega
          exact Nat.le_trans this (by decide)
        · have s3 : Same H (upd (upd (upd H2 p1 (.lst [.int (lead ((n : Int) + 1) + rst c n)])) p2 (.lst ((fnd c n).map V.int).reverse)) p3 (.lst ([.int (lead ((n : Int) + 1) + rst c n)] ++ ((fnd c n).map V.int).reverse))) :=
            ((s2.trans (Same.new n1)).trans (Same.new n2)).trans (Same.new n3)
          refine q _ p3 s3 (((s2.trans (Same.new n1)).trans (Same.new n2)).free n3) ?_
          rw [upd_same, e2, List.map_cons, List.map_reverse]
          rfl
end
end K14

namespace K14
open PySem PySem.Spec PyProof.Rows L2
section
variable {P : Program} {w : World} {K : PySem.W.Frag} {mg : Str → Option Value} {base : Heap} {a : AD}
def spItemsIn : Sp := fun vs H Q _ => ∃ (k : Kd) (c : Int), vs = [.int c, .str k.str] ∧ 0 ≤ c ∧ ∀ H' p, Same H H' → H p = none → H' p = some (.lst ((enc k c).map V.int)) → Q (.ref p) H'
theorem ok_items_in (T : Txt K mg a) : GD P w K mg base CX0 3 "items_in" a.d_items_in spItemsIn := by
  have G1 : GD P w K mg base CX0 2 "bytes_in" a.d_bytes_in spBytesIn := ok_bytes_in T
  have S : FnScope ["char", "kind", "more"] ["char", "kind"] (defScope s_items_in) := C8.fnScope_by (by decide +kernel)
  refine ⟨okR T.d_items_in.fn S (fun vs H Q E h => ?_) (fun _ _ _ _ _ _ us hl => match us, hl with | [_, _], _ => rfl) (fun cdv A outer s H vs Q E hr h => ?_), T.d_items_in.mgx, T.d_items_in.kp⟩
  · obtain ⟨k, c, rfl, _⟩ := h
    rfl
  · obtain ⟨k, c, rfl, hc, q⟩ := h
    refine ⟨_, pss_cons (ps_if (PW.pt (pw_or (pt_cmpR op_eq (pv 1) (C8.pe_gc rfl T.c_CHARS_texts) (nomark _)) (pw_or1 (PW.pt (pw_and (pt_cmpR op_eq (pv 1) (C8.pe_gc rfl T.c_UNITS_texts) (nomark _))
        (pw_and1 (pt_cmpR op_lt (pv 0) (C8.pe_gc rfl T.c_FOUR) (nomark _)))))))) (pss_one (ps_ret (pe_lst (pa_cons (pv 0) pa_nil)))) pss_nil)
      (pss_cons (ps_if (pt_cmpR op_eq (pv 1) (C8.pe_gc rfl T.c_UNITS_texts) (nomark _))
        (pss_cons (ps_set (i := 2) S.nd rfl (Or.inl rfl) (pe_op op_sub (pv 0) (C8.pe_gc rfl T.c_FOUR)))
          (pss_one (ps_ret (pe_lst (pa_cons (pe_op op_add (C8.pe_gc rfl T.c_HIGH) (pe_op op_fdiv (pv 2) pe_int)) (pa_cons (pe_op op_add (C8.pe_gc rfl T.c_LOW) (pe_op op_mod (pv 2) pe_int)) pa_nil)))))) pss_nil)
      (pss_one (ps_ret (pe_callD G1 hr pass0 (pa_cons (pv 0) pa_nil))))), ?_⟩
    cases k with
    | c =>
      refine ⟨_, rfl, rfl, _, rfl, ifT (by decide +kernel) (iteT ?_)⟩
      exact ⟨_, rfl, (by show 1 ≤ sizeLine; decide), fun p hp => q _ p (Same.new hp) hp upd_same⟩
    | u =>
      refine ⟨_, rfl, rfl, _, rfl, ifF (by decide +kernel) ?_⟩
      refine ⟨_, rfl, rfl, _, rfl, ifT (by decide +kernel) ?_⟩
      refine ⟨_, rfl, _, _, rfl, rfl, _, rfl, ?_⟩
      have e : enc .u c = if c < 65536 then [c] else [55296 + (c - 65536) / 1024, 56320 + (c - 65536) % 1024] := rfl
      refine ite2 (fun h => ?_) (fun h => ?_)
      · rw [if_pos (of_decide_eq_true h)] at e
        rw [e] at q
        exact ⟨_, rfl, (by show 1 ≤ sizeLine; decide), fun p hp => q _ p (Same.new hp) hp upd_same⟩
      · rw [if_neg (fun z => h (decide_eq_true z))] at e
        rw [e] at q
        refine ⟨_, rfl, rfl, _, rfl, ifT (by decide +kernel) ?_⟩
        refine ⟨_, rfl, _, _, rfl, rfl, ?_⟩
        refine ⟨_, rfl, _, _, rfl, rfl, ⟨by decide, by decide⟩, _, _, rfl, rfl, ?_⟩
        refine ⟨_, rfl, _, _, rfl, rfl, (by show (0 : Int) < 1024; decide), _, _, rfl, rfl, ?_⟩
        exact ⟨(by show 2 ≤ sizeLine; decide), fun p hp => q _ p (Same.new hp) hp upd_same⟩
    | b =>
      refine ⟨_, rfl, rfl, _, rfl, ifF (by decide +kernel) ?_⟩
      refine ⟨_, rfl, rfl, _, rfl, ifF (by decide +kernel) (iteF ?_)⟩
      refine ⟨_, rfl, rfl, _, rfl, ifF (by decide +kernel) ?_⟩
      exact ⟨_, rfl, c, rfl, hc, q⟩

/-- the scopes of the two comprehensions of counts_in -/
def scCo : Scope := match defBody s_counts_in with
  | [.Return (some (.Call _ [.ListComp _ _ sc _] _ _)) _] => sc
  | _ => { kind := .function, names := [], isGenerator := false, isCoroutine := false }
def tCo (K : PySem.W.Frag) : TE := tCB (rSum K) (tCons (tLc (iList K (tVar 0)) (gName 2) tYes (tCallR spWide E0 (tCons (tVar 2) (tCons (tVar 1) tNil))) [2]) tNil)
theorem boot_sum : bootBuiltins "sum" = some (.builtin "sum") := by decide +kernel
theorem take_map_succ {α β : Type} {f : α → β} {l : List α} {i : Nat} {z : α} (h : l[i]? = some z) : (l.take (i + 1)).map f = (l.take i).map f ++ [f z] := by
  have : l.take (i + 1) = l.take i ++ [z] := by
    rw [List.take_add_one, h]
    rfl
  rw [this, List.map_append]
  rfl
def spCounts : Sp := fun vs H Q _ => ∃ (p : Addr) (cs : List Int), vs = [.ref p] ∧ H p = some (.lst (cs.map V.int)) ∧ cs.length ≤ 10000 ∧
  ∀ H' t, Same H H' → H t = none → H' t = some (.tup [.int (cnt .b cs), .int (cnt .u cs), .int (cnt .c cs)]) → Q (.ref t) H'
theorem ok_counts_in (T : Txt K mg a) : GD P w K mg base CX0 2 "counts_in" a.d_counts_in spCounts := by
  have G1 : GD P w K mg base CX0 1 "wide" a.d_wide spWide := ok_wide T
  have S : FnScope ["chars", "kind", "char"] ["chars"] (defScope s_counts_in) := C8.fnScope_by (by decide +kernel)
  refine ⟨okR T.d_counts_in.fn S (fun vs H Q E h => ?_) (fun _ _ _ _ _ _ us hl => match us, hl with | [_], _ => rfl) (fun cdv A outer s H vs Q E hr h => ?_), T.d_counts_in.mgx, T.d_counts_in.kp⟩
  · obtain ⟨k, c, rfl, _⟩ := h
    rfl
  · obtain ⟨p, cs, rfl, hp, hz, q⟩ := h
    refine ⟨_, pss_one (ps_ret (pe_callTy call_tuple_of (by rfl) T.n_tuple (by decide +kernel) (pa_cons
      (pe_lc (te := tCo K) (own := [("kind", 1)]) (g := gName 1) (tt := tYes) rfl S.nd (pi_tup (pe_tup (pa_cons (C8.pe_gc rfl T.c_BYTES_texts) (pa_cons (C8.pe_gc rfl T.c_UNITS_texts) (pa_cons (C8.pe_gc rfl T.c_CHARS_texts) pa_nil))))) (blkOk_by (N := ["chars", "kind", "char"]) (sc := defScope s_counts_in) (by decide +kernel)) (fun _ _ _ _ _ => pg_name (i := 1) S.nd rfl (Or.inr rfl)) (fun _ _ _ _ _ => pts_nil) (fun _ _ _ _ _ => by (refine pe_callB (r := rSum K) (cr_sum rfl) (by rfl) T.n_sum boot_sum (pa_cons ?_ pa_nil); refine pe_lc (wi := iList K (tVar 0)) (own := [("char", 2)]) (g := gName 2) (tt := tYes) rfl S.nd (pi_list (by exact pv 0)) (blkOk_by (N := ["chars", "kind", "char"]) (sc := relS scCo (defScope s_counts_in)) (by decide +kernel)) (fun _ _ _ _ _ => pg_name (i := 2) S.nd rfl (Or.inl rfl)) (fun _ _ _ _ _ => pts_nil) (fun _ _ _ _ _ => by exact pe_callD G1 hr pass0 (pa_cons (pv 2) (pa_cons (pv 1) pa_nil)))))) pa_nil))), ?_⟩
    refine ⟨(by show 3 ≤ sizeLine; decide), fun t nt => ⟨t, rfl, ⟨_, SqT.of upd_same⟩, fun D nD => ?_⟩⟩
    have s0 : Same H (upd H t (.tup [.str "bytes", .str "units", .str "chars"])) := Same.new nt
    have hD : H D = none := s0.free nD
    refine lc_tup (K := K) (a := t) (xs := [V.str "bytes", V.str "units", V.str "chars"])
      (fun i H2 => Same (upd H t (.tup [.str "bytes", .str "units", .str "chars"])) H2 ∧ H2 D = some (.lst (([cnt .b cs, cnt .u cs, cnt .c cs].take i).map V.int)))
      ⟨Same.new nD, upd_same⟩ (fun i H2 _ ⟨s2, _⟩ => SqT.of (s2 _ _ upd_same)) ?_ ?_
    · rintro i x H2 hi ⟨s2, hD2⟩
      obtain ⟨k, rfl, hk⟩ : ∃ k : Kd, x = .str k.str ∧ [cnt .b cs, cnt .u cs, cnt .c cs][i]? = some (cnt k cs) := by
        match i, hi with
        | 0, hi => exact ⟨.b, (Option.some.inj hi).symm, rfl⟩
        | 1, hi => exact ⟨.u, (Option.some.inj hi).symm, rfl⟩
        | 2, hi => exact ⟨.c, (Option.some.inj hi).symm, rfl⟩
        | n + 3, hi => cases hi
      have hp2 : H2 p = some (.lst (cs.map V.int)) := s2 _ _ (s0 _ _ hp)
      have hi3 : i < 3 := by
        rcases Nat.lt_or_ge i 3 with z | z
        · exact z
        · rw [List.getElem?_eq_none (by show 3 ≤ i; exact z)] at hi
          cases hi
      refine ⟨rfl, ?_⟩
      refine ⟨_, rfl, p, rfl, ⟨_, SqL.of hp2⟩, fun D2 nD2 => ?_⟩
      refine lc_list (K := K) (a := p) (xs := cs.map V.int) (fun j H3 => Same H2 H3 ∧ H3 D2 = some (.lst (((cs.take j).map (wid k)).map V.int)))
        ⟨Same.new nD2, upd_same⟩ (fun j H3 _ ⟨s3, _⟩ => SqL.of (s3 _ _ hp2)) ?_ ?_
      · rintro j y H3 hj ⟨s3, hD3⟩
        obtain ⟨z, hzj, rfl⟩ := ints_at hj
        refine ⟨rfl, ?_⟩
        refine ⟨_, rfl, _, rfl, k, z, rfl, _, hD3, ?_, fun b o e => ?_, ?_⟩
        · rw [List.length_map, List.length_map]
          have h1 : (cs.take j).length ≤ 10000 := Nat.le_trans (List.length_take_le' _ _) hz
          exact Nat.lt_of_le_of_lt h1 (by decide)
        · rw [upd_ne (fun z => by rw [z, nD2] at e; cases e)]
          exact s3 _ _ e
        · rw [upd_same, take_map_succ hzj, List.map_append]
          rfl
      · rintro H3 ⟨s3, hD3⟩
        rw [List.length_map, List.take_length] at hD3
        have nDD : D ≠ D2 := ne_of_none hD2 nD2
        refine ⟨D2, _, rfl, SqL.of hD3, _, s3 _ _ hD2, ?_, fun b o e => ?_, ?_⟩
        · rw [List.length_map]
          have h1 : ([cnt .b cs, cnt .u cs, cnt .c cs].take i).length ≤ 3 := List.length_take_le' _ _
          exact Nat.lt_of_le_of_lt h1 (by decide)
        · rw [upd_ne (fun z => by rw [z, nD] at e; cases e)]
          exact s3 _ _ (s2 _ _ e)
        · rw [upd_same, take_map_succ hk]
          rfl
    · rintro H2 ⟨s2, hD2⟩
      refine ⟨D, _, rfl, .inl ⟨SqL.of hD2, fun l nl => ?_⟩⟩
      have sH2 : Same H H2 := s0.trans s2
      exact q _ l (sH2.trans (Same.new nl)) (sH2.free nl) upd_same
end
end K14

namespace K14
open PySem PySem.Spec PyProof.Rows L2
/-! ### (a, b, ..).m(e): a method of a tuple that is just made -/
def tTupM (r : V → List V → Hp → VK → Prop) (t' t : TA) : TE := fun σ H Q => t' σ H fun xs H1 => xs.length ≤ sizeLine ∧ ∀ p, H1 p = none → t σ (upd H1 p (.tup xs)) fun ys H2 => r (.ref p) ys H2 Q
theorem pe_tupM {X : Cx} {es es' : List Expr} {e : Expr} {t t' : TA} {x1 : Nat} {p1 apos cpos : Pos} {name : Str} {id : String} {r : V → List V → Hp → VK → Prop} (slot : Slot "tuple" name id) (hty : typeOf (.builtin id) = pure (.type "method_descriptor")) (hm : MtR X id r)
    (ht : PA X es' t') (ha : PA X (e :: es) t) (hbase : attributeBase (.Tuple es' x1 p1) name X.env (eval (.Tuple es' x1 p1) X.env) = eval (.Tuple es' x1 p1) X.env := by rfl)
    (hfew : ((backTo cpos (starEach (e :: es) X.env)).all (fun x => !x.1) && (backToKw cpos (keywordEach [] X.env)).all (fun x => x.1.isSome)
      && decide ((e :: es).length + ([] : List Keyword).length + (if ([] : List Keyword).isEmpty then 0 else 1) < 30)) = true := by rfl)
    (hline : (apos.endLine == cpos.line) = true := by rfl) (hs : starEach (e :: es) X.env = (false, eval e X.env) :: starEach es X.env := by rfl) (hplain : (backTo cpos (starEach es X.env)).any (·.1) = false := by rfl) :
    PE X (.Call (.Attribute (.Tuple es' x1 p1) name apos) (e :: es) [] cpos) (tTupM r t' t) := by
  refine ⟨fun pins s σ H Q I h => ?_⟩
  refine wpAny_Call_method_late hbase hfew hline rfl (wpAny_Tuple_spliced (thn (ht.run p1 pins s σ H _ I h) fun us s1 ⟨xs, H1, I1, r1, z, q⟩ => ⟨by rw [← r1.length]; exact z, ?_⟩))
  have hf : H1 s1.heap.objs.size = none := I1.hok.fresh (Nat.le_refl _)
  have J : Inv X pins σ (upd H1 s1.heap.objs.size (.tup xs)) { s1 with heap := s1.heap.push { cls := .type "tuple", data := .seq us.toArray } } := I1.laid (t' := s1.toks) (fun b u e => Heap.get?_push_of_some _ e) (Nat.le_refl _) ⟨z, us, r1, ⟨_, Heap.get?_push_size _ rfl, rfl, _, rfl⟩⟩
  have ho := Heap.get?_push_size s1.heap (o := { cls := .type "tuple", data := .seq us.toArray }) rfl
  refine ⟨"tuple", id, PySem.F.plainAttrs_tuple, slot, hty, ⟨_, ho, rfl⟩, fun b eb => ?_, ?_⟩
  · cases eb
    exact ⟨_, ho, rfl⟩
  · have hA := ha.run cpos pins _ σ _ _ J (q _ hf)
    rw [hs] at hA ⊢
    refine Calls.callWith_builtin (by show (false || (backTo cpos (starEach es X.env)).any (·.1)) = false; rw [hplain] <;> rfl) (Calls.evalArgs_plain ?_)
    exact thn hA fun us s2 ⟨vs, H2, I2, r2, q2⟩ => hm pins s2 σ H2 (.ref s1.heap.objs.size) vs _ us Q I2 rfl r2 q2
/-! ### a Text on the heap -/
theorem cc_ : ¬ (("own_chars" : Str) = "own_counts") := by decide +kernel
def tf (l t : Addr) : List (Str × V) := putF "own_counts" (.ref t) (putF "own_chars" (.ref l) [])
theorem tf_eq (l t : Addr) : tf l t = ([("own_chars", V.ref l), ("own_counts", V.ref t)] : List (Str × V)) := by
  show (if ("own_chars" : Str) = "own_counts" then [(("own_chars" : Str), V.ref t)] else (("own_chars" : Str), V.ref l) :: putF "own_counts" (V.ref t) []) = _
  rw [if_neg cc_]
  all_goals rfl
theorem tf_chars (l t : Addr) : (tf l t).lookup ("own_chars" : Str) = some (.ref l) := by
  unfold tf
  rw [lookup_putF, if_neg cc_, lookup_putF, if_pos rfl]
theorem tf_counts (l t : Addr) : (tf l t).lookup ("own_counts" : Str) = some (.ref t) := by
  unfold tf
  rw [lookup_putF, if_pos rfl]
theorem tf_no (l t : Addr) {m : Str} (h1 : ¬ m = "own_counts") (h2 : ¬ m = "own_chars") : (tf l t).lookup m = none := by
  unfold tf
  rw [lookup_putF, if_neg h1, lookup_putF, if_neg h2]
  all_goals rfl
/-- a Text at x with the characters cs, its list at l -/
def TXl (a : AD) (H : Hp) (x l : Addr) (cs : List Int) : Prop := ∃ dx t, H x = some (.ins a.c_Text dx (tf l t)) ∧ H l = some (.lst (cs.map V.int)) ∧ H t = some (.tup [.int (cnt .b cs), .int (cnt .u cs), .int (cnt .c cs)]) ∧ Chs cs ∧ cs.length ≤ 1000
def TX (a : AD) (H : Hp) (x : Addr) (cs : List Int) : Prop := ∃ l, TXl a H x l cs
theorem TXl.mono {a : AD} {H H' : Hp} {x l : Addr} {cs : List Int} (s : Same H H') (h : TXl a H x l cs) : TXl a H' x l cs := by
  obtain ⟨dx, t, h1, h2, h3, h4⟩ := h
  exact ⟨dx, t, s _ _ h1, s _ _ h2, s _ _ h3, h4⟩
theorem TX.mono {a : AD} {H H' : Hp} {x : Addr} {cs : List Int} (s : Same H H') (h : TX a H x cs) : TX a H' x cs := let ⟨l, h⟩ := h; ⟨l, h.mono s⟩
theorem TX.ins {a : AD} {H : Hp} {x : Addr} {cs : List Int} (h : TX a H x cs) : ∃ dx fs, H x = some (.ins a.c_Text dx fs) := by
  obtain ⟨l, dx, t, h1, _⟩ := h
  exact ⟨dx, _, h1⟩
/-- what makes a new Text goes on so -/
def NewT (a : AD) (H : Hp) (cs : List Int) (Q : VK) : Prop := ∀ H' x, Same H H' → H x = none → TX a (nw H H') x cs → Q (.ref x) H'
section
variable {P : Program} {w : World} {K : PySem.W.Frag} {mg : Str → Option Value} {base : Heap} {a : AD}
def spTInit (a : AD) : Sp := fun vs H Q _ => ∃ (x dx p : Addr) (cs : List Int), vs = [.ref x, .ref p] ∧ H x = some (.ins a.c_Text dx []) ∧ H p = some (.lst (cs.map V.int)) ∧ Chs cs ∧ cs.length ≤ 1000 ∧
  ∀ (H' : Hp) (l t : Addr), SameX x H H' → H l = none → H t = none → H' x = some (.ins a.c_Text dx (tf l t)) → H' l = some (.lst (cs.map V.int)) → H' t = some (.tup [.int (cnt .b cs), .int (cnt .u cs), .int (cnt .c cs)]) → Q .non H'
theorem ok_tinit (T : Txt K mg a) : FnR P w K mg base CX0 5 a.m_Text_init (spTInit a) := by
  have G1 : GD P w K mg base CX0 4 "need_chars" a.d_need_chars spNeedChars := ok_need_chars T
  have G2 : GD P w K mg base CX0 2 "counts_in" a.d_counts_in spCounts := ok_counts_in T
  have S : FnScope ["self", "chars"] ["self", "chars"] (defScope s_Text_init) := C8.fnScope_by (by decide +kernel)
  refine okR T.m_Text_init.fn S (fun vs H Q E h => ?_) (fun _ _ _ _ _ _ us hl => match us, hl with | [_, _], _ => rfl) (fun cdv A outer s H vs Q E hr h => ?_)
  · obtain ⟨_, _, _, _, rfl, _⟩ := h
    rfl
  · obtain ⟨x, dx, p, cs, rfl, hx, hp, hc, hz, q⟩ := h
    refine ⟨_, pss_cons (ps_expr (pe_callD G1 hr pass0 (pa_cons (pv 1) pa_nil))) (pss_cons (ps_fld (pv 0) (pe_callTy call_list_of (by rfl) T.n_list (by decide +kernel) (pa_cons (pv 1) pa_nil)) rfl)
      (pss_one (ps_fld (pv 0) (pe_callD G2 hr pass0 (pa_cons (pv 1) pa_nil)) rfl))), ?_⟩
    refine ⟨_, rfl, p, cs, rfl, hp, hc, fun H1 s1 => ?_⟩
    refine ⟨_, rfl, p, _, rfl, .inl (SqL.of (s1 _ _ hp)), fun l nl => ?_⟩
    have nlx : x ≠ l := ne_of_none (s1 _ _ hx) nl
    have nlp : p ≠ l := ne_of_none (s1 _ _ hp) nl
    have npx : p ≠ x := ne_of hp hx (by intro z; cases z)
    refine ⟨_, rfl, x, a.c_Text, dx, [], rfl, by rw [upd_ne nlx]; exact s1 _ _ hx, T.i_Text.cl, T.n_Text_own_chars, (by show 0 < 1000; decide), ?_⟩
    refine ⟨_, rfl, p, cs, rfl, by rw [upd_ne npx, upd_ne nlp]; exact s1 _ _ hp, Nat.le_trans hz (by decide), fun H2 t s2 nt ht => ?_⟩
    have hx2 := s2 _ _ upd_same
    refine ⟨_, rfl, x, a.c_Text, dx, _, rfl, hx2, T.i_Text.cl, T.n_Text_own_counts, (by show 1 < 1000; decide), ?_⟩
    have ntx : t ≠ x := fun z => by rw [z, upd_same] at nt; cases nt
    have ntl : t ≠ l := fun z => by rw [z, upd_ne nlx.symm, upd_same] at nt; cases nt
    have nt1 : H1 t = none := by rw [upd_ne ntx, upd_ne ntl] at nt; exact nt
    refine q _ l t (fun b o e hb => ?_) (s1.free nl) (s1.free nt1) upd_same ?_ ?_
    · rw [upd_ne hb]
      refine s2 _ _ ?_
      rw [upd_ne hb, upd_ne (ne_of_none (s1 _ _ e) nl)]
      exact s1 _ _ e
    · rw [upd_ne nlx.symm]
      refine s2 _ _ ?_
      rw [upd_ne nlx.symm, upd_same]
    · rw [upd_ne ntx]
      exact ht
/-- Text(p), p a list of characters -/
theorem mkT {H1 : Hp} {p : Addr} {cs : List Int} {Q : VK} {E : XK} (hp : H1 p = some (.lst (cs.map V.int))) (hc : Chs cs) (hz : cs.length ≤ 1000) (k : NewT a H1 cs Q) :
    ∀ x dx, H1 x = none → H1 dx = none → dx ≠ x → spTInit a (.ref x :: [.ref p]) (upd (upd H1 dx (.own x)) x (.ins a.c_Text dx [])) (fun v H2 => v = .non ∧ Q (.ref x) H2) E := by
  intro x dx nx nd ne
  have s0 : Same H1 (upd (upd H1 dx (.own x)) x (.ins a.c_Text dx [])) := (Same.new nd).trans (Same.new (by rw [upd_ne ne.symm]; exact nx))
  refine ⟨x, dx, p, cs, rfl, upd_same, s0 _ _ hp, hc, hz, fun H' l t s1 nl nt hx hl ht => ⟨rfl, ?_⟩⟩
  refine k H' x (fun b o e => s1 _ _ (s0 _ _ e) (ne_of_none e nx)) nx ⟨l, dx, t, ?_, ?_, ?_, hc, hz⟩
  · rw [nw_of nx]; exact hx
  · rw [nw_of (s0.free nl)]; exact hl
  · rw [nw_of (s0.free nt)]; exact ht
def spTChars (a : AD) : Sp := fun vs H Q _ => ∃ (x : Addr) (cs : List Int), vs = [.ref x] ∧ TX a H x cs ∧ ∀ H' p, Same H H' → H p = none → H' p = some (.lst (cs.map V.int)) → Q (.ref p) H'
theorem ok_tchars (T : Txt K mg a) : GM P w K mg base CX0 1 a.c_Text "chars" a.m_Text_chars (spTChars a) := by
  have S : FnScope ["self"] ["self"] (defScope s_Text_chars) := C8.fnScope_by (by decide +kernel)
  refine ⟨okR T.m_Text_chars.fn S (fun vs H Q E h => ?_) (fun _ _ _ _ _ _ us hl => match us, hl with | [_], _ => rfl) (fun cdv A outer s H vs Q E hr h => ?_), T.m_Text_chars.me⟩
  · obtain ⟨_, _, rfl, _⟩ := h
    rfl
  · obtain ⟨x, cs, rfl, ⟨l, dx, t, h1, h2, h3, h4⟩, q⟩ := h
    refine ⟨_, pss_one (ps_ret (pe_callTy call_list_of (by rfl) T.n_list (by decide +kernel) (pa_cons (pe_fld (pv 0) rfl) pa_nil))), ?_⟩
    exact ⟨_, rfl, x, _, dx, _, _, rfl, h1, T.i_Text.cl, T.n_Text_own_chars, tf_chars _ _, l, _, rfl, .inl (SqL.of h2), fun p np => q _ p (Same.new np) np upd_same⟩
def spTLen (a : AD) : Sp := fun vs H Q _ => ∃ (x : Addr) (cs : List Int), vs = [.ref x] ∧ TX a H x cs ∧ Q (.int (cs.length : Nat)) H
theorem ok_tlen (T : Txt K mg a) : GM P w K mg base CX0 1 a.c_Text "__len__" a.m_Text_len (spTLen a) := by
  have S : FnScope ["self"] ["self"] (defScope s_Text_len) := C8.fnScope_by (by decide +kernel)
  refine ⟨okR T.m_Text_len.fn S (fun vs H Q E h => ?_) (fun _ _ _ _ _ _ us hl => match us, hl with | [_], _ => rfl) (fun cdv A outer s H vs Q E hr h => ?_), T.m_Text_len.me⟩
  · obtain ⟨_, _, rfl, _⟩ := h
    rfl
  · obtain ⟨x, cs, rfl, ⟨l, dx, t, h1, h2, h3, h4⟩, q⟩ := h
    refine ⟨_, pss_one (ps_ret (pe_callB call_len_seq (by rfl) T.n_len PySem.boot_len (pa_cons (pe_fld (pv 0) rfl) pa_nil))), ?_⟩
    refine ⟨_, rfl, x, _, dx, _, _, rfl, h1, T.i_Text.cl, T.n_Text_own_chars, tf_chars _ _, l, _, rfl, .inl (SqL.of h2), ?_⟩
    rw [List.length_map]
    exact q
def spTCount (a : AD) : Sp := fun vs H Q _ => ∃ (x : Addr) (cs : List Int) (k : Kd), vs = [.ref x, .str k.str] ∧ TX a H x cs ∧ ∀ H', Same H H' → Q (.int (cnt k cs)) H'
theorem ok_tcount (T : Txt K mg a) : GM P w K mg base CX0 3 a.c_Text "count" a.m_Text_count (spTCount a) := by
  have G1 : GD P w K mg base CX0 2 "need_kind" a.d_need_kind spNeedKind := ok_need_kind T
  have S : FnScope ["self", "kind"] ["self", "kind"] (defScope s_Text_count) := C8.fnScope_by (by decide +kernel)
  refine ⟨okR T.m_Text_count.fn S (fun vs H Q E h => ?_) (fun _ _ _ _ _ _ us hl => match us, hl with | [_, _], _ => rfl) (fun cdv A outer s H vs Q E hr h => ?_), T.m_Text_count.me⟩
  · obtain ⟨_, _, _, rfl, _⟩ := h
    rfl
  · obtain ⟨x, cs, k, rfl, ⟨l, dx, t, h1, h2, h3, h4⟩, q⟩ := h
    refine ⟨_, pss_cons (ps_expr (pe_callD G1 hr pass0 (pa_cons (pv 1) pa_nil))) (pss_one (ps_ret (pe_ix ix_tup (pe_fld (pv 0) rfl)
      (pe_tupM PySem.F.slot_tuple_index PySem.F.type_tuple_index mt_tup_index (pa_cons (C8.pe_gc rfl T.c_BYTES_texts) (pa_cons (C8.pe_gc rfl T.c_UNITS_texts) (pa_cons (C8.pe_gc rfl T.c_CHARS_texts) pa_nil)))
        (pa_cons (pv 1) pa_nil)) (fun _ _ => rfl)))), ?_⟩
    refine ⟨_, rfl, k, rfl, ?_⟩
    refine ⟨_, rfl, x, _, dx, _, _, rfl, h1, T.i_Text.cl, T.n_Text_own_counts, tf_counts _ _, (by show 3 ≤ sizeLine; decide), fun p np => ?_⟩
    refine ⟨_, rfl, p, ["bytes", "units", "chars"], k.str, (match k with | .b => 0 | .u => 1 | .c => 2), rfl, rfl, SqT.of upd_same, by cases k <;> rfl, ?_, ?_⟩
    · cases k
      · intro m hm; exact absurd hm (Nat.not_lt_zero _)
      · intro m hm
        have : m = 0 := by have : m < 1 := hm; omega
        subst this
        decide +kernel
      · intro m hm
        have : m = 0 ∨ m = 1 := by have : m < 2 := hm; omega
        rcases this with z | z <;> subst z <;> decide +kernel
    · refine ⟨t, _, _, _, rfl, rfl, SqT.of (Same.new np _ _ h3), ?_, q _ (Same.new np)⟩
      cases k
      · exact atI_nat (j := 0) rfl
      · exact atI_nat (j := 1) rfl
      · exact atI_nat (j := 2) rfl
end
end K14

namespace K14
open PySem PySem.Spec PyProof.Rows L2
theorem cut_ints (cs : List Int) {i j : Nat} (hi : i ≤ cs.length) (hj : j ≤ cs.length) : cutV (cs.map V.int) (some (i : Int)) (some (j : Int)) = ((cs.drop i).take (j - i)).map V.int := by
  unfold cutV
  rw [HT.sIx_nat, HT.sIx_nat, List.length_map, Nat.min_eq_left hi, Nat.min_eq_left hj, List.map_take, List.map_drop]
theorem cut_to (cs : List Int) {j : Nat} (hj : j ≤ cs.length) : cutV (cs.map V.int) none (some (j : Int)) = (cs.take j).map V.int := by
  unfold cutV
  rw [HT.sIx_nat, HT.sIx_none, List.length_map, Nat.min_eq_left hj, List.map_take]
  rfl
theorem cut_from (cs : List Int) {i : Nat} (hi : i ≤ cs.length) : cutV (cs.map V.int) (some (i : Int)) none = (cs.drop i).map V.int := by
  unfold cutV
  rw [HT.sIx_nat, HT.sIx_none, List.length_map, Nat.min_eq_left hi, List.map_drop, List.take_of_length_le]
  rw [List.length_drop, List.length_map]
  omega
section
variable {P : Program} {w : World} {K : PySem.W.Frag} {mg : Str → Option Value} {base : Heap} {a : AD}
def spTPart (a : AD) : Sp := fun vs H Q _ => ∃ (x : Addr) (cs : List Int) (i j : Nat), vs = [.ref x, .int i, .int j] ∧ TX a H x cs ∧ i ≤ j ∧ j ≤ cs.length ∧ NewT a H ((cs.drop i).take (j - i)) Q
theorem NewT.back {H H1 : Hp} {cs : List Int} {Q : VK} (s : Same H H1) (k : NewT a H cs Q) : NewT a H1 cs Q := fun H' x s1 nx h => k H' x (s.trans s1) (s.free nx) (h.mono (nw_back s))
theorem ok_tpart (T : Txt K mg a) : GM P w K mg base CX0 7 a.c_Text "part" a.m_Text_part (spTPart a) := by
  have G1 : GD P w K mg base CX0 1 "is_integer" a.d_is_integer spIsInt := ok_is_integer T
  have GI : FnR P w K mg base CX0 5 a.m_Text_init (spTInit a) := ok_tinit T
  have S : FnScope ["self", "start", "end"] ["self", "start", "end"] (defScope s_Text_part) := C8.fnScope_by (by decide +kernel)
  refine ⟨okR T.m_Text_part.fn S (fun vs H Q E h => ?_) (fun _ _ _ _ _ _ us hl => match us, hl with | [_, _, _], _ => rfl) (fun cdv A outer s H vs Q E hr h => ?_), T.m_Text_part.me⟩
  · obtain ⟨_, _, _, _, rfl, _⟩ := h
    rfl
  · obtain ⟨x, cs, i, j, rfl, ⟨l, dx, t, h1, h2, h3, h4, h5⟩, hij, hj, q⟩ := h
    refine ⟨_, pss_cons (ps_if (pt_not (pt_val (pe_callD G1 hr pass0 (pa_cons (pv 1) (pa_cons pe_int (pa_cons (pe_callB call_len_seq (by rfl) T.n_len PySem.boot_len (pa_cons (pe_fld (pv 0) rfl) pa_nil)) pa_nil)))))) (pss_one ps_never) pss_nil)
      (pss_cons (ps_if (pt_not (pt_val (pe_callD G1 hr pass0 (pa_cons (pv 2) (pa_cons (pv 1) (pa_cons (pe_callB call_len_seq (by rfl) T.n_len PySem.boot_len (pa_cons (pe_fld (pv 0) rfl) pa_nil)) pa_nil)))))) (pss_one ps_never) pss_nil)
      (pss_one (ps_ret (StX.pe_makeR T.k_Text GI hr rfl T.g_Text pass0 (pa_cons (pe_slice sl_list (pe_fld (pv 0) rfl) (po_some (pv 1)) (po_some (pv 2))) pa_nil))))), ?_⟩
    refine ⟨_, rfl, _, rfl, x, _, dx, _, _, rfl, h1, T.i_Text.cl, T.n_Text_own_chars, tf_chars _ _, l, _, rfl, .inl (SqL.of h2), (i : Int), 0, _, rfl, true, ?_, iteF ?_⟩
    · rw [List.length_map, decide_eq_true (by omega : (0 : Int) ≤ (i : Int)), decide_eq_true (by omega : (i : Int) ≤ (cs.length : Nat))]
      rfl
    refine ⟨_, rfl, _, rfl, _, rfl, x, _, dx, _, _, rfl, h1, T.i_Text.cl, T.n_Text_own_chars, tf_chars _ _, l, _, rfl, .inl (SqL.of h2), (j : Int), (i : Int), _, rfl, true, ?_, iteF ?_⟩
    · rw [List.length_map, decide_eq_true (by omega : (i : Int) ≤ (j : Int)), decide_eq_true (by omega : (j : Int) ≤ (cs.length : Nat))]
      rfl
    refine ⟨_, rfl, x, _, dx, _, _, rfl, h1, T.i_Text.cl, T.n_Text_own_chars, tf_chars _ _, _, rfl, (i : Int), rfl, _, rfl, (j : Int), rfl, l, _, rfl, SqL.of h2, fun p np => ?_⟩
    rw [cut_ints cs (by omega) hj]
    refine mkT upd_same (fun c hc => h4 c (List.mem_of_mem_drop (List.mem_of_mem_take hc))) ?_ (q.back (Same.new np))
    rw [List.length_take, List.length_drop]
    omega
def spCharsOf (a : AD) : Sp := fun vs H Q _ => ∃ (x l : Addr) (cs : List Int), vs = [.ref x] ∧ TXl a H x l cs ∧ Q (.ref l) H
theorem ok_chars_of (T : Txt K mg a) : GD P w K mg base CX0 1 "chars_of" a.d_chars_of (spCharsOf a) := by
  have S : FnScope ["value"] ["value"] (defScope s_chars_of) := C8.fnScope_by (by decide +kernel)
  refine ⟨okR T.d_chars_of.fn S (fun vs H Q E h => ?_) (fun _ _ _ _ _ _ us hl => match us, hl with | [_], _ => rfl) (fun cdv A outer s H vs Q E hr h => ?_), T.d_chars_of.mgx, T.d_chars_of.kp⟩
  · obtain ⟨_, _, _, rfl, _⟩ := h
    rfl
  · obtain ⟨x, l, cs, rfl, ⟨dx, t, h1, h2, h3, h4, h5⟩, q⟩ := h
    refine ⟨_, pss_cons (ps_if (pt_val (pe_callB (C8.call_isC T.i_Text) (by rfl) T.n_isinstance (by decide +kernel) (pa_cons (pv 0) (pa_cons (pe_glob (v := .ref a.c_Text) rfl T.g_Text rfl) pa_nil)))) (pss_one (ps_ret (pe_fld (pv 0) rfl))) pss_nil) pss_never, ?_⟩
    refine ⟨_, rfl, x, dx, _, rfl, h1, true, rfl, iteT ?_⟩
    exact ⟨_, rfl, x, _, dx, _, _, rfl, h1, T.i_Text.cl, T.n_Text_own_chars, tf_chars _ _, q⟩
theorem ok_need_more (T : Txt K mg a) : GD P w K mg base CX0 2 "need_more" a.d_need_more (spCharsOf a) := by
  have G1 : GD P w K mg base CX0 1 "chars_of" a.d_chars_of (spCharsOf a) := ok_chars_of T
  have S : FnScope ["value", "found"] ["value"] (defScope s_need_more) := C8.fnScope_by (by decide +kernel)
  refine ⟨okR T.d_need_more.fn S (fun vs H Q E h => ?_) (fun _ _ _ _ _ _ us hl => match us, hl with | [_], _ => rfl) (fun cdv A outer s H vs Q E hr h => ?_), T.d_need_more.mgx, T.d_need_more.kp⟩
  · obtain ⟨_, _, _, rfl, _⟩ := h
    rfl
  · obtain ⟨x, l, cs, rfl, h1, q⟩ := h
    refine ⟨_, pss_cons (ps_set (i := 1) S.nd rfl (Or.inl rfl) (pe_callD G1 hr pass0 (pa_cons (pv 0) pa_nil)))
      (pss_cons (ps_if (pt_cmpR op_isN (pv 1) pe_non (nomark _)) (pss_one ps_never) pss_nil) (pss_one (ps_ret (pv 1)))), ?_⟩
    refine ⟨_, rfl, x, l, cs, rfl, h1, _, rfl, rfl, _, rfl, ifF (decide_eq_false (fun z => nomatch z)) ⟨_, rfl, q⟩⟩
def spNeedText (a : AD) : Sp := fun vs H Q _ => ∃ (x dx : Addr) (fs : List (Str × V)), vs = [.ref x] ∧ H x = some (.ins a.c_Text dx fs) ∧ Q .non H
theorem ok_need_text (T : Txt K mg a) : GD P w K mg base CX0 1 "need_text" a.d_need_text (spNeedText a) := by
  have S : FnScope ["value"] ["value"] (defScope s_need_text) := C8.fnScope_by (by decide +kernel)
  refine ⟨okR T.d_need_text.fn S (fun vs H Q E h => ?_) (fun _ _ _ _ _ _ us hl => match us, hl with | [_], _ => rfl) (fun cdv A outer s H vs Q E hr h => ?_), T.d_need_text.mgx, T.d_need_text.kp⟩
  · obtain ⟨_, _, _, rfl, _⟩ := h
    rfl
  · obtain ⟨x, dx, fs, rfl, h1, q⟩ := h
    refine ⟨_, pss_one (ps_if (pt_not (pt_val (pe_callB (C8.call_isC T.i_Text) (by rfl) T.n_isinstance (by decide +kernel) (pa_cons (pv 0) (pa_cons (pe_glob (v := .ref a.c_Text) rfl T.g_Text rfl) pa_nil))))) (pss_one ps_never) pss_nil), ?_⟩
    exact ⟨_, rfl, x, dx, _, rfl, h1, true, rfl, iteF q⟩
def spTAdd (a : AD) : Sp := fun vs H Q _ => ∃ (x y : Addr) (cs ds : List Int), vs = [.ref x, .ref y] ∧ TX a H x cs ∧ TX a H y ds ∧ cs.length + ds.length ≤ 1000 ∧ NewT a H (cs ++ ds) Q
theorem ok_tadd (T : Txt K mg a) : GM P w K mg base CX0 7 a.c_Text "__add__" a.m_Text_add (spTAdd a) := by
  have G1 : GD P w K mg base CX0 2 "need_more" a.d_need_more (spCharsOf a) := ok_need_more T
  have GI : FnR P w K mg base CX0 5 a.m_Text_init (spTInit a) := ok_tinit T
  have S : FnScope ["self", "other"] ["self", "other"] (defScope s_Text_add) := C8.fnScope_by (by decide +kernel)
  refine ⟨okR T.m_Text_add.fn S (fun vs H Q E h => ?_) (fun _ _ _ _ _ _ us hl => match us, hl with | [_, _], _ => rfl) (fun cdv A outer s H vs Q E hr h => ?_), T.m_Text_add.me⟩
  · obtain ⟨_, _, _, _, rfl, _⟩ := h
    rfl
  · obtain ⟨x, y, cs, ds, rfl, ⟨l, dx, t, h1, h2, h3, h4, h5⟩, ⟨m, hy⟩, hz, q⟩ := h
    obtain ⟨dy, u, g1, g2, g3, g4, g5⟩ := id hy
    refine ⟨_, pss_one (ps_ret (StX.pe_makeR T.k_Text GI hr rfl T.g_Text pass0 (pa_cons (pe_op op_cat (pe_fld (pv 0) rfl) (pe_callD G1 hr pass0 (pa_cons (pv 1) pa_nil))) pa_nil))), ?_⟩
    refine ⟨_, rfl, x, _, dx, _, _, rfl, h1, T.i_Text.cl, T.n_Text_own_chars, tf_chars _ _, _, rfl, y, m, ds, rfl, hy, l, m, _, _, rfl, rfl, h2, g2, ?_, fun p np => ?_⟩
    · rw [List.length_map, List.length_map]
      exact Nat.le_trans hz (by decide)
    · rw [← List.map_append]
      refine mkT upd_same (fun c hc => ?_) (by rw [List.length_append]; exact hz) (q.back (Same.new np))
      rcases List.mem_append.mp hc with z | z
      · exact h4 c z
      · exact g4 c z
def spTEq (a : AD) : Sp := fun vs H Q _ => ∃ (x y : Addr) (cs ds : List Int), vs = [.ref x, .ref y] ∧ TX a H x cs ∧ TX a H y ds ∧ Q (.bl (decide (cs = ds))) H
theorem ok_teq (T : Txt K mg a) : GM P w K mg base CX0 1 a.c_Text "__eq__" a.m_Text_eq (spTEq a) := by
  have S : FnScope ["self", "other"] ["self", "other"] (defScope s_Text_eq) := C8.fnScope_by (by decide +kernel)
  refine ⟨okR T.m_Text_eq.fn S (fun vs H Q E h => ?_) (fun _ _ _ _ _ _ us hl => match us, hl with | [_, _], _ => rfl) (fun cdv A outer s H vs Q E hr h => ?_), T.m_Text_eq.me⟩
  · obtain ⟨_, _, _, _, rfl, _⟩ := h
    rfl
  · obtain ⟨x, y, cs, ds, rfl, ⟨l, dx, t, h1, h2, h3, h4, h5⟩, ⟨m, dy, u, g1, g2, g3, g4, g5⟩, q⟩ := h
    refine ⟨_, pss_one (ps_ret (pe_and (pe_callB (C8.call_isC T.i_Text) (by rfl) T.n_isinstance (by decide +kernel) (pa_cons (pv 1) (pa_cons (pe_glob (v := .ref a.c_Text) rfl T.g_Text rfl) pa_nil)))
      (pe_one (pe_cmpR (op_eqL hr.units) (pe_fld (pv 0) rfl) (pe_fld (pv 1) rfl) (nomark _))))), ?_⟩
    refine ⟨_, rfl, y, dy, _, rfl, g1, true, rfl, iteT ?_⟩
    exact ⟨_, rfl, x, _, dx, _, _, rfl, h1, T.i_Text.cl, T.n_Text_own_chars, tf_chars _ _, _, rfl, y, _, dy, _, _, rfl, g1, T.i_Text.cl, T.n_Text_own_chars, tf_chars _ _, l, m, cs, ds, rfl, rfl, SqL.of h2, SqL.of g2, q⟩
def spTLt (a : AD) : Sp := fun vs H Q _ => ∃ (x y : Addr) (cs ds : List Int), vs = [.ref x, .ref y] ∧ TX a H x cs ∧ TX a H y ds ∧ Q (.bl (PySem.W.listLt cs ds)) H
theorem ok_tlt (T : Txt K mg a) : GM P w K mg base CX0 1 a.c_Text "__lt__" a.m_Text_lt (spTLt a) := by
  have S : FnScope ["self", "other"] ["self", "other"] (defScope s_Text_lt) := C8.fnScope_by (by decide +kernel)
  refine ⟨okR T.m_Text_lt.fn S (fun vs H Q E h => ?_) (fun _ _ _ _ _ _ us hl => match us, hl with | [_, _], _ => rfl) (fun cdv A outer s H vs Q E hr h => ?_), T.m_Text_lt.me⟩
  · obtain ⟨_, _, _, _, rfl, _⟩ := h
    rfl
  · obtain ⟨x, y, cs, ds, rfl, ⟨l, dx, t, h1, h2, h3, h4, h5⟩, ⟨m, dy, u, g1, g2, g3, g4, g5⟩, q⟩ := h
    refine ⟨_, pss_cons (ps_if (pt_not (pt_val (pe_callB (C8.call_isC T.i_Text) (by rfl) T.n_isinstance (by decide +kernel) (pa_cons (pv 1) (pa_cons (pe_glob (v := .ref a.c_Text) rfl T.g_Text rfl) pa_nil))))) (pss_one ps_never) pss_nil)
      (pss_one (ps_ret (pe_cmpR (op_ltL hr.units) (pe_fld (pv 0) rfl) (pe_fld (pv 1) rfl) (nomark _)))), ?_⟩
    refine ⟨_, rfl, y, dy, _, rfl, g1, true, rfl, iteF ?_⟩
    exact ⟨_, rfl, x, _, dx, _, _, rfl, h1, T.i_Text.cl, T.n_Text_own_chars, tf_chars _ _, _, rfl, y, _, dy, _, _, rfl, g1, T.i_Text.cl, T.n_Text_own_chars, tf_chars _ _, l, m, cs, ds, rfl, rfl, SqL.of h2, SqL.of g2, q⟩
end
end K14

namespace K14
open PySem PySem.Spec PyProof.Rows L2
theorem enc_length (k : Kd) (c : Int) : (enc k c).length ≤ 4 := by
  cases k with
  | c => exact (by decide : 1 ≤ 4)
  | u =>
    show (if c < 65536 then [c] else [55296 + (c - 65536) / 1024, 56320 + (c - 65536) % 1024]).length ≤ 4
    split
    · exact (by decide : 1 ≤ 4)
    · exact (by decide : 2 ≤ 4)
  | b =>
    show (if c < 128 then [c] else if c < 2048 then [192 + c / 64, 128 + c % 64]
      else if c < 65536 then [224 + c / 64 / 64, 128 + c / 64 % 64, 128 + c % 64]
      else [240 + c / 64 / 64 / 64, 128 + c / 64 / 64 % 64, 128 + c / 64 % 64, 128 + c % 64]).length ≤ 4
    split
    · exact (by decide : 1 ≤ 4)
    · split
      · exact (by decide : 2 ≤ 4)
      · split
        · exact (by decide : 3 ≤ 4)
        · exact (by decide : 4 ≤ 4)
theorem encs_length (k : Kd) : ∀ cs : List Int, (encs k cs).length ≤ 4 * cs.length
  | [] => Nat.le_refl _
  | c :: r => by
    show (enc k c ++ encs k r).length ≤ 4 * (r.length + 1)
    rw [List.length_append]
    have h1 := enc_length k c
    have h2 := encs_length k r
    omega
theorem encs_append (k : Kd) (cs ds : List Int) : encs k (cs ++ ds) = encs k cs ++ encs k ds := List.flatMap_append ..
theorem encs_take_succ {k : Kd} {cs : List Int} {i : Nat} {z : Int} (h : cs[i]? = some z) : encs k (cs.take (i + 1)) = encs k (cs.take i) ++ enc k z := by
  have : cs.take (i + 1) = cs.take i ++ [z] := by
    rw [List.take_add_one, h]
    rfl
  rw [this, encs_append]
  show encs k (cs.take i) ++ (enc k z ++ []) = _
  rw [List.append_nil]
/-- -1, 0 or 1 -/
def cmpI (xs ys : List Int) : Int := if xs = ys then 0 else if PySem.W.listLt xs ys = true then -1 else 1
section
variable {P : Program} {w : World} {K : PySem.W.Frag} {mg : Str → Option Value} {base : Heap} {a : AD}
/-- a new list of ints is handed back -/
def NewL (H : Hp) (ns : List Int) (Q : VK) : Prop := ∀ H' p, Same H H' → H p = none → H' p = some (.lst (ns.map V.int)) → Q (.ref p) H'
theorem NewL.back {H H1 : Hp} {ns : List Int} {Q : VK} (s : Same H H1) (k : NewL H ns Q) : NewL H1 ns Q := fun H' x s1 nx h => k H' x (s.trans s1) (s.free nx) h
def spAllItems (a : AD) : Sp := fun vs H Q _ => ∃ (x : Addr) (cs : List Int) (k : Kd), vs = [.ref x, .str k.str] ∧ TX a H x cs ∧ NewL H (encs k cs) Q
theorem ok_all_items (T : Txt K mg a) : GD P w K mg base CX0 4 "all_items" a.d_all_items (spAllItems a) := by
  have G1 : GD P w K mg base CX0 3 "items_in" a.d_items_in spItemsIn := ok_items_in T
  have S : FnScope ["text", "kind", "found", "char"] ["text", "kind"] (defScope s_all_items) := C8.fnScope_by (by decide +kernel)
  refine ⟨okR T.d_all_items.fn S (fun vs H Q E h => ?_) (fun _ _ _ _ _ _ us hl => match us, hl with | [_, _], _ => rfl) (fun cdv A outer s H vs Q E hr h => ?_), T.d_all_items.mgx, T.d_all_items.kp⟩
  · obtain ⟨_, _, _, rfl, _⟩ := h
    rfl
  · obtain ⟨x, cs, k, rfl, ⟨l, dx, t, h1, h2, h3, h4, h5⟩, q⟩ := h
    refine ⟨_, pss_cons (ps_set (i := 2) S.nd rfl (Or.inl rfl) (pe_lst pa_nil)) (pss_cons (ps_for PassesOwn.never rfl (pi_list (pe_fld (pv 0) rfl)) (pg_name (i := 3) S.nd rfl (Or.inl rfl))
      (pss_one (ps_expr (pe_bm PySem.F.plainAttrs_list PySem.F.slot_list_extend PySem.F.type_list_extend mt_extend (pv 2) (pa_cons (pe_callD G1 hr pass0 (pa_cons (pv 3) (pa_cons (pv 1) pa_nil))) pa_nil)))))
      (pss_one (ps_ret (pv 2)))), ?_⟩
    refine ⟨Nat.zero_le _, fun p np => ?_⟩
    have s0 : Same H (upd H p (.lst [])) := Same.new np
    refine ⟨_, rfl, x, _, dx, _, _, rfl, s0 _ _ h1, T.i_Text.cl, T.n_Text_own_chars, tf_chars _ _, l, rfl, ⟨_, SqL.of (s0 _ _ h2)⟩, for_list (K := K) (a := l) (xs := cs.map V.int)
      (fun i σ H2 => (∃ v, σ = [some (.ref x), some (.str k.str), some (.ref p), v]) ∧ Same H H2 ∧ H2 p = some (.lst ((encs k (cs.take i)).map V.int))) ⟨⟨none, rfl⟩, s0, upd_same⟩ (fun i σ H2 _ ⟨_, s2, _⟩ => SqL.of (s2 _ _ h2)) ?_ ?_⟩
    · rintro i y σ H2 hi ⟨⟨v, rfl⟩, s2, hp2⟩
      obtain ⟨z, hz, rfl⟩ := ints_at hi
      refine ⟨_, rfl, .inl ⟨rfl, _, SqL.of hp2⟩, _, rfl, _, rfl, k, z, rfl, (h4 z (List.mem_of_getElem? hz)).1, fun H3 r s3 nr hr3 => ?_⟩
      refine ⟨p, r, _, _, rfl, rfl, s3 _ _ hp2, hr3, ?_, ⟨_, rfl⟩, fun b o e => ?_, ?_⟩
      · rw [List.length_map, List.length_map]
        have e1 := encs_length k (cs.take i)
        have e2 := enc_length k z
        have e3 : (cs.take i).length ≤ cs.length := List.length_take_le' _ _
        have : (encs k (cs.take i)).length + (enc k z).length ≤ 4004 := by omega
        exact Nat.le_trans this (by decide)
      · rw [upd_ne (fun z => by rw [z, np] at e; cases e)]
        exact s3 _ _ (s2 _ _ e)
      · rw [upd_same, encs_take_succ hz, List.map_append]
    · rintro σ H2 ⟨⟨v, rfl⟩, s2, hp2⟩
      rw [List.length_map, List.take_length] at hp2
      exact ⟨_, rfl, q _ p s2 np hp2⟩
def spEncT (a : AD) (k : Kd) : Sp := fun vs H Q _ => ∃ (x : Addr) (cs : List Int), vs = [.ref x] ∧ TX a H x cs ∧ NewL H (encs k cs) Q
theorem ok_byte_list (T : Txt K mg a) : GD P w K mg base CX0 5 "byte_list" a.d_byte_list (spEncT a .b) := by
  have G1 : GD P w K mg base CX0 1 "need_text" a.d_need_text (spNeedText a) := ok_need_text T
  have G2 : GD P w K mg base CX0 4 "all_items" a.d_all_items (spAllItems a) := ok_all_items T
  have S : FnScope ["text"] ["text"] (defScope s_byte_list) := C8.fnScope_by (by decide +kernel)
  refine ⟨okR T.d_byte_list.fn S (fun vs H Q E h => ?_) (fun _ _ _ _ _ _ us hl => match us, hl with | [_], _ => rfl) (fun cdv A outer s H vs Q E hr h => ?_), T.d_byte_list.mgx, T.d_byte_list.kp⟩
  · obtain ⟨_, _, rfl, _⟩ := h
    rfl
  · obtain ⟨x, cs, rfl, hx, q⟩ := h
    obtain ⟨dx, fs, h1⟩ := hx.ins
    refine ⟨_, pss_cons (ps_expr (pe_callD G1 hr pass0 (pa_cons (pv 0) pa_nil))) (pss_one (ps_ret (pe_callD G2 hr pass0 (pa_cons (pv 0) (pa_cons (C8.pe_gc rfl T.c_BYTES_texts) pa_nil))))), ?_⟩
    exact ⟨_, rfl, x, dx, fs, rfl, h1, _, rfl, x, cs, .b, rfl, hx, q⟩
theorem ok_unit_list (T : Txt K mg a) : GD P w K mg base CX0 5 "unit_list" a.d_unit_list (spEncT a .u) := by
  have G1 : GD P w K mg base CX0 1 "need_text" a.d_need_text (spNeedText a) := ok_need_text T
  have G2 : GD P w K mg base CX0 4 "all_items" a.d_all_items (spAllItems a) := ok_all_items T
  have S : FnScope ["text"] ["text"] (defScope s_unit_list) := C8.fnScope_by (by decide +kernel)
  refine ⟨okR T.d_unit_list.fn S (fun vs H Q E h => ?_) (fun _ _ _ _ _ _ us hl => match us, hl with | [_], _ => rfl) (fun cdv A outer s H vs Q E hr h => ?_), T.d_unit_list.mgx, T.d_unit_list.kp⟩
  · obtain ⟨_, _, rfl, _⟩ := h
    rfl
  · obtain ⟨x, cs, rfl, hx, q⟩ := h
    obtain ⟨dx, fs, h1⟩ := hx.ins
    refine ⟨_, pss_cons (ps_expr (pe_callD G1 hr pass0 (pa_cons (pv 0) pa_nil))) (pss_one (ps_ret (pe_callD G2 hr pass0 (pa_cons (pv 0) (pa_cons (C8.pe_gc rfl T.c_UNITS_texts) pa_nil))))), ?_⟩
    exact ⟨_, rfl, x, dx, fs, rfl, h1, _, rfl, x, cs, .u, rfl, hx, q⟩
def spCompare (a : AD) : Sp := fun vs H Q _ => ∃ (x y : Addr) (cs ds : List Int) (k : Kd), vs = [.ref x, .ref y, .str k.str] ∧ TX a H x cs ∧ TX a H y ds ∧ ∀ H', Same H H' → Q (.int (cmpI (encs k cs) (encs k ds))) H'
theorem ok_compare (T : Txt K mg a) : GD P w K mg base CX0 5 "compare" a.d_compare (spCompare a) := by
  have G1 : GD P w K mg base CX0 1 "need_text" a.d_need_text (spNeedText a) := ok_need_text T
  have G2 : GD P w K mg base CX0 4 "all_items" a.d_all_items (spAllItems a) := ok_all_items T
  have G3 : GD P w K mg base CX0 2 "need_kind" a.d_need_kind spNeedKind := ok_need_kind T
  have S : FnScope ["one", "other", "kind", "left", "right"] ["one", "other", "kind"] (defScope s_compare) := C8.fnScope_by (by decide +kernel)
  refine ⟨okR T.d_compare.fn S (fun vs H Q E h => ?_) (fun _ _ _ _ _ _ us hl => match us, hl with | [_, _, _], _ => rfl) (fun cdv A outer s H vs Q E hr h => ?_), T.d_compare.mgx, T.d_compare.kp⟩
  · obtain ⟨_, _, _, _, _, rfl, _⟩ := h
    rfl
  · obtain ⟨x, y, cs, ds, k, rfl, hx, hy, q⟩ := h
    obtain ⟨dx, fs, h1⟩ := hx.ins
    obtain ⟨dy, gs, h2⟩ := hy.ins
    refine ⟨_, pss_cons (ps_expr (pe_callD G1 hr pass0 (pa_cons (pv 0) pa_nil))) (pss_cons (ps_expr (pe_callD G1 hr pass0 (pa_cons (pv 1) pa_nil))) (pss_cons (ps_expr (pe_callD G3 hr pass0 (pa_cons (pv 2) pa_nil)))
      (pss_cons (ps_par (i := 3) (j := 4) (by rfl) S.nd rfl rfl (by decide) rfl rfl (pa_cons (pe_callD G2 hr pass0 (pa_cons (pv 0) (pa_cons (pv 2) pa_nil))) (pa_cons (pe_callD G2 hr pass0 (pa_cons (pv 1) (pa_cons (pv 2) pa_nil))) pa_nil)) (by rfl))
      (pss_cons (ps_if (pt_cmpR (op_eqL hr.units) (pv 3) (pv 4) (nomark _)) (pss_one (ps_ret pe_int)) pss_nil)
      (pss_one (ps_ret (pe_ifExp (pt_cmpR (op_ltL hr.units) (pv 3) (pv 4) (nomark _)) (pe_un un_neg pe_int) pe_int))))))), ?_⟩
    refine ⟨_, rfl, x, dx, fs, rfl, h1, _, rfl, y, dy, gs, rfl, h2, _, rfl, k, rfl, ?_⟩
    refine ⟨_, rfl, _, rfl, x, cs, k, rfl, hx, fun H1 p s1 np hp => ?_⟩
    refine ⟨_, rfl, _, rfl, y, ds, k, rfl, hy.mono s1, fun H2 r s2 nr hr2 => ⟨_, _, rfl, ?_⟩⟩
    have hp2 := s2 _ _ hp
    have s12 := s1.trans s2
    refine ⟨_, rfl, _, rfl, p, r, _, _, rfl, rfl, SqL.of hp2, SqL.of hr2, _, rfl, ?_⟩
    have e : cmpI (encs k cs) (encs k ds) = if encs k cs = encs k ds then 0 else if PySem.W.listLt (encs k cs) (encs k ds) = true then -1 else 1 := rfl
    refine ite2 (fun h => ?_) (fun h => ?_)
    · rw [if_pos (of_decide_eq_true h)] at e
      rw [e] at q
      exact q _ s12
    · rw [if_neg (fun z => h (decide_eq_true z))] at e
      refine ⟨_, rfl, _, rfl, p, r, _, _, rfl, rfl, SqL.of hp2, SqL.of hr2, _, rfl, ?_⟩
      refine ite2 (fun h => ?_) (fun h => ?_)
      · rw [if_pos h] at e
        rw [e] at q
        exact ⟨1, rfl, q _ s12⟩
      · rw [if_neg h] at e
        rw [e] at q
        exact q _ s12
/-! ### joined(*texts) -/
def spJoined0 (K : PySem.W.Frag) (a : AD) : Sp := fun vs H Q _ => ∃ (p : Addr) (ts : List (Addr × List Int)), vs = [.ref p] ∧ SqT K H p (ts.map fun q => V.ref q.1) ∧ (∀ q ∈ ts, TX a H q.1 q.2) ∧ (ts.flatMap (·.2)).length ≤ 1000 ∧ NewT a H (ts.flatMap (·.2)) Q
def spJoined (a : AD) : Sp := fun vs H Q _ => ∃ (ts : List (Addr × List Int)), vs = (ts.map fun q => V.ref q.1) ∧ ts.length ≤ 10 ∧ (∀ q ∈ ts, TX a H q.1 q.2) ∧ (ts.flatMap (·.2)).length ≤ 1000 ∧ NewT a H (ts.flatMap (·.2)) Q
theorem SqT.same {H H' : Hp} {p : Addr} {xs : List V} (s : Same H H') (h : SqT K H p xs) : SqT K H' p xs := h.ext s
theorem ok_joined (T : Txt K mg a) : GD P w K mg base CX0 7 "joined" a.d_joined (spJoined a) := by
  have G1 : GD P w K mg base CX0 1 "need_text" a.d_need_text (spNeedText a) := ok_need_text T
  have GI : FnR P w K mg base CX0 5 a.m_Text_init (spTInit a) := ok_tinit T
  have S : FnScope ["texts", "found", "text"] (([] : List Str) ++ (["texts"] : List Str)) (defScope s_joined) := C8.fnScope_by (by decide +kernel)
  obtain ⟨fd, F⟩ := T.d_joined.fn
  obtain ⟨oc, od, kV, doc, pm, an, cdv, ct, osl, rfl, lk, hcd⟩ := F.ex
  have R : FnR P w K mg base CX0 7 a.d_joined _ := StX.fn_star (sp := spJoined0 K a) lk hcd S StX.cxUp_none (fun us rest hl => match us, hl, rest with
    | [], _, [] => rfl
    | [], _, _ :: _ => rfl) (fun A outer s H vs Q E hr h => by
      obtain ⟨p, ts, rfl, hT, hx, hz, q⟩ := h
      refine ⟨_, pss_cons (ps_set (i := 1) S.nd rfl (Or.inl rfl) (pe_lst pa_nil)) (pss_cons (ps_for (passes_of rfl) rfl (pi_tup (pv 0)) (pg_name (i := 2) S.nd rfl (Or.inl rfl))
        (pss_cons (ps_expr (pe_callD G1 hr pass0 (pa_cons (pv 2) pa_nil))) (pss_one (ps_set (i := 1) S.nd rfl (Or.inl rfl) (pe_op op_cat (pv 1) (pe_fld (pv 2) rfl))))))
        (pss_one (ps_ret (StX.pe_makeR T.k_Text GI hr rfl T.g_Text pass0 (pa_cons (pv 1) pa_nil))))), ?_⟩
      refine ⟨Nat.zero_le _, fun f nf => ?_⟩
      have s0 : Same H (upd H f (.lst [])) := Same.new nf
      refine ⟨_, rfl, p, rfl, ⟨_, hT.ext s0⟩, for_tup (K := K) (a := p) (xs := ts.map fun q => V.ref q.1) (fun i σ H2 => (∃ g v, σ = [some (.ref p), some (.ref g), v] ∧ H2 g = some (.lst (((ts.take i).flatMap (·.2)).map V.int))) ∧ Same H H2)
        ⟨⟨f, none, rfl, upd_same⟩, s0⟩ (fun i σ H2 _ ⟨_, s2⟩ => hT.ext s2) ?_ ?_⟩
      · rintro i y σ H2 hi ⟨⟨g, v, rfl, hg⟩, s2⟩
        obtain ⟨z, hz1, rfl⟩ : ∃ z, ts[i]? = some z ∧ y = V.ref z.1 := by
          rw [List.getElem?_map] at hi
          cases e : ts[i]? with
          | none => rw [e] at hi; cases hi
          | some z => rw [e] at hi; exact ⟨z, rfl, (Option.some.inj hi).symm⟩
        obtain ⟨l, dx, t, h1, h2, h3, h4, h5⟩ := (hx z (List.mem_of_getElem? hz1)).mono s2
        have e1 : ts.take (i + 1) = ts.take i ++ [z] := by rw [List.take_add_one, hz1]; rfl
        have e2 : (ts.take (i + 1)).flatMap (·.2) = (ts.take i).flatMap (·.2) ++ z.2 := by
          rw [e1, List.flatMap_append]
          show _ ++ (z.2 ++ []) = _
          rw [List.append_nil]
        have e3 : ((ts.take (i + 1)).flatMap (·.2)).length ≤ 1000 := by
          have : ts.flatMap (·.2) = (ts.take (i + 1)).flatMap (·.2) ++ (ts.drop (i + 1)).flatMap (·.2) := by rw [← List.flatMap_append, List.take_append_drop]
          rw [this, List.length_append] at hz
          omega
        refine ⟨_, rfl, z.1, dx, _, rfl, h1, _, rfl, _, rfl, z.1, _, dx, _, _, rfl, h1, T.i_Text.cl, T.n_Text_own_chars, tf_chars _ _, g, l, _, _, rfl, rfl, hg, h2, ?_, fun r nr => ⟨⟨r, _, rfl, ?_⟩, s2.trans (Same.new nr)⟩⟩
        · rw [e2, List.length_append] at e3
          rw [List.length_map, List.length_map]
          exact Nat.le_trans e3 (by decide)
        · rw [upd_same, e2, List.map_append]
      · rintro σ H2 ⟨⟨g, v, rfl, hg⟩, s2⟩
        rw [List.length_map, List.take_length] at hg
        refine ⟨_, rfl, mkT hg (fun c hc => ?_) hz (q.back s2)⟩
        obtain ⟨z, hz1, hz2⟩ := List.mem_flatMap.mp hc
        obtain ⟨l, dx, t, h1, h2, h3, h4, h5⟩ := hx z hz1
        exact h4 c hz2)
  refine ⟨R.imp fun vs H Q E h => ?_, T.d_joined.mgx, T.d_joined.kp⟩
  obtain ⟨ts, rfl, hl, hx, hz, q⟩ := h
  refine ⟨[], _, rfl, rfl, ?_, fun p np => ⟨p, ts, rfl, SqT.of upd_same, fun r hr => (hx r hr).mono (Same.new np), hz, q.back (Same.new np)⟩⟩
  rw [List.length_map]
  exact Nat.le_trans hl (by decide)
end
end K14

namespace K14
open PySem PySem.Spec PyProof.Rows L2
theorem boot_all : bootBuiltins "all" = some (.builtin "all") := by decide +kernel
def mx : Kd → Int
  | .b => 255
  | _ => 65535
section
variable {P : Program} {w : World} {K : PySem.W.Frag} {mg : Str → Option Value} {base : Heap} {a : AD}
def spIsItems : Sp := fun vs H Q _ => ∃ (p : Addr) (ns : List Int) (m : Int), vs = [.ref p, .int m] ∧ H p = some (.lst (ns.map V.int)) ∧ (∀ n ∈ ns, 0 ≤ n ∧ n ≤ m) ∧ ns.length ≤ 10000 ∧ ∀ H', Same H H' → Q (.bl true) H'
theorem ok_is_items (T : Txt K mg a) : GD P w K mg base CX0 2 "is_items" a.d_is_items spIsItems := by
  have G1 : GD P w K mg base CX0 1 "is_list" a.d_is_list spIsList := ok_is_list T
  have G2 : GD P w K mg base CX0 1 "is_integer" a.d_is_integer spIsInt := ok_is_integer T
  have S : FnScope ["value", "most", "item"] ["value", "most"] (defScope s_is_items) := C8.fnScope_by (by decide +kernel)
  refine ⟨okR T.d_is_items.fn S (fun vs H Q E h => ?_) (fun _ _ _ _ _ _ us hl => match us, hl with | [_, _], _ => rfl) (fun cdv A outer s H vs Q E hr h => ?_), T.d_is_items.mgx, T.d_is_items.kp⟩
  · obtain ⟨_, _, _, rfl, _⟩ := h
    rfl
  · obtain ⟨p, ns, m, rfl, hp, hn, hz, q⟩ := h
    refine ⟨_, pss_one (ps_ret (pe_and (pe_callD G1 hr pass0 (pa_cons (pv 0) pa_nil)) (pe_one (pe_callB (cr_all rfl) (by rfl) T.n_all boot_all (pa_cons
      (pe_lc (te := tCallR spIsInt E0 (tCons (tVar 2) (tCons (tC (.int 0)) (tCons (tVar 1) tNil)))) (own := [("item", 2)]) (g := gName 2) (tt := tYes) rfl S.nd (pi_list (pv 0)) (blkOk_by (N := ["value", "most", "item"]) (sc := defScope s_is_items) (by decide +kernel)) (fun _ _ _ _ _ => pg_name (i := 2) S.nd rfl (Or.inl rfl)) (fun _ _ _ _ _ => pts_nil)
        (fun _ _ _ _ _ => by exact pe_callD G2 hr pass0 (pa_cons (pv 2) (pa_cons pe_int (pa_cons (pv 1) pa_nil))))) pa_nil))))), ?_⟩
    refine ⟨_, rfl, p, _, rfl, hp, fun H1 s1 => ⟨true, rfl, iteT ?_⟩⟩
    refine ⟨_, rfl, p, rfl, ⟨_, SqL.of (s1 _ _ hp)⟩, fun D nD => ?_⟩
    refine lc_list (K := K) (a := p) (xs := ns.map V.int) (fun j H3 => Same H1 H3 ∧ H3 D = some (.lst ((List.replicate j true).map V.bl)) ∧ j ≤ ns.length)
      ⟨Same.new nD, upd_same, Nat.zero_le _⟩ (fun j H3 _ ⟨s3, _⟩ => SqL.of (s3 _ _ (s1 _ _ hp))) ?_ ?_
    · rintro j y H3 hj ⟨s3, hD3, hj2⟩
      obtain ⟨z, hzj, rfl⟩ := ints_at hj
      obtain ⟨b1, b2⟩ := hn z (List.mem_of_getElem? hzj)
      refine ⟨rfl, ?_⟩
      refine ⟨_, rfl, _, rfl, z, 0, m, rfl, _, hD3, ?_, ⟨fun b o e => ?_, ?_, ?_⟩⟩
      · rw [List.length_map, List.length_replicate]
        exact Nat.lt_of_le_of_lt (Nat.le_trans hj2 hz) (by decide)
      · rw [upd_ne (fun z => by rw [z, nD] at e; cases e)]
        exact s3 _ _ e
      · rw [upd_same, decide_eq_true b1, decide_eq_true b2, List.replicate_succ', List.map_append]
        rfl
      · exact (List.getElem?_eq_some_iff.mp hzj).1
    · rintro H3 ⟨s3, hD3, _⟩
      refine ⟨D, _, rfl, SqL.of hD3, ?_⟩
      have e : ∀ j : Nat, (List.replicate j true).all id = true := fun j => by simp
      rw [e]
      exact q _ (s1.trans s3)
def spNeedItems : Sp := fun vs H Q _ => ∃ (p : Addr) (ns : List Int) (k : Kd), vs = [.ref p, .str k.str] ∧ k ≠ .c ∧ H p = some (.lst (ns.map V.int)) ∧ (∀ n ∈ ns, 0 ≤ n ∧ n ≤ mx k) ∧ ns.length ≤ 10000 ∧ ∀ H', Same H H' → Q .non H'
theorem ok_need_items (T : Txt K mg a) : GD P w K mg base CX0 3 "need_items" a.d_need_items spNeedItems := by
  have G1 : GD P w K mg base CX0 2 "is_items" a.d_is_items spIsItems := ok_is_items T
  have S : FnScope ["value", "kind"] ["value", "kind"] (defScope s_need_items) := C8.fnScope_by (by decide +kernel)
  refine ⟨okR T.d_need_items.fn S (fun vs H Q E h => ?_) (fun _ _ _ _ _ _ us hl => match us, hl with | [_, _], _ => rfl) (fun cdv A outer s H vs Q E hr h => ?_), T.d_need_items.mgx, T.d_need_items.kp⟩
  · obtain ⟨_, _, _, rfl, _⟩ := h
    rfl
  · obtain ⟨p, ns, k, rfl, hk, hp, hn, hz, q⟩ := h
    refine ⟨_, pss_one (ps_if (pt_cmpR op_eq (pv 1) (C8.pe_gc rfl T.c_CHARS_texts) (nomark _)) pss_never (pss_one (ps_if (pt_cmpR op_eq (pv 1) (C8.pe_gc rfl T.c_BYTES_texts) (nomark _))
      (pss_one (ps_if (pt_not (pt_val (pe_callD G1 hr pass0 (pa_cons (pv 0) (pa_cons (C8.pe_gc rfl T.c_LAST_BYTE) pa_nil))))) (pss_one ps_never) pss_nil))
      (pss_one (ps_if (pt_not (pt_val (pe_callD G1 hr pass0 (pa_cons (pv 0) (pa_cons (C8.pe_gc rfl T.c_LAST_UNIT) pa_nil))))) (pss_one ps_never) pss_nil))))), ?_⟩
    cases k with
    | c => exact absurd rfl hk
    | b =>
      refine ⟨_, rfl, rfl, _, rfl, ifF (by decide +kernel) ?_⟩
      refine ⟨_, rfl, rfl, _, rfl, ifT (by decide +kernel) ?_⟩
      exact ⟨_, rfl, p, ns, 255, rfl, hp, hn, hz, fun H1 s1 => ⟨true, rfl, iteF (q _ s1)⟩⟩
    | u =>
      refine ⟨_, rfl, rfl, _, rfl, ifF (by decide +kernel) ?_⟩
      refine ⟨_, rfl, rfl, _, rfl, ifF (by decide +kernel) ?_⟩
      exact ⟨_, rfl, p, ns, 65535, rfl, hp, hn, hz, fun H1 s1 => ⟨true, rfl, iteF (q _ s1)⟩⟩
/-! ### sizes -/
def inL (f : Int) (t : Int × Int × Int) : Bool := decide (t.1 ≤ f) && decide (f ≤ t.2.1)
def spByteSize : Sp := fun vs H Q _ => ∃ f : Int, vs = [.int f] ∧ ∀ H', Same H H' → Q (.int (szB f)) H'
theorem lead_at (T : Txt K mg a) {i : Nat} {x : V} (h : ([.ref a.t_lead0, .ref a.t_lead1, .ref a.t_lead2] : List V)[i]? = some x) : ∃ p t, x = .ref p ∧ leads[i]? = some t ∧ KT K p [.int t.1, .int t.2.1, .int t.2.2] := by
  match i, h with
  | 0, h => exact ⟨_, (194, 223, 2), (Option.some.inj h).symm, rfl, T.t_lead0⟩
  | 1, h => exact ⟨_, (224, 239, 3), (Option.some.inj h).symm, rfl, T.t_lead1⟩
  | 2, h => exact ⟨_, (240, 244, 4), (Option.some.inj h).symm, rfl, T.t_lead2⟩
  | n + 3, h => cases h
theorem ok_byte_size (T : Txt K mg a) : GD P w K mg base CX0 1 "byte_size" a.d_byte_size spByteSize := by
  have S : FnScope ["first", "low", "high", "size"] ["first"] (defScope s_byte_size) := C8.fnScope_by (by decide +kernel)
  refine ⟨okR T.d_byte_size.fn S (fun vs H Q E h => ?_) (fun _ _ _ _ _ _ us hl => match us, hl with | [_], _ => rfl) (fun cdv A outer s H vs Q E hr h => ?_), T.d_byte_size.mgx, T.d_byte_size.kp⟩
  · obtain ⟨_, rfl, _⟩ := h
    rfl
  · obtain ⟨f, rfl, q⟩ := h
    refine ⟨_, pss_cons (ps_if (pt_cmpR op_lt (pv 0) pe_int (nomark _)) (pss_one (ps_ret pe_int)) pss_nil) (pss_one (ps_ret (pe_callB (cr_sum rfl) (by rfl) T.n_sum boot_sum (pa_cons
      (pe_lc (te := tVar 3) (own := [("low", 1), ("high", 2), ("size", 3)]) (g := gTup K 3 (gCons (gName 1) (gCons (gName 2) (gCons (gName 3) gNil)))) (tt := tTest (tChain (rI0 fun i j => .bl (decide (i ≤ j))) (rI0 fun i j => .bl (decide (i ≤ j))) (tVar 1) (tVar 0) (tVar 2))) rfl S.nd (pi_tup (C8.pe_gc rfl T.c_LEADS))
        (blkOk_by (N := ["first", "low", "high", "size"]) (sc := defScope s_byte_size) (by decide +kernel))
        (fun _ _ _ _ _ => by exact pg_tup rfl (pgs_cons (pg_name (i := 1) S.nd rfl (Or.inl rfl)) (pgs_cons (pg_name (i := 2) S.nd rfl (Or.inl rfl)) (pgs_cons (pg_name (i := 3) S.nd rfl (Or.inl rfl)) pgs_nil))))
        (fun _ _ _ _ _ => by exact pts_one (pt_chain op_le op_le (pv 1) (pv 0) (pv 2))) (fun _ _ _ _ _ => by exact pv 3)) pa_nil)))), ?_⟩
    have e0 : szB f = if f < 128 then 1 else ((leads.filter (inL f)).map fun t => t.2.2).sum := rfl
    refine ⟨_, rfl, _, _, rfl, rfl, _, rfl, ?_⟩
    refine ite2 (fun h => ?_) (fun h => ?_)
    · rw [if_pos (of_decide_eq_true h)] at e0
      rw [e0] at q
      exact q _ (Same.refl _)
    · rw [if_neg (fun z => h (decide_eq_true z))] at e0
      rw [e0] at q
      refine ⟨_, rfl, ⟨_, T.t_LEADS _⟩, fun D nD => ?_⟩
      refine lc_tup (K := K) (a := a.t_LEADS) (xs := [.ref a.t_lead0, .ref a.t_lead1, .ref a.t_lead2]) (fun j H3 => Same H H3 ∧ H3 D = some (.lst ((((leads.take j).filter (inL f)).map fun t => t.2.2).map V.int)))
        ⟨Same.new nD, upd_same⟩ (fun j H3 _ _ => T.t_LEADS _) ?_ ?_
      · rintro j y H3 hj ⟨s3, hD3⟩
        obtain ⟨p, t, rfl, ht, hk⟩ := lead_at T hj
        refine ⟨p, _, rfl, hk _, rfl, _, _, rfl, _, _, rfl, _, _, rfl, rfl, rfl, ?_⟩
        have e1 : leads.take (j + 1) = leads.take j ++ [t] := by rw [List.take_add_one, ht]; rfl
        have hlen : ((((leads.take j).filter (inL f)).map fun t => t.2.2).map V.int).length ≤ 3 := by
          rw [List.length_map, List.length_map]
          exact Nat.le_trans (List.length_filter_le _ _) (List.length_take_le' _ _)
        have sD : ∀ b o u, H b = some o → upd H3 D u b = some o := fun b o u e => by
          rw [upd_ne (fun z => by rw [z, nD] at e; cases e)]
          exact s3 _ _ e
        refine ⟨_, rfl, _, rfl, _, _, rfl, rfl, _, rfl, ?_⟩
        have no : inL f t = false → Same H H3 ∧ H3 D = some (.lst ((((leads.take (j + 1)).filter (inL f)).map fun t => t.2.2).map V.int)) := fun hi => by
          rw [e1, List.filter_append, List.filter_cons_of_neg (by rw [hi]; decide), List.filter_nil, List.append_nil]
          exact ⟨s3, hD3⟩
        refine ite2 (fun h1 => ?_) (fun h1 => ?_)
        · refine ⟨_, rfl, _, _, rfl, rfl, _, rfl, ?_⟩
          refine ite2 (fun h2 => ?_) (fun h2 => ?_)
          · have hi : inL f t = true := by unfold inL; rw [h1, h2]; rfl
            refine ⟨_, rfl, _, hD3, Nat.lt_of_le_of_lt hlen (by decide), fun b o e => sD b o _ e, ?_⟩
            rw [upd_same, e1, List.filter_append, List.filter_cons_of_pos hi, List.filter_nil, List.map_append, List.map_append]
            rfl
          · exact no (by unfold inL; rw [h1]; simpa using h2)
        · exact ⟨false, rfl, no (by unfold inL; rw [show decide (t.1 ≤ f) = false by simpa using h1]; rfl)⟩
      · rintro H3 ⟨s3, hD3⟩
        exact ⟨D, _, rfl, SqL.of hD3, q _ s3⟩
def spUnitSize : Sp := fun vs H Q _ => ∃ f : Int, vs = [.int f] ∧ Q (.int (szU f)) H
theorem ok_unit_size (T : Txt K mg a) : GD P w K mg base CX0 1 "unit_size" a.d_unit_size spUnitSize := by
  have S : FnScope ["first"] ["first"] (defScope s_unit_size) := C8.fnScope_by (by decide +kernel)
  refine ⟨okR T.d_unit_size.fn S (fun vs H Q E h => ?_) (fun _ _ _ _ _ _ us hl => match us, hl with | [_], _ => rfl) (fun cdv A outer s H vs Q E hr h => ?_), T.d_unit_size.mgx, T.d_unit_size.kp⟩
  · obtain ⟨_, rfl, _⟩ := h
    rfl
  · obtain ⟨f, rfl, q⟩ := h
    refine ⟨_, pss_cons (ps_if (pt_chain op_le op_le (pe_ix ix_tup (C8.pe_gc rfl T.c_HIGHS) pe_int (fun _ _ => rfl)) (pv 0) (pe_ix ix_tup (C8.pe_gc rfl T.c_HIGHS) pe_int (fun _ _ => rfl))) (pss_one (ps_ret pe_int)) pss_nil)
      (pss_one (ps_ret (pe_ifExp (pt_chain op_le op_le (pe_ix ix_tup (C8.pe_gc rfl T.c_LOWS) pe_int (fun _ _ => rfl)) (pv 0) (pe_ix ix_tup (C8.pe_gc rfl T.c_LOWS) pe_int (fun _ _ => rfl))) pe_int pe_int))), ?_⟩
    have e0 : szU f = if 55296 ≤ f ∧ f ≤ 56319 then 2 else if 56320 ≤ f ∧ f ≤ 57343 then 0 else 1 := rfl
    have two : ¬ (55296 ≤ f ∧ f ≤ 56319) → ∃ k, V.bl false = V.bl k ∧ True := fun _ => ⟨false, rfl, trivial⟩
    have second : ¬ (55296 ≤ f ∧ f ≤ 56319) → (tIf (tTest (tChain (rI0 fun i j => .bl (decide (i ≤ j))) (rI0 fun i j => .bl (decide (i ≤ j))) (tOp (rIxT K) (tC (.ref a.t_LOWS)) (tC (.int 0))) (tVar 0) (tOp (rIxT K) (tC (.ref a.t_LOWS)) (tC (.int 1))))) (tC (.int 0)) (tC (.int 1))) [some (.int f)] H Q := fun hn => by
      rw [if_neg hn] at e0
      refine ⟨_, _, _, _, rfl, rfl, T.t_LOWS _, atI_nat (j := 0) rfl, _, rfl, _, _, rfl, rfl, _, rfl, ?_⟩
      refine ite2 (fun h1 => ?_) (fun h1 => ?_)
      · refine ⟨_, _, _, _, rfl, rfl, T.t_LOWS _, atI_nat (j := 1) rfl, _, _, rfl, rfl, _, rfl, ?_⟩
        refine ite2 (fun h2 => ?_) (fun h2 => ?_)
        · rw [if_pos ⟨of_decide_eq_true h1, of_decide_eq_true h2⟩] at e0
          rw [e0] at q
          exact q
        · rw [if_neg (fun z => h2 (decide_eq_true z.2))] at e0
          rw [e0] at q
          exact q
      · refine ⟨false, rfl, iteF ?_⟩
        rw [if_neg (fun z => h1 (decide_eq_true z.1))] at e0
        rw [e0] at q
        exact q
    refine ⟨_, _, _, _, rfl, rfl, T.t_HIGHS _, atI_nat (j := 0) rfl, _, rfl, _, _, rfl, rfl, _, rfl, ?_⟩
    refine ite2 (fun h1 => ?_) (fun h1 => ?_)
    · refine ⟨_, _, _, _, rfl, rfl, T.t_HIGHS _, atI_nat (j := 1) rfl, _, _, rfl, rfl, _, rfl, ?_⟩
      refine ite2 (fun h2 => ?_) (fun h2 => ?_)
      · rw [if_pos ⟨of_decide_eq_true h1, of_decide_eq_true h2⟩] at e0
        rw [e0] at q
        exact q
      · exact second (fun z => h2 (decide_eq_true z.2))
    · exact ⟨false, rfl, iteF (second (fun z => h1 (decide_eq_true z.1)))⟩
def spSizeOf : Sp := fun vs H Q _ => ∃ (k : Kd) (f : Int), vs = [.int f, .str k.str] ∧ ∀ H', Same H H' → Q (.int (sz k f)) H'
theorem ok_size_of (T : Txt K mg a) : GD P w K mg base CX0 2 "size_of" a.d_size_of spSizeOf := by
  have G1 : GD P w K mg base CX0 1 "byte_size" a.d_byte_size spByteSize := ok_byte_size T
  have G2 : GD P w K mg base CX0 1 "unit_size" a.d_unit_size spUnitSize := ok_unit_size T
  have S : FnScope ["first", "kind"] ["first", "kind"] (defScope s_size_of) := C8.fnScope_by (by decide +kernel)
  refine ⟨okR T.d_size_of.fn S (fun vs H Q E h => ?_) (fun _ _ _ _ _ _ us hl => match us, hl with | [_, _], _ => rfl) (fun cdv A outer s H vs Q E hr h => ?_), T.d_size_of.mgx, T.d_size_of.kp⟩
  · obtain ⟨_, _, rfl, _⟩ := h
    rfl
  · obtain ⟨k, f, rfl, q⟩ := h
    refine ⟨_, pss_cons (ps_if (pt_cmpR op_eq (pv 1) (C8.pe_gc rfl T.c_CHARS_texts) (nomark _)) (pss_one (ps_ret pe_int)) pss_nil)
      (pss_one (ps_ret (pe_ifExp (pt_cmpR op_eq (pv 1) (C8.pe_gc rfl T.c_BYTES_texts) (nomark _)) (pe_callD G1 hr pass0 (pa_cons (pv 0) pa_nil)) (pe_callD G2 hr pass0 (pa_cons (pv 0) pa_nil))))), ?_⟩
    cases k with
    | c => exact ⟨_, rfl, rfl, _, rfl, ifT (by decide +kernel) (q _ (Same.refl _))⟩
    | b =>
      refine ⟨_, rfl, rfl, _, rfl, ifF (by decide +kernel) ?_⟩
      exact ⟨_, rfl, rfl, _, rfl, ifT (by decide +kernel) ⟨_, rfl, f, rfl, q⟩⟩
    | u =>
      refine ⟨_, rfl, rfl, _, rfl, ifF (by decide +kernel) ?_⟩
      exact ⟨_, rfl, rfl, _, rfl, ifF (by decide +kernel) ⟨_, rfl, f, rfl, q _ (Same.refl _)⟩⟩
end
end K14

namespace K14
open PySem PySem.Spec PyProof.Rows L2
/-- the bounds of a second item, as the dict holds them -/
theorem sec_pick {P : Program} {w : World} {K : PySem.W.Frag} {mg : Str → Option Value} {base : Heap} {a : AD} (T : Txt K mg a) (f : Int) :
    ∃ p, getI [(224, V.ref a.t_sec0), (237, V.ref a.t_sec1), (240, V.ref a.t_sec2), (244, V.ref a.t_sec3)] f (.ref a.t_OTHERS) = .ref p ∧ KT K p [.int (secR f).1, .int (secR f).2] := by
  have e : secR f = if f = 224 then (160, 191) else if f = 237 then (128, 159) else if f = 240 then (144, 191) else if f = 244 then (128, 143) else (128, 191) := rfl
  by_cases h0 : f = 224
  · subst h0; exact ⟨_, rfl, T.t_sec0⟩
  by_cases h1 : f = 237
  · subst h1; exact ⟨_, rfl, T.t_sec1⟩
  by_cases h2 : f = 240
  · subst h2; exact ⟨_, rfl, T.t_sec2⟩
  by_cases h3 : f = 244
  · subst h3; exact ⟨_, rfl, T.t_sec3⟩
  rw [if_neg h0, if_neg h1, if_neg h2, if_neg h3] at e
  refine ⟨a.t_OTHERS, ?_, by rw [e]; exact T.t_OTHERS⟩
  unfold getI
  rw [List.find?_cons, List.find?_cons, List.find?_cons, List.find?_cons]
  rw [decide_eq_false (fun z => h0 z.symm), decide_eq_false (fun z => h1 z.symm), decide_eq_false (fun z => h2 z.symm), decide_eq_false (fun z => h3 z.symm)]
  rfl
section
variable {P : Program} {w : World} {K : PySem.W.Frag} {mg : Str → Option Value} {base : Heap} {a : AD}
def spGoes : Sp := fun vs H Q _ => ∃ (k : Kd) (f p x : Int), vs = [.int f, .int p, .int x, .str k.str] ∧ Q (.bl (goes k f p x)) H
theorem ok_goes_on (T : Txt K mg a) : GD P w K mg base CX0 1 "goes_on" a.d_goes_on spGoes := by
  have S : FnScope ["first", "place", "item", "kind", "low", "high"] ["first", "place", "item", "kind"] (defScope s_goes_on) := C8.fnScope_by (by decide +kernel)
  refine ⟨okR T.d_goes_on.fn S (fun vs H Q E h => ?_) (fun _ _ _ _ _ _ us hl => match us, hl with | [_, _, _, _], _ => rfl) (fun cdv A outer s H vs Q E hr h => ?_), T.d_goes_on.mgx, T.d_goes_on.kp⟩
  · obtain ⟨_, _, _, _, rfl, _⟩ := h
    rfl
  · obtain ⟨k, f, p, x, rfl, q⟩ := h
    refine ⟨_, pss_cons (ps_if (pt_cmpR op_eq (pv 3) (C8.pe_gc rfl T.c_BYTES_texts) (nomark _))
        (pss_cons (ps_asg (pe_ifExp (pt_cmpR op_eq (pv 1) pe_int (nomark _)) (pe_kdget T.t_SECONDS (C8.pe_gc rfl T.c_SECONDS) (pv 0) (C8.pe_gc rfl T.c_OTHERS) ⟨rfl, rfl, rfl, rfl⟩) (C8.pe_gc rfl T.c_OTHERS))
            (pg_tup rfl (pgs_cons (pg_name (i := 4) S.nd rfl (Or.inl rfl)) (pgs_cons (pg_name (i := 5) S.nd rfl (Or.inl rfl)) pgs_nil))))
          (pss_one (ps_ret (pe_chain op_le op_le (pv 4) (pv 2) (pv 5))))) pss_nil)
      (pss_one (ps_ret (pe_chain op_le op_le (pe_ix ix_tup (C8.pe_gc rfl T.c_LOWS) pe_int (fun _ _ => rfl)) (pv 2) (pe_ix ix_tup (C8.pe_gc rfl T.c_LOWS) pe_int (fun _ _ => rfl))))), ?_⟩
    have eu : k ≠ .b → goes k f p x = (decide (56320 ≤ x) && decide (x ≤ 57343)) := fun h => by cases k with
      | b => exact absurd rfl h
      | u => rfl
      | c => rfl
    have unit : k ≠ .b → (tChain (rI0 fun i j => .bl (decide (i ≤ j))) (rI0 fun i j => .bl (decide (i ≤ j))) (tOp (rIxT K) (tC (.ref a.t_LOWS)) (tC (.int 0))) (tVar 2) (tOp (rIxT K) (tC (.ref a.t_LOWS)) (tC (.int 1)))) [some (.int f), some (.int p), some (.int x), some (.str k.str), none, none] H Q := fun hk => by
      rw [eu hk] at q
      refine ⟨_, _, _, _, rfl, rfl, T.t_LOWS _, atI_nat (j := 0) rfl, _, rfl, _, _, rfl, rfl, _, rfl, ?_⟩
      refine ite2 (fun h1 => ?_) (fun h1 => ?_)
      · rw [h1] at q
        exact ⟨_, _, _, _, rfl, rfl, T.t_LOWS _, atI_nat (j := 1) rfl, _, _, rfl, rfl, q⟩
      · rw [Bool.eq_false_iff.mpr h1] at q
        exact q
    cases k with
    | c => exact ⟨_, rfl, rfl, _, rfl, ifF (by decide +kernel) (unit (by decide))⟩
    | u => exact ⟨_, rfl, rfl, _, rfl, ifF (by decide +kernel) (unit (by decide))⟩
    | b =>
      refine ⟨_, rfl, rfl, _, rfl, ifT (by decide +kernel) ?_⟩
      refine ⟨_, rfl, rfl, _, rfl, ?_⟩
      have fin : ∀ (lo hi : Int) (c : Addr), KT K c [.int lo, .int hi] → Q (.bl (decide (lo ≤ x) && decide (x ≤ hi))) H →
          gTup K 2 (gCons (gName 4) (gCons (gName 5) gNil)) (.ref c) [some (.int f), some (.int p), some (.int x), some (.str Kd.b.str), none, none] H (fun σ H' => tChain (rI0 fun i j => .bl (decide (i ≤ j))) (rI0 fun i j => .bl (decide (i ≤ j))) (tVar 4) (tVar 2) (tVar 5) σ H' Q) := fun lo hi c hc q => by
        refine ⟨c, _, rfl, hc _, rfl, _, _, rfl, _, _, rfl, rfl, ?_⟩
        refine ⟨_, rfl, _, rfl, _, _, rfl, rfl, _, rfl, ?_⟩
        refine ite2 (fun h1 => ?_) (fun h1 => ?_)
        · rw [h1] at q
          exact ⟨_, rfl, _, _, rfl, rfl, q⟩
        · rw [Bool.eq_false_iff.mpr h1] at q
          exact q
      refine ite2 (fun h1 => ?_) (fun h1 => ?_)
      · have h1 : p = 1 := V.int.inj (of_decide_eq_true h1)
        obtain ⟨c, e, hc⟩ := sec_pick (P := P) (w := w) (base := base) T f
        refine ⟨rfl, _, rfl, f, rfl, ?_⟩
        rw [e]
        refine fin _ _ c hc ?_
        have e2 : goes .b f p x = (decide ((secR f).1 ≤ x) && decide (x ≤ (secR f).2)) := by
          show (decide ((if p = 1 then secR f else (128, 191)).1 ≤ x) && decide (x ≤ (if p = 1 then secR f else (128, 191)).2)) = _
          rw [if_pos h1]
        rw [← e2]
        exact q
      · have h1 : ¬ p = 1 := fun z => h1 (decide_eq_true (by rw [z]))
        refine fin 128 191 _ T.t_OTHERS ?_
        have e2 : goes .b f p x = (decide ((128 : Int) ≤ x) && decide (x ≤ 191)) := by
          show (decide ((if p = 1 then secR f else (128, 191)).1 ≤ x) && decide (x ≤ (if p = 1 then secR f else (128, 191)).2)) = _
          rw [if_neg h1]
        rw [← e2]
        exact q
/-- the items make a character -/
def fits : Kd → List Int → Prop
  | .b, l => 1 ≤ l.length ∧ l.length ≤ 4
  | .u, l => 1 ≤ l.length ∧ l.length ≤ 2
  | .c, l => l.length = 1
theorem chr_one (k : Kd) (c : Int) : chr k [c] = c := by cases k <;> rfl
theorem chr_u2 (c d : Int) (r : List Int) : chr .u (c :: d :: r) = 65536 + (c - 55296) * 1024 + d - 56320 := by
  show (if (c :: d :: r).length = 1 then c else chrU (c :: d :: r)) = _
  rw [if_neg (by simp only [List.length_cons]; omega)]
  rfl
theorem chr_b2 (c d : Int) (r : List Int) : chr .b (c :: d :: r) = (d :: r).foldl (fun f x => f * 64 + x - 128) (c - (if (c :: d :: r).length = 2 then 192 else if (c :: d :: r).length = 3 then 224 else 240)) := by
  show (if (c :: d :: r).length = 1 then c else chrB (c :: d :: r)) = _
  rw [if_neg (by simp only [List.length_cons]; omega)]
  rfl
theorem b0_at (c d : Int) : ∀ r : List Int, r.length + 2 ≤ 4 → ([.int 192, .int 224, .int 240] : List V)[r.length]? = some (.int (if (c :: d :: r).length = 2 then 192 else if (c :: d :: r).length = 3 then 224 else 240))
  | [], _ => rfl
  | [_], _ => rfl
  | [_, _], _ => rfl
  | _ :: _ :: _ :: _, hb => by simp only [List.length_cons] at hb; omega
theorem fits_pos {k : Kd} {l : List Int} (h : fits k l) : 1 ≤ l.length := by
  cases k with
  | b => exact h.1
  | u => exact h.1
  | c => exact Nat.le_of_eq (Eq.symm h)
def spCharOf : Sp := fun vs H Q _ => ∃ (k : Kd) (l : List Int) (p : Addr), vs = [.ref p, .str k.str] ∧ H p = some (.lst (l.map V.int)) ∧ fits k l ∧ ∀ H', Same H H' → Q (.int (chr k l)) H'
theorem ok_char_of (T : Txt K mg a) : GD P w K mg base CX0 1 "char_of" a.d_char_of spCharOf := by
  have S : FnScope ["items", "kind", "found", "item"] ["items", "kind"] (defScope s_char_of) := C8.fnScope_by (by decide +kernel)
  refine ⟨okR T.d_char_of.fn S (fun vs H Q E h => ?_) (fun _ _ _ _ _ _ us hl => match us, hl with | [_, _], _ => rfl) (fun cdv A outer s H vs Q E hr h => ?_), T.d_char_of.mgx, T.d_char_of.kp⟩
  · obtain ⟨_, _, _, rfl, _⟩ := h
    rfl
  · obtain ⟨k, l, p, rfl, hp, hf, q⟩ := h
    refine ⟨_, pss_cons (ps_if (pt_cmpR op_eq (pe_callB call_len_seq (by rfl) T.n_len PySem.boot_len (pa_cons (pv 0) pa_nil)) pe_int (nomark _)) (pss_one (ps_ret (pe_ix ix_list (pv 0) pe_int (fun _ _ => rfl)))) pss_nil)
      (pss_cons (ps_if (pt_cmpR op_ne (pv 1) (C8.pe_gc rfl T.c_BYTES_texts) (nomark _))
        (pss_one (ps_ret (pe_op op_sub (pe_op op_add (pe_op op_add (C8.pe_gc rfl T.c_FIRST_OF_MORE) (pe_op op_mul (pe_op op_sub (pe_ix ix_list (pv 0) pe_int (fun _ _ => rfl)) (pe_ix ix_tup (C8.pe_gc rfl T.c_HIGHS) pe_int (fun _ _ => rfl))) pe_int))
          (pe_ix ix_list (pv 0) pe_int (fun _ _ => rfl))) (pe_ix ix_tup (C8.pe_gc rfl T.c_LOWS) pe_int (fun _ _ => rfl))))) pss_nil)
      (pss_cons (ps_set (i := 2) S.nd rfl (Or.inl rfl) (pe_op op_sub (pe_ix ix_list (pv 0) pe_int (fun _ _ => rfl)) (pe_ix ix_tup (pe_tup (pa_cons pe_int (pa_cons pe_int (pa_cons pe_int pa_nil)))) (pe_op op_sub (pe_callB call_len_seq (by rfl) T.n_len PySem.boot_len (pa_cons (pv 0) pa_nil)) pe_int) (fun _ _ => rfl))))
      (pss_cons (ps_for PassesOwn.never rfl (pi_list (pe_slice sl_list (pv 0) (po_some pe_int) po_none)) (pg_name (i := 3) S.nd rfl (Or.inl rfl))
        (pss_one (ps_set (i := 2) S.nd rfl (Or.inl rfl) (pe_op op_sub (pe_op op_add (pe_op op_mul (pv 2) pe_int) (pv 3)) pe_int))))
      (pss_one (ps_ret (pv 2)))))), ?_⟩
    refine ⟨_, rfl, p, _, rfl, .inl (SqL.of hp), rfl, _, rfl, ?_⟩
    rw [List.length_map]
    match l, hf, hp, q with
    | [], hf, _, _ => exact absurd (fits_pos hf) (by decide)
    | [c], hf, hp, q =>
      refine ifT (decide_eq_true rfl) ?_
      rw [chr_one] at q
      exact ⟨_, rfl, p, _, _, _, rfl, rfl, SqL.of hp, atI_nat (j := 0) rfl, q _ (Same.refl _)⟩
    | c :: d :: r, hf, hp, q =>
      have hlen : ((c :: d :: r).length : Int) = (r.length : Int) + 2 := by simp only [List.length_cons]; omega
      refine ifF (decide_eq_false (fun z => by have := V.int.inj z; omega)) ?_
      refine ⟨_, rfl, rfl, _, rfl, ?_⟩
      cases k with
      | c => exact absurd hf (by show ¬ (r.length + 1 + 1 = 1); omega)
      | u =>
        refine ifT (by decide +kernel) ?_
        rw [chr_u2] at q
        refine ⟨_, rfl, p, _, _, _, rfl, rfl, SqL.of hp, atI_nat (j := 0) rfl, _, _, _, _, rfl, rfl, T.t_HIGHS _, atI_nat (j := 0) rfl, _, _, rfl, rfl, ?_⟩
        refine ⟨_, _, rfl, rfl, .inr ⟨by decide, by decide⟩, _, _, rfl, rfl, _, rfl, p, _, _, _, rfl, rfl, SqL.of hp, atI_nat (j := 1) rfl, _, _, rfl, rfl, ?_⟩
        exact ⟨_, _, _, _, rfl, rfl, T.t_LOWS _, atI_nat (j := 0) rfl, _, _, rfl, rfl, q _ (Same.refl _)⟩
      | b =>
        refine ifF (by decide +kernel) ?_
        have hb : r.length + 2 ≤ 4 := hf.2
        refine ⟨_, rfl, p, _, _, _, rfl, rfl, SqL.of hp, atI_nat (j := 0) rfl, (by show 3 ≤ sizeLine; decide), fun t nt => ?_⟩
        have s0 : Same H (upd H t (.tup [.int 192, .int 224, .int 240])) := Same.new nt
        refine ⟨_, rfl, p, _, rfl, .inl (SqL.of (s0 _ _ hp)), _, _, rfl, rfl, ?_⟩
        rw [List.length_map]
        have e2 : ((c :: d :: r).length : Int) - 2 = ((r.length : Nat) : Int) := by omega
        let b0 : Int := if (c :: d :: r).length = 2 then 192 else if (c :: d :: r).length = 3 then 224 else 240
        have e3 : ([.int 192, .int 224, .int 240] : List V)[r.length]? = some (.int b0) := b0_at c d r hb
        refine ⟨_, _, _, _, rfl, congrArg V.int e2, SqT.of upd_same, atI_nat e3, _, _, rfl, rfl, ?_⟩
        have e4 : chr .b (c :: d :: r) = (d :: r).foldl (fun f x => f * 64 + x - 128) (c - b0) := chr_b2 c d r
        rw [e4] at q
        refine ⟨_, rfl, (1 : Int), rfl, p, _, rfl, SqL.of (s0 _ _ hp), fun z nz => ?_⟩
        have ec : cutV ((c :: d :: r).map V.int) (some 1) none = (d :: r).map V.int := cut_from (i := 1) (c :: d :: r) (by simp only [List.length_cons]; omega)
        rw [ec]
        refine ⟨z, rfl, ⟨_, SqL.of upd_same⟩, for_list (K := K) (a := z) (xs := (d :: r).map V.int)
          (fun i σ H2 => (∃ v, σ = [some (.ref p), some (.str Kd.b.str), some (.int (((d :: r).take i).foldl (fun f x => f * 64 + x - 128) (c - b0))), v]) ∧ Same (upd (upd H t (.tup [.int 192, .int 224, .int 240])) z (.lst ((d :: r).map V.int))) H2)
          ⟨⟨none, rfl⟩, Same.refl _⟩ (fun i σ H2 _ ⟨_, s2⟩ => SqL.of (s2 _ _ upd_same)) ?_ ?_⟩
        · rintro i y σ H2 hi ⟨⟨v, rfl⟩, s2⟩
          obtain ⟨x, hx, rfl⟩ := ints_at hi
          have e5 : (d :: r).take (i + 1) = (d :: r).take i ++ [x] := by rw [List.take_add_one, hx]; rfl
          refine ⟨_, rfl, _, _, rfl, rfl, .inr ⟨by decide, by decide⟩, _, rfl, _, _, rfl, rfl, _, _, rfl, rfl, ⟨some (.int x), ?_⟩, s2⟩
          rw [e5, List.foldl_append]
          rfl
        · rintro σ H2 ⟨⟨v, rfl⟩, s2⟩
          rw [List.length_map, List.take_length]
          exact ⟨_, rfl, q _ ((s0.trans (Same.new nz)).trans s2)⟩
end
end K14

namespace K14
/-! ### reading: plain facts -/
theorem rdf_none (k : Kd) : ∀ xs : List Int, xs.foldl (rdf k) none = none
  | [] => rfl
  | _ :: r => rdf_none k r
theorem rdf_some (k : Kd) (f l : List Int) (x : Int) : rdf k (some (f, l)) x = (stp k l x).map fun q => (f ++ q.1, q.2) := by
  show (match stp k l x with | none => none | some (g, m) => some (f ++ g, m)) = _
  cases stp k l x <;> rfl
theorem rd_acc (k : Kd) : ∀ (xs f l : List Int), xs.foldl (rdf k) (some (f, l)) = (rd k l xs).map fun q => (f ++ q.1, q.2)
  | [], f, l => by show some (f, l) = some (f ++ [], l); rw [List.append_nil]
  | x :: r, f, l => by
    show r.foldl (rdf k) (rdf k (some (f, l)) x) = (r.foldl (rdf k) (rdf k (some ([], l)) x)).map _
    rw [rdf_some, rdf_some]
    cases stp k l x with
    | none => show r.foldl (rdf k) none = (r.foldl (rdf k) none).map _; rw [rdf_none]; rfl
    | some q =>
      show r.foldl (rdf k) (some (f ++ q.1, q.2)) = (r.foldl (rdf k) (some ([] ++ q.1, q.2))).map _
      rw [rd_acc k r, rd_acc k r]
      cases rd k q.2 r with
      | none => rfl
      | some z => show some (f ++ q.1 ++ z.1, z.2) = some (f ++ ([] ++ q.1 ++ z.1), z.2); simp
theorem rd_nil (k : Kd) (l : List Int) : rd k l [] = some ([], l) := rfl
theorem rd_append (k : Kd) (l xs ys : List Int) : rd k l (xs ++ ys) = (rd k l xs).bind fun q => (rd k q.2 ys).map fun z => (q.1 ++ z.1, z.2) := by
  show (xs ++ ys).foldl (rdf k) (some ([], l)) = _
  rw [List.foldl_append]
  show ys.foldl (rdf k) (rd k l xs) = _
  cases rd k l xs with
  | none => exact rdf_none k ys
  | some q => exact rd_acc k ys q.1 q.2
theorem rd_one (k : Kd) (l : List Int) (x : Int) : rd k l [x] = stp k l x := by
  show rdf k (some ([], l)) x = _
  rw [rdf_some]
  cases stp k l x with
  | none => rfl
  | some q => rfl
theorem rd_snoc (k : Kd) (l xs : List Int) (x : Int) : rd k l (xs ++ [x]) = (rd k l xs).bind fun q => (stp k q.2 x).map fun z => (q.1 ++ z.1, z.2) := by
  rw [rd_append]
  simp only [rd_one]
theorem rd_take_succ {k : Kd} {l xs : List Int} {i : Nat} {x : Int} (h : xs[i]? = some x) : rd k l (xs.take (i + 1)) = (rd k l (xs.take i)).bind fun q => (stp k q.2 x).map fun z => (q.1 ++ z.1, z.2) := by
  have : xs.take (i + 1) = xs.take i ++ [x] := by rw [List.take_add_one, h]; rfl
  rw [this, rd_snoc]
theorem rd_cons (k : Kd) (l : List Int) (x : Int) (r : List Int) : rd k l (x :: r) = (stp k l x).bind fun q => (rd k q.2 r).map fun z => (q.1 ++ z.1, z.2) := by
  have := rd_append k l [x] r
  rw [rd_one] at this
  exact this
/-- a prefix of what is read is read -/
theorem rd_take {k : Kd} {l xs : List Int} {q : List Int × List Int} (h : rd k l xs = some q) (i : Nat) : ∃ z, rd k l (xs.take i) = some z := by
  have e : xs.take i ++ xs.drop i = xs := List.take_append_drop i xs
  rw [← e, rd_append] at h
  cases hz : rd k l (xs.take i) with
  | none => rw [hz] at h; cases h
  | some z => exact ⟨z, rfl⟩
theorem stp_eq (k : Kd) (left : List Int) (x : Int) : stp k left x = if sz k ((left ++ [x]).headD 0) = 0 ∨ (1 < (left ++ [x]).length ∧ goes k ((left ++ [x]).headD 0) (((left ++ [x]).length : Int) - 1) x = false) then none
  else if ((left ++ [x]).length : Int) = sz k ((left ++ [x]).headD 0) then some ([chr k (left ++ [x])], []) else some ([], left ++ [x]) := rfl
theorem stp_len {k : Kd} {l : List Int} {x : Int} {g m : List Int} (h : stp k l x = some (g, m)) : g.length + m.length ≤ l.length + 1 := by
  rw [stp_eq] at h
  split at h
  · cases h
  · split at h
    · obtain ⟨rfl, rfl⟩ := Prod.mk.inj (Option.some.inj h)
      show 1 + 0 ≤ _
      omega
    · obtain ⟨rfl, rfl⟩ := Prod.mk.inj (Option.some.inj h)
      rw [List.length_append]
      show 0 + (l.length + 1) ≤ _
      omega
theorem rd_len {k : Kd} : ∀ {xs l f m : List Int}, rd k l xs = some (f, m) → f.length + m.length ≤ l.length + xs.length
  | [], l, f, m, h => by
    obtain ⟨rfl, rfl⟩ := Prod.mk.inj (Option.some.inj h)
    show 0 + l.length ≤ l.length + 0
    omega
  | x :: r, l, f, m, h => by
    rw [rd_cons] at h
    cases hs : stp k l x with
    | none => rw [hs] at h; cases h
    | some q =>
      rw [hs] at h
      have h : (rd k q.2 r).map (fun z => (q.1 ++ z.1, z.2)) = some (f, m) := h
      cases hr : rd k q.2 r with
      | none => rw [hr] at h; cases h
      | some z =>
        rw [hr] at h
        obtain ⟨rfl, rfl⟩ := Prod.mk.inj (Option.some.inj h)
        have h1 := stp_len hs
        have h2 := rd_len hr
        rw [List.length_append]
        show q.1.length + z.1.length + z.2.length ≤ l.length + (r.length + 1)
        omega
/-- how many bytes a first byte asks -/
theorem szB_eq (f : Int) : szB f = if f < 128 then 1 else if 194 ≤ f ∧ f ≤ 223 then 2 else if 224 ≤ f ∧ f ≤ 239 then 3 else if 240 ≤ f ∧ f ≤ 244 then 4 else 0 := by
  have e : szB f = if f < 128 then 1 else ((if (decide ((194 : Int) ≤ f) && decide (f ≤ 223)) = true then [((194 : Int), (223 : Int), (2 : Int))] else []) ++ ((if (decide ((224 : Int) ≤ f) && decide (f ≤ 239)) = true then [((224 : Int), (239 : Int), (3 : Int))] else []) ++ (if (decide ((240 : Int) ≤ f) && decide (f ≤ 244)) = true then [((240 : Int), (244 : Int), (4 : Int))] else [])) |>.map fun t => t.2.2).sum := by
    unfold szB leads
    simp only [List.filter_cons, List.filter_nil]
    split
    · rfl
    · repeat' split
      all_goals rfl
  rw [e]
  by_cases h1 : f < 128
  · rw [if_pos h1, if_pos h1]
  rw [if_neg h1, if_neg h1]
  by_cases h2 : 194 ≤ f ∧ f ≤ 223
  · rw [if_pos h2, if_pos (by simp [h2.1, h2.2]), if_neg (by simp; omega), if_neg (by simp; omega)]; rfl
  rw [if_neg h2, if_neg (by simp; omega)]
  by_cases h3 : 224 ≤ f ∧ f ≤ 239
  · rw [if_pos h3, if_pos (by simp [h3.1, h3.2]), if_neg (by simp; omega)]; rfl
  rw [if_neg h3, if_neg (by simp; omega)]
  by_cases h4 : 240 ≤ f ∧ f ≤ 244
  · rw [if_pos h4, if_pos (by simp [h4.1, h4.2])]; rfl
  rw [if_neg h4, if_neg (by simp; omega)]; rfl
/-- how many items more the waiting ones ask -/
def mis (k : Kd) (left : List Int) : Int := if left = [] then 0 else sz k (left.headD 0) - (left.length : Int)
theorem fits_of {k : Kd} {l : List Int} (hl : 1 ≤ l.length) (h : (l.length : Int) = sz k (l.headD 0)) : fits k l := by
  cases k with
  | c => 
    have h : (l.length : Int) = 1 := h
    show l.length = 1
    omega
  | u =>
    have h : (l.length : Int) = szU (l.headD 0) := h
    refine ⟨hl, ?_⟩
    unfold szU at h
    split at h
    · omega
    · split at h <;> omega
  | b =>
    have h : (l.length : Int) = szB (l.headD 0) := h
    refine ⟨hl, ?_⟩
    rw [szB_eq] at h
    split at h
    · omega
    · split at h
      · omega
      · split at h
        · omega
        · split at h <;> omega
end K14

namespace K14
/-! ### a character's items: plain facts -/
structure EncOk (k : Kd) (c : Int) : Prop where
  pos : 1 ≤ (enc k c).length
  size : sz k ((enc k c).headD 0) = ((enc k c).length : Int)
  wid : wid k c = ((enc k c).length : Int)
  chr : chr k (enc k c) = c
  goes : ∀ (i : Nat) (x : Int), 1 ≤ i → (enc k c)[i]? = some x → goes k ((enc k c).headD 0) (i : Int) x = true
  cont : ∀ (i : Nat) (x : Int), 1 ≤ i → (enc k c)[i]? = some x → sz k x = 0
  rng : ∀ x ∈ enc k c, 0 ≤ x ∧ x ≤ mx k
theorem szB_cont {x : Int} (h1 : 128 ≤ x) (h2 : x ≤ 191) : szB x = 0 := by
  rw [szB_eq, if_neg (by omega), if_neg (by omega), if_neg (by omega), if_neg (by omega)]
theorem goesB {f p x : Int} (h1 : 128 ≤ x) (h2 : x ≤ 191) (h : p = 1 → (secR f).1 ≤ x ∧ x ≤ (secR f).2) : goes .b f p x = true := by
  show (decide ((if p = 1 then secR f else (128, 191)).1 ≤ x) && decide (x ≤ (if p = 1 then secR f else (128, 191)).2)) = true
  by_cases hp : p = 1
  · rw [if_pos hp, decide_eq_true (h hp).1, decide_eq_true (h hp).2]; rfl
  · rw [if_neg hp, decide_eq_true h1, decide_eq_true h2]; rfl
theorem secR_eq (f : Int) : secR f = if f = 224 then (160, 191) else if f = 237 then (128, 159) else if f = 240 then (144, 191) else if f = 244 then (128, 143) else (128, 191) := rfl
theorem encB_eq (c : Int) : enc .b c = if c < 128 then [c] else if c < 2048 then [192 + c / 64, 128 + c % 64]
    else if c < 65536 then [224 + c / 64 / 64, 128 + c / 64 % 64, 128 + c % 64]
    else [240 + c / 64 / 64 / 64, 128 + c / 64 / 64 % 64, 128 + c / 64 % 64, 128 + c % 64] := rfl
theorem encU_eq (c : Int) : enc .u c = if c < 65536 then [c] else [55296 + (c - 65536) / 1024, 56320 + (c - 65536) % 1024] := rfl
theorem widB_eq (c : Int) : wid .b c = 1 + b2 (decide (128 ≤ c)) + b2 (decide (2048 ≤ c)) + b2 (decide (65536 ≤ c)) := rfl
theorem widU_eq (c : Int) : wid .u c = 1 + b2 (decide (65536 ≤ c)) := rfl
theorem b2t {p : Prop} [Decidable p] (h : p) : b2 (decide p) = 1 := by rw [decide_eq_true h]; rfl
theorem b2f {p : Prop} [Decidable p] (h : ¬ p) : b2 (decide p) = 0 := by rw [decide_eq_false h]; rfl
theorem encOk_b {c : Int} (h : Ch c) : EncOk .b c := by
  obtain ⟨h0, h1, h2⟩ := h
  by_cases a1 : c < 128
  · have e : enc .b c = [c] := by rw [encB_eq, if_pos a1]
    refine ⟨?_, ?_, ?_, ?_, ?_, ?_, ?_⟩ <;> rw [e]
    · exact Nat.le_refl 1
    · show szB c = 1
      rw [szB_eq, if_pos a1]
    · rw [widB_eq, b2f (by omega), b2f (by omega), b2f (by omega)]; rfl
    · exact chr_one _ _
    · intro i x hi hx
      match i, hi, hx with
      | j + 1, _, hx => cases hx
    · intro i x hi hx
      match i, hi, hx with
      | j + 1, _, hx => cases hx
    · intro x hx
      rcases List.mem_singleton.mp hx with rfl
      exact ⟨h0, show x ≤ 255 by omega⟩
  by_cases a2 : c < 2048
  · have e : enc .b c = [192 + c / 64, 128 + c % 64] := by rw [encB_eq, if_neg a1, if_pos a2]
    refine ⟨?_, ?_, ?_, ?_, ?_, ?_, ?_⟩ <;> rw [e]
    · exact (by decide : 1 ≤ 2)
    · show szB (192 + c / 64) = 2
      rw [szB_eq, if_neg (by omega), if_pos (by omega)]
    · rw [widB_eq, b2t (by omega), b2f (by omega), b2f (by omega)]; rfl
    · rw [chr_b2]
      show (192 + c / 64 - 192) * 64 + (128 + c % 64) - 128 = c
      omega
    · intro i x hi hx
      match i, hi, hx with
      | 1, _, hx =>
        obtain rfl := Option.some.inj hx
        refine goesB (by omega) (by omega) fun _ => ?_
        show (secR (192 + c / 64)).1 ≤ _ ∧ _ ≤ (secR (192 + c / 64)).2
        rw [secR_eq, if_neg (by omega), if_neg (by omega), if_neg (by omega), if_neg (by omega)]
        exact ⟨show (128 : Int) ≤ _ by omega, show _ ≤ (191 : Int) by omega⟩
      | j + 2, _, hx => cases hx
    · intro i x hi hx
      match i, hi, hx with
      | 1, _, hx =>
        obtain rfl := Option.some.inj hx
        exact szB_cont (by omega) (by omega)
      | j + 2, _, hx => cases hx
    · intro x hx
      show 0 ≤ x ∧ x ≤ 255
      simp only [List.mem_cons, List.not_mem_nil, or_false] at hx
      omega
  by_cases a3 : c < 65536
  · have e : enc .b c = [224 + c / 64 / 64, 128 + c / 64 % 64, 128 + c % 64] := by rw [encB_eq, if_neg a1, if_neg a2, if_pos a3]
    refine ⟨?_, ?_, ?_, ?_, ?_, ?_, ?_⟩ <;> rw [e]
    · exact (by decide : 1 ≤ 3)
    · show szB (224 + c / 64 / 64) = 3
      rw [szB_eq, if_neg (by omega), if_neg (by omega), if_pos (by omega)]
    · rw [widB_eq, b2t (by omega), b2t (by omega), b2f (by omega)]; rfl
    · rw [chr_b2]
      show ((224 + c / 64 / 64 - 224) * 64 + (128 + c / 64 % 64) - 128) * 64 + (128 + c % 64) - 128 = c
      omega
    · intro i x hi hx
      match i, hi, hx with
      | 1, _, hx =>
        obtain rfl := Option.some.inj hx
        refine goesB (by omega) (by omega) fun _ => ?_
        show (secR (224 + c / 64 / 64)).1 ≤ _ ∧ _ ≤ (secR (224 + c / 64 / 64)).2
        rw [secR_eq]
        by_cases z1 : 224 + c / 64 / 64 = 224
        · rw [if_pos z1]; exact ⟨show (160 : Int) ≤ _ by omega, show _ ≤ (191 : Int) by omega⟩
        rw [if_neg z1]
        by_cases z2 : 224 + c / 64 / 64 = 237
        · rw [if_pos z2]; exact ⟨show (128 : Int) ≤ _ by omega, show _ ≤ (159 : Int) by omega⟩
        rw [if_neg z2, if_neg (by omega), if_neg (by omega)]
        exact ⟨show (128 : Int) ≤ _ by omega, show _ ≤ (191 : Int) by omega⟩
      | 2, _, hx =>
        obtain rfl := Option.some.inj hx
        exact goesB (by omega) (by omega) fun z => absurd z (by decide)
      | j + 3, _, hx => cases hx
    · intro i x hi hx
      match i, hi, hx with
      | 1, _, hx =>
        obtain rfl := Option.some.inj hx
        exact szB_cont (by omega) (by omega)
      | 2, _, hx =>
        obtain rfl := Option.some.inj hx
        exact szB_cont (by omega) (by omega)
      | j + 3, _, hx => cases hx
    · intro x hx
      show 0 ≤ x ∧ x ≤ 255
      simp only [List.mem_cons, List.not_mem_nil, or_false] at hx
      omega
  · have e : enc .b c = [240 + c / 64 / 64 / 64, 128 + c / 64 / 64 % 64, 128 + c / 64 % 64, 128 + c % 64] := by rw [encB_eq, if_neg a1, if_neg a2, if_neg a3]
    refine ⟨?_, ?_, ?_, ?_, ?_, ?_, ?_⟩ <;> rw [e]
    · exact (by decide : 1 ≤ 4)
    · show szB (240 + c / 64 / 64 / 64) = 4
      rw [szB_eq, if_neg (by omega), if_neg (by omega), if_neg (by omega), if_pos (by omega)]
    · rw [widB_eq, b2t (by omega), b2t (by omega), b2t (by omega)]; rfl
    · rw [chr_b2]
      show (((240 + c / 64 / 64 / 64 - 240) * 64 + (128 + c / 64 / 64 % 64) - 128) * 64 + (128 + c / 64 % 64) - 128) * 64 + (128 + c % 64) - 128 = c
      omega
    · intro i x hi hx
      match i, hi, hx with
      | 1, _, hx =>
        obtain rfl := Option.some.inj hx
        refine goesB (by omega) (by omega) fun _ => ?_
        show (secR (240 + c / 64 / 64 / 64)).1 ≤ _ ∧ _ ≤ (secR (240 + c / 64 / 64 / 64)).2
        rw [secR_eq, if_neg (by omega), if_neg (by omega)]
        by_cases z1 : 240 + c / 64 / 64 / 64 = 240
        · rw [if_pos z1]; exact ⟨show (144 : Int) ≤ _ by omega, show _ ≤ (191 : Int) by omega⟩
        rw [if_neg z1]
        by_cases z2 : 240 + c / 64 / 64 / 64 = 244
        · rw [if_pos z2]; exact ⟨show (128 : Int) ≤ _ by omega, show _ ≤ (143 : Int) by omega⟩
        rw [if_neg z2]
        exact ⟨show (128 : Int) ≤ _ by omega, show _ ≤ (191 : Int) by omega⟩
      | 2, _, hx =>
        obtain rfl := Option.some.inj hx
        exact goesB (by omega) (by omega) fun z => absurd z (by decide)
      | 3, _, hx =>
        obtain rfl := Option.some.inj hx
        exact goesB (by omega) (by omega) fun z => absurd z (by decide)
      | j + 4, _, hx => cases hx
    · intro i x hi hx
      match i, hi, hx with
      | 1, _, hx =>
        obtain rfl := Option.some.inj hx
        exact szB_cont (by omega) (by omega)
      | 2, _, hx =>
        obtain rfl := Option.some.inj hx
        exact szB_cont (by omega) (by omega)
      | 3, _, hx =>
        obtain rfl := Option.some.inj hx
        exact szB_cont (by omega) (by omega)
      | j + 4, _, hx => cases hx
    · intro x hx
      show 0 ≤ x ∧ x ≤ 255
      simp only [List.mem_cons, List.not_mem_nil, or_false] at hx
      omega
theorem szU_eq (f : Int) : szU f = if 55296 ≤ f ∧ f ≤ 56319 then 2 else if 56320 ≤ f ∧ f ≤ 57343 then 0 else 1 := rfl
theorem encOk_u {c : Int} (h : Ch c) : EncOk .u c := by
  obtain ⟨h0, h1, h2⟩ := h
  by_cases a1 : c < 65536
  · have e : enc .u c = [c] := by rw [encU_eq, if_pos a1]
    refine ⟨?_, ?_, ?_, ?_, ?_, ?_, ?_⟩ <;> rw [e]
    · exact Nat.le_refl 1
    · show szU c = 1
      rw [szU_eq, if_neg (by omega), if_neg (by omega)]
    · rw [widU_eq, b2f (by omega)]; rfl
    · exact chr_one _ _
    · intro i x hi hx
      match i, hi, hx with
      | j + 1, _, hx => cases hx
    · intro i x hi hx
      match i, hi, hx with
      | j + 1, _, hx => cases hx
    · intro x hx
      rcases List.mem_singleton.mp hx with rfl
      exact ⟨h0, show x ≤ 65535 by omega⟩
  · have e : enc .u c = [55296 + (c - 65536) / 1024, 56320 + (c - 65536) % 1024] := by rw [encU_eq, if_neg a1]
    refine ⟨?_, ?_, ?_, ?_, ?_, ?_, ?_⟩ <;> rw [e]
    · exact (by decide : 1 ≤ 2)
    · show szU (55296 + (c - 65536) / 1024) = 2
      rw [szU_eq, if_pos (by omega)]
    · rw [widU_eq, b2t (by omega)]; rfl
    · rw [chr_u2]
      omega
    · intro i x hi hx
      match i, hi, hx with
      | 1, _, hx =>
        obtain rfl := Option.some.inj hx
        show (decide (56320 ≤ (56320 : Int) + (c - 65536) % 1024) && decide (56320 + (c - 65536) % 1024 ≤ 57343)) = true
        rw [decide_eq_true (by omega), decide_eq_true (by omega)]; rfl
      | j + 2, _, hx => cases hx
    · intro i x hi hx
      match i, hi, hx with
      | 1, _, hx =>
        obtain rfl := Option.some.inj hx
        show szU (56320 + (c - 65536) % 1024) = 0
        rw [szU_eq, if_neg (by omega), if_pos (by omega)]
      | j + 2, _, hx => cases hx
    · intro x hx
      show 0 ≤ x ∧ x ≤ 65535
      simp only [List.mem_cons, List.not_mem_nil, or_false] at hx
      omega
theorem encOk {k : Kd} (hk : k ≠ .c) {c : Int} (h : Ch c) : EncOk k c := by
  cases k with
  | b => exact encOk_b h
  | u => exact encOk_u h
  | c => exact absurd rfl hk
end K14

namespace K14
/-! ### lists of items: plain facts -/
theorem stp_more {k : Kd} {l : List Int} {x : Int} (hs : sz k ((l ++ [x]).headD 0) ≠ 0) (hg : 1 < (l ++ [x]).length → goes k ((l ++ [x]).headD 0) (((l ++ [x]).length : Int) - 1) x = true) (hn : ((l ++ [x]).length : Int) ≠ sz k ((l ++ [x]).headD 0)) :
    stp k l x = some ([], l ++ [x]) := by
  rw [stp_eq, if_neg, if_neg hn]
  rintro (h | ⟨h1, h2⟩)
  · exact hs h
  · rw [hg h1] at h2; cases h2
theorem stp_done {k : Kd} {l : List Int} {x : Int} (hg : 1 < (l ++ [x]).length → goes k ((l ++ [x]).headD 0) (((l ++ [x]).length : Int) - 1) x = true) (hn : ((l ++ [x]).length : Int) = sz k ((l ++ [x]).headD 0)) :
    stp k l x = some ([chr k (l ++ [x])], []) := by
  rw [stp_eq, if_neg, if_pos hn]
  rintro (h | ⟨h1, h2⟩)
  · rw [h, List.length_append] at hn
    simp only [List.length_cons, List.length_nil] at hn
    omega
  · rw [hg h1] at h2; cases h2
theorem stp_no {k : Kd} {x : Int} (h : sz k x = 0) : stp k [] x = none := by
  rw [stp_eq, if_pos (.inl h)]
theorem headD_take {l : List Int} {i : Nat} (h : 1 ≤ i) : (l.take i).headD 0 = l.headD 0 := by
  cases l with
  | nil => rw [List.take_nil]
  | cons a r =>
    match i, h with
    | i + 1, _ => rfl
theorem take_snoc {α : Type} {l : List α} {i : Nat} {x : α} (h : l[i]? = some x) : l.take (i + 1) = l.take i ++ [x] := by rw [List.take_add_one, h]; rfl
section
variable {k : Kd} {c : Int}
theorem enc_turn (E : EncOk k c) {i : Nat} {x : Int} (hx : (enc k c)[i]? = some x) : (1 < ((enc k c).take i ++ [x]).length → goes k (((enc k c).take i ++ [x]).headD 0) ((((enc k c).take i ++ [x]).length : Int) - 1) x = true) ∧
    (((enc k c).take i ++ [x]).headD 0 = (enc k c).headD 0) ∧ ((enc k c).take i ++ [x]).length = i + 1 := by
  have hi := (List.getElem?_eq_some_iff.mp hx).1
  have e : (enc k c).take i ++ [x] = (enc k c).take (i + 1) := (take_snoc hx).symm
  have e1 : ((enc k c).take i ++ [x]).headD 0 = (enc k c).headD 0 := by rw [e, headD_take (by omega)]
  have e2 : ((enc k c).take i ++ [x]).length = i + 1 := by rw [List.length_append, List.length_take, Nat.min_eq_left (Nat.le_of_lt hi)]; rfl
  refine ⟨fun h => ?_, e1, e2⟩
  rw [e1, e2]
  rw [e2] at h
  have := E.goes i x (by omega) hx
  rw [show (((i + 1 : Nat) : Int) - 1) = (i : Int) by omega]
  exact this
theorem rd_part (E : EncOk k c) : ∀ i, i < (enc k c).length → rd k [] ((enc k c).take i) = some ([], (enc k c).take i)
  | 0, _ => rfl
  | i + 1, hi => by
    have hx : (enc k c)[i]? = some ((enc k c)[i]'(by omega)) := List.getElem?_eq_getElem (by omega)
    obtain ⟨t1, t2, t3⟩ := enc_turn E hx
    rw [rd_take_succ hx, rd_part E i (by omega), take_snoc hx]
    show (stp k ((enc k c).take i) _).map _ = _
    rw [stp_more (by rw [t2, E.size]; have := E.pos; omega) t1 (by rw [t2, t3, E.size]; omega)]
    rfl
theorem rd_enc (E : EncOk k c) : rd k [] (enc k c) = some ([c], []) := by
  have hp := E.pos
  have hx : (enc k c)[(enc k c).length - 1]? = some ((enc k c)[(enc k c).length - 1]'(by omega)) := List.getElem?_eq_getElem (by omega)
  obtain ⟨t1, t2, t3⟩ := enc_turn E hx
  have e : (enc k c).take ((enc k c).length - 1 + 1) = enc k c := by rw [show (enc k c).length - 1 + 1 = (enc k c).length by omega, List.take_length]
  have h := rd_take_succ (k := k) (l := []) hx
  rw [e, rd_part E _ (by omega)] at h
  rw [h]
  show (stp k ((enc k c).take ((enc k c).length - 1)) _).map _ = _
  rw [stp_done t1 (by rw [t2, t3, E.size]; omega)]
  have e2 := take_snoc hx
  rw [e] at e2
  rw [← e2, E.chr]
  rfl
end
theorem encs_cons (k : Kd) (c : Int) (r : List Int) : encs k (c :: r) = enc k c ++ encs k r := rfl
section
variable {k : Kd} (hk : k ≠ .c)
include hk
theorem rd_encs_app : ∀ (cs ys : List Int), Chs cs → rd k [] (encs k cs ++ ys) = (rd k [] ys).map fun z => (cs ++ z.1, z.2)
  | [], ys, _ => by
    show rd k [] ys = _
    cases rd k [] ys <;> rfl
  | c :: r, ys, h => by
    have hc := h c (List.mem_cons_self ..)
    have hr : Chs r := fun d hd => h d (List.mem_cons_of_mem _ hd)
    rw [encs_cons, List.append_assoc, rd_append, rd_enc (encOk hk hc)]
    show (rd k [] (encs k r ++ ys)).map _ = _
    rw [rd_encs_app r ys hr]
    cases rd k [] ys <;> rfl
theorem rd_encs (cs : List Int) (h : Chs cs) : rd k [] (encs k cs) = some (cs, []) := by
  have := rd_encs_app hk cs [] h
  rw [List.append_nil] at this
  rw [this, rd_nil]
  show some (cs ++ [], []) = _
  rw [List.append_nil]
theorem cnt_len : ∀ cs : List Int, Chs cs → cnt k cs = ((encs k cs).length : Int)
  | [], _ => rfl
  | c :: r, h => by
    have hc := h c (List.mem_cons_self ..)
    have hr : Chs r := fun d hd => h d (List.mem_cons_of_mem _ hd)
    have ih := cnt_len r hr
    have e : cnt k (c :: r) = wid k c + cnt k r := by
      show ((c :: r).map (wid k)).sum = _
      rw [List.map_cons, List.sum_cons]
      rfl
    rw [e, encs_cons, List.length_append, (encOk hk hc).wid, ih]
    omega
theorem encs_rng (cs : List Int) (h : Chs cs) : ∀ x ∈ encs k cs, 0 ≤ x ∧ x ≤ mx k := fun x hx => by
  obtain ⟨c, h1, h2⟩ := List.mem_flatMap.mp hx
  exact (encOk hk (h c h1)).rng x h2
/-- where a place in the list lies: behind j characters and i items of the next -/
def Loc (k : Kd) (cs : List Int) (at_ j i : Nat) : Prop := j ≤ cs.length ∧ at_ = (encs k (cs.take j)).length + i ∧ (i = 0 ∨ ∃ c, cs[j]? = some c ∧ 1 ≤ i ∧ i < (enc k c).length)
omit hk in
theorem loc : ∀ (cs : List Int) (at_ : Nat), at_ ≤ (encs k cs).length → ∃ j i, Loc k cs at_ j i
  | [], at_, h => ⟨0, 0, Nat.le_refl _, (by have : at_ = 0 := Nat.le_zero.mp h; rw [this]; rfl), .inl rfl⟩
  | c :: r, at_, h => by
    rw [encs_cons, List.length_append] at h
    by_cases hlt : at_ < (enc k c).length
    · refine ⟨0, at_, Nat.zero_le _, (by show at_ = 0 + at_; omega), ?_⟩
      by_cases h0 : at_ = 0
      · exact .inl h0
      · exact .inr ⟨c, rfl, by omega, hlt⟩
    · obtain ⟨j, i, h1, h2, h3⟩ := loc r (at_ - (enc k c).length) (by omega)
      refine ⟨j + 1, i, Nat.succ_le_succ h1, ?_, h3⟩
      show at_ = (enc k c ++ encs k (r.take j)).length + i
      rw [List.length_append]
      clear h3
      omega
omit hk in
theorem encs_split (cs : List Int) (j : Nat) : encs k cs = encs k (cs.take j) ++ encs k (cs.drop j) := by rw [← encs_append, List.take_append_drop]
omit hk in
theorem take_app {α : Type} (a b : List α) (i : Nat) : (a ++ b).take (a.length + i) = a ++ b.take i := by
  rw [List.take_append, List.take_of_length_le (by omega), show a.length + i - a.length = i by omega]
omit hk in
theorem drop_app {α : Type} (a b : List α) (i : Nat) : (a ++ b).drop (a.length + i) = b.drop i := by
  rw [List.drop_append, List.drop_of_length_le (by omega), show a.length + i - a.length = i by omega, List.nil_append]
omit hk in
theorem drop_at {cs : List Int} {j : Nat} {c : Int} (h : cs[j]? = some c) : cs.drop j = c :: cs.drop (j + 1) := by
  obtain ⟨h1, h2⟩ := List.getElem?_eq_some_iff.mp h
  rw [List.drop_eq_getElem_cons h1, h2]
theorem chs_take {cs : List Int} (h : Chs cs) (j : Nat) : Chs (cs.take j) := fun c hc => h c (List.mem_of_mem_take hc)
theorem chs_drop {cs : List Int} (h : Chs cs) (j : Nat) : Chs (cs.drop j) := fun c hc => h c (List.mem_of_mem_drop hc)
/-- the list cut: what is read of the front -/
theorem cut_front {cs : List Int} {at_ j i : Nat} (h : Chs cs) (L : Loc k cs at_ j i) : ∃ p, rd k [] ((encs k cs).take at_) = some (cs.take j, p) ∧ p.length = i ∧ (mis k p = 0 ↔ p = []) := by
  obtain ⟨h1, h2, h3⟩ := L
  rw [h2, encs_split cs j, take_app, rd_encs_app hk _ _ (chs_take hk h j)]
  rcases h3 with rfl | ⟨c, hc, hi1, hi2⟩
  · refine ⟨[], ?_, rfl, ⟨fun _ => rfl, fun _ => rfl⟩⟩
    rw [List.take_zero, rd_nil]
    show some (cs.take j ++ [], []) = _
    rw [List.append_nil]
  · have E := encOk hk (h c (List.mem_of_getElem? hc))
    have e : (encs k (cs.drop j)).take i = (enc k c).take i := by
      rw [drop_at hc, encs_cons, List.take_append, show i - (enc k c).length = 0 by omega, List.take_zero, List.append_nil]
    have hl : ((enc k c).take i).length = i := by rw [List.length_take]; omega
    refine ⟨(enc k c).take i, ?_, hl, ?_⟩
    · rw [e, rd_part E i hi2]
      show some (cs.take j ++ [], _) = _
      rw [List.append_nil]
    · have hne : (enc k c).take i ≠ [] := fun z => by rw [z] at hl; simp at hl; omega
      constructor
      · intro z
        unfold mis at z
        rw [if_neg hne, headD_take hi1, E.size, hl] at z
        omega
      · intro z
        exact absurd z hne
/-- .. what stands behind a cut between characters -/
theorem cut_back {cs : List Int} {at_ j : Nat} (L : Loc k cs at_ j 0) : (encs k cs).drop at_ = encs k (cs.drop j) := by
  obtain ⟨h1, h2, h3⟩ := L
  rw [h2, encs_split cs j, drop_app, List.drop_zero]
/-- .. behind one within a character -/
theorem cut_mid {cs : List Int} {at_ j i : Nat} (h : Chs cs) (L : Loc k cs at_ j i) (hi : i ≠ 0) : ∃ x, ((encs k cs).drop at_)[0]? = some x ∧ stp k [] x = none := by
  obtain ⟨h1, h2, h3⟩ := L
  rcases h3 with z | ⟨c, hc, hi1, hi2⟩
  · exact absurd z hi
  · have E := encOk hk (h c (List.mem_of_getElem? hc))
    refine ⟨(enc k c)[i], ?_, stp_no (E.cont i _ hi1 (List.getElem?_eq_getElem hi2))⟩
    rw [h2, encs_split cs j, drop_app, drop_at hc, encs_cons, List.getElem?_drop, Nat.add_zero, List.getElem?_append_left (by exact hi2)]
    exact List.getElem?_eq_getElem hi2
/-! ### the ends of the characters -/
omit hk in
def endAt (k : Kd) (cs : List Int) (t : Nat) : Int := cnt k (cs.take t)
omit hk in
def ends (k : Kd) (cs : List Int) (n : Nat) : List Int := (List.range (n + 1)).map (endAt k cs)
omit hk in
theorem ends_zero (cs : List Int) : ends k cs 0 = [0] := rfl
omit hk in
theorem ends_succ (cs : List Int) (n : Nat) : ends k cs (n + 1) = ends k cs n ++ [endAt k cs (n + 1)] := by
  unfold ends
  rw [List.range_succ, List.map_append]
  rfl
omit hk in
theorem ends_len (cs : List Int) (n : Nat) : (ends k cs n).length = n + 1 := by
  unfold ends
  rw [List.length_map, List.length_range]
omit hk in
theorem ends_at (cs : List Int) {n t : Nat} (h : t ≤ n) : (ends k cs n)[t]? = some (endAt k cs t) := by
  unfold ends
  rw [List.getElem?_map, List.getElem?_range (by omega)]
  rfl
theorem endAt_len {cs : List Int} (h : Chs cs) (t : Nat) : endAt k cs t = ((encs k (cs.take t)).length : Int) := cnt_len hk _ (chs_take hk h t)
theorem endAt_lt {cs : List Int} (h : Chs cs) {t s : Nat} (hs : s ≤ cs.length) (hts : t < s) : endAt k cs t + 1 ≤ endAt k cs s := by
  rw [endAt_len hk h, endAt_len hk h]
  have e : cs.take s = cs.take t ++ (cs.take s).drop t := by
    have := List.take_append_drop t (cs.take s)
    rw [List.take_take, Nat.min_eq_left (Nat.le_of_lt hts)] at this
    exact this.symm
  rw [e, encs_append, List.length_append]
  have h1 : 1 ≤ (encs k ((cs.take s).drop t)).length := by
    cases hd : (cs.take s).drop t with
    | nil =>
      have : ((cs.take s).drop t).length = s - t := by rw [List.length_drop, List.length_take]; omega
      rw [hd] at this
      simp at this
      omega
    | cons c r =>
      have hc : c ∈ cs := List.mem_of_mem_take (List.mem_of_mem_drop (i := t) (by rw [hd]; exact List.mem_cons_self ..))
      rw [encs_cons, List.length_append]
      have := (encOk hk (h c hc)).pos
      omega
  omega
theorem endAt_le {cs : List Int} {at_ j i : Nat} (h : Chs cs) (L : Loc k cs at_ j i) {t : Nat} (ht : t ≤ cs.length) : endAt k cs t ≤ (at_ : Int) ↔ t ≤ j := by
  obtain ⟨h1, h2, h3⟩ := L
  have e := endAt_len hk h j
  constructor
  · intro z
    by_cases hj : t ≤ j
    · exact hj
    · exfalso
      have hs : endAt k cs (j + 1) ≤ endAt k cs t := by
        by_cases q : j + 1 = t
        · rw [q]; exact Int.le_refl _
        · have := endAt_lt hk h ht (show j + 1 < t by omega)
          omega
      have hlt := endAt_lt hk h (show j + 1 ≤ cs.length by omega) (Nat.lt_succ_self j)
      rcases h3 with rfl | ⟨c, hc, hi1, hi2⟩
      · omega
      · have e2 := endAt_len hk h (j + 1)
        rw [take_snoc hc, encs_append, List.length_append] at e2
        have e3 : encs k [c] = enc k c := by show enc k c ++ [] = _; rw [List.append_nil]
        rw [e3] at e2
        omega
  · intro z
    have : endAt k cs t ≤ endAt k cs j := by
      by_cases q : t = j
      · rw [q]; exact Int.le_refl _
      · have := endAt_lt hk h h1 (show t < j by omega)
        omega
    omega
theorem ends_filter {cs : List Int} {at_ j i : Nat} (h : Chs cs) (L : Loc k cs at_ j i) : (ends k cs cs.length).filter (fun e => decide (e ≤ (at_ : Int))) = (ends k cs cs.length).take j ++ [endAt k cs j] := by
  have hj := L.1
  have e : ends k cs cs.length = (ends k cs cs.length).take (j + 1) ++ (ends k cs cs.length).drop (j + 1) := (List.take_append_drop _ _).symm
  have key : (ends k cs cs.length).filter (fun e => decide (e ≤ (at_ : Int))) = (ends k cs cs.length).take (j + 1) := by
    conv => lhs; rw [e]
    rw [List.filter_append]
    have a1 : ((ends k cs cs.length).take (j + 1)).filter (fun e => decide (e ≤ (at_ : Int))) = (ends k cs cs.length).take (j + 1) := by
      refine List.filter_eq_self.mpr fun x hx => ?_
      obtain ⟨t, ht⟩ := List.getElem?_of_mem hx
      rw [List.getElem?_take] at ht
      split at ht
      · rename_i htj
        rw [ends_at cs (by omega)] at ht
        obtain rfl := Option.some.inj ht
        exact decide_eq_true ((endAt_le hk h L (by omega)).mpr (by omega))
      · cases ht
    have a2 : ((ends k cs cs.length).drop (j + 1)).filter (fun e => decide (e ≤ (at_ : Int))) = [] := by
      refine List.filter_eq_nil_iff.mpr fun x hx z => ?_
      obtain ⟨t, ht⟩ := List.getElem?_of_mem hx
      rw [List.getElem?_drop] at ht
      have htl : j + 1 + t ≤ cs.length := by
        have := (List.getElem?_eq_some_iff.mp ht).1
        rw [ends_len] at this
        omega
      rw [ends_at cs htl] at ht
      obtain rfl := Option.some.inj ht
      have := (endAt_le hk h L htl).mp (of_decide_eq_true z)
      omega
    rw [a1, a2, List.append_nil]
  rw [key, take_snoc (ends_at cs hj)]
theorem ends_mem {cs : List Int} {at_ j i : Nat} (h : Chs cs) (L : Loc k cs at_ j i) : ((at_ : Int) ∈ ends k cs cs.length) ↔ i = 0 := by
  have e := endAt_len hk h j
  have hj := L.1
  have h2 := L.2.1
  constructor
  · intro hm
    obtain ⟨t, ht⟩ := List.getElem?_of_mem hm
    have htl : t ≤ cs.length := by
      have := (List.getElem?_eq_some_iff.mp ht).1
      rw [ends_len] at this
      omega
    rw [ends_at cs htl] at ht
    have ht := Option.some.inj ht
    have htj := (endAt_le hk h L htl).mp (by omega)
    by_cases q : t = j
    · subst q; omega
    · have := endAt_lt hk h hj (show t < j by omega)
      omega
  · rintro rfl
    refine List.mem_of_getElem? (i := j) ?_
    rw [ends_at cs hj, e]
    refine congrArg some ?_
    omega
theorem ends_first {cs : List Int} (h : Chs cs) {j m : Nat} (hj : j ≤ cs.length) (hm : m < j) : endAt k cs m ≠ endAt k cs j := by
  have := endAt_lt hk h hj hm
  omega
end
end K14

namespace K14
open PySem PySem.Spec PyProof.Rows L2
/-! ### a Reader on the heap -/
theorem len_putF (f : Str) (v : V) : ∀ fs : List (Str × V), (fs.lookup f).isSome = true → (putF f v fs).length = fs.length
  | [], h => nomatch h
  | (g, x) :: r, h => by
    show (if g = f then (g, v) :: r else (g, x) :: putF f v r).length = _
    by_cases e : g = f
    · rw [if_pos e]; rfl
    · rw [if_neg e]
      have e' : (f == g) = false := by simpa using fun z : f = g => e z.symm
      rw [show List.lookup f ((g, x) :: r) = List.lookup f r by simp [List.lookup, e']] at h
      show (putF f v r).length + 1 = r.length + 1
      rw [len_putF f v r h]
theorem few_putF {f : Str} {v : V} {fs : List (Str × V)} {n : Nat} (h : fs.length ≤ n) : (putF f v fs).length ≤ n + 1 := Nat.le_trans (length_putF _ _ _) (Nat.succ_le_succ h)
theorem stage {Hk : Hp} {x f : Addr} {o1 o2 u : HO} (hx : Hk x = some u) (nf : Hk f = none) : x ≠ f ∧ SameX x Hk (upd (upd Hk f o1) x o2) ∧ upd (upd Hk f o1) x o2 x = some o2 ∧ upd (upd Hk f o1) x o2 f = some o1 := by
  have n : x ≠ f := ne_of_none hx nf
  refine ⟨n, fun b o e h => ?_, upd_same, ?_⟩
  · rw [upd_ne h, upd_ne (ne_of_none e nf)]; exact e
  · rw [upd_ne n.symm]; exact upd_same
theorem lk_eq (f : Str) (v : V) (fs : List (Str × V)) : (putF f v fs).lookup f = some v := by rw [lookup_putF, if_pos rfl]
theorem lk_ne {f g : Str} {v : V} {fs : List (Str × V)} (h : ¬ g = f) : (putF f v fs).lookup g = fs.lookup g := by rw [lookup_putF, if_neg h]
structure RF (fs : List (Str × V)) (k : Kd) (fl wl il : Addr) (c : Bool) : Prop where
  kind : fs.lookup ("own_kind" : Str) = some (.str k.str)
  found : fs.lookup ("found_chars" : Str) = some (.ref fl)
  wait : fs.lookup ("waiting" : Str) = some (.ref wl)
  fed : fs.lookup ("fed_items" : Str) = some (.ref il)
  closed : fs.lookup ("is_closed" : Str) = some (.bl c)
  no : ∀ m : Str, ¬ m = "own_kind" → ¬ m = "found_chars" → ¬ m = "waiting" → ¬ m = "fed_items" → ¬ m = "is_closed" → fs.lookup m = none
  few : fs.length ≤ 500
section
variable {fs : List (Str × V)} {k : Kd} {fl wl il : Addr} {c : Bool}
theorem rf_init (k : Kd) (fl wl il : Addr) (c : Bool) : RF (putF "is_closed" (.bl c) (putF "fed_items" (.ref il) (putF "waiting" (.ref wl) (putF "found_chars" (.ref fl) (putF "own_kind" (.str k.str) []))))) k fl wl il c := by
  refine ⟨?_, ?_, ?_, ?_, ?_, fun m h1 h2 h3 h4 h5 => ?_, ?_⟩
  · rw [lk_ne (by decide +kernel), lk_ne (by decide +kernel), lk_ne (by decide +kernel), lk_ne (by decide +kernel), lk_eq]
  · rw [lk_ne (by decide +kernel), lk_ne (by decide +kernel), lk_ne (by decide +kernel), lk_eq]
  · rw [lk_ne (by decide +kernel), lk_ne (by decide +kernel), lk_eq]
  · rw [lk_ne (by decide +kernel), lk_eq]
  · rw [lk_eq]
  · rw [lk_ne h5, lk_ne h4, lk_ne h3, lk_ne h2, lk_ne h1]
    all_goals rfl
  · refine Nat.le_trans (length_putF _ _ _) (Nat.succ_le_succ (Nat.le_trans (length_putF _ _ _) (Nat.succ_le_succ (Nat.le_trans (length_putF _ _ _) (Nat.succ_le_succ (Nat.le_trans (length_putF _ _ _) (Nat.succ_le_succ (Nat.le_trans (length_putF _ _ _) ?_))))))))
    exact (by decide : 0 + 1 ≤ 496)
theorem RF.putFound {g : Addr} (h : RF fs k fl wl il c) : RF (putF "found_chars" (.ref g) fs) k g wl il c :=
  ⟨(lk_ne (by decide +kernel)).trans h.kind, lk_eq _ _ _, (lk_ne (by decide +kernel)).trans h.wait, (lk_ne (by decide +kernel)).trans h.fed, (lk_ne (by decide +kernel)).trans h.closed,
    fun m h1 h2 h3 h4 h5 => (lk_ne h2).trans (h.no m h1 h2 h3 h4 h5), by rw [len_putF _ _ _ (by rw [h.found]; rfl)]; exact h.few⟩
theorem RF.putWait {g : Addr} (h : RF fs k fl wl il c) : RF (putF "waiting" (.ref g) fs) k fl g il c :=
  ⟨(lk_ne (by decide +kernel)).trans h.kind, (lk_ne (by decide +kernel)).trans h.found, lk_eq _ _ _, (lk_ne (by decide +kernel)).trans h.fed, (lk_ne (by decide +kernel)).trans h.closed,
    fun m h1 h2 h3 h4 h5 => (lk_ne h3).trans (h.no m h1 h2 h3 h4 h5), by rw [len_putF _ _ _ (by rw [h.wait]; rfl)]; exact h.few⟩
theorem RF.putFed {g : Addr} (h : RF fs k fl wl il c) : RF (putF "fed_items" (.ref g) fs) k fl wl g c :=
  ⟨(lk_ne (by decide +kernel)).trans h.kind, (lk_ne (by decide +kernel)).trans h.found, (lk_ne (by decide +kernel)).trans h.wait, lk_eq _ _ _, (lk_ne (by decide +kernel)).trans h.closed,
    fun m h1 h2 h3 h4 h5 => (lk_ne h4).trans (h.no m h1 h2 h3 h4 h5), by rw [len_putF _ _ _ (by rw [h.fed]; rfl)]; exact h.few⟩
theorem RF.putClosed {d : Bool} (h : RF fs k fl wl il c) : RF (putF "is_closed" (.bl d) fs) k fl wl il d :=
  ⟨(lk_ne (by decide +kernel)).trans h.kind, (lk_ne (by decide +kernel)).trans h.found, (lk_ne (by decide +kernel)).trans h.wait, (lk_ne (by decide +kernel)).trans h.fed, lk_eq _ _ _,
    fun m h1 h2 h3 h4 h5 => (lk_ne h5).trans (h.no m h1 h2 h3 h4 h5), by rw [len_putF _ _ _ (by rw [h.closed]; rfl)]; exact h.few⟩
end
/-- a Reader at r: its kind, what it found, what waits, how many items it took -/
def RD (a : AD) (H : Hp) (r : Addr) (k : Kd) (found left : List Int) (n : Nat) (c : Bool) : Prop := ∃ (dx : Addr) (fs : List (Str × V)) (fl wl il : Addr) (fed : List Int), H r = some (.ins a.c_Reader dx fs) ∧ RF fs k fl wl il c ∧
  H fl = some (.lst (found.map V.int)) ∧ H wl = some (.lst (left.map V.int)) ∧ H il = some (.lst (fed.map V.int)) ∧ fed.length = n ∧ found.length + left.length ≤ n ∧ n ≤ 5000
theorem RD.mono {a : AD} {H H' : Hp} {r : Addr} {k : Kd} {found left : List Int} {n : Nat} {c : Bool} (s : Same H H') (h : RD a H r k found left n c) : RD a H' r k found left n c := by
  obtain ⟨dx, fs, fl, wl, il, fed, h1, h2, h3, h4, h5, h6⟩ := h
  exact ⟨dx, fs, fl, wl, il, fed, s _ _ h1, h2, s _ _ h3, s _ _ h4, s _ _ h5, h6⟩
section
variable {P : Program} {w : World} {K : PySem.W.Frag} {mg : Str → Option Value} {base : Heap} {a : AD}
def spRInit (a : AD) : Sp := fun vs H Q _ => ∃ (x dx : Addr) (k : Kd), vs = [.ref x, .str k.str] ∧ H x = some (.ins a.c_Reader dx []) ∧ ∀ H', SameX x H H' → RD a H' x k [] [] 0 false → Q .non H'
theorem ok_rinit (T : Txt K mg a) : FnR P w K mg base CX0 3 a.m_Reader_init (spRInit a) := by
  have G1 : GD P w K mg base CX0 2 "need_kind" a.d_need_kind spNeedKind := ok_need_kind T
  have S : FnScope ["self", "kind"] ["self", "kind"] (defScope s_Reader_init) := C8.fnScope_by (by decide +kernel)
  refine okR T.m_Reader_init.fn S (fun vs H Q E h => ?_) (fun _ _ _ _ _ _ us hl => match us, hl with | [_, _], _ => rfl) (fun cdv A outer s H vs Q E hr h => ?_)
  · obtain ⟨_, _, _, rfl, _⟩ := h
    rfl
  · obtain ⟨x, dx, k, rfl, hx, q⟩ := h
    refine ⟨_, pss_cons (ps_expr (pe_callD G1 hr pass0 (pa_cons (pv 1) pa_nil))) (pss_cons (ps_fld (pv 0) (pv 1) rfl) (pss_cons (ps_fld (pv 0) (pe_lst pa_nil) rfl) (pss_cons (ps_fld (pv 0) (pe_lst pa_nil) rfl)
      (pss_cons (ps_fld (pv 0) (pe_lst pa_nil) rfl) (pss_one (ps_fld (pv 0) pe_bl rfl)))))), ?_⟩
    refine ⟨_, rfl, k, rfl, ?_⟩
    refine ⟨_, rfl, _, rfl, x, a.c_Reader, dx, [], rfl, hx, T.i_Reader.cl, T.n_Reader_own_kind, (by show 0 < 1000; decide), ?_⟩
    have n1 : ∀ v : V, (putF "own_kind" v []).length ≤ 1 := fun v => few_putF (Nat.le_refl 0)
    have s1 : SameX x H (upd H x (.ins a.c_Reader dx (putF "own_kind" (.str k.str) []))) := SameX.upd
    generalize hH1 : upd H x (.ins a.c_Reader dx (putF "own_kind" (.str k.str) [])) = H1 at s1
    have x1 : H1 x = some (.ins a.c_Reader dx (putF "own_kind" (.str k.str) [])) := by rw [← hH1]; exact upd_same
    refine ⟨Nat.zero_le _, fun f nf => ?_⟩
    refine ⟨_, rfl, x, a.c_Reader, dx, _, rfl, (upd_ne (ne_of_none x1 nf)).trans x1, T.i_Reader.cl, T.n_Reader_found_chars, (Nat.lt_of_le_of_lt (n1 _) (by decide)), ?_⟩
    obtain ⟨xf, s2, x2, f2⟩ := stage (o1 := .lst []) (o2 := .ins a.c_Reader dx (putF "found_chars" (.ref f) (putF "own_kind" (.str k.str) []))) x1 nf
    generalize upd (upd H1 f (.lst [])) x (.ins a.c_Reader dx (putF "found_chars" (.ref f) (putF "own_kind" (.str k.str) []))) = H2 at s2 x2 f2
    refine ⟨Nat.zero_le _, fun g ng => ?_⟩
    refine ⟨_, rfl, x, a.c_Reader, dx, _, rfl, (upd_ne (ne_of_none x2 ng)).trans x2, T.i_Reader.cl, T.n_Reader_waiting, (Nat.lt_of_le_of_lt (few_putF (n1 _)) (by decide)), ?_⟩
    obtain ⟨xg, s3, x3, g3⟩ := stage (o1 := .lst []) (o2 := .ins a.c_Reader dx (putF "waiting" (.ref g) (putF "found_chars" (.ref f) (putF "own_kind" (.str k.str) [])))) x2 ng
    have f3 := s3 _ _ f2 xf.symm
    generalize upd (upd H2 g (.lst [])) x (.ins a.c_Reader dx (putF "waiting" (.ref g) (putF "found_chars" (.ref f) (putF "own_kind" (.str k.str) [])))) = H3 at s3 x3 g3 f3
    refine ⟨Nat.zero_le _, fun i ni => ?_⟩
    refine ⟨_, rfl, x, a.c_Reader, dx, _, rfl, (upd_ne (ne_of_none x3 ni)).trans x3, T.i_Reader.cl, T.n_Reader_fed_items, (Nat.lt_of_le_of_lt (few_putF (few_putF (n1 _))) (by decide)), ?_⟩
    obtain ⟨xi, s4, x4, i4⟩ := stage (o1 := .lst []) (o2 := .ins a.c_Reader dx (putF "fed_items" (.ref i) (putF "waiting" (.ref g) (putF "found_chars" (.ref f) (putF "own_kind" (.str k.str) []))))) x3 ni
    have f4 := s4 _ _ f3 xf.symm
    have g4 := s4 _ _ g3 xg.symm
    generalize upd (upd H3 i (.lst [])) x (.ins a.c_Reader dx (putF "fed_items" (.ref i) (putF "waiting" (.ref g) (putF "found_chars" (.ref f) (putF "own_kind" (.str k.str) []))))) = H4 at s4 x4 i4 g4 f4
    refine ⟨_, rfl, x, a.c_Reader, dx, _, rfl, x4, T.i_Reader.cl, T.n_Reader_is_closed, (Nat.lt_of_le_of_lt (few_putF (few_putF (few_putF (n1 _)))) (by decide)), ?_⟩
    refine q _ ((((s1.trans s2).trans s3).trans s4).trans SameX.upd) ⟨dx, _, f, g, i, [], upd_same, rf_init k f g i false, ?_, ?_, ?_, rfl, Nat.le_refl _, Nat.zero_le _⟩
    · exact (upd_ne xf.symm).trans f4
    · exact (upd_ne xg.symm).trans g4
    · exact (upd_ne xi.symm).trans i4
/-- Reader(k) -/
theorem mkR {H1 : Hp} {k : Kd} {Q : Addr → Hp → Prop} {E : XK} (q : ∀ H' x, Same H1 H' → H1 x = none → RD a H' x k [] [] 0 false → Q x H') :
    ∀ x dx, H1 x = none → H1 dx = none → dx ≠ x → spRInit a (.ref x :: [.str k.str]) (upd (upd H1 dx (.own x)) x (.ins a.c_Reader dx [])) (fun v H2 => v = .non ∧ Q x H2) E := by
  intro x dx nx nd ne
  have s0 : Same H1 (upd (upd H1 dx (.own x)) x (.ins a.c_Reader dx [])) := (Same.new nd).trans (Same.new (by rw [upd_ne ne.symm]; exact nx))
  exact ⟨x, dx, k, rfl, upd_same, fun H' s1 h => ⟨rfl, q H' x (fun b o e => s1 _ _ (s0 _ _ e) (ne_of_none e nx)) nx h⟩⟩
end
end K14

namespace K14
open PySem PySem.Spec PyProof.Rows L2
theorem orElse {p : Bool} {A B C : Prop} (h1 : p = true → C → A) (h2 : p = false → C → B) (c : C) : if p = true then A else B := by
  cases p with
  | true => exact ifT rfl (h1 rfl c)
  | false => exact ifF rfl (h2 rfl c)
theorem head_at : ∀ {l : List Int}, 1 ≤ l.length → (l.map V.int)[0]? = some (.int (l.headD 0))
  | [], h => nomatch h
  | _ :: _, _ => rfl
section
variable {P : Program} {w : World} {K : PySem.W.Frag} {mg : Str → Option Value} {base : Heap} {a : AD}
def spBad (a : AD) : Sp := fun vs H Q _ => ∃ (x : Addr) (i : Int), vs = [.ref x, .int i] ∧ H x = some (exo x a.c_Bad none) ∧ ∀ d, H d = none → d ≠ x → Q .non (upd (upd H d (exd d [(("index" : Str), .int i)])) x (exo x a.c_Bad (some d)))
theorem ok_bad (T : Txt K mg a) : ∃ fd, FnOk P w K mg base CX0 1 a.m_Bad_init fd ["self", "index"] (spBad a) ∧ Binds K fd ["self", "index"] [] := by
  obtain ⟨fd, F⟩ := T.f_Bad
  have S : FnScope ["self", "index"] ["self", "index"] (defScope s_Bad_init) := C8.fnScope_by (by decide +kernel)
  refine ⟨fd, F.ok S (fun vs H Q E h => ?_) (fun cdv A outer s H vs Q E hr h => ?_), F.binds (fun _ _ _ _ _ _ us hl => match us, hl with | [_, _], _ => rfl)⟩
  · obtain ⟨_, _, rfl, _⟩ := h
    rfl
  · obtain ⟨x, i, rfl, hx, q⟩ := h
    refine ⟨_, pss_cons (ps_expr (pe_binit T.b_Place (by rfl) (pa_cons (pv 0) (pa_cons pe_str pa_nil)))) (pss_one (ps_ost (pv 0) (pv 1))), ?_⟩
    refine ⟨_, rfl, x, a.c_Bad, _, rfl, (by show 1 ≤ 1000; decide), T.o_Bad, hx, ?_⟩
    exact ⟨_, rfl, _, rfl, x, a.c_Bad, rfl, T.o_Bad, T.n_Bad, .inl ⟨hx, fun d nd ne => q d nd ne⟩⟩
/-- BadSequence(i) is raised -/
theorem mkBad {H1 : Hp} {i : Int} {E : XK} (q : ∀ d H', Same H1 H' → E (.ref a.c_Bad) d H') :
    ∀ x, H1 x = none → spBad a (.ref x :: ([.int i] ++ [])) (upd H1 x (exo x a.c_Bad none)) (fun v H2 => v = .non ∧ ∃ (d : Addr) (fs : List (Str × V)), H2 x = some (exo x a.c_Bad (some d)) ∧ H2 d = some (exd d fs) ∧ H1 d = none ∧ E (.ref a.c_Bad) (some d) (upd (del H2 x) d (.xd fs))) (fun _ _ _ => False) := by
  intro x nx
  refine ⟨x, i, rfl, upd_same, fun d nd ne => ⟨rfl, d, [(("index" : Str), .int i)], upd_same, ?_, ?_, q _ _ fun b o e => ?_⟩⟩
  · rw [upd_ne ne]; exact upd_same
  · rw [upd_ne ne] at nd; exact nd
  · have hd : H1 d = none := by rw [upd_ne ne] at nd; exact nd
    have bx := ne_of_none e nx
    have bd := ne_of_none e hd
    rw [upd_ne bd, del_ne bx, upd_ne bx, upd_ne bd, upd_ne bx]
    exact e
def spRRead (a : AD) : Sp := fun vs H Q E => ∃ (r p : Addr) (k : Kd) (found left : List Int) (n : Nat) (c : Bool) (xs : List Int), vs = [.ref r, .ref p] ∧ k ≠ .c ∧ RD a H r k found left n c ∧ H p = some (.lst (xs.map V.int)) ∧ xs.length ≤ 5000 ∧
  ((∃ g m, rd k left xs = some (g, m) ∧ ∀ H' t q u, Same H H' → H' t = some (.tup [.ref q, .ref u]) → H q = none → H u = none → H' q = some (.lst (g.map V.int)) → H' u = some (.lst (m.map V.int)) → Q (.ref t) H') ∨
    (rd k left xs = none ∧ ∀ d H', Same H H' → E (.ref a.c_Bad) d H'))
theorem ok_rread (T : Txt K mg a) : GM P w K mg base (L2.CX P w) 3 a.c_Reader "read" a.m_Reader_read (spRRead a) := by
  have G1 : GD P w K mg base CX0 2 "size_of" a.d_size_of spSizeOf := ok_size_of T
  have G2 : GD P w K mg base CX0 1 "goes_on" a.d_goes_on spGoes := ok_goes_on T
  have G3 : GD P w K mg base CX0 1 "char_of" a.d_char_of spCharOf := ok_char_of T
  obtain ⟨fdB, GB, bB⟩ := ok_bad (P := P) (w := w) (base := base) T
  have S : FnScope ["self", "items", "found", "left", "place", "item", "size"] ["self", "items"] (defScope s_Reader_read) := C8.fnScope_by (by decide +kernel)
  refine ⟨okRX T.m_Reader_read.fn S (fun vs H Q E h => ?_) (fun _ _ _ _ _ _ us hl => match us, hl with | [_, _], _ => rfl) (fun cdv A outer s H vs Q E hr h => ?_), T.m_Reader_read.me⟩
  · obtain ⟨_, _, _, _, _, _, _, _, rfl, _⟩ := h
    rfl
  · obtain ⟨r, p, k, found, left, n, c, xs, rfl, hk, hR, hp, hz, q⟩ := h
    obtain ⟨dx, fs, fl, wl, il, fed, h1, h2, h3, h4, h5, h6, h7, h8⟩ := hR
    refine ⟨_, pss_cons (ps_par (i := 2) (j := 3) (by rfl) S.nd rfl rfl (by decide) rfl rfl (pa_cons (pe_lst pa_nil) (pa_cons (pe_callTy call_list_of (by rfl) T.n_list (by decide +kernel) (pa_cons (pe_fld (pv 0) rfl) pa_nil)) pa_nil)) (by rfl))
      (pss_cons (ps_for (passes_of rfl) rfl (pi_enum (by rfl) T.n_enumerate (pa_cons (pv 1) pa_nil)) (pg_tup rfl (pgs_cons (pg_name (i := 4) S.nd rfl (Or.inl rfl)) (pgs_cons (pg_name (i := 5) S.nd rfl (Or.inl rfl)) pgs_nil)))
        (pss_cons (ps_expr (pe_bm PySem.F.plainAttrs_list PySem.F.slot_list_append PySem.F.type_list_append mt_append (pv 3) (pa_cons (pv 5) pa_nil)))
        (pss_cons (ps_set (i := 6) S.nd rfl (Or.inl rfl) (pe_callD G1 hr pass0 (pa_cons (pe_ix ix_list (pv 3) pe_int (fun _ _ => rfl)) (pa_cons (pe_fld (pv 0) rfl) pa_nil))))
        (pss_cons (ps_if (PW.pt (pw_or (pt_cmpR op_eq (pv 6) pe_int (nomark _)) (pw_or1 (PW.pt (pw_and (pt_cmpR op_gt (pe_callB call_len_seq (by rfl) T.n_len PySem.boot_len (pa_cons (pv 3) pa_nil)) pe_int (nomark _))
            (pw_and1 (pt_not (pt_val (pe_callD G2 hr pass0 (pa_cons (pe_ix ix_list (pv 3) pe_int (fun _ _ => rfl)) (pa_cons (pe_op op_sub (pe_callB call_len_seq (by rfl) T.n_len PySem.boot_len (pa_cons (pv 3) pa_nil)) pe_int) (pa_cons (pv 5) (pa_cons (pe_fld (pv 0) rfl) pa_nil)))))))))))))
          (pss_one (ps_raise rfl (takes_of rfl rfl rfl rfl) (pmk_oex T.o_Bad T.i_Bad T.ti_Bad GB (hr.mono (by decide)) bB .nil pass0 (by rfl) T.g_Bad (pa_cons (pe_op op_add (pe_callB call_len_seq (by rfl) T.n_len PySem.boot_len (pa_cons (pe_fld (pv 0) rfl) pa_nil)) (pv 4)) pa_nil)))) pss_nil)
        (pss_one (ps_if (pt_cmpR op_eq (pe_callB call_len_seq (by rfl) T.n_len PySem.boot_len (pa_cons (pv 3) pa_nil)) (pv 6) (nomark _))
          (pss_cons (ps_expr (pe_bm PySem.F.plainAttrs_list PySem.F.slot_list_append PySem.F.type_list_append mt_append (pv 2) (pa_cons (pe_callD G3 hr pass0 (pa_cons (pv 3) (pa_cons (pe_fld (pv 0) rfl) pa_nil))) pa_nil)))
            (pss_one (ps_set (i := 3) S.nd rfl (Or.inl rfl) (pe_lst pa_nil)))) pss_nil))))))
      (PSs.nox (pss_one (ps_ret (pe_tup (pa_cons (pv 2) (pa_cons (pv 3) pa_nil))))))), ?_⟩
    refine ⟨Nat.zero_le _, fun f0 nf => ?_⟩
    have s1 : Same H (upd H f0 (.lst [])) := Same.new nf
    refine ⟨_, rfl, r, _, dx, _, _, rfl, s1 _ _ h1, T.i_Reader.cl, T.n_Reader_waiting, h2.wait, wl, _, rfl, .inl (SqL.of (s1 _ _ h4)), fun l0 nl => ⟨_, _, rfl, ?_⟩⟩
    have fl0 : f0 ≠ l0 := fun z => by rw [← z, upd_same] at nl; cases nl
    have nl0 : H l0 = none := s1.free nl
    refine ⟨_, rfl, p, _, rfl, SqL.of ((s1.trans (Same.new nl)) _ _ hp), ?_⟩
    refine for_it (walk_enum (xs := xs.map V.int)) (fun i σ H2 => ∃ l v4 v5 v6 F L, σ = [some (.ref r), some (.ref p), some (.ref f0), some (.ref l), v4, v5, v6] ∧ Same H H2 ∧ H l = none ∧ f0 ≠ l ∧ H2 f0 = some (.lst (F.map V.int)) ∧ H2 l = some (.lst (L.map V.int)) ∧ rd k left (xs.take i) = some (F, L))
      ⟨l0, none, none, none, [], left, rfl, s1.trans (Same.new nl), nl0, fl0, ?_, upd_same, rfl⟩ (fun i σ H2 _ ⟨l, v4, v5, v6, F, L, _, s2, _⟩ => SqL.of (s2 _ _ hp)) ?_ ?_
    · rw [upd_ne fl0]; exact upd_same
    · rintro i y σ H2 H2' hi ⟨l, v4, v5, v6, F, L, rfl, s2, nl, fl, hF, hL, hrd⟩ ⟨t, x1, y1, rfl, nt, rfl, ex1, ey1⟩
      cases ex1
      obtain ⟨x, hx, rfl⟩ := ints_at ey1
      have hi : i < xs.length := (List.getElem?_eq_some_iff.mp hx).1
      have st : Same H2 (upd H2 t (.tup [.int (i : Nat), .int x])) := Same.new nt
      have hlen := rd_len hrd
      rw [List.length_take, Nat.min_eq_left (Nat.le_of_lt hi)] at hlen
      have hL1 := st _ _ hL
      have hF1 := st _ _ hF
      refine ⟨t, _, rfl, SqT.of upd_same, rfl, _, _, rfl, _, _, rfl, rfl, ?_⟩
      refine ⟨_, rfl, .inl ⟨rfl, _, SqL.of hL1⟩, _, rfl, l, _, _, rfl, rfl, hL1, ?_, ?_⟩
      · rw [List.length_map]
        exact Nat.lt_of_le_of_lt (by omega : L.length ≤ 10000) (by decide)
      have e1 : L.map V.int ++ [V.int x] = (L ++ [x]).map V.int := by rw [List.map_append]; rfl
      rw [e1]
      have hstp : rd k left (xs.take (i + 1)) = (stp k L x).map fun z => (F ++ z.1, z.2) := by
        rw [rd_take_succ hx, hrd]; rfl
      have s3 : Same H (upd (upd H2 t (.tup [.int (i : Nat), .int x])) l (.lst ((L ++ [x]).map V.int))) := fun b o e => by
        rw [upd_ne (ne_of_none e nl)]
        exact st _ _ (s2 _ _ e)
      have hL3 : upd (upd H2 t (.tup [.int (i : Nat), .int x])) l (.lst ((L ++ [x]).map V.int)) l = some (.lst ((L ++ [x]).map V.int)) := upd_same
      have hF3 : upd (upd H2 t (.tup [.int (i : Nat), .int x])) l (.lst ((L ++ [x]).map V.int)) f0 = some (.lst (F.map V.int)) := by rw [upd_ne fl]; exact hF1
      generalize upd (upd H2 t (.tup [.int (i : Nat), .int x])) l (.lst ((L ++ [x]).map V.int)) = H3 at s3 hL3 hF3
      have hL0 : 1 ≤ (L ++ [x]).length := by rw [List.length_append]; exact Nat.le_add_left _ _
      have hLl : (L ++ [x]).length = L.length + 1 := by rw [List.length_append]; rfl
      rw [stp_eq] at hstp
      refine ⟨_, rfl, l, _, _, _, rfl, rfl, SqL.of hL3, atI_nat (j := 0) (head_at hL0), _, rfl, r, _, dx, _, _, rfl, s3 _ _ h1, T.i_Reader.cl, T.n_Reader_own_kind, h2.kind, k, (L ++ [x]).headD 0, rfl, fun H4 s4 => ?_⟩
      have s5 := s3.trans s4
      have hL4 := s4 _ _ hL3
      have hF4 := s4 _ _ hF3
      have bad : rd k left (xs.take (i + 1)) = none → ∀ d H', Same H4 H' → E (.ref a.c_Bad) d H' := fun z d H' s6 => by
        rcases q with ⟨g, m, e, _⟩ | ⟨_, q⟩
        · obtain ⟨zz, hz⟩ := rd_take e (i + 1)
          rw [z] at hz
          cases hz
        · exact q d H' (s5.trans s6)
      refine ⟨_, rfl, rfl, _, rfl, ?_⟩
      by_cases c1 : sz k ((L ++ [x]).headD 0) = 0
      · refine ifT (decide_eq_true (congrArg V.int c1)) (iteT ?_)
        rw [if_pos (.inl c1)] at hstp
        exact ⟨_, rfl, r, _, dx, _, _, rfl, s5 _ _ h1, T.i_Reader.cl, T.n_Reader_fed_items, h2.fed, il, _, rfl, .inl (SqL.of (s5 _ _ h5)), _, rfl, _, _, rfl, rfl, (by show 1 ≤ 1000; decide), mkBad (bad hstp)⟩
      · refine ifF (decide_eq_false (fun z => c1 (V.int.inj z))) ?_
        refine ⟨_, rfl, l, _, rfl, .inl (SqL.of hL4), _, _, rfl, rfl, _, rfl, ?_⟩
        rw [List.length_map]
        by_cases c2 : 1 < (L ++ [x]).length ∧ goes k ((L ++ [x]).headD 0) (((L ++ [x]).length : Int) - 1) x = false
        · refine ifT (decide_eq_true (by have := c2.1; omega)) ?_
          refine ⟨_, rfl, l, _, _, _, rfl, rfl, SqL.of hL4, atI_nat (j := 0) (head_at hL0), _, rfl, l, _, rfl, .inl (SqL.of hL4), _, _, rfl, rfl, _, rfl, _, rfl, r, _, dx, _, _, rfl, s5 _ _ h1, T.i_Reader.cl, T.n_Reader_own_kind, h2.kind,
            k, (L ++ [x]).headD 0, ((L ++ [x]).length : Int) - 1, x, by rw [List.length_map], _, rfl, ?_⟩
          rw [c2.2]
          rw [if_pos (.inr c2)] at hstp
          exact iteT ⟨_, rfl, r, _, dx, _, _, rfl, s5 _ _ h1, T.i_Reader.cl, T.n_Reader_fed_items, h2.fed, il, _, rfl, .inl (SqL.of (s5 _ _ h5)), _, rfl, _, _, rfl, rfl, (by show 1 ≤ 1000; decide), mkBad (bad hstp)⟩
        · refine orElse (fun hp c => ?A) (fun _ c => iteF c) ?_
          case A =>
            refine ⟨_, rfl, l, _, _, _, rfl, rfl, SqL.of hL4, atI_nat (j := 0) (head_at hL0), _, rfl, l, _, rfl, .inl (SqL.of hL4), _, _, rfl, rfl, _, rfl, _, rfl, r, _, dx, _, _, rfl, s5 _ _ h1, T.i_Reader.cl, T.n_Reader_own_kind, h2.kind,
              k, (L ++ [x]).headD 0, ((L ++ [x]).length : Int) - 1, x, by rw [List.length_map], true, ?_, iteF c⟩
            have hp := of_decide_eq_true hp
            refine congrArg V.bl ?_
            cases hg : goes k ((L ++ [x]).headD 0) (((L ++ [x]).length : Int) - 1) x with
            | true => rfl
            | false => exact absurd ⟨by omega, hg⟩ c2
          rw [if_neg (fun z => z.elim c1 c2)] at hstp
          refine ⟨_, rfl, l, _, rfl, .inl (SqL.of hL4), _, rfl, rfl, _, rfl, ?_⟩
          rw [List.length_map]
          by_cases c3 : ((L ++ [x]).length : Int) = sz k ((L ++ [x]).headD 0)
          · refine ifT (decide_eq_true (congrArg V.int c3)) ?_
            rw [if_pos c3] at hstp
            refine ⟨_, rfl, .inl ⟨rfl, _, SqL.of hF4⟩, _, rfl, _, rfl, r, _, dx, _, _, rfl, s5 _ _ h1, T.i_Reader.cl, T.n_Reader_own_kind, h2.kind, k, L ++ [x], l, rfl, hL4, fits_of hL0 c3, fun H5 s6 => ?_⟩
            refine ⟨f0, _, _, rfl, rfl, s6 _ _ hF4, ?_, Nat.zero_le _, fun l1 nl1 => ?_⟩
            · rw [List.length_map]
              exact Nat.lt_of_le_of_lt (by omega : F.length ≤ 10000) (by decide)
            have ff : l1 ≠ f0 := fun z => by rw [z, upd_same] at nl1; cases nl1
            have s7 : Same H (upd H5 f0 (.lst (F.map V.int ++ [V.int (chr k (L ++ [x]))]))) := fun b o e => by
              rw [upd_ne (ne_of_none e nf)]
              exact s6 _ _ (s5 _ _ e)
            refine ⟨l1, _, _, _, F ++ [chr k (L ++ [x])], [], rfl, s7.trans (Same.new nl1), s7.free nl1, ff.symm, ?_, upd_same, hstp⟩
            rw [upd_ne ff.symm, upd_same, List.map_append]
            rfl
          · refine ifF (decide_eq_false (fun z => c3 (V.int.inj z))) ?_
            rw [if_neg c3] at hstp
            refine ⟨l, _, _, _, F, L ++ [x], rfl, s5, nl, fl, hF4, hL4, ?_⟩
            rw [hstp]
            show some (F ++ [], L ++ [x]) = _
            rw [List.append_nil]
    · rintro σ H2 ⟨l, v4, v5, v6, F, L, rfl, s2, nl, fl, hF, hL, hrd⟩
      rw [List.length_map, List.take_length] at hrd
      rcases q with ⟨g, m, e, q⟩ | ⟨e, _⟩
      · rw [e] at hrd
        obtain ⟨rfl, rfl⟩ := Prod.mk.inj (Option.some.inj hrd)
        refine ⟨_, rfl, _, rfl, (by show 2 ≤ sizeLine; decide), fun t nt => ?_⟩
        exact q _ t f0 l (s2.trans (Same.new nt)) upd_same nf nl (Same.new nt _ _ hF) (Same.new nt _ _ hL)
      · rw [e] at hrd
        cases hrd
end
end K14

namespace K14
open PySem PySem.Spec PyProof.Rows L2
section
variable {P : Program} {w : World} {K : PySem.W.Frag} {mg : Str → Option Value} {base : Heap} {a : AD}
def spRFeed (a : AD) : Sp := fun vs H Q E => ∃ (r p : Addr) (k : Kd) (found left : List Int) (n : Nat) (xs : List Int), vs = [.ref r, .ref p] ∧ k ≠ .c ∧ RD a H r k found left n false ∧ H p = some (.lst (xs.map V.int)) ∧ (∀ x ∈ xs, 0 ≤ x ∧ x ≤ mx k) ∧ n + xs.length ≤ 5000 ∧
  ((∃ g m, rd k left xs = some (g, m) ∧ ∀ H' q, SameX r H H' → H q = none → H' q = some (.lst (g.map V.int)) → RD a H' r k (found ++ g) m (n + xs.length) false → (∀ z o, H z = some o → z ≠ r → RD a (wo H' z) r k (found ++ g) m (n + xs.length) false) → Q (.ref q) H') ∨
    (rd k left xs = none ∧ ∀ d H', Same H H' → E (.ref a.c_Bad) d H'))
theorem ok_rfeed (T : Txt K mg a) : GM P w K mg base (L2.CX P w) 4 a.c_Reader "feed" a.m_Reader_feed (spRFeed a) := by
  have G1 : GD P w K mg base CX0 3 "need_items" a.d_need_items spNeedItems := ok_need_items T
  have G2 : GM P w K mg base (L2.CX P w) 3 a.c_Reader "read" a.m_Reader_read (spRRead a) := ok_rread T
  have S : FnScope ["self", "items", "found", "left"] ["self", "items"] (defScope s_Reader_feed) := C8.fnScope_by (by decide +kernel)
  refine ⟨okRX T.m_Reader_feed.fn S (fun vs H Q E h => ?_) (fun _ _ _ _ _ _ us hl => match us, hl with | [_, _], _ => rfl) (fun cdv A outer s H vs Q E hr h => ?_), T.m_Reader_feed.me⟩
  · obtain ⟨_, _, _, _, _, _, _, rfl, _⟩ := h
    rfl
  · obtain ⟨r, p, k, found, left, n, xs, rfl, hk, hR, hp, hx, hz, q⟩ := h
    have hR0 := hR
    obtain ⟨dx, fs, fl, wl, il, fed, h1, h2, h3, h4, h5, h6, h7, h8⟩ := hR
    have lenL := call_len_seq (X := (cxOf (L2.CX P w) P w K mg base ["self", "items", "found", "left"] "Reader.feed" (defScope s_Reader_feed) a.m_Reader_feed cdv A outer s H E))
    refine ⟨_, pss_cons (ps_if (pt_val (pe_fld (pv 0) rfl)) (pss_one ps_never) pss_nil) (pss_cons (ps_expr (pe_callD G1 hr pass0 (pa_cons (pv 1) (pa_cons (pe_fld (pv 0) rfl) pa_nil))))
      (pss_cons (ps_asg (pe_methD (E := E) (pv 0) T.i_Reader.cl G2 hr (passes_call (takes_of rfl rfl rfl rfl) (fun _ _ _ _ h => h)) (pa_cons (pv 1) pa_nil)) (pg_tup rfl (pgs_cons (pg_name (i := 2) S.nd rfl (Or.inl rfl)) (pgs_cons (pg_name (i := 3) S.nd rfl (Or.inl rfl)) pgs_nil))))
      (pss_cons (ps_fld (pv 0) (pe_op op_cat (pe_fld (pv 0) rfl) (pv 2)) rfl) (pss_cons (ps_fld (pv 0) (pv 3) rfl)
      (pss_cons (ps_fld (pv 0) (pe_op op_cat (pe_fld (pv 0) rfl) (pe_callTy call_list_of (by rfl) T.n_list (by decide +kernel) (pa_cons (pv 1) pa_nil))) rfl)
      (pss_one (ps_ret (pv 2)))))))), ?_⟩
    refine ⟨_, rfl, r, _, dx, _, _, rfl, h1, T.i_Reader.cl, T.n_Reader_is_closed, h2.closed, false, rfl, iteF ?_⟩
    refine ⟨_, rfl, _, rfl, r, _, dx, _, _, rfl, h1, T.i_Reader.cl, T.n_Reader_own_kind, h2.kind, p, xs, k, rfl, hk, hp, hx, by omega, fun H1 s1 => ?_⟩
    refine ⟨_, rfl, r, dx, _, rfl, s1 _ _ h1, h2.no _ (by decide +kernel) (by decide +kernel) (by decide +kernel) (by decide +kernel) (by decide +kernel), _, rfl, ?_⟩
    refine ⟨r, p, k, found, left, n, false, xs, rfl, hk, hR0.mono s1, s1 _ _ hp, by omega, ?_⟩
    rcases q with ⟨g, m, e, q⟩ | ⟨e, q⟩
    · refine .inl ⟨g, m, e, fun H2 t f u s2 ht nf nu hf hu => ?_⟩
      have hl := rd_len e
      have s12 := s1.trans s2
      have nf0 := s1.free nf
      refine ⟨t, _, rfl, SqT.of ht, rfl, _, _, rfl, _, _, rfl, rfl, ?_⟩
      refine ⟨_, rfl, r, _, dx, _, _, rfl, s12 _ _ h1, T.i_Reader.cl, T.n_Reader_found_chars, h2.found, _, rfl, fl, f, _, _, rfl, rfl, s12 _ _ h3, hf, ?_, fun f' nf' => ?_⟩
      · rw [List.length_map, List.length_map]
        exact Nat.le_trans (by omega : found.length + g.length ≤ 20000) (by decide)
      rw [← List.map_append]
      have h1' := s12 _ _ h1
      refine ⟨_, rfl, r, a.c_Reader, dx, _, rfl, (upd_ne (ne_of_none h1' nf')).trans h1', T.i_Reader.cl, T.n_Reader_found_chars, Nat.lt_of_le_of_lt h2.few (by decide), ?_⟩
      obtain ⟨x3, s3, r3, f3⟩ := stage (o1 := .lst ((found ++ g).map V.int)) (o2 := .ins a.c_Reader dx (putF "found_chars" (.ref f') fs)) h1' nf'
      generalize upd (upd H2 f' (.lst ((found ++ g).map V.int))) r (.ins a.c_Reader dx (putF "found_chars" (.ref f') fs)) = H3 at s3 r3 f3
      have k3 := h2.putFound (g := f')
      refine ⟨_, rfl, _, rfl, r, a.c_Reader, dx, _, rfl, r3, T.i_Reader.cl, T.n_Reader_waiting, Nat.lt_of_le_of_lt k3.few (by decide), ?_⟩
      have ne : ∀ {b : Addr} {l : List V}, H2 b = some (.lst l) → b ≠ r := fun hb z => by rw [z, h1'] at hb; cases hb
      have s4 : SameX r H2 (upd H3 r (.ins a.c_Reader dx (putF "waiting" (.ref u) (putF "found_chars" (.ref f') fs)))) := s3.trans SameX.upd
      have r4 : upd H3 r (.ins a.c_Reader dx (putF "waiting" (.ref u) (putF "found_chars" (.ref f') fs))) r = some (.ins a.c_Reader dx (putF "waiting" (.ref u) (putF "found_chars" (.ref f') fs))) := upd_same
      have f4 : upd H3 r (.ins a.c_Reader dx (putF "waiting" (.ref u) (putF "found_chars" (.ref f') fs))) f' = some (.lst ((found ++ g).map V.int)) := (upd_ne x3.symm).trans f3
      generalize upd H3 r (.ins a.c_Reader dx (putF "waiting" (.ref u) (putF "found_chars" (.ref f') fs))) = H4 at s4 r4 f4
      have k4 := k3.putWait (g := u)
      have i4 := s4 _ _ (s12 _ _ h5) (ne (s12 _ _ h5))
      have p4 := s4 _ _ (s12 _ _ hp) (ne (s12 _ _ hp))
      have u4 := s4 _ _ hu (ne hu)
      have g4 := s4 _ _ hf (ne hf)
      refine ⟨_, rfl, r, _, dx, _, _, rfl, r4, T.i_Reader.cl, T.n_Reader_fed_items, k4.fed, _, rfl, p, _, rfl, .inl (SqL.of p4), fun c nc => ?_⟩
      have nn : ∀ {b : Addr} {o : HO}, H4 b = some o → upd H4 c (.lst (xs.map V.int)) b = some o := fun {b o} e => (upd_ne (ne_of_none e nc)).trans e
      refine ⟨il, c, _, _, rfl, rfl, nn i4, upd_same, ?_, fun j nj => ?_⟩
      · rw [List.length_map, List.length_map]
        exact Nat.le_trans (by omega : fed.length + xs.length ≤ 20000) (by decide)
      rw [← List.map_append]
      have r5 := nn r4
      refine ⟨_, rfl, r, a.c_Reader, dx, _, rfl, (upd_ne (ne_of_none r5 nj)).trans r5, T.i_Reader.cl, T.n_Reader_fed_items, Nat.lt_of_le_of_lt k4.few (by decide), ?_⟩
      have s5 : SameX r H2 (upd H4 c (.lst (xs.map V.int))) := s4.trans (SameX.of (Same.new nc))
      obtain ⟨x6, s6, r6, j6⟩ := stage (o1 := .lst ((fed ++ xs).map V.int)) (o2 := .ins a.c_Reader dx (putF "fed_items" (.ref j) (putF "waiting" (.ref u) (putF "found_chars" (.ref f') fs)))) r5 nj
      have f6 := s6 _ _ (nn f4) x3.symm
      have u6 := s6 _ _ (nn u4) (ne hu)
      have g6 := s6 _ _ (nn g4) (ne hf)
      have rd6 : ∀ {Hn : Hp}, Hn r = some (.ins a.c_Reader dx (putF "fed_items" (.ref j) (putF "waiting" (.ref u) (putF "found_chars" (.ref f') fs)))) → Hn f' = some (.lst ((found ++ g).map V.int)) → Hn u = some (.lst (m.map V.int)) → Hn j = some (.lst ((fed ++ xs).map V.int)) →
          RD a Hn r k (found ++ g) m (n + xs.length) false := fun a1 a2 a3 a4 => ⟨dx, _, f', u, j, fed ++ xs, a1, k4.putFed, a2, a3, a4, by rw [List.length_append, h6], by rw [List.length_append]; omega, hz⟩
      refine ⟨_, rfl, q _ f (((SameX.of s12).trans s5).trans s6) nf0 g6 (rd6 r6 f6 u6 j6) fun z o hz hzr => ?_⟩
      have z1 := s1 _ _ hz
      have z2 := s2 _ _ z1
      have z5 := s5 _ _ z2 hzr
      refine rd6 ((wo_ne (Ne.symm hzr)).trans r6) ((wo_ne fun q => ?_).trans f6) ((wo_ne fun q => ?_).trans u6) ((wo_ne fun q => ?_).trans j6)
      · rw [q, z2] at nf'; cases nf'
      · rw [q, z1] at nu; cases nu
      · rw [q, z5] at nj; cases nj
    · exact .inr ⟨e, fun d H' s2 => q d H' (s1.trans s2)⟩
def spRPending (a : AD) : Sp := fun vs H Q _ => ∃ (r : Addr) (k : Kd) (found left : List Int) (n : Nat) (c : Bool), vs = [.ref r] ∧ RD a H r k found left n c ∧ NewL H left Q
theorem ok_rpending (T : Txt K mg a) : GM P w K mg base CX0 1 a.c_Reader "pending" a.m_Reader_pending (spRPending a) := by
  have S : FnScope ["self"] ["self"] (defScope s_Reader_pending) := C8.fnScope_by (by decide +kernel)
  refine ⟨okR T.m_Reader_pending.fn S (fun vs H Q E h => ?_) (fun _ _ _ _ _ _ us hl => match us, hl with | [_], _ => rfl) (fun cdv A outer s H vs Q E hr h => ?_), T.m_Reader_pending.me⟩
  · obtain ⟨_, _, _, _, _, _, rfl, _⟩ := h
    rfl
  · obtain ⟨r, k, found, left, n, c, rfl, ⟨dx, fs, fl, wl, il, fed, h1, h2, h3, h4, h5, h6, h7, h8⟩, q⟩ := h
    refine ⟨_, pss_one (ps_ret (pe_callTy call_list_of (by rfl) T.n_list (by decide +kernel) (pa_cons (pe_fld (pv 0) rfl) pa_nil))), ?_⟩
    exact ⟨_, rfl, r, _, dx, _, _, rfl, h1, T.i_Reader.cl, T.n_Reader_waiting, h2.wait, wl, _, rfl, .inl (SqL.of h4), fun p np => q _ p (Same.new np) np upd_same⟩
def spRLen (a : AD) : Sp := fun vs H Q _ => ∃ (r : Addr) (k : Kd) (found left : List Int) (n : Nat) (c : Bool), vs = [.ref r] ∧ RD a H r k found left n c ∧ Q (.int (n : Nat)) H
theorem ok_rlen (T : Txt K mg a) : GM P w K mg base CX0 1 a.c_Reader "__len__" a.m_Reader_len (spRLen a) := by
  have S : FnScope ["self"] ["self"] (defScope s_Reader_len) := C8.fnScope_by (by decide +kernel)
  refine ⟨okR T.m_Reader_len.fn S (fun vs H Q E h => ?_) (fun _ _ _ _ _ _ us hl => match us, hl with | [_], _ => rfl) (fun cdv A outer s H vs Q E hr h => ?_), T.m_Reader_len.me⟩
  · obtain ⟨_, _, _, _, _, _, rfl, _⟩ := h
    rfl
  · obtain ⟨r, k, found, left, n, c, rfl, ⟨dx, fs, fl, wl, il, fed, h1, h2, h3, h4, h5, h6, h7, h8⟩, q⟩ := h
    refine ⟨_, pss_one (ps_ret (pe_callB call_len_seq (by rfl) T.n_len PySem.boot_len (pa_cons (pe_fld (pv 0) rfl) pa_nil))), ?_⟩
    refine ⟨_, rfl, r, _, dx, _, _, rfl, h1, T.i_Reader.cl, T.n_Reader_fed_items, h2.fed, il, _, rfl, .inl (SqL.of h5), ?_⟩
    rw [List.length_map, h6]
    exact q
def spRMissing (a : AD) : Sp := fun vs H Q _ => ∃ (r : Addr) (k : Kd) (found left : List Int) (n : Nat) (c : Bool), vs = [.ref r] ∧ RD a H r k found left n c ∧ ∀ H', Same H H' → Q (.int (mis k left)) H'
theorem ok_rmissing (T : Txt K mg a) : ∃ fd, FnOk P w K mg base CX0 3 a.m_Reader_missing fd ["self"] (spRMissing a) ∧ Binds K fd ["self"] [] := by
  obtain ⟨fd, F⟩ := T.f_missing
  have G1 : GD P w K mg base CX0 2 "size_of" a.d_size_of spSizeOf := ok_size_of T
  have S : FnScope ["self"] ["self"] (defScope s_Reader_missing) := C8.fnScope_by (by decide +kernel)
  refine ⟨fd, F.ok S (fun vs H Q E h => ?_) (fun cdv A outer s H vs Q E hr h => ?_), F.binds (fun _ _ _ _ _ _ us hl => match us, hl with | [_], _ => rfl)⟩
  · obtain ⟨_, _, _, _, _, _, rfl, _⟩ := h
    rfl
  · obtain ⟨r, k, found, left, n, c, rfl, ⟨dx, fs, fl, wl, il, fed, h1, h2, h3, h4, h5, h6, h7, h8⟩, q⟩ := h
    refine ⟨_, pss_one (ps_ret (pe_ifExp (pt_cmpR (op_neL hr.units) (pe_fld (pv 0) rfl) (pe_lst pa_nil) (nomark _))
      (pe_op op_sub (pe_callD G1 hr pass0 (pa_cons (pe_ix ix_list (pe_fld (pv 0) rfl) pe_int (fun _ _ => rfl)) (pa_cons (pe_fld (pv 0) rfl) pa_nil))) (pe_callB call_len_seq (by rfl) T.n_len PySem.boot_len (pa_cons (pe_fld (pv 0) rfl) pa_nil))) pe_int)), ?_⟩
    refine ⟨_, rfl, r, _, dx, _, _, rfl, h1, T.i_Reader.cl, T.n_Reader_waiting, h2.wait, Nat.zero_le _, fun e ne => ?_⟩
    have s1 : Same H (upd H e (.lst [])) := Same.new ne
    refine ⟨wl, e, left, [], rfl, rfl, SqL.of (s1 _ _ h4), SqL.of upd_same, _, rfl, ?_⟩
    have em : mis k left = if left = [] then 0 else sz k (left.headD 0) - (left.length : Int) := rfl
    refine ite2 (fun h => ?_) (fun h => ?_)
    · have hn : left ≠ [] := of_decide_eq_true h
      rw [if_neg hn] at em
      rw [em] at q
      have hl : 1 ≤ left.length := by
        cases left with
        | nil => exact absurd rfl hn
        | cons _ _ => exact Nat.succ_le_succ (Nat.zero_le _)
      refine ⟨_, rfl, r, _, dx, _, _, rfl, s1 _ _ h1, T.i_Reader.cl, T.n_Reader_waiting, h2.wait, wl, _, _, _, rfl, rfl, SqL.of (s1 _ _ h4), atI_nat (j := 0) (head_at hl), _, rfl, r, _, dx, _, _, rfl, s1 _ _ h1, T.i_Reader.cl, T.n_Reader_own_kind, h2.kind, k, _, rfl, fun H2 s2 => ?_⟩
      have s12 := s1.trans s2
      refine ⟨_, rfl, r, _, dx, _, _, rfl, s12 _ _ h1, T.i_Reader.cl, T.n_Reader_waiting, h2.wait, wl, _, rfl, .inl (SqL.of (s12 _ _ h4)), _, _, rfl, rfl, ?_⟩
      rw [List.length_map]
      exact q _ s12
    · have hn : left = [] := by
        by_cases z : left = []
        · exact z
        · exact absurd (decide_eq_true z) h
      rw [if_pos hn] at em
      rw [em] at q
      exact q _ s1
def spRText (a : AD) : Sp := fun vs H Q _ => ∃ (r : Addr) (k : Kd) (found left : List Int) (n : Nat) (c : Bool), vs = [.ref r] ∧ RD a H r k found left n c ∧ Chs found ∧ found.length ≤ 1000 ∧ NewT a H found Q
theorem ok_rtext (T : Txt K mg a) : GM P w K mg base CX0 7 a.c_Reader "text" a.m_Reader_text (spRText a) := by
  have GI : FnR P w K mg base CX0 5 a.m_Text_init (spTInit a) := ok_tinit T
  have S : FnScope ["self"] ["self"] (defScope s_Reader_text) := C8.fnScope_by (by decide +kernel)
  refine ⟨okR T.m_Reader_text.fn S (fun vs H Q E h => ?_) (fun _ _ _ _ _ _ us hl => match us, hl with | [_], _ => rfl) (fun cdv A outer s H vs Q E hr h => ?_), T.m_Reader_text.me⟩
  · obtain ⟨_, _, _, _, _, _, rfl, _⟩ := h
    rfl
  · obtain ⟨r, k, found, left, n, c, rfl, ⟨dx, fs, fl, wl, il, fed, h1, h2, h3, h4, h5, h6, h7, h8⟩, hc, hz, q⟩ := h
    refine ⟨_, pss_one (ps_ret (StX.pe_makeR T.k_Text GI hr rfl T.g_Text pass0 (pa_cons (pe_fld (pv 0) rfl) pa_nil))), ?_⟩
    exact ⟨_, rfl, r, _, dx, _, _, rfl, h1, T.i_Reader.cl, T.n_Reader_found_chars, h2.found, mkT h3 hc hz q⟩
def spRClose (a : AD) : Sp := fun vs H Q _ => ∃ (r : Addr) (k : Kd) (found : List Int) (n : Nat), vs = [.ref r] ∧ RD a H r k found [] n false ∧ Chs found ∧ found.length ≤ 1000 ∧ ∀ H' x, SameX r H H' → H x = none → TX a (nw H H') x found → Q (.ref x) H'
theorem ok_rclose (T : Txt K mg a) : GM P w K mg base CX0 8 a.c_Reader "close" a.m_Reader_close (spRClose a) := by
  have G1 : GM P w K mg base CX0 7 a.c_Reader "text" a.m_Reader_text (spRText a) := ok_rtext T
  have S : FnScope ["self"] ["self"] (defScope s_Reader_close) := C8.fnScope_by (by decide +kernel)
  refine ⟨okR T.m_Reader_close.fn S (fun vs H Q E h => ?_) (fun _ _ _ _ _ _ us hl => match us, hl with | [_], _ => rfl) (fun cdv A outer s H vs Q E hr h => ?_), T.m_Reader_close.me⟩
  · obtain ⟨_, _, _, _, rfl, _⟩ := h
    rfl
  · obtain ⟨r, k, found, n, rfl, ⟨dx, fs, fl, wl, il, fed, h1, h2, h3, h4, h5, h6, h7, h8⟩, hc, hz, q⟩ := h
    refine ⟨_, pss_cons (ps_if (pt_val (pe_fld (pv 0) rfl)) (pss_one ps_never) pss_nil) (pss_cons (ps_if (pt_cmpR (op_neL hr.units) (pe_fld (pv 0) rfl) (pe_lst pa_nil) (nomark _)) (pss_one ps_never) pss_nil)
      (pss_cons (ps_fld (pv 0) pe_bl rfl) (pss_one (ps_ret (pe_methD0 (pv 0) T.i_Reader.cl G1 hr pass0))))), ?_⟩
    refine ⟨_, rfl, r, _, dx, _, _, rfl, h1, T.i_Reader.cl, T.n_Reader_is_closed, h2.closed, false, rfl, iteF ?_⟩
    refine ⟨_, rfl, r, _, dx, _, _, rfl, h1, T.i_Reader.cl, T.n_Reader_waiting, h2.wait, Nat.zero_le _, fun e ne => ?_⟩
    have s1 : Same H (upd H e (.lst [])) := Same.new ne
    refine ⟨wl, e, [], [], rfl, rfl, SqL.of (s1 _ _ h4), SqL.of upd_same, _, rfl, ifF (decide_eq_false (fun z => z rfl)) ?_⟩
    refine ⟨_, rfl, r, a.c_Reader, dx, _, rfl, s1 _ _ h1, T.i_Reader.cl, T.n_Reader_is_closed, Nat.lt_of_le_of_lt h2.few (by decide), ?_⟩
    have s2 : SameX r H (upd (upd H e (.lst [])) r (.ins a.c_Reader dx (putF "is_closed" (.bl true) fs))) := (SameX.of s1).trans SameX.upd
    have k2 := h2.putClosed (d := true)
    have ne : ∀ {b : Addr} {l : List V}, H b = some (.lst l) → b ≠ r := fun hb z => by rw [z, h1] at hb; cases hb
    have er : ∀ b, upd (upd H e (.lst [])) r (.ins a.c_Reader dx (putF "is_closed" (.bl true) fs)) b = none → H b = none := fun b z => by
      cases hb : H b with
      | none => rfl
      | some o =>
        by_cases hbr : b = r
        · rw [hbr, upd_same] at z; cases z
        · rw [s2 _ _ hb hbr] at z; cases z
    have r2 : upd (upd H e (.lst [])) r (.ins a.c_Reader dx (putF "is_closed" (.bl true) fs)) r = some (.ins a.c_Reader dx (putF "is_closed" (.bl true) fs)) := upd_same
    generalize upd (upd H e (.lst [])) r (.ins a.c_Reader dx (putF "is_closed" (.bl true) fs)) = H2 at s2 er r2
    refine ⟨_, rfl, r, dx, _, rfl, r2, k2.no _ (by decide +kernel) (by decide +kernel) (by decide +kernel) (by decide +kernel) (by decide +kernel), ?_⟩
    refine ⟨r, k, found, [], n, true, rfl, ⟨dx, _, fl, wl, il, fed, r2, k2, s2 _ _ h3 (ne h3), s2 _ _ h4 (ne h4), s2 _ _ h5 (ne h5), h6, h7, h8⟩, hc, hz, fun H' x s3 nx hx => ?_⟩
    refine q H' x (s2.trans (SameX.of s3)) (er x nx) (hx.mono fun b o e => ?_)
    unfold nw at e ⊢
    split at e
    · cases e
    · rename_i hh
      have : H b = none := er b (by cases z : H2 b with
        | none => rfl
        | some u => rw [z] at hh; exact absurd rfl hh)
      rw [this]
      exact e
end
end K14

namespace K14
open PySem PySem.Spec PyProof.Rows L2
/-! ### o.m(e) that may raise, in a try -/
section
variable {X : Cx} {CX : CXT} {k n : Nat} {f C : Addr} {sp : Sp} {E : L2.St → XK} {m : Str} {pos apos : Pos} {e o : Expr} {es : List Expr} {ta : TE} {t : TA}
theorem run_fnRS {pins : List (Addr × Obj)} {σ : L2.St} {H : Hp} {s : Shared} {Q : VK} {us : List Value} {vs : List V} (F : FnR X.prog X.w X.K X.mg X.base CX k f sp) (hr : Room k X.A) (hx : PassesAt CX X σ (E σ)) (I : Inv X pins σ H s) (r : Vals vs us) (h : sp vs H Q (E σ)) :
    codeAny (model X.prog X.w) X.A (.call (.ref f) ⟨us, []⟩) (fun r s' => match r with | .ok (.ret v) => EP X pins σ Q v s' | .ok _ => False | .error e => X.xe e s') s := by
  refine codeAny_mono (F X.A X.stack s H us vs Q (E σ) hr I.env0 r h) fun r s' hq => ?_
  cases r with
  | error e => exact hx pins H s e s' I hq
  | ok fl =>
    cases fl with
    | ret u => exact I.after hq
    | next => exact False.elim hq
    | brk => exact False.elim hq
    | cont => exact False.elim hq
def tMethE (C : Addr) (m : Str) (sp : Sp) (E : L2.St → XK) (ta : TE) (t : TA) : TE := fun σ H Q => ta σ H fun x H1 => ∃ a dx fs, x = .ref a ∧ H1 a = some (.ins C dx fs) ∧ fs.lookup m = none ∧ t σ H1 fun vs H2 => sp (x :: vs) H2 Q (E σ)
theorem pe_methE {pl : Sem Bool} (he : PE X o ta) (c : Cls X.K C) (G : GM X.prog X.w X.K X.mg X.base CX k C m f sp) (hr : Room n X.A) (hx : ∀ σ, PassesAt CX X σ (E σ)) (ha : PA X (e :: es) t) (hn : k ≤ n := by decide)
    (hst : starEach (e :: es) X.env = (false, eval e X.env) :: starEach es X.env := by rfl) (hpl : (backTo pos (starEach es X.env)).any (·.1) = false := by rfl)
    (ht : eval (.Call (.Attribute o m apos) (e :: es) [] pos) X.env = (do
      let ov ← eval o X.env
      standAt apos.atName
      let (f, first) ← holding [ov] (getMethod ov m pl)
      callWith pos f first (backTo pos (starEach (e :: es) X.env)) (backToKw pos (keywordEach [] X.env))) := by rfl) :
    PE X (.Call (.Attribute o m apos) (e :: es) [] pos) (tMethE C m sp E ta t) := by
  refine ⟨fun pins s σ H Q I h => ?_⟩
  refine PySem.W.methodCall_KW (pl := pl) (thn (he.run pins s σ H _ I h) fun u s1 ⟨x, H1, I1, rx, a, dx, fs, ex, ea, l, q⟩ => ?_) ht
  subst ex
  obtain rfl : u = Value.ref a := rx
  refine getmeth_ok I1 ea c G.me l ?_
  refine PySem.W.callWith_K (first := [.ref a]) (h₀ := X.base) I.ok.mod.kin G.me.kp (thn (ha.run pos pins s1 σ H1 _ I1 q) fun us s2 ⟨vs, H2, I2, r, q2⟩ => ⟨I2.kIn, ?_⟩) hst hpl
  exact wpAny_call (run_fnRS (us := .ref a :: us) (vs := .ref a :: vs) G.ok (hr.mono hn) (hx σ) I2 (.cons rfl r) q2)
end
/-- try .. except, its reading with a name -/
def tTry (K : PySem.W.Frag) (c : Value) (ts : Addr → Value → Option Addr → TS) (Wout : WX) (tb : WX → TS) : TS := fun D σ H => tb (wOnly K c ts Wout D) D σ H
theorem ps_tryD {X : Cx} {x : Str} {c : Value} {body suite : List Stmt} {b₀ : Stmt} {np pos pos' : Pos} {tb : WX → TS} {ts : Addr → Value → Option Addr → TS} {Wout : WX} (hs : X.stack = X.env :: X.outer) (hf : X.env.frame = some X.env.locals) (hc : Names X x c) (tk : Takes X Wout)
    (hb : ∀ (W : WX) (pn : List (Addr × Obj)) (xe : Value → Shared → Prop), Takes (X.tr pn xe) W → PassesOwn (model X.prog X.w) X.A X.env xe → PSs (X.tr pn xe) body (tb W))
    (hsu : ∀ (a : Addr) (oe : Obj) (cls : Value) (d : Option Addr) (pn : List (Addr × Obj)), Zc cls d oe → (∃ vs, oe.data = .fields vs) → PSs (X.suite a ((a, oe) :: pn)) (b₀ :: suite) (ts a cls d)) :
    PS X (.Try body [.ExceptHandler (some (.Name x np)) none (b₀ :: suite) pos'] [] [] pos) (tTry X.K c ts Wout tb) := ps_try_only hs hf hc tk hb hsu
/-- for_list, where a break may leave -/
theorem for_listF {K : PySem.W.Frag} {p : Addr} {xs : List V} {g : TG} {tb : TS} {D : Ends} {σ : L2.St} {H : Hp} (Pv : Nat → L2.St → Hp → Prop) (Fin : L2.St → Hp → Prop) (fin : ∀ σ H, Fin σ H → D.nx σ H) (h0 : Pv 0 σ H) (hl : ∀ i σ H, i ≤ xs.length → Pv i σ H → SqL K H p xs)
    (hs : (∀ σ H, Fin σ H → D.nx σ H) → ∀ i x σ H, xs[i]? = some x → Pv i σ H → g x σ H fun σ2 H2 => tb { D with nx := Pv (i + 1), ct := Pv (i + 1), bk := D.nx } σ2 H2) (hd : ∀ σ H, Pv xs.length σ H → Fin σ H) :
    ∃ W : Nat → Nat → L2.St → Hp → Prop, (∃ m, W 0 m σ H) ∧ ∀ i m σ H, W i m σ H →
      ((Itl K p).stop i H ∧ D.nx σ H) ∨ ((Itl K p).go i H ∧ ∃ N : L2.St → Hp → Prop, (∀ σ' H', N σ' H' → ∃ m', m' < m ∧ W (i + 1) m' σ' H') ∧ ∀ x H', (Itl K p).yld i H x H' → g x σ H' fun σ2 H2 => tb { D with nx := N, ct := N, bk := D.nx } σ2 H2) :=
  for_list Pv h0 hl (hs fin) fun σ H h => fin σ H (hd σ H h)
theorem passU {X : Cx} : Passes (L2.CX X.prog X.w) X E0 := passL
section
variable {P : Program} {w : World} {K : PySem.W.Frag} {mg : Str → Option Value} {base : Heap} {a : AD}
def spTextOf (a : AD) : Sp := fun vs H Q _ => ∃ (p : Addr) (k : Kd) (xs g : List Int), vs = [.ref p, .str k.str] ∧ k ≠ .c ∧ H p = some (.lst (xs.map V.int)) ∧ (∀ x ∈ xs, 0 ≤ x ∧ x ≤ mx k) ∧ xs.length ≤ 5000 ∧ rd k [] xs = some (g, []) ∧ Chs g ∧ g.length ≤ 1000 ∧ NewT a H g Q
theorem ok_text_of (T : Txt K mg a) : GD P w K mg base CX0 9 "text_of" a.d_text_of (spTextOf a) := by
  have GI : FnR P w K mg base CX0 3 a.m_Reader_init (spRInit a) := ok_rinit T
  have G1 : GM P w K mg base (L2.CX P w) 4 a.c_Reader "feed" a.m_Reader_feed (spRFeed a) := ok_rfeed T
  have G2 : GM P w K mg base CX0 8 a.c_Reader "close" a.m_Reader_close (spRClose a) := ok_rclose T
  have S : FnScope ["items", "kind", "reader"] ["items", "kind"] (defScope s_text_of) := C8.fnScope_by (by decide +kernel)
  refine ⟨okR T.d_text_of.fn S (fun vs H Q E h => ?_) (fun _ _ _ _ _ _ us hl => match us, hl with | [_, _], _ => rfl) (fun cdv A outer s H vs Q E hr h => ?_), T.d_text_of.mgx, T.d_text_of.kp⟩
  · obtain ⟨_, _, _, _, rfl, _⟩ := h
    rfl
  · obtain ⟨p, k, xs, g, rfl, hk, hp, hx, hz, hrd, hc, hg, q⟩ := h
    refine ⟨_, pss_cons (ps_set (i := 2) S.nd rfl (Or.inl rfl) (StX.pe_makeR T.k_Reader GI (hr.mono (by decide)) rfl T.g_Reader pass0 (pa_cons (pv 1) pa_nil)))
      (pss_cons (ps_expr (pe_methD (E := E0) (pv 2) T.i_Reader.cl G1 hr passL (pa_cons (pv 0) pa_nil)))
      (pss_one (ps_ret (pe_methD0 (pv 2) T.i_Reader.cl G2 hr pass0)))), ?_⟩
    refine ⟨_, rfl, mkR (a := a) (k := k) fun H1 r s1 nr hR => ?_⟩
    obtain ⟨dx, fs, fl, wl, il, fed, h1, h2, hrest⟩ := id hR
    refine ⟨_, rfl, r, dx, fs, rfl, h1, h2.no _ (by decide +kernel) (by decide +kernel) (by decide +kernel) (by decide +kernel) (by decide +kernel), _, rfl, ?_⟩
    refine ⟨r, p, k, [], [], 0, xs, rfl, hk, hR, s1 _ _ hp, hx, by omega, .inl ⟨g, [], hrd, fun H2 f s2 nf hf hR2 _ => ?_⟩⟩
    obtain ⟨dx2, fs2, fl2, wl2, il2, fed2, h12, h22, hrest2⟩ := id hR2
    refine ⟨_, rfl, r, dx2, fs2, rfl, h12, h22.no _ (by decide +kernel) (by decide +kernel) (by decide +kernel) (by decide +kernel) (by decide +kernel), ?_⟩
    refine ⟨r, k, g, 0 + xs.length, rfl, hR2, hc, hg, fun H3 x s3 nx hx3 => ?_⟩
    have s02 : Same H H2 := fun b o e => s2 _ _ (s1 _ _ e) (ne_of_none e nr)
    exact q H3 x (fun b o e => s3 _ _ (s02 _ _ e) (ne_of_none e nr)) (s02.free nx) (hx3.mono (nw_back s02))
def spTextOfK (a : AD) (k : Kd) : Sp := fun vs H Q _ => ∃ (p : Addr) (xs g : List Int), vs = [.ref p] ∧ H p = some (.lst (xs.map V.int)) ∧ (∀ x ∈ xs, 0 ≤ x ∧ x ≤ mx k) ∧ xs.length ≤ 5000 ∧ rd k [] xs = some (g, []) ∧ Chs g ∧ g.length ≤ 1000 ∧ NewT a H g Q
theorem ok_text_of_bytes (T : Txt K mg a) : GD P w K mg base CX0 10 "text_of_bytes" a.d_text_of_bytes (spTextOfK a .b) := by
  have G1 : GD P w K mg base CX0 9 "text_of" a.d_text_of (spTextOf a) := ok_text_of T
  have S : FnScope ["items"] ["items"] (defScope s_text_of_bytes) := C8.fnScope_by (by decide +kernel)
  refine ⟨okR T.d_text_of_bytes.fn S (fun vs H Q E h => ?_) (fun _ _ _ _ _ _ us hl => match us, hl with | [_], _ => rfl) (fun cdv A outer s H vs Q E hr h => ?_), T.d_text_of_bytes.mgx, T.d_text_of_bytes.kp⟩
  · obtain ⟨_, _, _, rfl, _⟩ := h
    rfl
  · obtain ⟨p, xs, g, rfl, hp, hx, hz, hrd, hc, hg, q⟩ := h
    refine ⟨_, pss_one (ps_ret (pe_callD G1 hr pass0 (pa_cons (pv 0) (pa_cons (C8.pe_gc rfl T.c_BYTES_texts) pa_nil)))), ?_⟩
    exact ⟨_, rfl, p, .b, xs, g, rfl, by decide, hp, hx, hz, hrd, hc, hg, q⟩
theorem ok_text_of_units (T : Txt K mg a) : GD P w K mg base CX0 10 "text_of_units" a.d_text_of_units (spTextOfK a .u) := by
  have G1 : GD P w K mg base CX0 9 "text_of" a.d_text_of (spTextOf a) := ok_text_of T
  have S : FnScope ["items"] ["items"] (defScope s_text_of_units) := C8.fnScope_by (by decide +kernel)
  refine ⟨okR T.d_text_of_units.fn S (fun vs H Q E h => ?_) (fun _ _ _ _ _ _ us hl => match us, hl with | [_], _ => rfl) (fun cdv A outer s H vs Q E hr h => ?_), T.d_text_of_units.mgx, T.d_text_of_units.kp⟩
  · obtain ⟨_, _, _, rfl, _⟩ := h
    rfl
  · obtain ⟨p, xs, g, rfl, hp, hx, hz, hrd, hc, hg, q⟩ := h
    refine ⟨_, pss_one (ps_ret (pe_callD G1 hr pass0 (pa_cons (pv 0) (pa_cons (C8.pe_gc rfl T.c_UNITS_texts) pa_nil)))), ?_⟩
    exact ⟨_, rfl, p, .u, xs, g, rfl, by decide, hp, hx, hz, hrd, hc, hg, q⟩
def spBegin (a : AD) : Sp := fun vs H Q _ => ∃ (p : Addr) (k : Kd) (xs : List Int) (i : Nat) (f m : List Int), vs = [.ref p, .str k.str] ∧ k ≠ .c ∧ H p = some (.lst (xs.map V.int)) ∧ (∀ x ∈ xs, 0 ≤ x ∧ x ≤ mx k) ∧ xs.length ≤ 5000 ∧
  i ≤ xs.length ∧ rd k [] (xs.take i) = some (f, m) ∧ (∀ x, xs[i]? = some x → stp k m x = none) ∧ Chs f ∧ f.length ≤ 1000 ∧
  ∀ H' t x, Same H H' → H x = none → TX a (nw H H') x f → H t = none → H' t = some (.tup [.ref x, .int ((i : Int) - (m.length : Int))]) → Q (.ref t) H'
theorem ok_beginning (T : Txt K mg a) : GD P w K mg base CX0 9 "beginning" a.d_beginning (spBegin a) := by
  have GI : FnR P w K mg base CX0 3 a.m_Reader_init (spRInit a) := ok_rinit T
  have G0 : GD P w K mg base CX0 2 "need_kind" a.d_need_kind spNeedKind := ok_need_kind T
  have G1 : GD P w K mg base CX0 3 "need_items" a.d_need_items spNeedItems := ok_need_items T
  have G2 : GM P w K mg base (L2.CX P w) 4 a.c_Reader "feed" a.m_Reader_feed (spRFeed a) := ok_rfeed T
  have G3 : GM P w K mg base CX0 7 a.c_Reader "text" a.m_Reader_text (spRText a) := ok_rtext T
  have G4 : GM P w K mg base CX0 1 a.c_Reader "pending" a.m_Reader_pending (spRPending a) := ok_rpending T
  have G5 : GM P w K mg base CX0 1 a.c_Reader "__len__" a.m_Reader_len (spRLen a) := ok_rlen T
  have S : FnScope ["items", "kind", "reader", "item"] ["items", "kind"] (defScope s_beginning) := C8.fnScope_by (by decide +kernel)
  refine ⟨okR T.d_beginning.fn S (fun vs H Q E h => ?_) (fun _ _ _ _ _ _ us hl => match us, hl with | [_, _], _ => rfl) (fun cdv A outer s H vs Q E hr h => ?_), T.d_beginning.mgx, T.d_beginning.kp⟩
  · obtain ⟨_, _, _, _, _, _, rfl, _⟩ := h
    rfl
  · obtain ⟨p, k, xs, i, f, m, rfl, hk, hp, hx, hz, hi, hrd, hno, hc, hg, q⟩ := h
    refine ⟨_, pss_cons (ps_expr (pe_callD G0 hr pass0 (pa_cons (pv 1) pa_nil))) (pss_cons (ps_expr (pe_callD G1 hr pass0 (pa_cons (pv 0) (pa_cons (pv 1) pa_nil))))
      (pss_cons (ps_set (i := 2) S.nd rfl (Or.inl rfl) (StX.pe_makeR T.k_Reader GI (hr.mono (by decide)) rfl T.g_Reader pass0 (pa_cons (pv 1) pa_nil)))
      (pss_cons (ps_for PassesOwn.never rfl (pi_list (pv 0)) (pg_name (i := 3) S.nd rfl (Or.inl rfl))
        (pss_one (ps_tryD rfl rfl ⟨rfl, by decide, .inl T.g_Bad⟩ L2.takes0 (fun W pn xe tk _ => pss_one (ps_expr (pe_methE (pv 2) T.i_Reader.cl G2 hr (fun σ => passAt tk σ) (pa_cons (pe_lst (pa_cons (pv 3) pa_nil)) pa_nil)))) (fun b oe cls d pn _ _ => pss_one ps_break))))
      (pss_one (ps_ret (pe_tup (pa_cons (pe_methD0 (pv 2) T.i_Reader.cl G3 hr pass0)
        (pa_cons (pe_op op_sub (pe_callB (call_lenO G5.ok (hr.mono (by decide)) G5.me.at_ G5.me.fn pass0) (by rfl) T.n_len PySem.boot_len (pa_cons (pv 2) pa_nil)) (pe_callB call_len_seq (by rfl) T.n_len PySem.boot_len (pa_cons (pe_methD0 (pv 2) T.i_Reader.cl G4 hr pass0) pa_nil))) pa_nil)))))))), ?_⟩
    refine ⟨_, rfl, k, rfl, ?_⟩
    refine ⟨_, rfl, _, rfl, p, xs, k, rfl, hk, hp, hx, by omega, fun H0 s0 => ?_⟩
    refine ⟨_, rfl, mkR (a := a) (k := k) fun H1 r s1 nr hR => ?_⟩
    have s01 := s0.trans s1
    have nr0 := s0.free nr
    refine ⟨_, rfl, p, rfl, ⟨_, SqL.of (s01 _ _ hp)⟩, for_listF (K := K) (p := p) (xs := xs.map V.int)
      (fun j σ H2 => (∃ v, σ = [some (.ref p), some (.str k.str), some (.ref r), v]) ∧ Same H H2 ∧ j ≤ i ∧ ∃ F L, rd k [] (xs.take j) = some (F, L) ∧ RD a H2 r k F L j false)
      (fun σ H2 => (∃ v, σ = [some (.ref p), some (.str k.str), some (.ref r), v]) ∧ Same H H2 ∧ RD a H2 r k f m i false) ?_ ⟨⟨none, rfl⟩, s01, Nat.zero_le _, [], [], rfl, hR⟩ (fun j σ H2 _ ⟨_, s2, _⟩ => SqL.of (s2 _ _ hp)) ?_ ?_⟩
    · rintro σ H2 ⟨⟨v, rfl⟩, s2, hR2⟩
      obtain ⟨dx, fs, fl, wl, il, fed, h1, h2, hrest⟩ := id hR2
      refine ⟨_, rfl, r, dx, fs, rfl, h1, h2.no _ (by decide +kernel) (by decide +kernel) (by decide +kernel) (by decide +kernel) (by decide +kernel), ?_⟩
      refine ⟨r, k, f, m, i, false, rfl, hR2, hc, hg, fun H3 x s3 nx hx3 => ?_⟩
      refine ⟨_, rfl, r, dx, fs, rfl, s3 _ _ h1, ⟨r, k, f, m, i, false, rfl, hR2.mono s3, (i : Int), rfl, by omega, by omega, ?_⟩⟩
      refine ⟨_, rfl, r, dx, fs, rfl, s3 _ _ h1, h2.no _ (by decide +kernel) (by decide +kernel) (by decide +kernel) (by decide +kernel) (by decide +kernel), ?_⟩
      refine ⟨r, k, f, m, i, false, rfl, hR2.mono s3, fun H4 l s4 nl hl => ?_⟩
      refine ⟨l, _, rfl, .inl (SqL.of hl), _, _, rfl, rfl, (by show 2 ≤ sizeLine; decide), fun t nt => ?_⟩
      have s34 := (s3.trans s4).trans (Same.new nt (o := .tup [.ref x, .int ((i : Int) - (((m.map V.int).length : Nat) : Int))]))
      refine q _ t x (s2.trans s34) (s2.free nx) (hx3.mono ?_) ((s2.trans (s3.trans s4)).free nt) ?_
      · exact fun b o e => nw_mono (s4.trans (Same.new nt)) _ _ (nw_back s2 _ _ e)
      · rw [upd_same, List.length_map]
    · rintro fin j y σ H2 hj ⟨⟨v, rfl⟩, s2, hji, F, L, hF, hR2⟩
      obtain ⟨x, hxj, rfl⟩ := ints_at hj
      obtain ⟨dx, fs, fl, wl, il, fed, h1, h2, hrest⟩ := id hR2
      have hjl : j < xs.length := (List.getElem?_eq_some_iff.mp hxj).1
      refine ⟨_, rfl, r, dx, fs, rfl, h1, h2.no _ (by decide +kernel) (by decide +kernel) (by decide +kernel) (by decide +kernel) (by decide +kernel), ?_⟩
      refine ⟨_, rfl, (by show 1 ≤ sizeLine; decide), fun z nz => ?_⟩
      have sz : Same H2 (upd H2 z (.lst [V.int x])) := Same.new nz
      refine ⟨r, z, k, F, L, j, [x], rfl, hk, hR2.mono sz, upd_same, fun y hy => ?_, by show j + 1 ≤ 5000; omega, ?_⟩
      · rcases List.mem_singleton.mp hy with rfl
        exact hx _ (List.mem_of_getElem? hxj)
      rw [rd_one]
      have hsucc := rd_take_succ (k := k) (l := []) hxj
      rw [hF] at hsucc
      have hsucc : rd k [] (xs.take (j + 1)) = (stp k L x).map fun z => (F ++ z.1, z.2) := hsucc
      by_cases hlt : j < i
      · have : ∃ z, rd k [] ((xs.take i).take (j + 1)) = some z := rd_take hrd (j + 1)
        rw [List.take_take, Nat.min_eq_left hlt] at this
        obtain ⟨zz, hzz⟩ := this
        rw [hsucc] at hzz
        cases hst : stp k L x with
        | none => rw [hst] at hzz; cases hzz
        | some gm =>
          rw [hst] at hsucc
          refine .inl ⟨gm.1, gm.2, rfl, fun H3 f' s3 nf hf hR3 _ => ?_⟩
          exact ⟨⟨_, rfl⟩, fun b o e => s3 _ _ (sz _ _ (s2 _ _ e)) (ne_of_none e nr0), hlt, F ++ gm.1, gm.2, hsucc, hR3⟩
      · have hji : j = i := by omega
        subst hji
        rw [hrd] at hF
        obtain ⟨rfl, rfl⟩ := Prod.mk.inj (Option.some.inj hF)
        refine .inr ⟨hno x hxj, fun d H3 s3 => ?_⟩
        refine ⟨true, T.e_Bad, (fun _ b hb => fin _ _ ⟨⟨_, rfl⟩, s2.trans (sz.trans s3), hR2.mono (sz.trans s3)⟩), (fun q => nomatch q)⟩
    · rintro σ H2 ⟨hσ, s2, hji, F, L, hF, hR2⟩
      have hl : (xs.map V.int).length = xs.length := List.length_map ..
      rw [hl] at hji hF hR2
      have : i = xs.length := by omega
      subst this
      rw [hF] at hrd
      obtain ⟨rfl, rfl⟩ := Prod.mk.inj (Option.some.inj hrd)
      exact ⟨hσ, s2, hR2⟩
end
end K14

namespace K14
open PySem PySem.Spec PyProof.Rows L2
/-- the box at p, taken from n times at most -/
def BX (H : Hp) (p : Addr) (n : Nat) : Prop := ∃ x y c : Int, H p = some (.lst [.int x, .int y, .int c]) ∧ 0 ≤ x ∧ 0 ≤ y ∧ y < 2147483629 ∧ 0 ≤ c ∧ c ≤ (n : Int)
theorem BX.le {H : Hp} {p : Addr} {n m : Nat} (h : BX H p n) (l : n ≤ m) : BX H p m := by
  obtain ⟨x, y, c, h1, h2, h3, h4, h5, h6⟩ := h
  exact ⟨x, y, c, h1, h2, h3, h4, h5, by omega⟩
theorem BX.mono {H H' : Hp} {p : Addr} {n : Nat} (s : Same H H') (h : BX H p n) : BX H' p n := by
  obtain ⟨x, y, c, h1, h2⟩ := h
  exact ⟨x, y, c, s _ _ h1, h2⟩
theorem BX.lst {H : Hp} {p : Addr} {n : Nat} (h : BX H p n) : ∃ l, H p = some (.lst l) := by
  obtain ⟨x, y, c, h1, h2⟩ := h
  exact ⟨_, h1⟩
section
variable {P : Program} {w : World} {K : PySem.W.Frag} {mg : Str → Option Value} {base : Heap} {a : AD}
def spCell (K : PySem.W.Frag) : Sp := fun vs H Q _ => ∃ (p : Addr) (ns : List Int) (k : Nat), vs = [.ref p, .int k] ∧ SqL K H p (ns.map V.int) ∧ ns.length ≤ 1000 ∧ ∀ n : Int, Q (.int n) H
theorem ok_law_cell (T : Txt K mg a) : GD P w K mg base CX0 1 "_law_cell" a.d_law_cell (spCell K) := by
  have S : FnScope ["_law_script", "_law_k"] ["_law_script", "_law_k"] (defScope s_law_cell) := C8.fnScope_by (by decide +kernel)
  refine ⟨okR T.d_law_cell.fn S (fun vs H Q E h => ?_) (fun _ _ _ _ _ _ us hl => match us, hl with | [_, _], _ => rfl) (fun cdv A outer s H vs Q E hr h => ?_), T.d_law_cell.mgx, T.d_law_cell.kp⟩
  · obtain ⟨_, _, _, rfl, _⟩ := h
    rfl
  · obtain ⟨p, ns, k, rfl, hp, hz, q⟩ := h
    refine ⟨_, pss_cons (ps_if (pt_cmpR op_lt (pv 1) (pe_callB call_len_seq (by rfl) T.n_len PySem.boot_len (pa_cons (pv 0) pa_nil)) (nomark _)) (pss_one (ps_ret (pe_ix ix_list (pv 0) (pv 1) (fun _ _ => rfl)))) pss_nil)
      (pss_one (ps_ret (pe_op op_add (pe_op op_mul pe_int (pv 1)) pe_int))), ?_⟩
    refine ⟨_, rfl, _, rfl, p, _, rfl, .inl hp, _, _, rfl, rfl, _, rfl, ?_⟩
    rw [List.length_map]
    refine ite2 (fun h => ?_) (fun h => ?_)
    · have hk : k < ns.length := by have := of_decide_eq_true h; omega
      exact ⟨_, rfl, _, rfl, p, _, _, _, rfl, rfl, hp, atI_nat (j := k) (by rw [List.getElem?_map, List.getElem?_eq_getElem hk]; rfl), q _⟩
    · exact ⟨_, rfl, _, _, rfl, rfl, .inl ⟨by decide, by decide⟩, _, _, rfl, rfl, q _⟩
def spBox : Sp := fun vs H Q _ => ∃ c : Int, vs = [.int c] ∧ ∀ H' p, Same H H' → H p = none → BX H' p 0 → Q (.ref p) H'
theorem ok_law_box (T : Txt K mg a) : GD P w K mg base CX0 1 "_law_box" a.d_law_box spBox := by
  have S : FnScope ["_law_cell_here"] ["_law_cell_here"] (defScope s_law_box) := C8.fnScope_by (by decide +kernel)
  refine ⟨okR T.d_law_box.fn S (fun vs H Q E h => ?_) (fun _ _ _ _ _ _ us hl => match us, hl with | [_], _ => rfl) (fun cdv A outer s H vs Q E hr h => ?_), T.d_law_box.mgx, T.d_law_box.kp⟩
  · obtain ⟨_, rfl, _⟩ := h
    rfl
  · obtain ⟨c, rfl, q⟩ := h
    refine ⟨_, pss_one (ps_ret (pe_lst (pa_cons (pe_callB (call_max2 rfl) (by rfl) T.n_max (by decide +kernel) (pa_cons pe_int (pa_cons (pe_op op_sub (pv 0) (pe_op op_pow pe_int pe_int)) pa_nil)))
      (pa_cons (pe_op op_mod (pe_callTy call_int1 (by rfl) T.n_int (by decide +kernel) (pa_cons (pv 0) pa_nil)) pe_int) (pa_cons pe_int pa_nil))))), ?_⟩
    refine ⟨_, rfl, _, _, rfl, rfl, ⟨by decide, by decide, by decide⟩, _, _, rfl, rfl, _, _, rfl, ?_⟩
    refine ⟨_, rfl, .inl ⟨_, rfl, _, _, rfl, rfl, (by show (0 : Int) < 2147483629; decide), (by show 3 ≤ sizeLine; decide), fun p np => q _ p (Same.new np) np ⟨_, _, 0, upd_same, ?_, Int.emod_nonneg _ (by decide), Int.emod_lt_of_pos _ (by decide), by decide, by decide⟩⟩⟩
    split
    · omega
    · exact Int.le_refl 0
def spTake : Sp := fun vs H Q _ => ∃ (b : Addr) (m : Int) (n : Nat), vs = [.ref b, .int m] ∧ BX H b n ∧ n ≤ 100000 ∧ 0 < m ∧ m < 1073741824 ∧ ∀ H' r, SameX b H H' → BX H' b (n + 1) → 0 ≤ r → r < m → Q (.int r) H'
theorem ok_law_take (T : Txt K mg a) : GD P w K mg base CX0 1 "_law_take" a.d_law_take spTake := by
  have S : FnScope ["_law_box_here", "_law_many", "_law_digit", "_law_mixed"] ["_law_box_here", "_law_many"] (defScope s_law_take) := C8.fnScope_by (by decide +kernel)
  refine ⟨okR T.d_law_take.fn S (fun vs H Q E h => ?_) (fun _ _ _ _ _ _ us hl => match us, hl with | [_, _], _ => rfl) (fun cdv A outer s H vs Q E hr h => ?_), T.d_law_take.mgx, T.d_law_take.kp⟩
  · obtain ⟨_, _, _, rfl, _⟩ := h
    rfl
  · obtain ⟨b, m, n, rfl, ⟨x, y, c, hb, h1, h2, h3, h4, h5⟩, hn, hm0, hm, q⟩ := h
    refine ⟨_, pss_cons (ps_if (pt_cmpR op_gt (pe_ix ix_list (pv 0) pe_int (fun _ _ => rfl)) pe_int (nomark _))
        (pss_cons (ps_set (i := 2) S.nd rfl (Or.inl rfl) (pe_op op_mod (pe_callTy call_int1 (by rfl) T.n_int (by decide +kernel) (pa_cons (pe_ix ix_list (pv 0) pe_int (fun _ _ => rfl)) pa_nil)) (pv 1)))
        (pss_cons (ps_asg (pe_op op_fdiv (pe_ix ix_list (pv 0) pe_int (fun _ _ => rfl)) (pv 1)) (pg_sub (pv 0) pe_int set_list)) (pss_one (ps_ret (pv 2))))) pss_nil)
      (pss_cons (ps_asg (pe_op op_add (pe_ix ix_list (pv 0) pe_int (fun _ _ => rfl)) pe_int) (pg_sub (pv 0) pe_int set_list))
      (pss_cons (ps_set (i := 3) S.nd rfl (Or.inl rfl) (pe_op op_mod (pe_op op_pow (pe_op op_add (pe_op op_add (pe_ix ix_list (pv 0) pe_int (fun _ _ => rfl)) (pe_op op_mul pe_int (pe_ix ix_list (pv 0) pe_int (fun _ _ => rfl)))) pe_int) pe_int) pe_int))
      (pss_cons (ps_set (i := 3) S.nd rfl (Or.inl rfl) (pe_op op_mod (pe_op op_pow (pe_op op_add (pv 3) (pe_op op_mul pe_int (pe_ix ix_list (pv 0) pe_int (fun _ _ => rfl)))) pe_int) pe_int))
      (pss_one (ps_ret (pe_op op_mod (pe_op op_fdiv (pv 3) pe_int) (pv 1))))))), ?_⟩
    refine ⟨_, rfl, b, _, _, _, rfl, rfl, SqL.of hb, atI_nat (j := 0) rfl, _, _, rfl, rfl, _, rfl, ?_⟩
    refine ite2 (fun h => ?_) (fun h => ?_)
    · refine ⟨_, rfl, b, _, _, _, rfl, rfl, SqL.of hb, atI_nat (j := 0) rfl, .inl ⟨_, rfl, _, rfl, _, _, rfl, rfl, hm0, ?_⟩⟩
      refine ⟨_, rfl, b, _, _, _, rfl, rfl, SqL.of hb, atI_nat (j := 0) rfl, _, rfl, _, _, rfl, rfl, ⟨hm0, hm⟩, _, rfl, b, _, _, 0, rfl, rfl, hb, rfl, ?_⟩
      refine ⟨_, rfl, q _ _ SameX.upd ⟨x / m, y, c, upd_same, Int.ediv_nonneg h1 (Int.le_of_lt hm0), h2, h3, h4, by omega⟩ (Int.emod_nonneg _ (by omega)) (Int.emod_lt_of_pos _ hm0)⟩
    · refine ⟨_, rfl, b, _, _, _, rfl, rfl, SqL.of hb, atI_nat (j := 2) rfl, _, _, rfl, rfl, _, rfl, b, _, _, 2, rfl, rfl, hb, rfl, ?_⟩
      have hb2 : upd H b (.lst ([V.int x, V.int y, V.int c].set 2 (V.int (c + 1)))) b = some (.lst [V.int x, V.int y, V.int (c + 1)]) := upd_same
      have s2 : SameX b H (upd H b (.lst ([V.int x, V.int y, V.int c].set 2 (V.int (c + 1))))) := SameX.upd
      generalize upd H b (.lst ([V.int x, V.int y, V.int c].set 2 (V.int (c + 1)))) = H2 at hb2 s2
      refine ⟨_, rfl, b, _, _, _, rfl, rfl, SqL.of hb2, atI_nat (j := 1) rfl, _, rfl, b, _, _, _, rfl, rfl, SqL.of hb2, atI_nat (j := 2) rfl, _, _, rfl, rfl, .inl ⟨by decide, by decide⟩, _, _, rfl, rfl, _, _, rfl, rfl, ?_⟩
      refine ⟨_, _, rfl, rfl, ⟨by decide, by decide, ?_⟩, _, _, rfl, rfl, (by show (0 : Int) < 2147483647; decide), ?_⟩
      · show (y + 15502793 * (c + 1) + 1021).natAbs < 18446744073709551616
        omega
      have g0 := Int.emod_nonneg ((y + 15502793 * (c + 1) + 1021) ^ (5 : Int).toNat) (show (2147483647 : Int) ≠ 0 by decide)
      have g1 := Int.emod_lt_of_pos ((y + 15502793 * (c + 1) + 1021) ^ (5 : Int).toNat) (show (0 : Int) < 2147483647 by decide)
      have g2 : ∀ z1 : Int, 0 ≤ z1 → z1 < 2147483647 → (z1 + 104723 * (c + 1)).natAbs < 18446744073709551616 := fun z1 g0 g1 => by omega
      refine ⟨_, rfl, _, rfl, b, _, _, _, rfl, rfl, SqL.of hb2, atI_nat (j := 2) rfl, _, _, rfl, rfl, .inl ⟨by decide, by decide⟩, _, _, rfl, rfl, ?_⟩
      refine ⟨_, _, rfl, rfl, ⟨by decide, by decide, ?_⟩, _, _, rfl, rfl, (by show (0 : Int) < 2147483587; decide), ?_⟩
      · exact g2 _ g0 g1
      refine ⟨_, rfl, _, _, rfl, rfl, ⟨by decide, by decide⟩, _, rfl, _, _, rfl, rfl, hm0, ?_⟩
      exact q _ _ s2 ⟨x, y, c + 1, hb2, h1, h2, h3, by omega, by omega⟩ (Int.emod_nonneg _ (by omega)) (Int.emod_lt_of_pos _ hm0)
theorem at_nat {l : List Int} {r : Int} (h0 : 0 ≤ r) (h1 : r < (l.length : Int)) : ∃ z, z ∈ l ∧ atI (l.map V.int) r = some (.int z) := by
  obtain ⟨j, rfl⟩ := Int.eq_ofNat_of_zero_le h0
  have hj : j < l.length := by omega
  exact ⟨l[j], List.getElem_mem hj, atI_nat (by rw [List.getElem?_map, List.getElem?_eq_getElem hj]; rfl)⟩
def edges : List Int := [0, 10, 13, 65, 127, 128, 233, 2047, 2048, 8364, 55295, 57344, 65535, 65536, 128512, 1114111]
theorem edges_ch : ∀ z ∈ edges, Ch z := by unfold edges Ch; decide
def spChar : Sp := fun vs H Q _ => ∃ (b : Addr) (n : Nat), vs = [.ref b] ∧ BX H b n ∧ n ≤ 99000 ∧ ∀ H' c, SameX b H H' → BX H' b (n + 3) → Ch c → Q (.int c) H'
theorem ok_law_char (T : Txt K mg a) : GD P w K mg base CX0 2 "_law_char" a.d_law_char spChar := by
  have G1 : GD P w K mg base CX0 1 "_law_take" a.d_law_take spTake := ok_law_take T
  have S : FnScope ["_law_box_here", "_law_edges", "_law_way", "_law_number"] ["_law_box_here"] (defScope s_law_char) := C8.fnScope_by (by decide +kernel)
  refine ⟨okR T.d_law_char.fn S (fun vs H Q E h => ?_) (fun _ _ _ _ _ _ us hl => match us, hl with | [_], _ => rfl) (fun cdv A outer s H vs Q E hr h => ?_), T.d_law_char.mgx, T.d_law_char.kp⟩
  · obtain ⟨_, _, rfl, _⟩ := h
    rfl
  · obtain ⟨b, n, rfl, hB, hn, q⟩ := h
    refine ⟨_, pss_cons (ps_set (i := 1) S.nd rfl (Or.inl rfl) (pe_lst (pa_cons pe_int (pa_cons pe_int (pa_cons pe_int (pa_cons pe_int (pa_cons pe_int (pa_cons pe_int (pa_cons pe_int (pa_cons pe_int
        (pa_cons pe_int (pa_cons pe_int (pa_cons pe_int (pa_cons pe_int (pa_cons pe_int (pa_cons pe_int (pa_cons pe_int (pa_cons pe_int pa_nil))))))))))))))))))
      (pss_cons (ps_set (i := 2) S.nd rfl (Or.inl rfl) (pe_callD G1 hr pass0 (pa_cons (pv 0) (pa_cons pe_int pa_nil))))
      (pss_cons (ps_if (pt_cmpR op_lt (pv 2) pe_int (nomark _)) (pss_one (ps_ret (pe_ix ix_list (pv 1) (pe_callD G1 hr pass0 (pa_cons (pv 0) (pa_cons pe_int pa_nil))) (fun _ _ => rfl)))) pss_nil)
      (pss_cons (ps_set (i := 3) S.nd rfl (Or.inl rfl) (pe_callD G1 hr pass0 (pa_cons (pv 0) (pa_cons (pe_ix ix_list (pe_lst (pa_cons pe_int (pa_cons pe_int (pa_cons pe_int (pa_cons pe_int pa_nil))))) (pe_callD G1 hr pass0 (pa_cons (pv 0) (pa_cons pe_int pa_nil))) (fun _ _ => rfl)) pa_nil))))
      (pss_one (ps_ret (pe_ifExp (PW.pt (pw_or (pt_cmpR op_lt (pv 3) pe_int (nomark _)) (pw_or1 (pt_cmpR op_gt (pv 3) pe_int (nomark _))))) (pv 3) pe_int)))))), ?_⟩
    refine ⟨(by show 16 ≤ sizeLine; decide), fun e ne => ?_⟩
    have s1 : Same H (upd H e (.lst (edges.map V.int))) := Same.new ne
    have he1 : upd H e (.lst (edges.map V.int)) e = some (.lst (edges.map V.int)) := upd_same
    have eb : e ≠ b := fun z => by obtain ⟨l, hl⟩ := hB.lst; rw [← z, ne] at hl; cases hl
    refine ⟨_, rfl, b, 4, n, rfl, hB.mono s1, by omega, by decide, by decide, fun H2 r s2 hB2 hr0 hr1 => ?_⟩
    have he2 := s2 _ _ he1 eb
    have s12 := (SameX.of s1).trans s2
    refine ⟨_, rfl, _, _, rfl, rfl, _, rfl, ?_⟩
    refine ite2 (fun h => ?_) (fun h => ?_)
    · refine ⟨_, rfl, _, rfl, b, 16, n + 1, rfl, hB2, by omega, by decide, by decide, fun H3 r3 s3 hB3 h30 h31 => ?_⟩
      obtain ⟨z, hz, ha⟩ := at_nat (l := edges) h30 h31
      exact ⟨e, _, _, _, rfl, rfl, SqL.of (s3 _ _ he2 eb), ha, q _ _ (s12.trans s3) (hB3.le (by omega)) (edges_ch z hz)⟩
    · refine ⟨_, rfl, (by show 4 ≤ sizeLine; decide), fun g ng => ?_⟩
      have sg : Same H2 (upd H2 g (.lst (([128, 2048, 65536, 1114112] : List Int).map V.int))) := Same.new ng
      have gb : g ≠ b := fun z => by obtain ⟨l, hl⟩ := hB2.lst; rw [← z, ng] at hl; cases hl
      refine ⟨_, rfl, b, 4, n + 1, rfl, hB2.mono sg, by omega, by decide, by decide, fun H3 r3 s3 hB3 h30 h31 => ?_⟩
      obtain ⟨z, hz, ha⟩ := at_nat (l := [128, 2048, 65536, 1114112]) h30 h31
      refine ⟨g, _, _, _, rfl, rfl, SqL.of (s3 _ _ upd_same gb), ha, ?_⟩
      have hzz : z = 128 ∨ z = 2048 ∨ z = 65536 ∨ z = 1114112 := by simpa using hz
      refine ⟨b, z, n + 1 + 1, rfl, hB3, by omega, by omega, by omega, fun H4 r4 s4 hB4 h40 h41 => ?_⟩
      have s5 : SameX b H H4 := ((s12.trans (SameX.of sg)).trans s3).trans s4
      refine ⟨_, rfl, _, _, rfl, rfl, _, rfl, ?_⟩
      refine ite2 (fun h => ?_) (fun h => ?_)
      · have h := of_decide_eq_true h
        exact iteT ⟨_, rfl, q _ _ s5 hB4 ⟨h40, by omega, by omega⟩⟩
      · have h : ¬ r4 < 55296 := fun z => h (decide_eq_true z)
        refine ⟨_, rfl, _, _, rfl, rfl, _, rfl, ?_⟩
        refine ite2 (fun h' => ?_) (fun h' => ?_)
        · have h' := of_decide_eq_true h'
          exact ⟨_, rfl, q _ _ s5 hB4 ⟨h40, by omega, by omega⟩⟩
        · exact q _ _ s5 hB4 (by unfold Ch; decide)
end
end K14

namespace K14
open PySem PySem.Spec PyProof.Rows L2
def sgnL (xs ys : List Int) : Int := (if PySem.W.listLt ys xs = true then 1 else 0) - (if PySem.W.listLt xs ys = true then 1 else 0)
section
variable {P : Program} {w : World} {K : PySem.W.Frag} {mg : Str → Option Value} {base : Heap} {a : AD}
def spChars : Sp := fun vs H Q _ => ∃ (b : Addr) (n : Nat), vs = [.ref b, .int 40] ∧ BX H b n ∧ n ≤ 90000 ∧ ∀ H' p cs, SameX b H H' → BX H' b (n + 200) → H p = none → H' p = some (.lst (cs.map V.int)) → Chs cs → cs.length ≤ 40 → Q (.ref p) H'
theorem ok_law_chars (T : Txt K mg a) : GD P w K mg base CX0 3 "_law_chars" a.d_law_chars spChars := by
  have G1 : GD P w K mg base CX0 1 "_law_take" a.d_law_take spTake := ok_law_take T
  have G2 : GD P w K mg base CX0 2 "_law_char" a.d_law_char spChar := ok_law_char T
  have S : FnScope ["_law_box_here", "_law_most", "_law_lap"] ["_law_box_here", "_law_most"] (defScope s_law_chars) := C8.fnScope_by (by decide +kernel)
  refine ⟨okR T.d_law_chars.fn S (fun vs H Q E h => ?_) (fun _ _ _ _ _ _ us hl => match us, hl with | [_, _], _ => rfl) (fun cdv A outer s H vs Q E hr h => ?_), T.d_law_chars.mgx, T.d_law_chars.kp⟩
  · obtain ⟨_, _, rfl, _⟩ := h
    rfl
  · obtain ⟨b, n, rfl, hB, hn, q⟩ := h
    refine ⟨_, pss_one (ps_ret (pe_lc (te := tCallR spChar E0 (tCons (tVar 0) tNil)) (own := [("_law_lap", 2)]) (g := gName 2) (tt := tYes) rfl S.nd
      (pi_range1 (by rfl) T.n_range (pa_cons (pe_ix ix_list (pe_lst (pa_cons pe_int (pa_cons pe_int (pa_cons pe_int (pa_cons pe_int (pa_cons (pv 1) pa_nil)))))) (pe_callD G1 hr pass0 (pa_cons (pv 0) (pa_cons pe_int pa_nil))) (fun _ _ => rfl)) pa_nil))
      (blkOk_by (N := ["_law_box_here", "_law_most", "_law_lap"]) (sc := defScope s_law_chars) (by decide +kernel)) (fun _ _ _ _ _ => pg_name (i := 2) S.nd rfl (Or.inl rfl)) (fun _ _ _ _ _ => pts_nil)
      (fun _ _ _ _ _ => by exact pe_callD G2 hr pass0 (pa_cons (pv 0) pa_nil)))), ?_⟩
    refine ⟨_, rfl, (by show 5 ≤ sizeLine; decide), fun e ne => ?_⟩
    have se : Same H (upd H e (.lst (([0, 1, 4, 12, 40] : List Int).map V.int))) := Same.new ne
    have eb : e ≠ b := fun z => by obtain ⟨l, hl⟩ := hB.lst; rw [← z, ne] at hl; cases hl
    refine ⟨_, rfl, b, 5, n, rfl, hB.mono se, by omega, by decide, by decide, fun H1 r s1 hB1 hr0 hr1 => ?_⟩
    obtain ⟨z, hz, ha⟩ := at_nat (l := [0, 1, 4, 12, 40]) hr0 hr1
    have hzz : z = 0 ∨ z = 1 ∨ z = 4 ∨ z = 12 ∨ z = 40 := by simpa using hz
    refine ⟨e, _, _, _, rfl, rfl, SqL.of (s1 _ _ upd_same eb), ha, z, rfl, by omega, by omega, fun D nD => ?_⟩
    have s01 : SameX b H H1 := (SameX.of se).trans s1
    have Db : D ≠ b := fun z => by obtain ⟨l, hl⟩ := hB1.lst; rw [← z, nD] at hl; cases hl
    have nDH : H D = none := by
      cases h : H D with
      | none => rfl
      | some o => have := s01 _ _ h Db; rw [nD] at this; cases this
    refine lc_range (fun i H3 => SameX b H1 H3 ∧ BX H3 b (n + 1 + 3 * i) ∧ i ≤ z.toNat ∧ ∃ cs : List Int, cs.length = i ∧ Chs cs ∧ H3 D = some (.lst (cs.map V.int)))
      ⟨SameX.of (Same.new nD), hB1.mono (Same.new nD), Nat.zero_le _, [], rfl, (fun c hc => nomatch hc), upd_same⟩ ?_ ?_
    · rintro i H3 hi ⟨s3, hB3, hiz, cs, hl, hc, hD⟩
      refine ⟨rfl, ?_⟩
      refine ⟨_, rfl, b, _, rfl, hB3, by omega, fun H4 c s4 hB4 hc4 => ?_⟩
      refine ⟨_, s4 _ _ hD Db, ?_, ?_, ?_, ?_, cs ++ [c], ?_, ?_, ?_⟩
      · rw [List.length_map, hl]
        exact Nat.lt_of_le_of_lt (by omega : i ≤ 40) (by decide)
      · intro o u hu hne
        rw [upd_ne (ne_of_none hu nD)]
        exact s4 _ _ (s3 _ _ hu hne) hne
      · obtain ⟨x, y, k, hb, hk⟩ := hB4
        exact ⟨x, y, k, (upd_ne Db.symm).trans hb, by obtain ⟨h1, h2, h3, h4, h5⟩ := hk; exact ⟨h1, h2, h3, h4, by omega⟩⟩
      · omega
      · rw [List.length_append, hl]; rfl
      · intro u hu
        rcases List.mem_append.mp hu with h | h
        · exact hc u h
        · rcases List.mem_singleton.mp h with rfl
          exact hc4
      · rw [upd_same, List.map_append]
        rfl
    · rintro H3 ⟨s3, hB3, hiz, cs, hl, hc, hD⟩
      exact q _ D cs (s01.trans s3) (hB3.le (by omega)) nDH hD hc (by omega)
def spSign : Sp := fun vs H Q _ => ∃ (p r : Addr) (xs ys : List Int), vs = [.ref p, .ref r] ∧ H p = some (.lst (xs.map V.int)) ∧ H r = some (.lst (ys.map V.int)) ∧ Q (.int (sgnL xs ys)) H
theorem ok_law_sign (T : Txt K mg a) : GD P w K mg base CX0 1 "_law_sign" a.d_law_sign spSign := by
  have S : FnScope ["_law_one", "_law_other"] ["_law_one", "_law_other"] (defScope s_law_sign) := C8.fnScope_by (by decide +kernel)
  refine ⟨okR T.d_law_sign.fn S (fun vs H Q E h => ?_) (fun _ _ _ _ _ _ us hl => match us, hl with | [_, _], _ => rfl) (fun cdv A outer s H vs Q E hr h => ?_), T.d_law_sign.mgx, T.d_law_sign.kp⟩
  · obtain ⟨_, _, _, _, rfl, _⟩ := h
    rfl
  · obtain ⟨p, r, xs, ys, rfl, hp, hr2, q⟩ := h
    refine ⟨_, pss_one (ps_ret (pe_op op_sub (pe_callTy call_int1 (by rfl) T.n_int (by decide +kernel) (pa_cons (pe_cmpR (op_gtL hr.units) (pv 0) (pv 1) (nomark _)) pa_nil))
      (pe_callTy call_int1 (by rfl) T.n_int (by decide +kernel) (pa_cons (pe_cmpR (op_ltL hr.units) (pv 0) (pv 1) (nomark _)) pa_nil)))), ?_⟩
    refine ⟨_, rfl, _, rfl, p, r, _, _, rfl, rfl, SqL.of hp, SqL.of hr2, .inr ⟨_, rfl, ?_⟩⟩
    exact ⟨_, rfl, _, rfl, p, r, _, _, rfl, rfl, SqL.of hp, SqL.of hr2, .inr ⟨_, rfl, _, _, rfl, rfl, q⟩⟩
end
end K14

namespace K14
open PySem.W (listLt)
/-! ### order: plain facts -/
theorem lt_cons (x y : Int) (xs ys : List Int) : listLt (x :: xs) (y :: ys) = if x = y then listLt xs ys else decide (x < y) := rfl
theorem lt_self : ∀ xs : List Int, listLt xs xs = false
  | [] => rfl
  | x :: r => by rw [lt_cons, if_pos rfl]; exact lt_self r
theorem lt_app : ∀ (p xs ys : List Int), listLt (p ++ xs) (p ++ ys) = listLt xs ys
  | [], _, _ => rfl
  | x :: r, xs, ys => by
    show listLt (x :: (r ++ xs)) (x :: (r ++ ys)) = _
    rw [lt_cons, if_pos rfl]
    exact lt_app r xs ys
theorem lt_head {a b : Int} (h : a < b) (xs ys : List Int) : listLt (a :: xs) (b :: ys) = true ∧ listLt (b :: ys) (a :: xs) = false := by
  rw [lt_cons, lt_cons, if_neg (by omega), if_neg (by omega)]
  exact ⟨decide_eq_true h, decide_eq_false (by omega)⟩
theorem lt_asym : ∀ {xs ys : List Int}, listLt xs ys = true → listLt ys xs = false
  | [], [], h => nomatch h
  | [], _ :: _, _ => rfl
  | _ :: _, [], h => nomatch h
  | x :: xs, y :: ys, h => by
    rw [lt_cons] at h ⊢
    by_cases e : x = y
    · rw [if_pos e] at h
      rw [if_pos e.symm]
      exact lt_asym h
    · rw [if_neg e] at h
      rw [if_neg (fun z => e z.symm)]
      have := of_decide_eq_true h
      exact decide_eq_false (by omega)
theorem lt_total : ∀ {xs ys : List Int}, xs ≠ ys → listLt xs ys = false → listLt ys xs = true
  | [], [], h, _ => absurd rfl h
  | [], _ :: _, _, h => nomatch h
  | _ :: _, [], _, _ => rfl
  | x :: xs, y :: ys, hn, h => by
    rw [lt_cons] at h ⊢
    by_cases e : x = y
    · rw [if_pos e] at h
      rw [if_pos e.symm]
      exact lt_total (fun z => hn (by rw [e, z])) h
    · rw [if_neg e] at h
      rw [if_neg (fun z => e z.symm)]
      have := of_decide_eq_false h
      exact decide_eq_true (by omega)
theorem cmp_cases (xs ys : List Int) : (xs = ys ∧ listLt xs ys = false ∧ listLt ys xs = false ∧ cmpI xs ys = 0) ∨ (xs ≠ ys ∧ listLt xs ys = true ∧ listLt ys xs = false ∧ cmpI xs ys = -1) ∨ (xs ≠ ys ∧ listLt xs ys = false ∧ listLt ys xs = true ∧ cmpI xs ys = 1) := by
  have e : cmpI xs ys = if xs = ys then 0 else if listLt xs ys = true then -1 else 1 := rfl
  by_cases h : xs = ys
  · left
    subst h
    rw [if_pos rfl] at e
    exact ⟨rfl, lt_self _, lt_self _, e⟩
  · right
    rw [if_neg h] at e
    cases hl : listLt xs ys with
    | true =>
      rw [if_pos hl] at e
      exact .inl ⟨h, rfl, lt_asym hl, e⟩
    | false =>
      rw [hl, if_neg Bool.false_ne_true] at e
      exact .inr ⟨h, rfl, lt_total h hl, e⟩
theorem cmp_sgn (xs ys : List Int) : cmpI xs ys = sgnL xs ys := by
  unfold sgnL
  rcases cmp_cases xs ys with ⟨_, h1, h2, h3⟩ | ⟨_, h1, h2, h3⟩ | ⟨_, h1, h2, h3⟩ <;> rw [h1, h2, h3] <;> rfl
theorem cmp_neg (xs ys : List Int) : decide (cmpI xs ys < 0) = listLt xs ys := by
  rcases cmp_cases xs ys with ⟨_, h1, h2, h3⟩ | ⟨_, h1, h2, h3⟩ | ⟨_, h1, h2, h3⟩ <;> rw [h1, h3] <;> rfl
theorem cmp_pos (xs ys : List Int) : decide (0 < cmpI xs ys) = listLt ys xs := by
  rcases cmp_cases xs ys with ⟨_, h1, h2, h3⟩ | ⟨_, h1, h2, h3⟩ | ⟨_, h1, h2, h3⟩ <;> rw [h2, h3] <;> rfl
/-- two characters: where their bytes first differ -/
theorem enc_lt {c d : Int} (hc : Ch c) (hd : Ch d) (h : c < d) : ∃ p a s b t, enc .b c = p ++ a :: s ∧ enc .b d = p ++ b :: t ∧ a < b := by
  obtain ⟨c0, c1, _⟩ := hc
  obtain ⟨d0, d1, _⟩ := hd
  rw [encB_eq c, encB_eq d]
  by_cases a1 : c < 128
  · rw [if_pos a1]
    by_cases b1 : d < 128
    · rw [if_pos b1]; exact ⟨[], _, _, _, _, rfl, rfl, h⟩
    rw [if_neg b1]
    by_cases b2 : d < 2048
    · rw [if_pos b2]; exact ⟨[], _, _, _, _, rfl, rfl, by omega⟩
    rw [if_neg b2]
    by_cases b3 : d < 65536
    · rw [if_pos b3]; exact ⟨[], _, _, _, _, rfl, rfl, by omega⟩
    · rw [if_neg b3]; exact ⟨[], _, _, _, _, rfl, rfl, by omega⟩
  rw [if_neg a1, if_neg (show ¬ d < 128 by omega)]
  by_cases a2 : c < 2048
  · rw [if_pos a2]
    by_cases b2 : d < 2048
    · rw [if_pos b2]
      by_cases e1 : c / 64 = d / 64
      · refine ⟨[192 + c / 64], 128 + c % 64, [], 128 + d % 64, [], rfl, ?_, by omega⟩
        rw [e1]; rfl
      · exact ⟨[], _, _, _, _, rfl, rfl, by omega⟩
    rw [if_neg b2]
    by_cases b3 : d < 65536
    · rw [if_pos b3]; exact ⟨[], _, _, _, _, rfl, rfl, by omega⟩
    · rw [if_neg b3]; exact ⟨[], _, _, _, _, rfl, rfl, by omega⟩
  rw [if_neg a2, if_neg (show ¬ d < 2048 by omega)]
  by_cases a3 : c < 65536
  · rw [if_pos a3]
    by_cases b3 : d < 65536
    · rw [if_pos b3]
      by_cases e1 : c / 64 / 64 = d / 64 / 64
      · by_cases e2 : c / 64 % 64 = d / 64 % 64
        · refine ⟨[224 + c / 64 / 64, 128 + c / 64 % 64], 128 + c % 64, [], 128 + d % 64, [], rfl, ?_, by omega⟩
          rw [e1, e2]; rfl
        · refine ⟨[224 + c / 64 / 64], 128 + c / 64 % 64, [128 + c % 64], 128 + d / 64 % 64, [128 + d % 64], rfl, ?_, by omega⟩
          rw [e1]; rfl
      · exact ⟨[], _, _, _, _, rfl, rfl, by omega⟩
    · rw [if_neg b3]; exact ⟨[], _, _, _, _, rfl, rfl, by omega⟩
  rw [if_neg a3, if_neg (show ¬ d < 65536 by omega)]
  by_cases e1 : c / 64 / 64 / 64 = d / 64 / 64 / 64
  · by_cases e2 : c / 64 / 64 % 64 = d / 64 / 64 % 64
    · by_cases e3 : c / 64 % 64 = d / 64 % 64
      · refine ⟨[240 + c / 64 / 64 / 64, 128 + c / 64 / 64 % 64, 128 + c / 64 % 64], 128 + c % 64, [], 128 + d % 64, [], rfl, ?_, by omega⟩
        rw [e1, e2, e3]; rfl
      · refine ⟨[240 + c / 64 / 64 / 64, 128 + c / 64 / 64 % 64], 128 + c / 64 % 64, [128 + c % 64], 128 + d / 64 % 64, [128 + d % 64], rfl, ?_, by omega⟩
        rw [e1, e2]; rfl
    · refine ⟨[240 + c / 64 / 64 / 64], 128 + c / 64 / 64 % 64, [128 + c / 64 % 64, 128 + c % 64], 128 + d / 64 / 64 % 64, [128 + d / 64 % 64, 128 + d % 64], rfl, ?_, by omega⟩
      rw [e1]; rfl
  · exact ⟨[], _, _, _, _, rfl, rfl, by omega⟩
theorem enc_lts {c d : Int} (hc : Ch c) (hd : Ch d) (h : c < d) (x y : List Int) : listLt (enc .b c ++ x) (enc .b d ++ y) = true ∧ listLt (enc .b d ++ y) (enc .b c ++ x) = false := by
  obtain ⟨p, a, s, b, t, e1, e2, hl⟩ := enc_lt hc hd h
  rw [e1, e2, List.append_assoc, List.append_assoc, lt_app, lt_app]
  exact lt_head hl _ _
theorem enc_ne (k : Kd) (c : Int) : enc k c ≠ [] := by
  cases k with
  | c => exact fun z => nomatch z
  | u => rw [encU_eq]; split <;> exact fun z => nomatch z
  | b =>
    rw [encB_eq]
    split
    · exact fun z => nomatch z
    · split
      · exact fun z => nomatch z
      · split <;> exact fun z => nomatch z
/-- by bytes as by characters -/
theorem enc_order : ∀ (cs ds : List Int), Chs cs → Chs ds → listLt (encs .b cs) (encs .b ds) = listLt cs ds
  | [], [], _, _ => rfl
  | [], d :: s, _, _ => by
    rw [encs_cons]
    cases e : enc .b d with
    | nil => exact absurd e (enc_ne _ _)
    | cons x r => rfl
  | c :: r, [], _, _ => by
    rw [encs_cons]
    cases e : enc .b c with
    | nil => exact absurd e (enc_ne _ _)
    | cons x r => rfl
  | c :: r, d :: s, h1, h2 => by
    have hc := h1 c (List.mem_cons_self ..)
    have hd := h2 d (List.mem_cons_self ..)
    rw [encs_cons, encs_cons, lt_cons]
    by_cases e : c = d
    · rw [if_pos e, e, lt_app]
      exact enc_order r s (fun x hx => h1 x (List.mem_cons_of_mem _ hx)) (fun x hx => h2 x (List.mem_cons_of_mem _ hx))
    · rw [if_neg e]
      by_cases hl : c < d
      · rw [(enc_lts hc hd hl _ _).1, decide_eq_true hl]
      · rw [(enc_lts hd hc (by omega) _ _).2, decide_eq_false hl]
theorem encs_inj {k : Kd} (hk : k ≠ .c) {cs ds : List Int} (h1 : Chs cs) (h2 : Chs ds) (h : encs k cs = encs k ds) : cs = ds := by
  have a := rd_encs hk cs h1
  rw [h, rd_encs hk ds h2] at a
  exact ((Prod.mk.inj (Option.some.inj a)).1).symm
theorem encs_c : ∀ cs : List Int, encs .c cs = cs
  | [] => rfl
  | c :: r => by rw [encs_cons, encs_c r]; rfl
theorem cmp_b {cs ds : List Int} (h1 : Chs cs) (h2 : Chs ds) : cmpI (encs .b cs) (encs .b ds) = cmpI cs ds := by
  have e1 : cmpI (encs .b cs) (encs .b ds) = if encs .b cs = encs .b ds then 0 else if listLt (encs .b cs) (encs .b ds) = true then -1 else 1 := rfl
  have e2 : cmpI cs ds = if cs = ds then 0 else if listLt cs ds = true then -1 else 1 := rfl
  rw [e1, e2, enc_order cs ds h1 h2]
  by_cases e : cs = ds
  · rw [if_pos e, if_pos (by rw [e])]
  · rw [if_neg e, if_neg (fun z => e (encs_inj (by decide) h1 h2 z))]
theorem eq_b {cs ds : List Int} (h1 : Chs cs) (h2 : Chs ds) : decide (encs .b cs = encs .b ds) = decide (cs = ds) := by
  by_cases e : cs = ds
  · rw [decide_eq_true e, decide_eq_true (by rw [e])]
  · rw [decide_eq_false e, decide_eq_false (fun z => e (encs_inj (by decide) h1 h2 z))]
end K14

namespace K14
open PySem PySem.Spec PyProof.Rows L2
section
variable {X : Cx} {CX : CXT} {k : Nat} {f C : Addr} {sp : Sp} {E : XK}
/-- a + b by the class's own __add__, which answers an object -/
def rAddO (C : Addr) (sp : Sp) (E : XK) : R2 := fun x y H Q => ∃ a b dx dy fs gs, x = .ref a ∧ y = .ref b ∧ H a = some (.ins C dx fs) ∧ H b = some (.ins C dy gs) ∧
  sp [.ref a, .ref b] H (fun v H' => ∃ p, v = .ref p ∧ Q (.ref p) H') E
theorem op_addO (F : FnR X.prog X.w X.K X.mg X.base CX k f sp) (hr : Room k X.A) (hc : PySem.W.selfFirst X.K C = true) (hs : PySem.W.findIn X.K (.ref C) "__add__" = some (some (.ref f))) (hf : PySem.W.isFn X.K (.ref f) = true) (hx : Passes CX X E) :
    OpR X (binaryOp .Add) (rAddO C sp E) := by
  intro pins s σ H x y v u Q I rx ry h
  obtain ⟨a, b, dx, dy, fs, gs, rfl, rfl, ha, hb, q⟩ := h
  cases rx
  cases ry
  obtain ⟨od, J⟩ := inst_at I ha
  obtain ⟨od', J'⟩ := inst_at I hb
  obtain ⟨m, hF⟩ := I.fr
  refine PySem.W.binop_K hF I.ok.mod.kin J J'.type hc hs hf (thn (run_fnA (vs := [.ref a, .ref b]) rfl F hr hx I (.cons rfl (.cons rfl .nil)) q) fun v s' z => ?_)
  obtain ⟨w, H', I', rw', p, ew, q'⟩ := z
  subst ew
  obtain rfl : v = Value.ref p := rw'
  exact ⟨.ref p, H', I', rfl, q'⟩
end
end K14

namespace K14
open PySem PySem.Spec PyProof.Rows L2
theorem nes {α : Type} [DecidableEq α] {a b : α} (h : a = b) : decide (a ≠ b) = false := decide_eq_false (fun z => z h)
theorem TX.insNo {a : AD} {H : Hp} {x : Addr} {cs : List Int} (h : TX a H x cs) : ∃ dx fs, H x = some (.ins a.c_Text dx fs) ∧ ∀ m : Str, ¬ m = "own_counts" → ¬ m = "own_chars" → fs.lookup m = none := by
  obtain ⟨l, dx, t, h1, _⟩ := h
  exact ⟨dx, _, h1, fun m h1 h2 => tf_no l t h1 h2⟩
theorem kd_at {x : V} {i : Nat} (h : ([V.str "bytes", V.str "units", V.str "chars"] : List V)[i]? = some x) (f : Kd → Int) : ∃ k : Kd, x = .str k.str ∧ [f .b, f .u, f .c][i]? = some (f k) := by
  match i, h with
  | 0, hi => exact ⟨.b, (Option.some.inj hi).symm, rfl⟩
  | 1, hi => exact ⟨.u, (Option.some.inj hi).symm, rfl⟩
  | 2, hi => exact ⟨.c, (Option.some.inj hi).symm, rfl⟩
  | n + 3, hi => cases hi
section
variable {P : Program} {w : World} {K : PySem.W.Frag} {mg : Str → Option Value} {base : Heap} {a : AD}
def spPair (a : AD) : Sp := fun vs H Q _ => ∃ (x y : Addr) (cs ds : List Int), vs = [.ref x, .ref y] ∧ TX a H x cs ∧ TX a H y ds ∧ cs.length ≤ 100 ∧ ds.length ≤ 100 ∧ ∀ H', Same H H' → Q (.bl true) H'
theorem ok_law_pair (T : Txt K mg a) : GD P w K mg base CX0 11 "_law_pair_right" a.d_law_pair_right (spPair a) := by
  have GB : GD P w K mg base CX0 5 "byte_list" a.d_byte_list (spEncT a .b) := ok_byte_list T
  have GU : GD P w K mg base CX0 5 "unit_list" a.d_unit_list (spEncT a .u) := ok_unit_list T
  have GJ : GD P w K mg base CX0 7 "joined" a.d_joined (spJoined a) := ok_joined T
  have GTB : GD P w K mg base CX0 10 "text_of_bytes" a.d_text_of_bytes (spTextOfK a .b) := ok_text_of_bytes T
  have GTU : GD P w K mg base CX0 10 "text_of_units" a.d_text_of_units (spTextOfK a .u) := ok_text_of_units T
  have GC : GD P w K mg base CX0 5 "compare" a.d_compare (spCompare a) := ok_compare T
  have GS : GD P w K mg base CX0 1 "_law_sign" a.d_law_sign spSign := ok_law_sign T
  have MA : GM P w K mg base CX0 7 a.c_Text "__add__" a.m_Text_add (spTAdd a) := ok_tadd T
  have ME : GM P w K mg base CX0 1 a.c_Text "__eq__" a.m_Text_eq (spTEq a) := ok_teq T
  have ML : GM P w K mg base CX0 1 a.c_Text "__lt__" a.m_Text_lt (spTLt a) := ok_tlt T
  have MC : GM P w K mg base CX0 1 a.c_Text "chars" a.m_Text_chars (spTChars a) := ok_tchars T
  have S : FnScope ["_law_one", "_law_other", "_law_left", "_law_right", "_law_told", "_law_due", "_law_way_of"] ["_law_one", "_law_other"] (defScope s_law_pair_right) := C8.fnScope_by (by decide +kernel)
  refine ⟨okR T.d_law_pair_right.fn S (fun vs H Q E h => ?_) (fun _ _ _ _ _ _ us hl => match us, hl with | [_, _], _ => rfl) (fun cdv A outer s H vs Q E hr h => ?_), T.d_law_pair_right.mgx, T.d_law_pair_right.kp⟩
  · obtain ⟨_, _, _, _, rfl, _⟩ := h
    rfl
  · obtain ⟨x, y, cs, ds, rfl, hx, hy, lx, ly, q⟩ := h
    refine ⟨_, pss_cons (ps_par (i := 2) (j := 3) (by rfl) S.nd rfl rfl (by decide) rfl rfl (pa_cons (pe_callD GB hr pass0 (pa_cons (pv 0) pa_nil)) (pa_cons (pe_callD GB hr pass0 (pa_cons (pv 1) pa_nil)) pa_nil)) (by rfl))
      (pss_cons (ps_if (PW.pt (pw_or (pt_cmpR (op_neL hr.units) (pe_callD GB hr pass0 (pa_cons (pe_op (op_addO MA.ok (hr.mono (by decide)) T.sf_Text MA.me.at_ MA.me.fn pass0) (pv 0) (pv 1)) pa_nil)) (pe_op op_cat (pv 2) (pv 3)) (nomark _))
          (pw_or1 (pt_cmpR (op_neL hr.units) (pe_callD GU hr pass0 (pa_cons (pe_callD GJ hr pass0 (pa_cons (pv 0) (pa_cons (pv 1) pa_nil))) pa_nil)) (pe_op op_cat (pe_callD GU hr pass0 (pa_cons (pv 0) pa_nil)) (pe_callD GU hr pass0 (pa_cons (pv 1) pa_nil))) (nomark _))))) (pss_one ps_never) pss_nil)
      (pss_cons (ps_if (pt_cmpR (op_neO ME.ok (hr.mono (by decide)) T.i_Text.hm T.ne_Text ME.me.at_ ME.me.fn pass0) (pe_callD GTB hr pass0 (pa_cons (pe_op op_cat (pv 2) (pv 3)) pa_nil)) (pe_callD GJ hr pass0 (pa_cons (pv 0) (pa_cons (pv 1) pa_nil))) (nomark _)) (pss_one ps_never) pss_nil)
      (pss_cons (ps_if (pt_cmpR (op_neO ME.ok (hr.mono (by decide)) T.i_Text.hm T.ne_Text ME.me.at_ ME.me.fn pass0) (pe_callD GTU hr pass0 (pa_cons (pe_op op_cat (pe_callD GU hr pass0 (pa_cons (pv 0) pa_nil)) (pe_callD GU hr pass0 (pa_cons (pv 1) pa_nil))) pa_nil)) (pe_op (op_addO MA.ok (hr.mono (by decide)) T.sf_Text MA.me.at_ MA.me.fn pass0) (pv 0) (pv 1)) (nomark _)) (pss_one ps_never) pss_nil)
      (pss_cons (ps_setLc (i := 4) (te := tCallR (spCompare a) E0 (tCons (tVar 0) (tCons (tVar 1) (tCons (tVar 6) tNil)))) (own := [("_law_way_of", 6)]) (g := gName 6) (tt := tYes) (by rfl) S.nd rfl rfl (sw_true rfl rfl rfl (by decide +kernel)) (pi_tup (pe_tup (pa_cons pe_str (pa_cons pe_str (pa_cons pe_str pa_nil)))))
        (blkOk_by (N := ["_law_one", "_law_other", "_law_left", "_law_right", "_law_told", "_law_due", "_law_way_of"]) (sc := defScope s_law_pair_right) (by decide +kernel)) (fun _ _ _ _ _ => pg_name (i := 6) S.nd rfl (Or.inl rfl)) (fun _ _ _ _ _ => pts_nil)
        (fun _ _ _ _ _ => by exact pe_callD GC hr pass0 (pa_cons (pv 0) (pa_cons (pv 1) (pa_cons (pv 6) pa_nil)))))
      (pss_cons (ps_set (i := 5) S.nd rfl (Or.inl rfl) (pe_lst (pa_cons (pe_callD GS hr pass0 (pa_cons (pv 2) (pa_cons (pv 3) pa_nil)))
        (pa_cons (pe_callD GS hr pass0 (pa_cons (pe_callD GU hr pass0 (pa_cons (pv 0) pa_nil)) (pa_cons (pe_callD GU hr pass0 (pa_cons (pv 1) pa_nil)) pa_nil)))
        (pa_cons (pe_callD GS hr pass0 (pa_cons (pe_methD0 (pv 0) T.i_Text.cl MC hr pass0) (pa_cons (pe_methD0 (pv 1) T.i_Text.cl MC hr pass0) pa_nil))) pa_nil)))))
      (pss_cons (ps_if (PW.pt (pw_or (pt_cmpR (op_neL hr.units) (pv 4) (pv 5) (nomark _)) (pw_or (pt_cmpR op_ne (pe_ix ix_list (pv 4) pe_int (fun _ _ => rfl)) (pe_ix ix_list (pv 4) pe_int (fun _ _ => rfl)) (nomark _))
          (pw_or1 (pt_cmpR op_ne (pe_cmpR (op_eqL hr.units) (pv 2) (pv 3) (nomark _)) (pe_cmpR (op_own (op := .Eq) ME.ok (hr.mono (by decide)) ME.me.at_ ME.me.fn pass0) (pv 0) (pv 1) (nomark _)) (nomark _)))))) (pss_one ps_never) pss_nil)
      (pss_one (ps_ret (pe_cmpR (op_eqLB hr.units) (pe_lst (pa_cons (pe_cmpR (op_own (op := .Lt) ML.ok (hr.mono (by decide)) ML.me.at_ ML.me.fn pass0) (pv 0) (pv 1) (nomark _)) (pa_cons (pe_cmpR (op_gtO ML.ok (hr.mono (by decide)) T.i_Text.hm T.gt_Text ML.me.at_ ML.me.fn pass0) (pv 0) (pv 1) (nomark _)) pa_nil)))
        (pe_lst (pa_cons (pe_cmpR op_lt (pe_ix ix_list (pv 4) pe_int (fun _ _ => rfl)) pe_int (nomark _)) (pa_cons (pe_cmpR op_gt (pe_ix ix_list (pv 4) pe_int (fun _ _ => rfl)) pe_int (nomark _)) pa_nil))) (nomark _)))))))))), ?_⟩
    have cx : Chs cs := by obtain ⟨_, _, _, _, _, _, h, _⟩ := hx; exact h
    have cy : Chs ds := by obtain ⟨_, _, _, _, _, _, h, _⟩ := hy; exact h
    have cxy : Chs (cs ++ ds) := fun c hc => (List.mem_append.mp hc).elim (cx c) (cy c)
    have bx := encs_length .b cs
    have by_ := encs_length .b ds
    have ux := encs_length .u cs
    have uy := encs_length .u ds
    obtain ⟨dx, fx, h1x⟩ := hx.ins
    obtain ⟨dy, fy, h1y⟩ := hy.ins
    have lenxy : (cs ++ ds).length ≤ 1000 := by rw [List.length_append]; omega
    have jts : ∀ {H' : Hp}, Same H H' → ∀ q ∈ [(x, cs), (y, ds)], TX a H' q.1 q.2 := fun s q hq => by
      rcases List.mem_cons.mp hq with rfl | hq
      · exact hx.mono s
      · rcases List.mem_singleton.mp hq with rfl
        exact hy.mono s
    have jfl : [(x, cs), (y, ds)].flatMap (·.2) = cs ++ ds := by
      show cs ++ (ds ++ []) = _
      rw [List.append_nil]
    refine ⟨_, rfl, x, cs, rfl, hx, fun H1 l s1 nl hl => ⟨_, rfl, y, ds, rfl, hy.mono s1, fun H2 r s2 nr hr2 => ⟨_, _, rfl, ?_⟩⟩⟩
    have s12 := s1.trans s2
    have hl2 := s2 _ _ hl
    -- the lists of the joined texts
    refine ⟨_, rfl, _, rfl, x, y, dx, dy, fx, fy, rfl, rfl, s12 _ _ h1x, s12 _ _ h1y, x, y, cs, ds, rfl, hx.mono s12, hy.mono s12, by omega, fun H3 t s3 nt ht => ⟨t, rfl, t, cs ++ ds, rfl, ht.mono nw_to, fun H4 p4 s4 n4 hp4 => ?_⟩⟩
    have s14 := (s12.trans s3).trans s4
    have s24 := s3.trans s4
    refine ⟨_, rfl, _, rfl, l, r, _, _, rfl, rfl, s24 _ _ hl2, s24 _ _ hr2, ?_, fun p5 n5 => ?_⟩
    · rw [List.length_map, List.length_map]
      exact Nat.le_trans (by omega : (encs .b cs).length + (encs .b ds).length ≤ 800) (by decide)
    rw [← List.map_append]
    refine ⟨p4, p5, encs .b (cs ++ ds), encs .b cs ++ encs .b ds, rfl, rfl, SqL.of (Same.new n5 _ _ hp4), SqL.of upd_same, _, rfl, ifF (nes (encs_append .b cs ds)) ?_⟩
    have s15 := s14.trans (Same.new n5 (o := .lst ((encs .b cs ++ encs .b ds).map V.int)))
    have t25 := s24.trans (Same.new n5 (o := .lst ((encs .b cs ++ encs .b ds).map V.int)))
    generalize upd H4 p5 (.lst ((encs .b cs ++ encs .b ds).map V.int)) = H5 at s15 t25
    refine ⟨_, rfl, _, rfl, [(x, cs), (y, ds)], rfl, (by show 2 ≤ 10; decide), jts s15, by rw [jfl]; exact lenxy, fun H6 t6 s6 n6 ht6 => ?_⟩
    rw [jfl] at ht6
    refine ⟨t6, cs ++ ds, rfl, ht6.mono nw_to, fun H7 p7 s7 n7 hp7 => ?_⟩
    have s17 := (s15.trans s6).trans s7
    refine ⟨_, rfl, x, cs, rfl, hx.mono s17, fun H8 p8 s8 n8 hp8 => ⟨_, rfl, y, ds, rfl, hy.mono (s17.trans s8), fun H9 p9 s9 n9 hp9 => ?_⟩⟩
    have s19 := (s17.trans s8).trans s9
    refine ⟨p8, p9, _, _, rfl, rfl, s9 _ _ hp8, hp9, ?_, fun p10 n10 => ?_⟩
    · rw [List.length_map, List.length_map]
      exact Nat.le_trans (by omega : (encs .u cs).length + (encs .u ds).length ≤ 800) (by decide)
    rw [← List.map_append]
    refine ⟨p7, p10, encs .u (cs ++ ds), encs .u cs ++ encs .u ds, rfl, rfl, SqL.of (((s8.trans s9).trans (Same.new n10)) _ _ hp7), SqL.of upd_same, _, rfl, ifF (nes (encs_append .u cs ds)) ?_⟩
    have sA := s19.trans (Same.new n10 (o := .lst ((encs .u cs ++ encs .u ds).map V.int)))
    have t2A := ((((t25.trans s6).trans s7).trans s8).trans s9).trans (Same.new n10 (o := .lst ((encs .u cs ++ encs .u ds).map V.int)))
    generalize upd H9 p10 (.lst ((encs .u cs ++ encs .u ds).map V.int)) = HA at sA t2A
    have lA : HA l = some (.lst ((encs .b cs).map V.int)) := t2A _ _ hl2
    have rA : HA r = some (.lst ((encs .b ds).map V.int)) := t2A _ _ hr2
    -- text_of_bytes
    refine ⟨_, rfl, _, rfl, l, r, _, _, rfl, rfl, lA, rA, ?_, fun p11 n11 => ?_⟩
    · rw [List.length_map, List.length_map]
      exact Nat.le_trans (by omega : (encs .b cs).length + (encs .b ds).length ≤ 800) (by decide)
    rw [← List.map_append, ← encs_append]
    refine ⟨p11, encs .b (cs ++ ds), cs ++ ds, rfl, upd_same, encs_rng (by decide) _ cxy, ?_, rd_encs (by decide) _ cxy, cxy, lenxy, fun HB tB sB nB hB => ?_⟩
    · rw [encs_append, List.length_append]; omega
    have sAB := (Same.new n11 (o := .lst ((encs .b (cs ++ ds)).map V.int))).trans sB
    have sHB := sA.trans sAB
    refine ⟨_, rfl, _, rfl, [(x, cs), (y, ds)], rfl, (by show 2 ≤ 10; decide), jts sHB, by rw [jfl]; exact lenxy, fun HC tC' sC nC hC => ?_⟩
    rw [jfl] at hC
    have tB1 : TX a HC tB (cs ++ ds) := (hB.mono nw_to).mono sC
    have tC1 : TX a HC tC' (cs ++ ds) := hC.mono nw_to
    obtain ⟨d1, f1, i1⟩ := tB1.ins
    obtain ⟨d2, f2, i2⟩ := tC1.ins
    refine ⟨tB, tC', d1, d2, f1, f2, rfl, rfl, i1, i2, tB, tC', _, _, rfl, tB1, tC1, _, rfl, _, rfl, ifF (by rw [decide_eq_true rfl]; rfl) ?_⟩
    have sAC := sAB.trans sC
    have sHC := sA.trans sAC
    have lC := sAC _ _ lA
    have rC := sAC _ _ rA
    -- text_of_units
    refine ⟨_, rfl, x, cs, rfl, hx.mono sHC, fun HD pD sD nD hpD => ⟨_, rfl, y, ds, rfl, hy.mono (sHC.trans sD), fun HE pE sE nE hpE => ?_⟩⟩
    refine ⟨pD, pE, _, _, rfl, rfl, sE _ _ hpD, hpE, ?_, fun p12 n12 => ?_⟩
    · rw [List.length_map, List.length_map]
      exact Nat.le_trans (by omega : (encs .u cs).length + (encs .u ds).length ≤ 800) (by decide)
    rw [← List.map_append, ← encs_append]
    refine ⟨p12, encs .u (cs ++ ds), cs ++ ds, rfl, upd_same, encs_rng (by decide) _ cxy, ?_, rd_encs (by decide) _ cxy, cxy, lenxy, fun HF tF sF nF hF => ?_⟩
    · rw [encs_append, List.length_append]; omega
    have sCF := ((sD.trans sE).trans (Same.new n12 (o := .lst ((encs .u (cs ++ ds)).map V.int)))).trans sF
    have sHF := sHC.trans sCF
    refine ⟨_, rfl, _, rfl, x, y, dx, dy, fx, fy, rfl, rfl, sHF _ _ h1x, sHF _ _ h1y, x, y, cs, ds, rfl, hx.mono sHF, hy.mono sHF, by omega, fun HG tG sG nG hG => ⟨tG, rfl, ?_⟩⟩
    have tF1 : TX a HG tF (cs ++ ds) := (hF.mono nw_to).mono sG
    have tG1 : TX a HG tG (cs ++ ds) := hG.mono nw_to
    obtain ⟨d3, f3, i3⟩ := tF1.ins
    obtain ⟨d4, f4, i4⟩ := tG1.ins
    refine ⟨tF, tG, d3, d4, f3, f4, rfl, rfl, i3, i4, tF, tG, _, _, rfl, tF1, tG1, _, rfl, _, rfl, ifF (by rw [decide_eq_true rfl]; rfl) ?_⟩
    have sHG := sHF.trans sG
    have lG := sG _ _ (sCF _ _ lC)
    have rG := sG _ _ (sCF _ _ rC)
    -- told
    refine ⟨(by show 3 ≤ sizeLine; decide), fun t nt => ⟨t, rfl, ⟨_, SqT.of upd_same⟩, fun D nD => ?_⟩⟩
    have s0 : Same HG (upd HG t (.tup [.str "bytes", .str "units", .str "chars"])) := Same.new nt
    refine lc_tup (K := K) (a := t) (xs := [V.str "bytes", V.str "units", V.str "chars"])
      (fun i H' => Same (upd HG t (.tup [.str "bytes", .str "units", .str "chars"])) H' ∧ H' D = some (.lst (([cmpI (encs .b cs) (encs .b ds), cmpI (encs .u cs) (encs .u ds), cmpI (encs .c cs) (encs .c ds)].take i).map V.int)))
      ⟨Same.new nD, upd_same⟩ (fun i H' _ ⟨s2, _⟩ => SqT.of (s2 _ _ upd_same)) ?_ ?_
    · rintro i z H' hi ⟨s', hD⟩
      obtain ⟨k, rfl, hk⟩ := kd_at hi (fun k => cmpI (encs k cs) (encs k ds))
      have sX := sHG.trans (s0.trans s')
      refine ⟨rfl, ?_⟩
      refine ⟨_, rfl, _, rfl, _, rfl, x, y, cs, ds, k, rfl, hx.mono sX, hy.mono sX, fun H'' s'' => ⟨_, s'' _ _ hD, ?_, fun b o e => ?_, ?_⟩⟩
      · rw [List.length_map]
        exact Nat.lt_of_le_of_lt (List.length_take_le' _ _) (by show 3 < sizeLine; decide)
      · rw [upd_ne (fun z => by rw [z, nD] at e; cases e)]
        exact s'' _ _ (s' _ _ e)
      · rw [upd_same, take_map_succ hk]
    rintro HI ⟨s', hD⟩
    have sGI := s0.trans s'
    have sHI := sHG.trans sGI
    have hD : HI D = some (.lst ([cmpI (encs .b cs) (encs .b ds), cmpI (encs .u cs) (encs .u ds), cmpI (encs .c cs) (encs .c ds)].map V.int)) := hD
    rw [cmp_b cx cy, encs_c, encs_c] at hD
    have lI := sGI _ _ lG
    have rI := sGI _ _ rG
    -- due
    refine ⟨_, rfl, _, rfl, l, r, _, _, rfl, lI, rI, ?_⟩
    refine ⟨_, rfl, x, cs, rfl, hx.mono sHI, fun HJ pJ sJ nJ hpJ => ⟨_, rfl, y, ds, rfl, hy.mono (sHI.trans sJ), fun HK pK sK nK hpK => ⟨pJ, pK, _, _, rfl, sK _ _ hpJ, hpK, ?_⟩⟩⟩
    have sHK := (sHI.trans sJ).trans sK
    obtain ⟨ex, gx, j1, k1⟩ := hx.insNo
    obtain ⟨ey, gy, j2, k2⟩ := hy.insNo
    refine ⟨_, rfl, x, ex, gx, rfl, sHK _ _ j1, k1 _ (by decide +kernel) (by decide +kernel), x, cs, rfl, hx.mono sHK, fun HL pL sL nL hpL => ?_⟩
    refine ⟨_, rfl, y, ey, gy, rfl, (sHK.trans sL) _ _ j2, k2 _ (by decide +kernel) (by decide +kernel), y, ds, rfl, hy.mono (sHK.trans sL), fun HM pM sM nM hpM => ?_⟩
    refine ⟨pL, pM, _, _, rfl, sM _ _ hpL, hpM, (by show 3 ≤ sizeLine; decide), fun D2 nD2 => ?_⟩
    have sIN := (((sJ.trans sK).trans sL).trans sM).trans (Same.new nD2 (o := .lst [V.int (sgnL (encs .b cs) (encs .b ds)), V.int (sgnL (encs .u cs) (encs .u ds)), V.int (sgnL cs ds)]))
    have hD2 : upd HM D2 (.lst [V.int (sgnL (encs .b cs) (encs .b ds)), V.int (sgnL (encs .u cs) (encs .u ds)), V.int (sgnL cs ds)]) D2 = some (.lst ([cmpI cs ds, cmpI (encs .u cs) (encs .u ds), cmpI cs ds].map V.int)) := by
      rw [upd_same, ← cmp_sgn, ← cmp_sgn, ← cmp_sgn, cmp_b cx cy]
      rfl
    generalize upd HM D2 (.lst [V.int (sgnL (encs .b cs) (encs .b ds)), V.int (sgnL (encs .u cs) (encs .u ds)), V.int (sgnL cs ds)]) = HN at sIN hD2
    have sHN := sHI.trans sIN
    have hDN := sIN _ _ hD
    have lN := sIN _ _ lI
    have rN := sIN _ _ rI
    refine ⟨_, rfl, _, rfl, D, D2, _, _, rfl, rfl, SqL.of hDN, SqL.of hD2, _, rfl, ifF (nes rfl) ?_⟩
    refine ⟨_, rfl, D, _, _, _, rfl, rfl, SqL.of hDN, atI_nat (j := 0) rfl, _, rfl, D, _, _, _, rfl, rfl, SqL.of hDN, atI_nat (j := 2) rfl, rfl, _, rfl, ifF (by rw [decide_eq_true rfl]; rfl) ?_⟩
    refine ⟨_, rfl, _, rfl, l, r, _, _, rfl, rfl, SqL.of lN, SqL.of rN, _, rfl, _, rfl, x, y, dx, dy, fx, fy, rfl, rfl, sHN _ _ h1x, sHN _ _ h1y, x, y, cs, ds, rfl, hx.mono sHN, hy.mono sHN, _, rfl, rfl, _, rfl, ifF (by rw [decide_eq_true (congrArg V.bl (eq_b cx cy))]; rfl) ?_⟩
    -- the answer
    refine ⟨_, rfl, _, rfl, x, y, dx, dy, fx, fy, rfl, rfl, sHN _ _ h1x, sHN _ _ h1y, x, y, cs, ds, rfl, hx.mono sHN, hy.mono sHN, _, rfl, _, rfl, _, rfl, x, y, dx, dy, fx, fy, rfl, rfl, sHN _ _ h1x, sHN _ _ h1y, y, x, ds, cs, rfl, hy.mono sHN, hx.mono sHN, _, rfl, (by show 2 ≤ sizeLine; decide), fun b1 n1 => ?_⟩
    have sO := Same.new n1 (o := .lst [V.bl (PySem.W.listLt cs ds), V.bl (PySem.W.listLt ds cs)])
    have hD3 := sO _ _ hDN
    refine ⟨_, rfl, D, _, _, _, rfl, rfl, SqL.of hD3, atI_nat (j := 0) rfl, _, _, rfl, rfl, _, rfl, D, _, _, _, rfl, rfl, SqL.of hD3, atI_nat (j := 0) rfl, _, _, rfl, rfl, (by show 2 ≤ sizeLine; decide), fun b2 n2 => ?_⟩
    refine ⟨b1, b2, [PySem.W.listLt cs ds, PySem.W.listLt ds cs], [decide (cmpI cs ds < 0), decide (0 < cmpI cs ds)], rfl, rfl, SqL.of (Same.new n2 _ _ upd_same), SqL.of upd_same, ?_⟩
    rw [cmp_neg, cmp_pos]
    have e : decide ([PySem.W.listLt cs ds, PySem.W.listLt ds cs] = [PySem.W.listLt cs ds, PySem.W.listLt ds cs]) = true := decide_eq_true rfl
    have fin := q _ ((sHN.trans sO).trans (Same.new n2 (o := .lst [V.bl (decide (cmpI cs ds < 0)), V.bl (decide (0 < cmpI cs ds))])))
    rw [← e] at fin
    exact fin
end
end K14

namespace K14
open PySem PySem.Spec PyProof.Rows L2
theorem rg_size {len c : Int} (hc : 1 ≤ c) (hl : 0 ≤ len) : Builtin.Range.rangeSize 0 len c = (len + c - 1) / c := by
  unfold Builtin.Range.rangeSize
  rw [if_pos (by omega)]
  split
  · have e : len + c - 1 = (len - 0 - 1) + 1 * c := by omega
    rw [e, Int.add_mul_ediv_right _ _ (by omega)]
  · have e0 : len = 0 := by omega
    subst e0
    rw [Int.ediv_eq_zero_of_lt (by omega) (by omega)]
/-- range(0, n, 1 or 3) -/
def steps (n c : Nat) : Nat := (n + c - 1) / c
theorem rg_ok {n c : Nat} (hc : c = 1 ∨ c = 3) (hn : n ≤ 100000) : RgC 0 (n : Int) (c : Int) (steps n c) := by
  have e : Builtin.Range.rangeSize 0 (n : Int) (c : Int) = ((steps n c : Nat) : Int) := by
    rw [rg_size (by omega) (by omega)]
    unfold steps
    rcases hc with rfl | rfl <;> omega
  refine ⟨by omega, by omega, ?_, e⟩
  unfold Builtin.Range.small
  rw [e]
  unfold steps
  simp only [Builtin.Range.rangeFitsLong, Bool.and_eq_true, Bool.or_eq_true, decide_eq_true_eq, beq_iff_eq]
  rcases hc with rfl | rfl
  · rw [if_pos (by decide)]
    simp only [Bool.and_eq_true, decide_eq_true_eq]
    omega
  · rw [if_pos (by decide)]
    simp only [Bool.and_eq_true, decide_eq_true_eq]
    omega
theorem steps_all {n c : Nat} (hc : c = 1 ∨ c = 3) : n ≤ steps n c * c := by
  unfold steps
  rcases hc with rfl | rfl <;> omega
theorem steps_lt {n c i : Nat} (hc : c = 1 ∨ c = 3) (h : i < steps n c) : i * c < n := by
  unfold steps at h
  rcases hc with rfl | rfl <;> omega
theorem flat_ints : ∀ ns : List Int, (ns.map V.int).all flatV = true
  | [] => rfl
  | n :: r => by rw [List.map_cons, List.all_cons, flat_ints r]; rfl
theorem inV_ints (x : Int) : ∀ ns : List Int, inV (.int x) (ns.map V.int) = decide (x ∈ ns)
  | [] => rfl
  | n :: r => by
    have ih := inV_ints x r
    unfold inV at ih ⊢
    rw [List.map_cons, List.any_cons, ih]
    show ((n == x) || decide (x ∈ r)) = decide (x ∈ n :: r)
    have e : (n == x) = decide (x = n) := by rw [Bool.eq_iff_iff, beq_iff_eq, decide_eq_true_iff]; exact eq_comm
    rw [e, Bool.eq_iff_iff, Bool.or_eq_true, decide_eq_true_iff, decide_eq_true_iff, decide_eq_true_iff, List.mem_cons]
theorem cut_win (cs : List Int) {i s : Nat} (h : i ≤ cs.length) : cutV (cs.map V.int) (some (i : Int)) (some ((i + s : Nat) : Int)) = ((cs.drop i).take s).map V.int := by
  unfold cutV
  rw [HT.sIx_nat, HT.sIx_nat, List.length_map, Nat.min_eq_left h, ← List.map_drop, ← List.map_take]
  refine congrArg (List.map V.int) ?_
  by_cases hs : i + s ≤ cs.length
  · rw [Nat.min_eq_left hs, show i + s - i = s by omega]
  · rw [Nat.min_eq_right (by omega), List.take_of_length_le (by rw [List.length_drop]; exact Nat.le_refl _), List.take_of_length_le (by rw [List.length_drop]; omega)]
theorem take_more (row : List Int) (e s : Nat) : row.take (e + s) = row.take e ++ (row.drop e).take s := by
  rw [List.take_add]
theorem rd_chunk {k : Kd} {row : List Int} {e s : Nat} {q : List Int × List Int} {F L : List Int} (h : rd k [] row = some q) (he : rd k [] (row.take e) = some (F, L)) :
    ∃ g m, rd k L ((row.drop e).take s) = some (g, m) ∧ rd k [] (row.take (e + s)) = some (F ++ g, m) := by
  obtain ⟨z, hz⟩ := rd_take h (e + s)
  have hz0 := hz
  rw [take_more, rd_append, he] at hz
  have hz : (rd k L ((row.drop e).take s)).map (fun z => (F ++ z.1, z.2)) = some z := hz
  cases hr : rd k L ((row.drop e).take s) with
  | none => rw [hr] at hz; cases hz
  | some gm =>
    rw [hr] at hz
    obtain rfl := Option.some.inj hz
    exact ⟨gm.1, gm.2, rfl, hz0⟩
theorem take_min' (row : List Int) (e : Nat) : row.take e = row.take (min e row.length) := by
  by_cases h : e ≤ row.length
  · rw [Nat.min_eq_left h]
  · rw [Nat.min_eq_right (by omega), List.take_length, List.take_of_length_le (by omega)]
/-- what is read of a front: waiting ones want something -/
theorem front_mis {k : Kd} (hk : k ≠ .c) {cs : List Int} (h : Chs cs) {e : Nat} {F L : List Int} (he : rd k [] ((encs k cs).take e) = some (F, L)) : mis k L = 0 ↔ L = [] := by
  rw [take_min'] at he
  obtain ⟨j, i, hL⟩ := loc (k := k) cs (min e (encs k cs).length) (Nat.min_le_right _ _)
  obtain ⟨p, h1, _, h3⟩ := cut_front hk h hL
  rw [h1] at he
  obtain ⟨_, rfl⟩ := Prod.mk.inj (Option.some.inj he)
  exact h3
/-- what is read behind a cut -/
theorem back_read {k : Kd} (hk : k ≠ .c) {cs : List Int} (h : Chs cs) {at_ j i : Nat} (hL : Loc k cs at_ j i) (hat : at_ ≤ (encs k cs).length) : ∃ (n : Nat) (f : List Int), n ≤ ((encs k cs).drop at_).length ∧ rd k [] (((encs k cs).drop at_).take n) = some (f, []) ∧
    (∀ x, ((encs k cs).drop at_)[n]? = some x → stp k [] x = none) ∧ Chs f ∧ f.length ≤ cs.length ∧ (i ≠ 0 → n = 0) ∧ (i = 0 → f = cs.drop j ∧ (n : Int) = ((encs k cs).length : Int) - (at_ : Int)) := by
  by_cases hi : i = 0
  · subst hi
    have e := cut_back hk hL
    refine ⟨((encs k cs).drop at_).length, cs.drop j, Nat.le_refl _, ?_, fun x hx => ?_, chs_drop hk h j, ?_, fun z => absurd rfl z, fun _ => ⟨rfl, ?_⟩⟩
    · rw [List.take_length, e]
      exact rd_encs hk _ (chs_drop hk h j)
    · rw [List.getElem?_eq_none (Nat.le_refl _)] at hx
      cases hx
    · rw [List.length_drop]; omega
    · rw [List.length_drop]; omega
  · obtain ⟨x, hx, hs⟩ := cut_mid hk h hL hi
    refine ⟨0, [], Nat.zero_le _, rfl, fun y hy => ?_, (fun c hc => nomatch hc), Nat.zero_le _, fun _ => rfl, fun z => absurd z hi⟩
    rw [hx] at hy
    obtain rfl := Option.some.inj hy
    exact hs
theorem iteC {p : Bool} {Q : VK} {H : Hp} (h : ∀ st : Nat, st = 1 ∨ st = 3 → Q (.int (st : Nat)) H) : if p = true then Q (.int 1) H else Q (.int 3) H := by
  cases p with
  | true => exact ifT rfl (h 1 (.inl rfl))
  | false => exact ifF rfl (h 3 (.inr rfl))
end K14

namespace K14
open PySem PySem.Spec PyProof.Rows L2
/-- two texts of the same characters, or two flat values that are equal -/
def EqTX (a : AD) : Eqv := fun x y H => (∃ p q, x = .ref p ∧ y = .ref q ∧ ∃ cs, TX a H p cs ∧ TX a H q cs) ∨ DFlat x y H
theorem mon_TX (a : AD) : Mon (EqTX a) := fun x y H H' e d => by
  rcases d with ⟨p, q, e1, e2, cs, h1, h2⟩ | d
  · exact .inl ⟨p, q, e1, e2, cs, h1.mono e, h2.mono e⟩
  · exact .inr d
theorem ite13 {p : Bool} {σ : L2.St} {Q : VK} {H : Hp} (h : ∀ st : Nat, st = 1 ∨ st = 3 → Q (.int (st : Nat)) H) : if p = true then L2.tC (.int 1) σ H Q else L2.tC (.int 3) σ H Q := iteC (Q := Q) h
section
variable {P : Program} {w : World} {K : PySem.W.Frag} {mg : Str → Option Value} {base : Heap} {a : AD}
theorem eqG_TX {X : Cx} (ME : GM X.prog X.w X.K X.mg X.base CX0 1 a.c_Text "__eq__" a.m_Text_eq (spTEq a)) : EqG X 1 (EqTX a) := by
  refine EqG.or (eqG_own (k := 0) (E := E0) (R := fun p q H => ∃ cs, TX a H p cs ∧ TX a H q cs) ME.ok ME.me.at_ ME.me.fn pass0 fun p q H ⟨cs, h1, h2⟩ => ?_) (eqG_flat.mono (by decide))
  obtain ⟨d1, f1, i1⟩ := h1.ins
  obtain ⟨d2, f2, i2⟩ := h2.ins
  exact ⟨⟨d1, d2, f1, f2, i1, i2⟩, p, q, cs, cs, rfl, h1, h2, congrArg V.bl (decide_eq_true rfl), Same.refl _⟩
abbrev nmCut : List Str := ["_law_box_here", "_law_text", "_law_way_of", "_law_row", "_law_at", "_law_ends", "_law_index", "_law_found", "_law_many", "_law_behind", "_law_rest", "_law_reader", "_law_chars_here", "_law_step", "_law_begun", "_law_end"]
def spCut (a : AD) : Sp := fun vs H Q _ => ∃ (b x : Addr) (n : Nat) (cs : List Int), vs = [.ref b, .ref x] ∧ BX H b n ∧ n ≤ 90000 ∧ TX a (wo H b) x cs ∧ cs.length ≤ 100 ∧ ∀ H', SameX b H H' → BX H' b (n + 2) → Q (.bl true) H'
theorem ok_law_cut (T : Txt K mg a) : GD P w K mg base CX0 10 "_law_cut_right" a.d_law_cut_right (spCut a) := by
  have GB : GD P w K mg base CX0 5 "byte_list" a.d_byte_list (spEncT a .b) := ok_byte_list T
  have GU : GD P w K mg base CX0 5 "unit_list" a.d_unit_list (spEncT a .u) := ok_unit_list T
  have GT : GD P w K mg base CX0 1 "_law_take" a.d_law_take spTake := ok_law_take T
  have GG : GD P w K mg base CX0 9 "beginning" a.d_beginning (spBegin a) := ok_beginning T
  have GI : FnR P w K mg base CX0 3 a.m_Reader_init (spRInit a) := ok_rinit T
  have ME : GM P w K mg base CX0 1 a.c_Text "__eq__" a.m_Text_eq (spTEq a) := ok_teq T
  have ML : GM P w K mg base CX0 1 a.c_Text "__len__" a.m_Text_len (spTLen a) := ok_tlen T
  have MP : GM P w K mg base CX0 7 a.c_Text "part" a.m_Text_part (spTPart a) := ok_tpart T
  have MN : GM P w K mg base CX0 3 a.c_Text "count" a.m_Text_count (spTCount a) := ok_tcount T
  have MC : GM P w K mg base CX0 1 a.c_Text "chars" a.m_Text_chars (spTChars a) := ok_tchars T
  have RF : GM P w K mg base (L2.CX P w) 4 a.c_Reader "feed" a.m_Reader_feed (spRFeed a) := ok_rfeed T
  have RP : GM P w K mg base CX0 1 a.c_Reader "pending" a.m_Reader_pending (spRPending a) := ok_rpending T
  have RC : GM P w K mg base CX0 8 a.c_Reader "close" a.m_Reader_close (spRClose a) := ok_rclose T
  obtain ⟨fdM, FM, bM⟩ := ok_rmissing (P := P) (w := w) (base := base) T
  have S : FnScope nmCut ["_law_box_here", "_law_text"] (defScope s_law_cut_right) := C8.fnScope_by (by decide +kernel)
  refine ⟨okR T.d_law_cut_right.fn S (fun vs H Q E h => ?_) (fun _ _ _ _ _ _ us hl => match us, hl with | [_, _], _ => rfl) (fun cdv A outer s H vs Q E hr h => ?_), T.d_law_cut_right.mgx, T.d_law_cut_right.kp⟩
  · obtain ⟨_, _, _, _, rfl, _⟩ := h
    rfl
  · obtain ⟨b, x, n, cs, rfl, hB, hn, hx, lx, q⟩ := h
    refine ⟨_, pss_cons (ps_for PassesOwn.never rfl (pi_list (pe_lst (pa_cons (pe_tup (pa_cons pe_str (pa_cons (pe_callD GB hr pass0 (pa_cons (pv 1) pa_nil)) pa_nil))) (pa_cons (pe_tup (pa_cons pe_str (pa_cons (pe_callD GU hr pass0 (pa_cons (pv 1) pa_nil)) pa_nil))) pa_nil))))
        (pg_tup rfl (pgs_cons (pg_name (i := 2) S.nd rfl (Or.inl rfl)) (pgs_cons (pg_name (i := 3) S.nd rfl (Or.inl rfl)) pgs_nil)))
      (pss_cons (ps_asg (pe_tup (pa_cons (pe_callD GT hr pass0 (pa_cons (pv 0) (pa_cons (pe_op op_add (pe_callB call_len_seq (by rfl) T.n_len PySem.boot_len (pa_cons (pv 3) pa_nil)) pe_int) pa_nil))) (pa_cons (pe_lst (pa_cons pe_int pa_nil)) pa_nil)))
          (pg_tup rfl (pgs_cons (pg_name (i := 4) S.nd rfl (Or.inr rfl)) (pgs_cons (pg_name (i := 5) S.nd rfl (Or.inl rfl)) pgs_nil))))
      (pss_cons (ps_for PassesOwn.never rfl (pi_range1 rfl T.n_range (pa_cons (pe_callB (call_lenO ML.ok (hr.mono (by decide)) ML.me.at_ ML.me.fn pass0) (by rfl) T.n_len PySem.boot_len (pa_cons (pv 1) pa_nil)) pa_nil)) (pg_name (i := 6) S.nd rfl (Or.inl rfl))
          (pss_one (ps_expr (pe_bm PySem.F.plainAttrs_list PySem.F.slot_list_append PySem.F.type_list_append mt_append (pv 5) (pa_cons (pe_methD (pe_methD (pv 1) T.i_Text.cl MP hr pass0 (pa_cons pe_int (pa_cons (pe_op op_add (pv 6) pe_int) pa_nil))) T.i_Text.cl MN hr pass0 (pa_cons (pv 2) pa_nil)) pa_nil)))))
      (pss_cons (ps_asg (pe_callD GG hr pass0 (pa_cons (pe_slice sl_list (pv 3) po_none (po_some (pv 4))) (pa_cons (pv 2) pa_nil))) (pg_tup rfl (pgs_cons (pg_name (i := 7) S.nd rfl (Or.inl rfl)) (pgs_cons (pg_name (i := 8) S.nd rfl (Or.inl rfl)) pgs_nil))))
      (pss_cons (ps_if (PW.pt (pw_or (pt_cmpR op_ne (pv 8) (pe_ix ix_list (pe_lc (te := tVar 15) (own := [("_law_end", 15)]) (g := gName 15) (tt := tTest (tOp (rI0 fun i j => .bl (decide (i ≤ j))) (tVar 15) (tVar 4))) (by rfl) S.nd (pi_list (pv 5))
            (blkOk_by (N := nmCut) (sc := defScope s_law_cut_right) (by decide +kernel)) (fun _ _ _ _ _ => pg_name (i := 15) S.nd rfl (Or.inl rfl)) (fun _ _ _ _ _ => by exact pts_one (pt_cmpR op_le (pv 15) (pv 4) (nomark _))) (fun _ _ _ _ _ => by exact pv 15)) (pe_un un_neg pe_int) (fun _ _ => rfl)) (nomark _))
          (pw_or1 (pt_cmpR (op_neO ME.ok (hr.mono (by decide)) T.i_Text.hm T.ne_Text ME.me.at_ ME.me.fn pass0) (pv 7) (pe_methD (pv 1) T.i_Text.cl MP hr pass0 (pa_cons pe_int (pa_cons (pe_bm PySem.F.plainAttrs_list PySem.F.slot_list_index PySem.F.type_list_index mt_index (pv 5) (pa_cons (pv 8) pa_nil)) pa_nil))) (nomark _))))) (pss_one ps_never) pss_nil)
      (pss_cons (ps_if (pt_cmpR op_ne (pe_methD (pv 7) T.i_Text.cl MN hr pass0 (pa_cons (pv 2) pa_nil)) (pv 8) (nomark _)) (pss_one ps_never) pss_nil)
      (pss_cons (ps_set (i := 9) S.nd rfl (Or.inl rfl) (pe_callD GG hr pass0 (pa_cons (pe_slice sl_list (pv 3) (po_some (pv 4)) po_none) (pa_cons (pv 2) pa_nil))))
      (pss_cons (ps_if (PW.pt (pw_and (pt_cmpR op_notIn_seq (pv 4) (pv 5) (by rfl)) (pw_and1 (pt_cmpR op_ne (pe_ix ix_tup (pv 9) pe_int (fun _ _ => rfl)) pe_int (nomark _))))) (pss_one ps_never) pss_nil)
      (pss_cons (ps_if (pt_cmpR op_in_seq (pv 4) (pv 5) (by rfl))
          (pss_cons (ps_set (i := 10) S.nd rfl (Or.inl rfl) (pe_methD (pv 1) T.i_Text.cl MP hr pass0 (pa_cons (pe_bm PySem.F.plainAttrs_list PySem.F.slot_list_index PySem.F.type_list_index mt_index (pv 5) (pa_cons (pv 4) pa_nil)) (pa_cons (pe_callB (call_lenO ML.ok (hr.mono (by decide)) ML.me.at_ ML.me.fn pass0) (by rfl) T.n_len PySem.boot_len (pa_cons (pv 1) pa_nil)) pa_nil))))
          (pss_one (ps_if (pt_cmpR (op_neTup (mon_TX a) (eqG_TX ME) (hr.mono (by decide))) (pv 9) (pe_tup (pa_cons (pv 10) (pa_cons (pe_op op_sub (pe_callB call_len_seq (by rfl) T.n_len PySem.boot_len (pa_cons (pv 3) pa_nil)) (pv 4)) pa_nil))) (nomark _)) (pss_one ps_never) pss_nil))) pss_nil)
      (pss_cons (ps_par (i := 11) (j := 12) (by rfl) S.nd rfl rfl (by decide) rfl rfl (pa_cons (StX.pe_makeR T.k_Reader GI (hr.mono (by decide)) rfl T.g_Reader pass0 (pa_cons (pv 2) pa_nil)) (pa_cons (pe_lst pa_nil) pa_nil)) (by rfl))
      (pss_cons (ps_set (i := 13) S.nd rfl (Or.inl rfl) (pe_ifExp (pt_cmpR op_lt (pe_callB call_len_seq (by rfl) T.n_len PySem.boot_len (pa_cons (pv 3) pa_nil)) pe_int (nomark _)) pe_int pe_int))
      (pss_cons (ps_for PassesOwn.never rfl (pi_range3 rfl T.n_range (pa_cons pe_int (pa_cons (pe_callB call_len_seq (by rfl) T.n_len PySem.boot_len (pa_cons (pv 3) pa_nil)) (pa_cons (pv 13) pa_nil)))) (pg_name (i := 14) S.nd rfl (Or.inl rfl))
          (pss_cons (ps_expr (pe_bm PySem.F.plainAttrs_list PySem.F.slot_list_extend PySem.F.type_list_extend mt_extend (pv 12) (pa_cons (pe_methD (E := E0) (pv 11) T.i_Reader.cl RF hr passL (pa_cons (pe_slice sl_list (pv 3) (po_some (pv 14)) (po_some (pe_op op_add (pv 14) (pv 13)))) pa_nil)) pa_nil)))
          (pss_one (ps_if (pt_cmpR op_ne (pe_cmpR op_eq (pe_prop (pv 11) T.i_Reader.cl T.p_missing FM (hr.mono (by decide)) bM .nil pass0 (by rfl)) pe_int (nomark _)) (pe_cmpR (op_eqL hr.units) (pe_methD0 (pv 11) T.i_Reader.cl RP hr pass0) (pe_lst pa_nil) (nomark _)) (nomark _)) (pss_one ps_never) pss_nil))))
      (pss_one (ps_if (PW.pt (pw_or (pt_cmpR (op_neL hr.units) (pv 12) (pe_methD0 (pv 1) T.i_Text.cl MC hr pass0) (nomark _)) (pw_or1 (pt_cmpR (op_neO ME.ok (hr.mono (by decide)) T.i_Text.hm T.ne_Text ME.me.at_ ME.me.fn pass0) (pe_methD0 (pv 11) T.i_Reader.cl RC hr pass0) (pv 1) (nomark _))))) (pss_one ps_never) pss_nil))))))))))))))
      (pss_one (ps_ret pe_bl)), ?_⟩
    have cc : Chs cs := by obtain ⟨_, _, _, _, _, _, h, _⟩ := hx; exact h
    obtain ⟨bl, hbl⟩ := hB.lst
    -- the two rows
    refine ⟨_, rfl, x, cs, rfl, hx.mono wo_to, fun H1 l1 s1 n1 hl1 => ⟨(by show 2 ≤ sizeLine; decide), fun t1 nt1 => ?_⟩⟩
    have sA := s1.trans (Same.new nt1 (o := .tup [.str "bytes", .ref l1]))
    have ht1 : upd H1 t1 (.tup [.str "bytes", .ref l1]) t1 = some (.tup [.str "bytes", .ref l1]) := upd_same
    have hl1 := Same.new nt1 (o := .tup [.str "bytes", .ref l1]) _ _ hl1
    have bt1 : t1 ≠ b := fun z => by rw [z, s1 _ _ hbl] at nt1; cases nt1
    have bl1 : l1 ≠ b := fun z => by rw [z, hbl] at n1; cases n1
    generalize upd H1 t1 (.tup [.str "bytes", .ref l1]) = HA at sA ht1 hl1
    refine ⟨_, rfl, x, cs, rfl, (hx.mono wo_to).mono sA, fun H3 l2 s3 n3 hl2 => ⟨(by show 2 ≤ sizeLine; decide), fun t2 nt2 => ?_⟩⟩
    have sB := (sA.trans s3).trans (Same.new nt2 (o := .tup [.str "units", .ref l2]))
    have ht2 : upd H3 t2 (.tup [.str "units", .ref l2]) t2 = some (.tup [.str "units", .ref l2]) := upd_same
    have hl2 := Same.new nt2 (o := .tup [.str "units", .ref l2]) _ _ hl2
    have ht1 := Same.new nt2 (o := .tup [.str "units", .ref l2]) _ _ (s3 _ _ ht1)
    have hl1 := Same.new nt2 (o := .tup [.str "units", .ref l2]) _ _ (s3 _ _ hl1)
    have bt2 : t2 ≠ b := fun z => by rw [z, s3 _ _ (sA _ _ hbl)] at nt2; cases nt2
    have bl2 : l2 ≠ b := fun z => by rw [z, sA _ _ hbl] at n3; cases n3
    generalize upd H3 t2 (.tup [.str "units", .ref l2]) = HB at sB ht2 hl2 ht1 hl1
    refine ⟨(by show 2 ≤ sizeLine; decide), fun L nL => ?_⟩
    have s05 := sB.trans (Same.new nL (o := .lst [.ref t1, .ref t2]))
    have hL : upd HB L (.lst [.ref t1, .ref t2]) L = some (.lst [.ref t1, .ref t2]) := upd_same
    have bL : L ≠ b := fun z => by rw [z, sB _ _ hbl] at nL; cases nL
    have ht1 := Same.new nL (o := .lst [.ref t1, .ref t2]) _ _ ht1
    have hl1 := Same.new nL (o := .lst [.ref t1, .ref t2]) _ _ hl1
    have ht2 := Same.new nL (o := .lst [.ref t1, .ref t2]) _ _ ht2
    have hl2 := Same.new nL (o := .lst [.ref t1, .ref t2]) _ _ hl2
    generalize upd HB L (.lst [.ref t1, .ref t2]) = H5 at s05 hL ht1 hl1 ht2 hl2
    have items : ∀ {i : Nat} {y : V}, ([.ref t1, .ref t2] : List V)[i]? = some y → ∃ (k : Kd) (t l : Addr), y = .ref t ∧ k ≠ .c ∧ i ≤ 1 ∧ H5 t = some (.tup [.str k.str, .ref l]) ∧ H5 l = some (.lst ((encs k cs).map V.int)) ∧ t ≠ b ∧ l ≠ b := by
      intro i y hi
      match i, hi with
      | 0, hi => exact ⟨.b, t1, l1, (Option.some.inj hi).symm, by decide, by decide, ht1, hl1, bt1, bl1⟩
      | 1, hi => exact ⟨.u, t2, l2, (Option.some.inj hi).symm, by decide, by decide, ht2, hl2, bt2, bl2⟩
      | n + 2, hi => cases hi
    refine ⟨L, rfl, ⟨_, SqL.of hL⟩, for_list (K := K) (a := L) (xs := [.ref t1, .ref t2])
      (fun i σ H' => (∃ v2 v3 v4 v5 v6 v7 v8 v9 v10 v11 v12 v13 v14 v15, σ = [some (.ref b), some (.ref x), v2, v3, v4, v5, v6, v7, v8, v9, v10, v11, v12, v13, v14, v15]) ∧ SameX b H5 H' ∧ BX H' b (n + i))
      ⟨⟨none, none, none, none, none, none, none, none, none, none, none, none, none, none, rfl⟩, SameX.refl _ _, hB.mono s05⟩ (fun i σ H' _ ⟨_, s2, _⟩ => SqL.of (s2 _ _ hL bL)) ?_ ?_⟩
    · rintro i y σ H2 hi ⟨⟨v2, v3, v4, v5, v6, v7, v8, v9, v10, v11, v12, v13, v14, v15, rfl⟩, s2, hB2⟩
      obtain ⟨k, t, l, rfl, hk, hi1, ht5, hl5, tb, lb⟩ := items hi
      have hl2' := s2 _ _ hl5 lb
      have lenR := encs_length k cs
      refine ⟨t, _, rfl, SqT.of (s2 _ _ ht5 tb), rfl, _, _, rfl, _, _, rfl, rfl, ?_⟩
      -- the place and the ends
      refine ⟨_, rfl, _, rfl, l, _, rfl, .inl (SqL.of hl2'), _, _, rfl, rfl, ?_⟩
      rw [List.length_map]
      refine ⟨b, _, n + i, rfl, hB2, by omega, by omega, by omega, fun H3 r s3 hB3 hr0 hr1 => ?_⟩
      obtain ⟨at_, rfl⟩ := Int.eq_ofNat_of_zero_le hr0
      have hat : at_ ≤ (encs k cs).length := by omega
      obtain ⟨j, i', hLoc⟩ := loc (k := k) cs at_ hat
      have hx3 : TX a H3 x cs := (hx.mono (((SameX.of s05).trans s2).trans s3).wo).mono wo_to
      obtain ⟨dx, fx, h1x, nox⟩ := hx3.insNo
      have hl3 := s3 _ _ hl2' lb
      refine ⟨(by show 1 ≤ sizeLine; decide), fun e ne => ⟨(by show 2 ≤ sizeLine; decide), fun tt ntt => ⟨tt, _, rfl, SqT.of upd_same, rfl, _, _, rfl, _, _, rfl, rfl, ?_⟩⟩⟩
      have s4 : Same H3 (upd (upd H3 e (.lst [V.int 0])) tt (.tup [V.int (at_ : Int), .ref e])) := (Same.new ne).trans (Same.new ntt)
      have he4 : upd (upd H3 e (.lst [V.int 0])) tt (.tup [V.int (at_ : Int), .ref e]) e = some (.lst ((ends k cs 0).map V.int)) := Same.new ntt _ _ upd_same
      generalize upd (upd H3 e (.lst [V.int 0])) tt (.tup [V.int (at_ : Int), .ref e]) = H4 at s4 he4
      refine ⟨_, rfl, x, dx, fx, rfl, s4 _ _ h1x, ⟨x, cs, rfl, hx3.mono s4, ((cs.length : Nat) : Int), rfl, by omega, by omega, ((cs.length : Nat) : Int), rfl, by omega, by omega, for_range (lo := 0) (n := ((cs.length : Nat) : Int).toNat)
        (fun i2 σ H' => (∃ v6, σ = [some (.ref b), some (.ref x), some (.str k.str), some (.ref l), some (.int (at_ : Int)), some (.ref e), v6, v7, v8, v9, v10, v11, v12, v13, v14, v15]) ∧ Same H3 H' ∧ H' e = some (.lst ((ends k cs i2).map V.int)))
        ⟨⟨v6, rfl⟩, s4, he4⟩ ?_ ?_⟩⟩
      · rintro i2 σ H' hi2 ⟨⟨v6, rfl⟩, s', he'⟩
        rw [Int.toNat_natCast] at hi2
        refine ⟨_, rfl, .inl ⟨rfl, _, SqL.of he'⟩, _, rfl, x, dx, fx, rfl, s' _ _ h1x, nox _ (by decide +kernel) (by decide +kernel), _, rfl, _, _, rfl, rfl, ?_⟩
        refine ⟨x, cs, 0, i2 + 1, ?_, hx3.mono s', by omega, by omega, fun H'' t'' s'' n'' ht'' => ?_⟩
        · show [V.ref x, V.int 0, V.int (0 + (i2 : Int) + 1)] = [V.ref x, V.int 0, V.int ((i2 + 1 : Nat) : Int)]
          rw [show (0 + (i2 : Int) + 1) = ((i2 + 1 : Nat) : Int) by omega]
        obtain ⟨d'', f'', i'', no''⟩ := (ht''.mono nw_to).insNo
        refine ⟨t'', d'', f'', rfl, i'', no'' _ (by decide +kernel) (by decide +kernel), _, rfl, t'', _, k, rfl, ht''.mono nw_to, fun H7 s7 => ?_⟩
        refine ⟨e, _, _, rfl, rfl, s7 _ _ (s'' _ _ he'), ?_, ⟨_, rfl⟩, fun b' o e' => ?_, ?_⟩
        · rw [List.length_map, ends_len]
          exact Nat.lt_of_le_of_lt (by omega : i2 + 1 ≤ 200) (by decide)
        · rw [upd_ne (fun z => by rw [z, ne] at e'; cases e')]
          exact s7 _ _ (s'' _ _ (s' _ _ e'))
        · rw [upd_same, ends_succ, List.map_append]
          rfl
      rintro σ H6 ⟨⟨v6, rfl⟩, s6, he6⟩
      rw [Int.toNat_natCast] at he6
      -- the front
      obtain ⟨pend, hfr, hpl, _⟩ := cut_front hk cc hLoc
      refine ⟨_, rfl, _, rfl, (at_ : Int), rfl, l, _, rfl, SqL.of (s6 _ _ hl3), fun p np => ?_⟩
      rw [cut_to _ hat]
      have sC := s6.trans (Same.new np (o := .lst (((encs k cs).take at_).map V.int)))
      refine ⟨_, rfl, p, k, (encs k cs).take at_, ((encs k cs).take at_).length, cs.take j, pend, rfl, hk, upd_same, fun y hy => encs_rng hk cs cc y (List.mem_of_mem_take hy), ?_, Nat.le_refl _, by rw [List.take_length]; exact hfr, fun y hy => ?_, chs_take hk cc j, ?_, fun H7 t7 x7 s7 n7 hx7 nt7 ht7 => ?_⟩
      · rw [List.length_take]; omega
      · rw [List.getElem?_eq_none (Nat.le_refl _)] at hy; cases hy
      · rw [List.length_take]; omega
      have many : (((encs k cs).take at_).length : Int) - (pend.length : Int) = endAt k cs j := by
        rw [endAt_len hk cc, List.length_take, hpl]
        have := hLoc.2.1
        omega
      rw [many] at ht7
      have s37 := sC.trans s7
      have he7 := s7 _ _ (Same.new np (o := .lst (((encs k cs).take at_).map V.int)) _ _ he6)
      have hx7 := hx7.mono nw_to
      refine ⟨t7, _, rfl, SqT.of ht7, rfl, _, _, rfl, _, _, rfl, rfl, ?_⟩
      obtain ⟨d7, f7, i7, no7⟩ := hx7.insNo
      have allE := flat_ints (ends k cs cs.length)
      have atE : ((ends k cs cs.length).map V.int)[j]? = some (.int (endAt k cs j)) := by rw [List.getElem?_map, ends_at cs hLoc.1]; rfl
      have firstE : ∀ (m : Nat) (z' : V), m < j → ((ends k cs cs.length).map V.int)[m]? = some z' → eqV z' (.int (endAt k cs j)) = false := fun m z' hm hz' => by
        obtain ⟨zi, hzi, rfl⟩ := ints_at hz'
        rw [ends_at cs (by have := hLoc.1; omega)] at hzi
        obtain rfl := Option.some.inj hzi
        show (endAt k cs m == endAt k cs j) = false
        exact beq_eq_false_iff_ne.mpr (ends_first hk cc hLoc.1 hm)
      have eqE : eqV (.int (endAt k cs j)) (.int (endAt k cs j)) = true := by show (endAt k cs j == endAt k cs j) = true; exact beq_self_eq_true _
      -- many is the last end within
      refine ⟨_, rfl, _, rfl, e, rfl, ⟨_, SqL.of he7⟩, fun D nD => ?_⟩
      refine lc_list (K := K) (a := e) (xs := (ends k cs cs.length).map V.int) (fun i3 H' => Same H7 H' ∧ H' D = some (.lst ((((ends k cs cs.length).take i3).filter fun z => decide (z ≤ (at_ : Int))).map V.int)) ∧ i3 ≤ cs.length + 1)
        ⟨Same.new nD, upd_same, Nat.zero_le _⟩ (fun i3 H' _ ⟨s', _⟩ => SqL.of (s' _ _ he7)) ?_ ?_
      · rintro i3 z H' hz ⟨s', hD, hi3⟩
        obtain ⟨zi, hzi, rfl⟩ := ints_at hz
        have hi4 : i3 + 1 ≤ cs.length + 1 := by
          have := (List.getElem?_eq_some_iff.mp hzi).1
          rw [ends_len] at this
          exact this
        have et : ((ends k cs cs.length).take (i3 + 1)).filter (fun z => decide (z ≤ (at_ : Int))) = ((ends k cs cs.length).take i3).filter (fun z => decide (z ≤ (at_ : Int))) ++ (if decide (zi ≤ (at_ : Int)) = true then [zi] else []) := by
          rw [take_snoc hzi, List.filter_append, List.filter_cons, List.filter_nil]
        refine ⟨rfl, _, rfl, _, rfl, _, _, rfl, rfl, _, rfl, ?_⟩
        refine ite2 (fun h => ?_) (fun h => ?_)
        · refine ⟨_, rfl, _, hD, ?_, fun b' o e' => ?_, ?_, hi4⟩
          · rw [List.length_map]
            refine Nat.lt_of_le_of_lt (Nat.le_trans (List.length_filter_le _ _) (List.length_take_le' _ _)) ?_
            rw [ends_len]
            exact Nat.lt_of_le_of_lt (by omega : cs.length + 1 ≤ 200) (by decide)
          · rw [upd_ne (fun z => by rw [z, nD] at e'; cases e')]
            exact s' _ _ e'
          · rw [upd_same, et, if_pos h, List.map_append]
            rfl
        · refine ⟨s', ?_, hi4⟩
          rw [et, if_neg h, List.append_nil]
          exact hD
      rintro H8 ⟨s8, hD8, _⟩
      rw [List.length_map, List.take_length, ends_filter hk cc hLoc, List.map_append] at hD8
      refine ⟨1, rfl, D, _, _, _, rfl, rfl, SqL.of hD8, atI_last _ _, rfl, _, rfl, ifF (by rw [decide_eq_true rfl]; rfl) ?_⟩
      have s38 := s37.trans s8
      have he8 := s8 _ _ he7
      have hx8 := hx7.mono s8
      refine ⟨_, rfl, _, rfl, x, dx, fx, rfl, s38 _ _ h1x, nox _ (by decide +kernel) (by decide +kernel), _, rfl, .inl ⟨rfl, _, SqL.of he8⟩, _, rfl, e, _, _, j, _, rfl, rfl, SqL.of he8, rfl, allE, atE, eqE, firstE, ?_⟩
      refine ⟨x, cs, 0, j, rfl, hx3.mono s38, Nat.zero_le _, hLoc.1, fun H9 t9 s9 n9 ht9 => ?_⟩
      have ht9 : TX a H9 t9 (cs.take j) := ht9.mono nw_to
      obtain ⟨d9, f9, i9⟩ := ht9.ins
      refine ⟨x7, t9, d7, d9, f7, f9, rfl, rfl, s9 _ _ (s8 _ _ i7), i9, x7, t9, _, _, rfl, hx8.mono s9, ht9, _, rfl, _, rfl, ifF (by rw [decide_eq_true rfl]; rfl) ?_⟩
      have s39 := s38.trans s9
      -- its count
      refine ⟨_, rfl, x7, d7, f7, rfl, s9 _ _ (s8 _ _ i7), no7 _ (by decide +kernel) (by decide +kernel), _, rfl, x7, cs.take j, k, rfl, hx8.mono s9, fun HA sA' => ?_⟩
      refine ⟨_, rfl, rfl, _, rfl, ifF (by show (!decide (V.int (endAt k cs j) = V.int (endAt k cs j))) = false; rw [decide_eq_true rfl]; rfl) ?_⟩
      have s3A := s39.trans sA'
      have heA := sA' _ _ (s9 _ _ he8)
      -- what stands behind
      obtain ⟨nb, fb, hb1, hb2, hb3, hb4, hb5, hb6, hb7⟩ := back_read hk cc hLoc hat
      refine ⟨_, rfl, _, rfl, (at_ : Int), rfl, l, _, rfl, SqL.of (s3A _ _ hl3), fun p2 np2 => ?_⟩
      rw [cut_from _ hat]
      refine ⟨_, rfl, p2, k, (encs k cs).drop at_, nb, fb, [], rfl, hk, upd_same, fun y hy => encs_rng hk cs cc y (List.mem_of_mem_drop hy), ?_, hb1, hb2, hb3, hb4, by omega, fun HB tB xB sB' nB hxB ntB htB => ?_⟩
      · rw [List.length_drop]; omega
      have sAB := (Same.new np2 (o := .lst (((encs k cs).drop at_).map V.int))).trans sB'
      have s3B := s3A.trans sAB
      have heB := sAB _ _ heA
      have hxB := hxB.mono nw_to
      refine ⟨_, rfl, _, rfl, e, _, rfl, .inl (SqL.of heB), rfl, allE, _, rfl, orElse (fun hp c => ?N) (fun _ c => iteF c) ?_⟩
      case N =>
        have hi : i' ≠ 0 := fun z => by
          have hm := (ends_mem hk cc hLoc).mpr z
          rw [if_pos rfl, inV_ints, decide_eq_true hm] at hp
          cases hp
        refine ⟨_, rfl, tB, _, _, _, rfl, rfl, SqT.of htB, atI_nat (j := 1) rfl, rfl, _, rfl, ifF ?_ c⟩
        rw [hb6 hi]
        show (!decide (V.int (((0 : Nat) : Int) - ((([] : List Int).length : Nat) : Int)) = V.int 0)) = false
        have z0 : V.int (((0 : Nat) : Int) - ((([] : List Int).length : Nat) : Int)) = V.int 0 := rfl
        rw [decide_eq_true z0]
        rfl
      refine ⟨_, rfl, _, rfl, e, _, rfl, .inl (SqL.of heB), rfl, allE, _, rfl, ?_⟩
      rw [if_neg Bool.false_ne_true, inV_ints]
      by_cases hi : i' = 0
      case' pos =>
        obtain ⟨hf, hn2⟩ := hb7 hi
        have eAt : endAt k cs j = (at_ : Int) := by
          rw [endAt_len hk cc]
          have := hLoc.2.1
          omega
        refine ifT (decide_eq_true ((ends_mem hk cc hLoc).mpr hi)) ?_
        refine ⟨_, rfl, x, dx, fx, rfl, s3B _ _ h1x, nox _ (by decide +kernel) (by decide +kernel), _, rfl, .inl ⟨rfl, _, SqL.of heB⟩, _, rfl, e, _, _, j, _, rfl, rfl, SqL.of heB, rfl, allE, atE, (by rw [← eAt]; exact eqE), (by rw [← eAt]; exact firstE), ?_⟩
        refine ⟨_, rfl, x, dx, fx, rfl, s3B _ _ h1x, x, cs, rfl, hx3.mono s3B, ((cs.length : Nat) : Int), rfl, by omega, by omega, ?_⟩
        refine ⟨x, cs, j, cs.length, rfl, hx3.mono s3B, hLoc.1, Nat.le_refl _, fun HC tC sC' nC htC => ?_⟩
        rw [List.take_of_length_le (by rw [List.length_drop]; exact Nat.le_refl _)] at htC
        have htC := htC.mono nw_to
        refine ⟨_, rfl, _, rfl, _, rfl, l, _, rfl, .inl (SqL.of ((s3B.trans sC') _ _ hl3)), _, rfl, _, _, rfl, rfl, (by show 2 ≤ sizeLine; decide), fun tD ntD => ?_⟩
        refine ⟨⟨tB, tD, _, _, rfl, rfl, SqT.of (Same.new ntD _ _ (sC' _ _ htB)), SqT.of upd_same, rfl, fun ix u v hu hv => ?_⟩, fun HX sX => ⟨_, rfl, iteF ?_⟩⟩
        match ix, hu, hv with
          | 0, hu, hv =>
            obtain rfl := Option.some.inj hu
            obtain rfl := Option.some.inj hv
            exact .inl ⟨xB, tC, rfl, rfl, cs.drop j, by rw [← hf]; exact (hxB.mono sC').mono (Same.new ntD), htC.mono (Same.new ntD)⟩
          | 1, hu, hv =>
            obtain rfl := Option.some.inj hu
            obtain rfl := Option.some.inj hv
            refine .inr ⟨rfl, rfl, ?_⟩
            show (((nb : Nat) : Int) - ((([] : List Int).length : Nat) : Int) == (((encs k cs).map V.int).length : Int) - (at_ : Int)) = true
            rw [List.length_map, hn2, List.length_nil]
            exact beq_iff_eq.mpr (by omega)
          | ix + 2, hu, _ => cases hu
        have s3X : Same H3 HX := ((s3B.trans sC').trans (Same.new ntD)).trans sX
      case' neg =>
        refine ifF (decide_eq_false (fun z => hi ((ends_mem hk cc hLoc).mp z))) ?_
        obtain ⟨HX, hHX, s3X⟩ : ∃ HX, HX = HB ∧ Same H3 HX := ⟨HB, rfl, s3B⟩
        subst hHX
      all_goals
        refine ⟨_, rfl, mkR (a := a) (k := k) fun H9 r sR nr hR => ⟨Nat.zero_le _, fun c nc => ⟨_, _, rfl, ?_⟩⟩⟩
        have sXY : Same HX (upd H9 c (.lst [])) := sR.trans (Same.new nc)
        have rc : r ≠ c := by
          obtain ⟨dr, fr, fl, wl, il, fed, r1, r2, _⟩ := id hR
          exact ne_of_none r1 nc
        have ncX := sR.free nc
        have hcY : upd H9 c (.lst []) c = some (.lst (([] : List Int).map V.int)) := upd_same
        have hRY : RD a (wo (upd H9 c (.lst [])) c) r k [] [] 0 false := hR.mono (Same.into (Same.new nc) nc)
        generalize upd H9 c (.lst []) = HY at sXY hcY hRY
        have s3Y := s3X.trans sXY
        have hlY := s3Y _ _ hl3
        refine ⟨_, rfl, l, _, rfl, .inl (SqL.of hlY), _, _, rfl, rfl, _, rfl, ite13 fun st hst => ?_⟩
        refine ⟨_, rfl, l, _, rfl, .inl (SqL.of hlY), _, rfl, ?_⟩
        rw [List.length_map]
        refine ⟨0, _, _, steps (encs k cs).length st, rfl, rg_ok hst (by omega), for_rangeC (lo := 0) (c := (st : Int)) (n := steps (encs k cs).length st)
          (fun i4 σ H' => (∃ w4 w5 w6 w7 w8 w9 w10 w14 w15, σ = [some (.ref b), some (.ref x), some (.str k.str), some (.ref l), w4, w5, w6, w7, w8, w9, w10, some (.ref r), some (.ref c), some (.int (st : Nat)), w14, w15]) ∧ Same HX H' ∧
            ∃ F L', rd k [] ((encs k cs).take (i4 * st)) = some (F, L') ∧ H' c = some (.lst (F.map V.int)) ∧ RD a (wo H' c) r k F L' ((encs k cs).take (i4 * st)).length false)
          ⟨⟨_, _, _, _, _, _, _, _, _, rfl⟩, sXY, [], [], by rw [Nat.zero_mul]; rfl, hcY, by rw [Nat.zero_mul]; exact hRY⟩ ?_ ?_⟩
        · rintro i4 σ H' hi4 ⟨⟨w4, w5, w6, w7, w8, w9, w10, w14, w15, rfl⟩, s', F, L', hFL, hcH, hRH⟩
          have hRH' := hRH.mono wo_to
          obtain ⟨dr, fr, fl, wl, il, fed, r1, r2, r3, r4, r5, r6, r7, r8⟩ := id hRH'
          have hlt := steps_lt hst hi4
          obtain ⟨g, m, hg, hnext⟩ := rd_chunk (s := st) (rd_encs hk cs cc) hFL
          have eb : (0 + (i4 : Int) * (st : Int)) = ((i4 * st : Nat) : Int) := by rw [Int.zero_add]; exact (Int.natCast_mul i4 st).symm
          have hlH := (s3X.trans s') _ _ hl3
          have hF := rd_len hFL
          have lT : ((encs k cs).take (i4 * st)).length = i4 * st := by rw [List.length_take]; omega
          refine ⟨_, rfl, .inl ⟨rfl, _, SqL.of hcH⟩, _, rfl, r, dr, fr, rfl, r1, r2.no _ (by decide +kernel) (by decide +kernel) (by decide +kernel) (by decide +kernel) (by decide +kernel), _, rfl, _, rfl, (0 + (i4 : Int) * (st : Int)), rfl, _, rfl, _, rfl, _, _, rfl, rfl,
            (0 + (i4 : Int) * (st : Int) + (st : Int)), rfl, l, _, rfl, SqL.of hlH, fun p np => ?_⟩
          have ew : cutV ((encs k cs).map V.int) (some (0 + (i4 : Int) * (st : Int))) (some (0 + (i4 : Int) * (st : Int) + (st : Int))) = (((encs k cs).drop (i4 * st)).take st).map V.int := by
            rw [eb, show (((i4 * st : Nat) : Int) + (st : Int)) = ((i4 * st + st : Nat) : Int) by omega]
            exact cut_win _ (by omega)
          rw [ew]
          have lC : (((encs k cs).drop (i4 * st)).take st).length ≤ 400 := by
            refine Nat.le_trans (List.length_take_le' _ _) ?_
            rw [List.length_drop]; omega
          have sp := Same.new np (o := .lst ((((encs k cs).drop (i4 * st)).take st).map V.int))
          refine ⟨r, p, k, F, L', _, ((encs k cs).drop (i4 * st)).take st, rfl, hk, hRH'.mono sp, upd_same, fun y hy => encs_rng hk cs cc y (List.mem_of_mem_drop (List.mem_of_mem_take hy)), by omega, .inl ⟨g, m, hg, fun H'' q2 s'' nq hq hR2 hRw => ?_⟩⟩
          have hc2 := s'' _ _ (sp _ _ hcH) (Ne.symm rc)
          have hRw := hRw c _ (sp _ _ hcH) (Ne.symm rc)
          have nrX : HX r = none := nr
          have sX2 : Same HX H'' := fun b' o e' => s'' _ _ (sp _ _ (s' _ _ e')) (ne_of_none e' nrX)
          have hgl := rd_len hg
          refine ⟨c, q2, _, _, rfl, rfl, hc2, hq, ?_, ?_⟩
          · rw [List.length_map, List.length_map]
            exact Nat.le_trans (by omega : F.length + g.length ≤ 5000) (by decide)
          rw [← List.map_append]
          have sX3 : Same HX (upd H'' c (.lst ((F ++ g).map V.int))) := fun b' o e' => by
            rw [upd_ne (ne_of_none e' ncX)]
            exact sX2 _ _ e'
          have hc3 : upd H'' c (.lst ((F ++ g).map V.int)) c = some (.lst ((F ++ g).map V.int)) := upd_same
          have hR3 : RD a (wo (upd H'' c (.lst ((F ++ g).map V.int))) c) r k (F ++ g) m (((encs k cs).take (i4 * st)).length + (((encs k cs).drop (i4 * st)).take st).length) false := hRw.mono fun b' o e' => by
            by_cases hbc : b' = c
            · rw [hbc, wo_same] at e'; cases e'
            · rw [wo_ne hbc] at e' ⊢
              rw [upd_ne hbc]
              exact e'
          generalize upd H'' c (.lst ((F ++ g).map V.int)) = H4' at sX3 hc3 hR3
          have hR4 := hR3.mono wo_to
          obtain ⟨dr', fr', fl', wl', il', fed', q1, q2', q3⟩ := id hR4
          refine ⟨_, rfl, r, dr', fr', rfl, q1, r, k, F ++ g, m, _, false, rfl, hR4, fun Hm sm => ⟨rfl, ?_⟩⟩
          refine ⟨_, rfl, r, dr', fr', rfl, sm _ _ q1, q2'.no _ (by decide +kernel) (by decide +kernel) (by decide +kernel) (by decide +kernel) (by decide +kernel), r, k, F ++ g, m, _, false, rfl, hR4.mono sm, fun Hp' lp sp' np' hp' => ⟨Nat.zero_le _, fun z nz => ?_⟩⟩
          have sz := Same.new nz (o := .lst [])
          have fm := front_mis hk cc hnext
          refine ⟨lp, z, m, [], rfl, rfl, SqL.of (sz _ _ hp'), SqL.of upd_same, rfl, _, rfl, ifF ?_ ?_⟩
          · have : V.bl (decide (V.int (mis k m) = V.int 0)) = V.bl (decide (m = [])) := by
              refine congrArg V.bl ?_
              by_cases hm : m = []
              · rw [decide_eq_true (congrArg V.int (fm.mpr hm)), decide_eq_true hm]
              · rw [decide_eq_false (fun z => hm (fm.mp (V.int.inj z))), decide_eq_false hm]
            show (!decide (V.bl (decide (V.int (mis k m) = V.int 0)) = V.bl (decide (m = [])))) = false
            rw [decide_eq_true this]
            rfl
          · have sE := (sm.trans sp').trans sz
            have e2 : (i4 + 1) * st = i4 * st + st := Nat.succ_mul i4 st
            refine ⟨⟨_, _, _, _, _, _, _, _, _, rfl⟩, sX3.trans sE, F ++ g, m, by rw [e2]; exact hnext, sE _ _ hc3, ?_⟩
            rw [e2, take_more, List.length_append]
            exact hR3.mono ((SameX.of sE).wo)
        rintro σ H' ⟨⟨w4, w5, w6, w7, w8, w9, w10, w14, w15, rfl⟩, s', F, L', hFL, hcH, hRH⟩
        rw [List.take_of_length_le (steps_all hst)] at hFL hRH
        rw [rd_encs hk cs cc] at hFL
        obtain ⟨rfl, rfl⟩ := Prod.mk.inj (Option.some.inj hFL)
        have s3H := s3X.trans s'
        have hRH' := hRH.mono wo_to
        refine ⟨_, rfl, _, rfl, x, dx, fx, rfl, s3H _ _ h1x, nox _ (by decide +kernel) (by decide +kernel), x, _, rfl, hx3.mono s3H, fun Hc pc sc npc hpc => ?_⟩
        refine ⟨c, pc, _, _, rfl, rfl, SqL.of (sc _ _ hcH), SqL.of hpc, _, rfl, ifF (nes rfl) ?_⟩
        have hRc := hRH'.mono sc
        obtain ⟨dr, fr, fl, wl, il, fed, r1, r2, r3⟩ := id hRc
        refine ⟨_, rfl, r, dr, fr, rfl, r1, r2.no _ (by decide +kernel) (by decide +kernel) (by decide +kernel) (by decide +kernel) (by decide +kernel), r, k, _, _, rfl, hRc, cc, by omega, fun Hz xz sz nz hxz => ?_⟩
        have hxz := hxz.mono nw_to
        have sXz : Same HX Hz := fun b' o e' => sz _ _ (sc _ _ (s' _ _ e')) (ne_of_none e' nr)
        have s3z := s3X.trans sXz
        obtain ⟨dz, fz, iz⟩ := hxz.ins
        refine ⟨_, rfl, xz, x, dz, dx, fz, fx, rfl, rfl, iz, s3z _ _ h1x, xz, x, _, _, rfl, hxz, hx3.mono s3z, _, rfl, _, rfl, ifF (by rw [decide_eq_true rfl]; rfl) ?_⟩
        exact ⟨⟨_, _, _, _, _, _, _, _, _, _, _, _, _, _, rfl⟩, (s2.trans s3).trans (SameX.of s3z), (hB3.mono s3z).le (by omega)⟩
    · rintro σ H' ⟨_, s', hB'⟩
      exact q _ ((SameX.of s05).trans s') hB'
end
end K14

namespace K14
open PySem PySem.Spec PyProof.Rows L2
section
variable {P : Program} {w : World} {K : PySem.W.Frag} {mg : Str → Option Value} {base : Heap} {a : AD}
/-- Text(p), its reading with the new address -/
theorem mkT2 {H1 : Hp} {p : Addr} {cs : List Int} {Q : Addr → Hp → Prop} {E : XK} (hp : H1 p = some (.lst (cs.map V.int))) (hc : Chs cs) (hz : cs.length ≤ 1000) (k : ∀ H' x, Same H1 H' → H1 x = none → TX a (nw H1 H') x cs → Q x H') :
    ∀ x dx, H1 x = none → H1 dx = none → dx ≠ x → spTInit a (.ref x :: [.ref p]) (upd (upd H1 dx (.own x)) x (.ins a.c_Text dx [])) (fun v H2 => v = .non ∧ Q x H2) E := by
  intro x dx nx nd ne
  have s0 : Same H1 (upd (upd H1 dx (.own x)) x (.ins a.c_Text dx [])) := (Same.new nd).trans (Same.new (by rw [upd_ne ne.symm]; exact nx))
  refine ⟨x, dx, p, cs, rfl, upd_same, s0 _ _ hp, hc, hz, fun H' l t s1 nl nt hx hl ht => ⟨rfl, ?_⟩⟩
  refine k H' x (fun b o e => s1 _ _ (s0 _ _ e) (ne_of_none e nx)) nx ⟨l, dx, t, ?_, ?_, ?_, hc, hz⟩
  · rw [nw_of nx]; exact hx
  · rw [nw_of (s0.free nl)]; exact hl
  · rw [nw_of (s0.free nt)]; exact ht
def spLaw (K : PySem.W.Frag) : Sp := fun vs H Q _ => ∃ (p : Addr) (ns : List Int), vs = [.ref p] ∧ SqL K H p (ns.map V.int) ∧ ns.length ≤ 63 ∧ ∀ H', Q (.bl true) H'
theorem ok_law (T : Txt K mg a) : ∃ fd : FuncData, (∀ (s : Shared) (u : Value), BindsTo s fd ⟨[u], []⟩ [("_law_script", u)]) ∧ ∀ (P : Program) (w : World) (base : Heap), FnOk P w K mg base CX0 12 a.d_law fd ["_law_script"] (spLaw K) := by
  obtain ⟨fd, F⟩ := T.d_law.fn
  refine ⟨fd, ?_, fun P w base => ?_⟩
  · obtain ⟨oc, od, kV, doc, pm, an, cdv, ct, osl, rfl, lk, hcd⟩ := F.ex
    exact fun s u => BindsTo.of_eq (by rfl)
  have G1 : GD P w K mg base CX0 1 "_law_cell" a.d_law_cell (spCell K) := ok_law_cell T
  have G2 : GD P w K mg base CX0 1 "_law_box" a.d_law_box spBox := ok_law_box T
  have G3 : GD P w K mg base CX0 3 "_law_chars" a.d_law_chars spChars := ok_law_chars T
  have G4 : GD P w K mg base CX0 11 "_law_pair_right" a.d_law_pair_right (spPair a) := ok_law_pair T
  have G5 : GD P w K mg base CX0 10 "_law_cut_right" a.d_law_cut_right (spCut a) := ok_law_cut T
  have GJ : GD P w K mg base CX0 7 "joined" a.d_joined (spJoined a) := ok_joined T
  have GI : FnR P w K mg base CX0 5 a.m_Text_init (spTInit a) := ok_tinit T
  have MA : GM P w K mg base CX0 7 a.c_Text "__add__" a.m_Text_add (spTAdd a) := ok_tadd T
  have S : FnScope ["_law_script", "_law_k", "_law_box_here", "_law_turn", "_law_one", "_law_other"] ["_law_script"] (defScope s_law) := C8.fnScope_by (by decide +kernel)
  refine F.ok S (fun vs H Q E h => ?_) (fun cdv A outer s H vs Q E hr h => ?_)
  · obtain ⟨_, _, rfl, _⟩ := h
    rfl
  · obtain ⟨p, ns, rfl, hp, hz, q⟩ := h
    refine ⟨_, pss_cons (ps_for PassesOwn.never rfl (pi_range1 (by rfl) T.n_range (pa_cons (pe_callB (call_max2 rfl) (by rfl) T.n_max (by decide +kernel) (pa_cons pe_int (pa_cons (pe_callB (call_min2 rfl) (by rfl) T.n_min (by decide +kernel) (pa_cons pe_int (pa_cons (pe_callB call_len_seq (by rfl) T.n_len PySem.boot_len (pa_cons (pv 0) pa_nil)) pa_nil))) pa_nil))) pa_nil)) (pg_name (i := 1) S.nd rfl (Or.inl rfl))
      (pss_cons (ps_set (i := 2) S.nd rfl (Or.inl rfl) (pe_callD G2 hr pass0 (pa_cons (pe_callD G1 hr pass0 (pa_cons (pv 0) (pa_cons (pv 1) pa_nil))) pa_nil)))
      (pss_one (ps_for PassesOwn.never rfl (pi_range1 (by rfl) T.n_range (pa_cons pe_int pa_nil)) (pg_name (i := 3) S.nd rfl (Or.inl rfl))
        (pss_cons (ps_par (i := 4) (j := 5) (by rfl) S.nd rfl rfl (by decide) rfl rfl
            (pa_cons (StX.pe_makeR T.k_Text GI (hr.mono (by decide)) (by rfl) T.g_Text pass0 (pa_cons (pe_callD G3 hr pass0 (pa_cons (pv 2) (pa_cons pe_int pa_nil))) pa_nil)) (pa_cons (StX.pe_makeR T.k_Text GI (hr.mono (by decide)) (by rfl) T.g_Text pass0 (pa_cons (pe_callD G3 hr pass0 (pa_cons (pv 2) (pa_cons pe_int pa_nil))) pa_nil)) pa_nil)) (by rfl))
        (pss_cons (ps_if (PW.pt (pw_or (pt_not (pt_val (pe_callD G4 hr pass0 (pa_cons (pv 4) (pa_cons (pv 5) pa_nil))))) (pw_or1 (pt_not (pt_val (pe_callD G4 hr pass0 (pa_cons (pv 4) (pa_cons (pe_callD GJ hr pass0 (pa_cons (pv 4) pa_nil)) pa_nil)))))))) (pss_one ps_never) pss_nil)
        (pss_one (ps_if (PW.pt (pw_or (pt_not (pt_val (pe_callD G5 hr pass0 (pa_cons (pv 2) (pa_cons (pv 4) pa_nil))))) (pw_or1 (pt_not (pt_val (pe_callD G5 hr pass0 (pa_cons (pv 2) (pa_cons (pe_op (op_addO MA.ok (hr.mono (by decide)) T.sf_Text MA.me.at_ MA.me.fn pass0) (pv 4) (pv 5)) pa_nil)))))))) (pss_one ps_never) pss_nil)))))))) 
      (pss_one (ps_ret pe_bl)), ?_⟩
    refine ⟨_, rfl, p, _, rfl, .inl hp, _, _, rfl, _, _, rfl, ?_⟩
    rw [List.length_map]
    refine ⟨_, rfl, ?_, ?_, for_range (lo := 0) (fun i σ H' => (∃ v1 v2 v3 v4 v5, σ = [some (.ref p), v1, v2, v3, v4, v5]) ∧ Same H H') ⟨⟨none, none, none, none, none, rfl⟩, Same.refl _⟩ ?_ ?_⟩
    · split <;> split <;> omega
    · split <;> split <;> omega
    · rintro i σ H0 hi ⟨⟨v1, v2, v3, v4, v5, rfl⟩, s0⟩
      refine ⟨_, rfl, _, rfl, p, ns, i, by rw [Int.zero_add], hp.ext s0, by omega, fun c => ⟨c, rfl, fun H1 b s1 nb hB => ?_⟩⟩
      have nbH := s0.free nb
      refine ⟨3, rfl, by decide, by decide, for_range (lo := 0) (n := 3) (fun j σ H' => (∃ v1 v3 v4 v5, σ = [some (.ref p), v1, some (.ref b), v3, v4, v5]) ∧ SameX b H1 H' ∧ BX H' b (1000 * j)) ⟨⟨_, _, _, _, rfl⟩, SameX.refl _ _, hB⟩ ?_ ?_⟩
      · rintro j σ H2 hj ⟨⟨v1, v3, v4, v5, rfl⟩, s2, hB2⟩
        refine ⟨_, rfl, b, _, rfl, hB2, by omega, fun H3 q3 cs s3 hB3 n3 h3 cc lc => mkT2 h3 cc (by omega) fun H4 x s4 nx hx => ?_⟩
        refine ⟨_, rfl, b, _, rfl, hB3.mono s4, by omega, fun H5 q5 ds s5 hB5 n5 h5 cd ld => mkT2 h5 cd (by omega) fun H6 y s6 ny hy => ⟨_, _, rfl, ?_⟩⟩
        obtain ⟨b3, hb3⟩ := hB3.lst
        obtain ⟨b5, hb5⟩ := hB5.lst
        have hxw : TX a (wo H6 b) x cs := ((hx.mono (nw_wo hb3)).mono s5.wo).mono (SameX.of s6).wo
        have hyw : TX a (wo H6 b) y ds := hy.mono (nw_wo hb5)
        have sT := (((s2.trans s3).trans (SameX.of s4)).trans s5).trans (SameX.of s6)
        have hB6 := hB5.mono s6
        have hx6 := hxw.mono wo_to
        have hy6 := hyw.mono wo_to
        refine ⟨_, rfl, _, rfl, x, y, cs, ds, rfl, hx6, hy6, by omega, by omega, fun H7 s7 => ⟨true, rfl, iteF ?_⟩⟩
        refine ⟨_, rfl, _, rfl, [(x, cs)], rfl, (by show 1 ≤ 10; decide), fun q hq => ?_, ?_, fun H8 z s8 nz hz8 => ?_⟩
        · rcases List.mem_singleton.mp hq with rfl
          exact hx6.mono s7
        · show (cs ++ []).length ≤ 1000
          rw [List.append_nil]; omega
        have ef : [(x, cs)].flatMap (·.2) = cs := by show cs ++ [] = cs; rw [List.append_nil]
        rw [ef] at hz8
        have s78 := s7.trans s8
        refine ⟨x, z, cs, cs, rfl, hx6.mono s78, hz8.mono nw_to, by omega, by omega, fun H9 s9 => ⟨true, rfl, iteF ?_⟩⟩
        have s69 := s78.trans s9
        refine ⟨_, rfl, _, rfl, b, x, _, cs, rfl, hB6.mono s69, by omega, hxw.mono (SameX.of s69).wo, by omega, fun HA sA hBA => ⟨true, rfl, iteF ?_⟩⟩
        have s6A := (SameX.of s69).trans sA
        have hxA := (hxw.mono s6A.wo).mono wo_to
        have hyA := (hyw.mono s6A.wo).mono wo_to
        obtain ⟨dx, fx, ix⟩ := hxA.ins
        obtain ⟨dy, fy, iy⟩ := hyA.ins
        obtain ⟨bA, hbA⟩ := hBA.lst
        refine ⟨_, rfl, _, rfl, _, rfl, x, y, dx, dy, fx, fy, rfl, rfl, ix, iy, x, y, cs, ds, rfl, hxA, hyA, by omega, fun HC t sC nt ht => ⟨t, rfl, b, t, _, cs ++ ds, rfl, hBA.mono sC, by omega, ht.mono (nw_wo hbA), by rw [List.length_append]; omega, fun HD sD hBD => ⟨true, rfl, iteF ?_⟩⟩⟩
        exact ⟨⟨_, _, _, _, rfl⟩, ((sT.trans s6A).trans (SameX.of sC)).trans sD, hBD.le (by omega)⟩
      · rintro σ H' ⟨⟨v1, v3, v4, v5, rfl⟩, s', _⟩
        exact ⟨⟨_, _, _, _, _, rfl⟩, fun b' o e' => s' _ _ (s1 _ _ (s0 _ _ e')) (ne_of_none e' nbH)⟩
    · rintro σ H' ⟨⟨v1, v2, v3, v4, v5, rfl⟩, s'⟩
      exact q _
end
/-- the walk of the law, from the facts of the text -/
theorem walkT {l : PySem.W.OpenLaw} {q : Program} {loose : List Str} {XP : (Str → Option Value) → Heap → Prop} {YP : World → Heap → Prop} {d : DefRec} {K : Params → PySem.W.Frag} (hn : l.most = some 63) (hdf : d.params.defaults = []) (hname : d.name = "law")
    (hY : ∀ (w : World) (h : Heap), YP w h → (K w.params).In h) (F : ∀ (w : World) (mg : Str → Option Value) (h : Heap), (K w.params).In h → h.Ns mainGlobals mg → ∃ a : AD, Txt (K w.params) mg a) :
    PySem.W.WalkO q loose XP YP l.row.toRowW d [] (fun f vs => PySem.call f vs) := by
  refine L2.walk_of (n := 63) (k := 12) (x := "_law_script") (CX := fun _ => CX0) (sp := fun w => spLaw (K w.params)) hn (by decide) hdf ⟨rfl, by decide, by decide⟩ hY (fun w mg fa h KX G hmg => ?_) (fun w H p ns hl _ hS => ⟨p, ns, rfl, hS, hl, fun _ => rfl⟩) (fun _ _ _ _ _ z => z)
  obtain ⟨a, T⟩ := F w mg h KX G
  rw [hname, T.d_law.mgx] at hmg
  obtain rfl : a.d_law = fa := by
    have := Option.some.inj hmg
    exact Value.ref.inj this
  obtain ⟨fd, h1, h2⟩ := ok_law T
  exact ⟨fd, h1, fun base _ _ => h2 l.prog w base⟩
end K14

open PySem PySem.W PyProof.Rows
open_top head for PySem.Challenge.rw_threecounts_k14_whole_lists_and_texts
theorem PySem.Challenge.cw_threecounts_k14_whole_lists_and_texts_holds : PySem.Challenge.rw_threecounts_k14_whole_lists_and_texts.Holds := by
  refine head ?_
  k_fill
  refine K14.walkT (l := PySem.Challenge.rw_threecounts_k14_whole_lists_and_texts) rfl rfl rfl (fun w h Y => PySem.W.kIn_of Y) ?F
  case F =>
    intro w mg h KX G
    refine' Exists.intro _ (K14.txt_mk KX G ?a_d_is_integer ?l_d_is_integer ?o_d_is_integer ?k_d_is_integer ?a_d_is_char ?l_d_is_char ?o_d_is_char ?k_d_is_char ?a_d_is_list ?l_d_is_list ?o_d_is_list ?k_d_is_list ?a_d_is_kind ?l_d_is_kind ?o_d_is_kind ?k_d_is_kind ?a_d_need_char ?l_d_need_char ?o_d_need_char ?k_d_need_char ?a_d_need_kind ?l_d_need_kind ?o_d_need_kind ?k_d_need_kind ?a_d_need_chars ?l_d_need_chars ?o_d_need_chars ?k_d_need_chars ?a_d_wide ?l_d_wide ?o_d_wide ?k_d_wide ?a_d_bytes_in ?l_d_bytes_in ?o_d_bytes_in ?k_d_bytes_in ?a_d_items_in ?l_d_items_in ?o_d_items_in ?k_d_items_in ?a_d_counts_in ?l_d_counts_in ?o_d_counts_in ?k_d_counts_in ?a_d_chars_of ?l_d_chars_of ?o_d_chars_of ?k_d_chars_of ?a_d_need_more ?l_d_need_more ?o_d_need_more ?k_d_need_more ?a_d_need_text ?l_d_need_text ?o_d_need_text ?k_d_need_text ?a_d_joined ?l_d_joined ?o_d_joined ?k_d_joined ?a_d_all_items ?l_d_all_items ?o_d_all_items ?k_d_all_items ?a_d_compare ?l_d_compare ?o_d_compare ?k_d_compare ?a_d_byte_list ?l_d_byte_list ?o_d_byte_list ?k_d_byte_list ?a_d_unit_list ?l_d_unit_list ?o_d_unit_list ?k_d_unit_list ?a_d_is_items ?l_d_is_items ?o_d_is_items ?k_d_is_items ?a_d_need_items ?l_d_need_items ?o_d_need_items ?k_d_need_items ?a_d_byte_size ?l_d_byte_size ?o_d_byte_size ?k_d_byte_size ?a_d_unit_size ?l_d_unit_size ?o_d_unit_size ?k_d_unit_size ?a_d_size_of ?l_d_size_of ?o_d_size_of ?k_d_size_of ?a_d_goes_on ?l_d_goes_on ?o_d_goes_on ?k_d_goes_on ?a_d_char_of ?l_d_char_of ?o_d_char_of ?k_d_char_of ?a_d_text_of ?l_d_text_of ?o_d_text_of ?k_d_text_of ?a_d_text_of_bytes ?l_d_text_of_bytes ?o_d_text_of_bytes ?k_d_text_of_bytes ?a_d_text_of_units ?l_d_text_of_units ?o_d_text_of_units ?k_d_text_of_units ?a_d_beginning ?l_d_beginning ?o_d_beginning ?k_d_beginning ?a_d_law_cell ?l_d_law_cell ?o_d_law_cell ?k_d_law_cell ?a_d_law_box ?l_d_law_box ?o_d_law_box ?k_d_law_box ?a_d_law_take ?l_d_law_take ?o_d_law_take ?k_d_law_take ?a_d_law_char ?l_d_law_char ?o_d_law_char ?k_d_law_char ?a_d_law_chars ?l_d_law_chars ?o_d_law_chars ?k_d_law_chars ?a_d_law_sign ?l_d_law_sign ?o_d_law_sign ?k_d_law_sign ?a_d_law_pair_right ?l_d_law_pair_right ?o_d_law_pair_right ?k_d_law_pair_right ?a_d_law_cut_right ?l_d_law_cut_right ?o_d_law_cut_right ?k_d_law_cut_right ?a_d_law ?l_d_law ?o_d_law ?k_d_law ?a_Text ?a_m_Text_init ?i_m_Text_init ?l_m_Text_init ?o_m_Text_init ?k_m_Text_init ?a_m_Text_chars ?i_m_Text_chars ?l_m_Text_chars ?o_m_Text_chars ?k_m_Text_chars ?a_m_Text_count ?i_m_Text_count ?l_m_Text_count ?o_m_Text_count ?k_m_Text_count ?a_m_Text_part ?i_m_Text_part ?l_m_Text_part ?o_m_Text_part ?k_m_Text_part ?a_m_Text_len ?i_m_Text_len ?l_m_Text_len ?o_m_Text_len ?k_m_Text_len ?a_m_Text_add ?i_m_Text_add ?l_m_Text_add ?o_m_Text_add ?k_m_Text_add ?a_m_Text_eq ?i_m_Text_eq ?l_m_Text_eq ?o_m_Text_eq ?k_m_Text_eq ?a_m_Text_lt ?i_m_Text_lt ?l_m_Text_lt ?o_m_Text_lt ?k_m_Text_lt ?pg_Text ?hd_Text ?po_Text ?sa_Text ?ca_Text ?mo_Text ?mk_Text ?kc_Text ?n_Text_own_chars ?n_Text_own_counts ?a_Reader ?a_m_Reader_init ?i_m_Reader_init ?l_m_Reader_init ?o_m_Reader_init ?k_m_Reader_init ?a_m_Reader_read ?i_m_Reader_read ?l_m_Reader_read ?o_m_Reader_read ?k_m_Reader_read ?a_m_Reader_feed ?i_m_Reader_feed ?l_m_Reader_feed ?o_m_Reader_feed ?k_m_Reader_feed ?a_m_Reader_pending ?i_m_Reader_pending ?l_m_Reader_pending ?o_m_Reader_pending ?k_m_Reader_pending ?a_m_Reader_text ?i_m_Reader_text ?l_m_Reader_text ?o_m_Reader_text ?k_m_Reader_text ?a_m_Reader_close ?i_m_Reader_close ?l_m_Reader_close ?o_m_Reader_close ?k_m_Reader_close ?a_m_Reader_len ?i_m_Reader_len ?l_m_Reader_len ?o_m_Reader_len ?k_m_Reader_len ?pg_Reader ?hd_Reader ?po_Reader ?sa_Reader ?ca_Reader ?mo_Reader ?mk_Reader ?kc_Reader ?n_Reader_own_kind ?n_Reader_found_chars ?n_Reader_waiting ?n_Reader_fed_items ?n_Reader_is_closed ?h_get ?h_tak ?ne_Text ?gt_Text ?sf_Text ?a_missing ?r_missing ?s_missing ?t_missing ?l_m_Reader_missing ?o_m_Reader_missing ?k_m_Reader_missing ?a_Bad ?i_Bad ?l_m_Bad_init ?o_m_Bad_init ?k_m_Bad_init ?x_Bad ?sa_Bad ?eC_Bad ?tC_Bad ?kC_Bad ?iC_Bad ?sC_Bad ?ti_Bad ?n_Bad ?a_Place ?ga_Place ?rd_Place ?cv_Place ?a_LAST_CHAR ?a_LOW_GAP ?a_HIGH_GAP ?a_TWO ?a_THREE ?a_FOUR ?a_HIGH ?a_LOW ?a_LAST_BYTE ?a_LAST_UNIT ?a_FIRST_OF_MORE ?a_BYTES_texts ?a_UNITS_texts ?a_CHARS_texts ?a_KINDS ?l_t_KINDS ?a_OTHERS ?l_t_OTHERS ?a_HIGHS ?l_t_HIGHS ?a_LOWS ?l_t_LOWS ?a_LEADS_texts ?l_t_LEADS_texts ?a_SECONDS ?l_SECONDS ?ne_SECONDS ?l_t_sec0 ?l_t_sec1 ?l_t_sec2 ?l_t_sec3 ?a_LEADS ?l_t_LEADS ?l_t_lead0 ?l_t_lead1 ?l_t_lead2 ?z_isinstance ?z_int ?z_bool ?z_str ?z_list ?z_tuple ?z_sum ?z_len ?z_range ?z_enumerate ?z_all ?z_min ?z_max)
    (case a_d_is_integer => k_is)
    (case l_d_is_integer => k_is)
    (case o_d_is_integer => k_is)
    (case k_d_is_integer => k_is)
    (case a_d_is_char => k_is)
    (case l_d_is_char => k_is)
    (case o_d_is_char => k_is)
    (case k_d_is_char => k_is)
    (case a_d_is_list => k_is)
    (case l_d_is_list => k_is)
    (case o_d_is_list => k_is)
    (case k_d_is_list => k_is)
    (case a_d_is_kind => k_is)
    (case l_d_is_kind => k_is)
    (case o_d_is_kind => k_is)
    (case k_d_is_kind => k_is)
    (case a_d_need_char => k_is)
    (case l_d_need_char => k_is)
    (case o_d_need_char => k_is)
    (case k_d_need_char => k_is)
    (case a_d_need_kind => k_is)
    (case l_d_need_kind => k_is)
    (case o_d_need_kind => k_is)
    (case k_d_need_kind => k_is)
    (case a_d_need_chars => k_is)
    (case l_d_need_chars => k_is)
    (case o_d_need_chars => k_is)
    (case k_d_need_chars => k_is)
    (case a_d_wide => k_is)
    (case l_d_wide => k_is)
    (case o_d_wide => k_is)
    (case k_d_wide => k_is)
    (case a_d_bytes_in => k_is)
    (case l_d_bytes_in => k_is)
    (case o_d_bytes_in => k_is)
    (case k_d_bytes_in => k_is)
    (case a_d_items_in => k_is)
    (case l_d_items_in => k_is)
    (case o_d_items_in => k_is)
    (case k_d_items_in => k_is)
    (case a_d_counts_in => k_is)
    (case l_d_counts_in => k_is)
    (case o_d_counts_in => k_is)
    (case k_d_counts_in => k_is)
    (case a_d_chars_of => k_is)
    (case l_d_chars_of => k_is)
    (case o_d_chars_of => k_is)
    (case k_d_chars_of => k_is)
    (case a_d_need_more => k_is)
    (case l_d_need_more => k_is)
    (case o_d_need_more => k_is)
    (case k_d_need_more => k_is)
    (case a_d_need_text => k_is)
    (case l_d_need_text => k_is)
    (case o_d_need_text => k_is)
    (case k_d_need_text => k_is)
    (case a_d_joined => k_is)
    (case l_d_joined => k_is)
    (case o_d_joined => k_is)
    (case k_d_joined => k_is)
    (case a_d_all_items => k_is)
    (case l_d_all_items => k_is)
    (case o_d_all_items => k_is)
    (case k_d_all_items => k_is)
    (case a_d_compare => k_is)
    (case l_d_compare => k_is)
    (case o_d_compare => k_is)
    (case k_d_compare => k_is)
    (case a_d_byte_list => k_is)
    (case l_d_byte_list => k_is)
    (case o_d_byte_list => k_is)
    (case k_d_byte_list => k_is)
    (case a_d_unit_list => k_is)
    (case l_d_unit_list => k_is)
    (case o_d_unit_list => k_is)
    (case k_d_unit_list => k_is)
    (case a_d_is_items => k_is)
    (case l_d_is_items => k_is)
    (case o_d_is_items => k_is)
    (case k_d_is_items => k_is)
    (case a_d_need_items => k_is)
    (case l_d_need_items => k_is)
    (case o_d_need_items => k_is)
    (case k_d_need_items => k_is)
    (case a_d_byte_size => k_is)
    (case l_d_byte_size => k_is)
    (case o_d_byte_size => k_is)
    (case k_d_byte_size => k_is)
    (case a_d_unit_size => k_is)
    (case l_d_unit_size => k_is)
    (case o_d_unit_size => k_is)
    (case k_d_unit_size => k_is)
    (case a_d_size_of => k_is)
    (case l_d_size_of => k_is)
    (case o_d_size_of => k_is)
    (case k_d_size_of => k_is)
    (case a_d_goes_on => k_is)
    (case l_d_goes_on => k_is)
    (case o_d_goes_on => k_is)
    (case k_d_goes_on => k_is)
    (case a_d_char_of => k_is)
    (case l_d_char_of => k_is)
    (case o_d_char_of => k_is)
    (case k_d_char_of => k_is)
    (case a_d_text_of => k_is)
    (case l_d_text_of => k_is)
    (case o_d_text_of => k_is)
    (case k_d_text_of => k_is)
    (case a_d_text_of_bytes => k_is)
    (case l_d_text_of_bytes => k_is)
    (case o_d_text_of_bytes => k_is)
    (case k_d_text_of_bytes => k_is)
    (case a_d_text_of_units => k_is)
    (case l_d_text_of_units => k_is)
    (case o_d_text_of_units => k_is)
    (case k_d_text_of_units => k_is)
    (case a_d_beginning => k_is)
    (case l_d_beginning => k_is)
    (case o_d_beginning => k_is)
    (case k_d_beginning => k_is)
    (case a_d_law_cell => k_is)
    (case l_d_law_cell => k_is)
    (case o_d_law_cell => k_is)
    (case k_d_law_cell => k_is)
    (case a_d_law_box => k_is)
    (case l_d_law_box => k_is)
    (case o_d_law_box => k_is)
    (case k_d_law_box => k_is)
    (case a_d_law_take => k_is)
    (case l_d_law_take => k_is)
    (case o_d_law_take => k_is)
    (case k_d_law_take => k_is)
    (case a_d_law_char => k_is)
    (case l_d_law_char => k_is)
    (case o_d_law_char => k_is)
    (case k_d_law_char => k_is)
    (case a_d_law_chars => k_is)
    (case l_d_law_chars => k_is)
    (case o_d_law_chars => k_is)
    (case k_d_law_chars => k_is)
    (case a_d_law_sign => k_is)
    (case l_d_law_sign => k_is)
    (case o_d_law_sign => k_is)
    (case k_d_law_sign => k_is)
    (case a_d_law_pair_right => k_is)
    (case l_d_law_pair_right => k_is)
    (case o_d_law_pair_right => k_is)
    (case k_d_law_pair_right => k_is)
    (case a_d_law_cut_right => k_is)
    (case l_d_law_cut_right => k_is)
    (case o_d_law_cut_right => k_is)
    (case k_d_law_cut_right => k_is)
    (case a_d_law => k_is)
    (case l_d_law => k_is)
    (case o_d_law => k_is)
    (case k_d_law => k_is)
    (case a_Text => k_is)
    (case a_m_Text_init => k_is)
    (case i_m_Text_init => k_is)
    (case l_m_Text_init => k_is)
    (case o_m_Text_init => k_is)
    (case k_m_Text_init => k_is)
    (case a_m_Text_chars => k_is)
    (case i_m_Text_chars => k_is)
    (case l_m_Text_chars => k_is)
    (case o_m_Text_chars => k_is)
    (case k_m_Text_chars => k_is)
    (case a_m_Text_count => k_is)
    (case i_m_Text_count => k_is)
    (case l_m_Text_count => k_is)
    (case o_m_Text_count => k_is)
    (case k_m_Text_count => k_is)
    (case a_m_Text_part => k_is)
    (case i_m_Text_part => k_is)
    (case l_m_Text_part => k_is)
    (case o_m_Text_part => k_is)
    (case k_m_Text_part => k_is)
    (case a_m_Text_len => k_is)
    (case i_m_Text_len => k_is)
    (case l_m_Text_len => k_is)
    (case o_m_Text_len => k_is)
    (case k_m_Text_len => k_is)
    (case a_m_Text_add => k_is)
    (case i_m_Text_add => k_is)
    (case l_m_Text_add => k_is)
    (case o_m_Text_add => k_is)
    (case k_m_Text_add => k_is)
    (case a_m_Text_eq => k_is)
    (case i_m_Text_eq => k_is)
    (case l_m_Text_eq => k_is)
    (case o_m_Text_eq => k_is)
    (case k_m_Text_eq => k_is)
    (case a_m_Text_lt => k_is)
    (case i_m_Text_lt => k_is)
    (case l_m_Text_lt => k_is)
    (case o_m_Text_lt => k_is)
    (case k_m_Text_lt => k_is)
    (case pg_Text => k_is)
    (case hd_Text => k_is)
    (case po_Text => k_is)
    (case sa_Text => k_is)
    (case ca_Text => k_is)
    (case mo_Text => k_is)
    (case mk_Text => k_is)
    (case kc_Text => k_is)
    (case n_Text_own_chars => k_is)
    (case n_Text_own_counts => k_is)
    (case a_Reader => k_is)
    (case a_m_Reader_init => k_is)
    (case i_m_Reader_init => k_is)
    (case l_m_Reader_init => k_is)
    (case o_m_Reader_init => k_is)
    (case k_m_Reader_init => k_is)
    (case a_m_Reader_read => k_is)
    (case i_m_Reader_read => k_is)
    (case l_m_Reader_read => k_is)
    (case o_m_Reader_read => k_is)
    (case k_m_Reader_read => k_is)
    (case a_m_Reader_feed => k_is)
    (case i_m_Reader_feed => k_is)
    (case l_m_Reader_feed => k_is)
    (case o_m_Reader_feed => k_is)
    (case k_m_Reader_feed => k_is)
    (case a_m_Reader_pending => k_is)
    (case i_m_Reader_pending => k_is)
    (case l_m_Reader_pending => k_is)
    (case o_m_Reader_pending => k_is)
    (case k_m_Reader_pending => k_is)
    (case a_m_Reader_text => k_is)
    (case i_m_Reader_text => k_is)
    (case l_m_Reader_text => k_is)
    (case o_m_Reader_text => k_is)
    (case k_m_Reader_text => k_is)
    (case a_m_Reader_close => k_is)
    (case i_m_Reader_close => k_is)
    (case l_m_Reader_close => k_is)
    (case o_m_Reader_close => k_is)
    (case k_m_Reader_close => k_is)
    (case a_m_Reader_len => k_is)
    (case i_m_Reader_len => k_is)
    (case l_m_Reader_len => k_is)
    (case o_m_Reader_len => k_is)
    (case k_m_Reader_len => k_is)
    (case pg_Reader => k_is)
    (case hd_Reader => k_is)
    (case po_Reader => k_is)
    (case sa_Reader => k_is)
    (case ca_Reader => k_is)
    (case mo_Reader => k_is)
    (case mk_Reader => k_is)
    (case kc_Reader => k_is)
    (case n_Reader_own_kind => k_is)
    (case n_Reader_found_chars => k_is)
    (case n_Reader_waiting => k_is)
    (case n_Reader_fed_items => k_is)
    (case n_Reader_is_closed => k_is)
    (case h_get => k_is)
    (case h_tak => k_is)
    (case ne_Text => k_is)
    (case gt_Text => k_is)
    (case sf_Text => k_is)
    (case a_missing => k_is)
    (case r_missing => k_is)
    (case s_missing => k_is)
    (case t_missing => k_is)
    (case l_m_Reader_missing => k_is)
    (case o_m_Reader_missing => k_is)
    (case k_m_Reader_missing => k_is)
    (case a_Bad => k_is)
    (case i_Bad => k_is)
    (case l_m_Bad_init => k_is)
    (case o_m_Bad_init => k_is)
    (case k_m_Bad_init => k_is)
    (case x_Bad => k_is)
    (case sa_Bad => k_is)
    (case eC_Bad => k_is)
    (case tC_Bad => k_is)
    (case kC_Bad => k_is)
    (case iC_Bad => k_is)
    (case sC_Bad => k_is)
    (case ti_Bad => k_is)
    (case n_Bad => k_is)
    (case a_Place => k_is)
    (case ga_Place => k_is)
    (case rd_Place => k_is)
    (case cv_Place => k_is)
    (case a_LAST_CHAR => k_is)
    (case a_LOW_GAP => k_is)
    (case a_HIGH_GAP => k_is)
    (case a_TWO => k_is)
    (case a_THREE => k_is)
    (case a_FOUR => k_is)
    (case a_HIGH => k_is)
    (case a_LOW => k_is)
    (case a_LAST_BYTE => k_is)
    (case a_LAST_UNIT => k_is)
    (case a_FIRST_OF_MORE => k_is)
    (case a_BYTES_texts => k_is)
    (case a_UNITS_texts => k_is)
    (case a_CHARS_texts => k_is)
    (case a_KINDS => k_is)
    (case l_t_KINDS => k_is)
    (case a_OTHERS => k_is)
    (case l_t_OTHERS => k_is)
    (case a_HIGHS => k_is)
    (case l_t_HIGHS => k_is)
    (case a_LOWS => k_is)
    (case l_t_LOWS => k_is)
    (case a_LEADS_texts => k_is)
    (case l_t_LEADS_texts => k_is)
    (case a_SECONDS => k_is)
    (case l_SECONDS => k_is)
    (case ne_SECONDS => rfl)
    (case l_t_sec0 => k_is)
    (case l_t_sec1 => k_is)
    (case l_t_sec2 => k_is)
    (case l_t_sec3 => k_is)
    (case a_LEADS => k_is)
    (case l_t_LEADS => k_is)
    (case l_t_lead0 => k_is)
    (case l_t_lead1 => k_is)
    (case l_t_lead2 => k_is)
    (case z_isinstance => k_is)
    (case z_int => k_is)
    (case z_bool => k_is)
    (case z_str => k_is)
    (case z_list => k_is)
    (case z_tuple => k_is)
    (case z_sum => k_is)
    (case z_len => k_is)
    (case z_range => k_is)
    (case z_enumerate => k_is)
    (case z_all => k_is)
    (case z_min => k_is)
    (case z_max => k_is)
