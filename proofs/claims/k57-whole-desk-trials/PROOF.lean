import PyProof.Rows.All
import Wide.All
import OpenK.AllK
import Wide.FinOn
import PyProof.NeKinds
import HandS.ForMost
import HandS.ForExc
import HandS.More
import HandS.Flow
import HandS.Conv
import HandS.Property
import HandS.OwnEq
import HandS.IsInst
import HandS.ExcIs
import HandS.ExcInit
import HandS.ExcField
import HandS.TryMany
import HandS.RaiseOp
import HandS.RaiseMore
import HandS.SetFor
import HandS.Strs
import HandS.DictComp
import HandS.TupAny
import HandS.Deep
import HandS.NoneIn
import HandS.Small
import HandS.Style
import HandS.WrittenGet
import HandS.Evl
import HandS.Lambda
import HandS.EndTab
import HandS.Defaults
import HandS.Finally
import HandS.HotCalls
import PyProof.ReprRoads
import KE.KExcInit
import HandS.ExcCtx
import HandS.SuiteRaise
import HandS.ExcInitHot
import KE.KExcIs
import KE.KWithOwn
import HandS.HeadHook1
import HandS.HeadHook2
import KE.GoesEnum
import KE.GoesMore
import HandS.Codes
import HandS.Dict
import HandS.Steps
import HandS.Star
import HandS.Iter
import PyProof.DictUpdate
import PyProof.Tail
import PyProof.FactsDict
import HandS.Walk
import PyProof.FitsInt
import PyProof.Rows.StrJoinMade
import HandS.HeadHook4
import HandS.Head0
import HandS.Head1
import HandS.Head2
import KE.KStateDown
import HandS.EndBits
import HandS.Head3
import PySem.Challenge.RW_bentthrough_k57_whole_desk_trials
set_option Elab.async false
set_option linter.all false
set_option maxRecDepth 100000
set_option maxHeartbeats 4000000
/-! Rules beside the layer's: comparisons with an empty list or dict, repr, counts, walks. -/
namespace Bt
open PySem PySem.Spec PyProof.Rows L2

/-! ### == of two lists (dicts), one of them empty -/
def rEqE (K : PySem.W.Frag) : R2 := fun x y H Q => ∃ a b xs ys, x = .ref a ∧ y = .ref b ∧ SqL K H a xs ∧ SqL K H b ys ∧ (xs = [] ∨ ys = []) ∧ Q (.bl (decide (xs.length = ys.length))) H
def rNeE (K : PySem.W.Frag) : R2 := fun x y H Q => ∃ a b xs ys, x = .ref a ∧ y = .ref b ∧ SqL K H a xs ∧ SqL K H b ys ∧ (xs = [] ∨ ys = []) ∧ Q (.bl (!decide (xs.length = ys.length))) H
def rNeDE : R2 := fun x y H Q => ∃ a b ks, x = .ref a ∧ y = .ref b ∧ H a = some (.dK ks) ∧ H b = some (.dK []) ∧ Q (.bl (!decide (ks.length = 0))) H
section
variable {X : Cx}
theorem op_eqE (hu : X.A.units < cLine) : OpR X (compareOp .Eq) (rEqE X.K) := by
  intro pins s σ H x y v u Q I rx ry h
  obtain ⟨a, b, xs, ys, rfl, rfl, ha, hb, he, q⟩ := h
  obtain rfl : v = Value.ref a := rx
  obtain rfl : u = Value.ref b := ry
  obtain ⟨its, r1, p1, _⟩ := I.list ha
  obtain ⟨ist, r2, p2, _⟩ := I.list hb
  have l1 := r1.length
  have l2 := r2.length
  by_cases hl : xs.length = ys.length
  · have z1 : its.length = 0 := by
      rcases he with z | z
      · rw [← l1, z]; rfl
      · rw [← l1, hl, z]; rfl
    refine SeqAt.eq_listAt (e := fun _ => true) p1.isList p2.isList (by simp; omega) hu (fun j h1 _ => absurd h1 (by simp; omega)) (fin_bl I q ?_)
    simp [hl]
  · refine SeqAt.eq_list_lengthsAt p1.isList p2.isList (by simp; omega) hu (fin_bl I q (by simp [hl]))
theorem op_neE (hu : X.A.units < cLine) : OpR X (compareOp .NotEq) (rNeE X.K) := by
  intro pins s σ H x y v u Q I rx ry h
  obtain ⟨a, b, xs, ys, rfl, rfl, ha, hb, he, q⟩ := h
  obtain rfl : v = Value.ref a := rx
  obtain rfl : u = Value.ref b := ry
  obtain ⟨its, r1, p1, _⟩ := I.list ha
  obtain ⟨ist, r2, p2, _⟩ := I.list hb
  have l1 := r1.length
  have l2 := r2.length
  by_cases hl : xs.length = ys.length
  · have z1 : its.length = 0 := by
      rcases he with z | z
      · rw [← l1, z]; rfl
      · rw [← l1, hl, z]; rfl
    refine EqBoolInt.of_rcne (SeqAt.RcNeAt.lists (e := fun _ => true) p1.isList p2.isList (by simp; omega) hu (fun j h1 _ => absurd h1 (by simp; omega))) (fin_bl I q ?_)
    simp [hl]
  · exact EqBoolInt.of_rcne (SeqAt.RcNeAt.lists_lengths p1.isList p2.isList (by simp; omega) hu) (fin_bl I q (by simp [hl]))
theorem op_neDE (hu : X.A.units < cLine) : OpR X (compareOp .NotEq) rNeDE := by
  intro pins s σ H x y v u Q I rx ry h
  obtain ⟨a, b, ks, rfl, rfl, ea, eb, q⟩ := h
  obtain rfl : v = Value.ref a := rx
  obtain rfl : u = Value.ref b := ry
  obtain ⟨_, ya, va, ra, da⟩ := (show ObjOk X.prog X.w H s.heap a (.dK ks) from I.hok a _ ea)
  obtain ⟨_, yb, vb, rb, db⟩ := (show ObjOk X.prog X.w H s.heap b (.dK []) from I.hok b _ eb)
  have l1 := ra.length
  have l2 := rb.length
  refine PySem.W.keq_ne (knd := mixKind X.prog X.w) (r := true) ya yb da db hu (fun hl => ?_) (fin_bl I q ?_)
  · have : va = [] := List.eq_nil_of_length_eq_zero (by rw [hl, ← l2]; rfl)
    subst this
    exact .nil
  · rw [← l1, ← l2]
    cases ks <;> simp
end

/-! ### repr -/
def rRepr (K : PySem.W.Frag) : List V → Hp → VK → Prop := fun xs H Q => ∃ x d, xs = [x] ∧ Dp K H x d ∧ d.showable = true ∧ d.hasDict = false ∧ d.depth ≤ 20 ∧ d.shown.length ≤ sizeLine ∧ Q (.str d.shown) H
def flatD : PyData → Bool
  | .none => true
  | .int _ => true
  | .str _ => true
  | _ => false
def rReprF (K : PySem.W.Frag) : List V → Hp → VK → Prop := fun xs H Q => ∃ x d, xs = [x] ∧ Dp K H x d ∧ flatD d = true ∧ d.showable = true ∧ d.shown.length ≤ sizeLine ∧ Q (.str d.shown) H
section
variable {X : Cx}
theorem cr_repr (hg : X.A.guards = some []) (hu : X.A.units + 64 < cLine) : CallR X (.builtin "repr") (rRepr X.K) := by
  intro pins s σ H xs us Q I r h
  obtain ⟨x, d, rfl, hd, hs, hn, hp, hz, q⟩ := h
  obtain ⟨u, rfl, rx⟩ := vals1 r
  cases hd with
  | non => cases rx; exact PySem.P.repr_of_none ⟨.str _, H, I.tok _, ⟨_, rfl⟩, by simpa only [PyData.shown] using q⟩
  | bl b => cases rx; exact PySem.P.repr_of_bool ⟨.str _, H, I.tok _, ⟨_, rfl⟩, by simpa only [PyData.shown] using q⟩
  | int i => obtain ⟨t, rfl⟩ := rx; exact PySem.P.repr_of_int (by simpa [PyData.showable] using hs) ⟨.str _, H, I.tok _, ⟨_, rfl⟩, by simpa only [PyData.shown] using q⟩
  | str z => obtain ⟨t, rfl⟩ := rx; exact PySem.P.repr_of_str (⟨.str _, H, I.tok _, ⟨_, rfl⟩, by simpa only [PyData.shown] using q⟩) (by simpa only [PyData.shown] using hz)
  | @lst a ys ds h1 h2 =>
    obtain rfl : u = Value.ref a := rx
    obtain ⟨as, rd⟩ := Dp.reads I (.list ds) (.ref a) (.ref a) (.lst h1 h2) rfl
    exact repr_of_reads' rd hs (PyData.noDict_hsm hn) hg (by omega) (fun _ _ e => e) (fun h' t tk k => ⟨.str _, H, I.kept k, ⟨_, rfl⟩, q⟩) hz
  | @tup a ys ds h1 h2 =>
    obtain rfl : u = Value.ref a := rx
    obtain ⟨as, rd⟩ := Dp.reads I (.tuple ds) (.ref a) (.ref a) (.tup h1 h2) rfl
    exact repr_of_reads' rd hs (PyData.noDict_hsm hn) hg (by omega) (fun _ _ e => e) (fun h' t tk k => ⟨.str _, H, I.kept k, ⟨_, rfl⟩, q⟩) hz
theorem cr_reprF : CallR X (.builtin "repr") (rReprF X.K) := by
  intro pins s σ H xs us Q I r h
  obtain ⟨x, d, rfl, hd, hf, hs, hz, q⟩ := h
  obtain ⟨u, rfl, rx⟩ := vals1 r
  cases hd with
  | non => cases rx; exact PySem.P.repr_of_none ⟨.str _, H, I.tok _, ⟨_, rfl⟩, by simpa only [PyData.shown] using q⟩
  | int i => obtain ⟨t, rfl⟩ := rx; exact PySem.P.repr_of_int (by simpa [PyData.showable] using hs) ⟨.str _, H, I.tok _, ⟨_, rfl⟩, by simpa only [PyData.shown] using q⟩
  | str z => obtain ⟨t, rfl⟩ := rx; exact PySem.P.repr_of_str (⟨.str _, H, I.tok _, ⟨_, rfl⟩, by simpa only [PyData.shown] using q⟩) (by simpa only [PyData.shown] using hz)
  | _ => cases hf
end

/-! ### x in a tuple whose items are data -/
def rInT (K : PySem.W.Frag) : R2 := fun x y H Q => ∃ (z : Str) (a : Addr) (ys : List V), x = .str z ∧ y = .ref a ∧ SqT K H a ys ∧ (∀ w ∈ ys, (∃ t, w = .str t) ∨ (∃ i, w = .int i) ∨ ∃ b xs, w = .ref b ∧ SqT K H b xs) ∧ Q (.bl (decide (V.str z ∈ ys))) H
theorem Vals.ex : ∀ {xs : List V} {us : List Value} {u : Value}, Vals xs us → u ∈ us → ∃ x ∈ xs, RelV x u
  | _, _, _, .nil, h => by cases h
  | x :: xs, v :: us, u, .cons r t, h => by
    rcases List.mem_cons.mp h with e | e
    · subst e; exact ⟨x, List.mem_cons_self, r⟩
    · obtain ⟨y, hy, ry⟩ := Vals.ex t e
      exact ⟨y, List.mem_cons_of_mem _ hy, ry⟩
theorem Vals.xe : ∀ {xs : List V} {us : List Value} {x : V}, Vals xs us → x ∈ xs → ∃ u ∈ us, RelV x u
  | _, _, _, .nil, h => by cases h
  | x :: xs, v :: us, z, .cons r t, h => by
    rcases List.mem_cons.mp h with e | e
    · subst e; exact ⟨v, List.mem_cons_self, r⟩
    · obtain ⟨y, hy, ry⟩ := Vals.xe t e
      exact ⟨y, List.mem_cons_of_mem _ hy, ry⟩
def strIs (z : Str) : Value → Bool
  | .str t _ => t == z
  | _ => false
section
variable {X : Cx}
theorem op_inT (hu : X.A.units + 1 < cLine) : OpR X (compareOp .In) (rInT X.K) := by
  intro pins s σ H x y v u Q I rx ry h
  obtain ⟨z, a, ys, rfl, rfl, ha, hk, q⟩ := h
  obtain ⟨t, rfl⟩ := rx
  obtain rfl : u = Value.ref a := ry
  obtain ⟨its, r, p, _⟩ := I.tuple ha
  have hu1 : X.A.in1.units < cLine := hu
  refine SeqAt.in_tupleAt (strIs z) p (fun w hw => ?_) (fin_bl I q ?_)
  · obtain ⟨k, hm, rk⟩ := Vals.ex r (by simpa using hw)
    rcases hk k hm with ⟨y, rfl⟩ | ⟨i, rfl⟩ | ⟨b, xs, rfl, hb⟩
    · obtain ⟨t2, rfl⟩ := rk
      exact SeqAt.EqAt.str_str y t2 z t
    · obtain ⟨t2, rfl⟩ := rk
      exact SeqAt.EqAt.int_str i t2 z t
    · obtain rfl : w = Value.ref b := rk
      obtain ⟨_, _, p2, _⟩ := I.tuple hb
      exact SeqAt.EqAt.tuple_str z t p2 hu1
  · rw [Bool.eq_iff_iff]
    simp only [decide_eq_true_eq, List.any_toArray, List.any_eq_true]
    constructor
    · intro hm
      obtain ⟨w, hw, rw_⟩ := Vals.xe r hm
      obtain ⟨t2, rfl⟩ := rw_
      exact ⟨_, hw, by simp [strIs]⟩
    · rintro ⟨w, hw, e⟩
      obtain ⟨k, hm, rk⟩ := Vals.ex r hw
      cases w with
      | str y t2 =>
        have e' : y = z := by simpa [strIs] using e
        subst e'
        have : k = V.str y := (show RelV (V.str y) (Value.str y t2) from ⟨t2, rfl⟩).inj rk |>.symm
        rw [← this]; exact hm
      | _ => cases e
end

/-! ### how often a number stands in a tuple; True in a list of bools -/
def rTCnt (K : PySem.W.Frag) : V → List V → Hp → VK → Prop := fun x xs H Q => ∃ (p : Addr) (ns : List Int) (k : Int), x = .ref p ∧ xs = [.int k] ∧ SqT K H p (ns.map V.int) ∧ Q (.int (ns.count k : Nat)) H
def rBCnt (K : PySem.W.Frag) : V → List V → Hp → VK → Prop := fun x xs H Q => ∃ (p : Addr) (bs : List Bool), x = .ref p ∧ xs = [.bl true] ∧ SqL K H p (bs.map V.bl) ∧ Q (.int (bs.count true : Nat)) H
def isTru : Value → Bool
  | .bool b => b
  | _ => false
section
variable {X : Cx}
theorem mt_tcount : MtR X "tuple.count" (rTCnt X.K) := by
  intro pins s σ H x xs v us Q I rx rxs h
  obtain ⟨p, ns, k, rfl, rfl, hs, q⟩ := h
  obtain rfl : v = Value.ref p := rx
  obtain ⟨u, rfl, ru⟩ := rxs.one
  obtain ⟨t, rfl⟩ := ru
  obtain ⟨its, rv, ⟨⟨cls, dd, data, sl⟩, ho, hc, n, hd⟩, hlen⟩ := I.tuple hs
  simp only at hc hd
  subst hc hd
  have hi := ints_of_vals rv
  refine call_meets PySem.F.slot_tuple_count ⟨_, ho, rfl⟩ PySem.F.entry_tuple_count (PySem.F.args_tuple_count_2 _ _)
    (SeqAt.tuple_countAt p its.toArray n dd sl (.int k t) (eqk k)) ⟨ho, fun y hy => (eqk_gives hi y (by simpa using hy)).at _ _, ?_⟩
  have ec : its.toArray.toList.countP (eqk k) = ns.count k := eqk_count hi
  exact ⟨.int (ns.count k : Nat), H, I.tok _, ⟨s.toks, by rw [ec]⟩, q⟩
theorem bools_of : ∀ {bs : List Bool} {us : List Value}, Vals (bs.map V.bl) us → us = bs.map Value.bool
  | [], _, .nil => rfl
  | b :: bs, _, .cons r t => by
    have := bools_of t
    obtain rfl := (show _ = Value.bool b from r)
    rw [this]; rfl
theorem mt_bcount : MtR X "list.count" (rBCnt X.K) := by
  intro pins s σ H x xs v us Q I rx rxs h
  obtain ⟨p, bs, rfl, rfl, hs, q⟩ := h
  obtain rfl : v = Value.ref p := rx
  obtain ⟨u, rfl, ru⟩ := rxs.one
  obtain rfl : u = Value.bool true := ru
  obtain ⟨its, rv, ⟨⟨cls, dd, data, sl⟩, n, ho, hc, hdn, hd⟩, hlen⟩ := I.list hs
  simp only at hc hd
  subst hc hd
  have eb := bools_of rv
  subst eb
  refine call_meets PySem.F.slot_list_count ⟨_, ho, rfl⟩ PySem.F.entry_list_count (PySem.F.args_list_count_2 _ _)
    (SeqAt.list_countAt p _ n dd sl (.bool true) isTru) ⟨ho, fun y hy => ?_, ?_⟩
  · obtain ⟨b, _, rfl⟩ := List.mem_map.mp (show y ∈ bs.map Value.bool by simpa using hy)
    have := SeqAt.EqAt.bool_bool (A := X.A.in1) (s := s) b true
    cases b <;> exact this
  · have ec : (bs.map Value.bool).countP isTru = bs.count true := by
      rw [List.countP_map, List.count]
      apply List.countP_congr
      intro b _
      cases b <;> simp [isTru]
    exact ⟨.int (bs.count true : Nat), H, I.tok _, ⟨s.toks, by rw [← ec]⟩, q⟩
/-- max of three ints -/
theorem call_max3 (hc : X.calm = true) : CallR X (.builtin "max") (fun xs H Q => ∃ i j k, xs = [.int i, .int j, .int k] ∧ Q (.int (max (max i j) k)) H) := by
  intro pins s σ H xs us Q I r h
  obtain ⟨i, j, k, rfl, q⟩ := h
  cases r with
  | cons r1 r2 => cases r2 with
    | cons r3 r4 => cases r4 with
      | cons r5 r6 =>
        cases r6
        obtain ⟨t1, rfl⟩ := r1
        obtain ⟨t2, rfl⟩ := r3
        obtain ⟨t3, rfl⟩ := r5
        refine max_three_ints (I.ok.hd hc) fun h' tk kk => ?_
        obtain q : Q (.int (max (max i j) k)) H := q
        have e : max (max i j) k = (if j > i then (if k > j then k else j) else (if k > i then k else i)) := by
          split <;> split <;> omega
        rw [e] at q
        refine ⟨_, H, I.kept kk, ?_, q⟩
        split <;> split <;> exact ⟨_, rfl⟩
end

/-! ### own __contains__, own __eq__ under !=, == of the same object -/
def rNotInOwn (K : PySem.W.Frag) (C : Addr) (sp : Sp) (E : XK) : R2 := fun x y H Q => ∃ a dx fs, y = .ref a ∧ H a = some (.ins C dx fs) ∧ sp [.ref a, x] H (fun v H' => ∃ b, v = .bl b ∧ Q (.bl (!b)) H') E
section
variable {X : Cx} {CX : CXT} {k : Nat} {C f : Addr} {fd : FuncData} {ps : List Str} {sp : Sp} {E : XK}
theorem op_notInOwn (F : FnOk X.prog X.w X.K X.mg X.base CX k f fd ps sp) (hr : Room k X.A) (hs : PySem.W.findIn X.K (.ref C) "__contains__" = some (some (.ref f))) (hf : PySem.W.isFn X.K (.ref f) = true)
    (hb : Binds X.K fd ps []) (hx : Passes CX X E) : OpR X (compareOp .NotIn) (rNotInOwn X.K C sp E) := by
  intro pins s σ H x y v u Q I rx ry h
  obtain ⟨a, dx, fs, rfl, ha, q⟩ := h
  obtain rfl : u = Value.ref a := ry
  obtain ⟨mA, J, _⟩ := ins_get I.hok ha
  obtain ⟨od, J, _⟩ := J.look
  obtain ⟨m, hF⟩ := I.fr
  refine PySem.W.notIn_K hF I.ok.mod.kin J hs hf ?_
  refine thn (run_fn (us := [.ref a, v]) (vs := [.ref a, x]) (dvs := []) (ds := []) F hr hb .nil hx I (.cons rfl (.cons rx .nil)) q) fun r s' hr' => ?_
  obtain ⟨z, H', I', rz, b, rfl, q'⟩ := hr'
  obtain rfl : r = Value.bool b := rz
  exact wpAny_truthy_bool ⟨.bl (!b), H', I', rfl, q'⟩
end

section
variable {M : Model} {prog : Program} {w : World} {A : Around} {E : Value → Shared → Prop} {s : Shared} {K : PySem.W.Frag} {x b C f : Addr} {ox : Obj} {od : Option Obj}
theorem special_ne {args : List Value} {Q : Option Value → Shared → Prop} (X : K.In s.heap) (I : PySem.W.InstAt s.heap x ox C od) (hs : PySem.W.findIn K (.ref C) "__ne__" = some (some (.builtin "object.__ne__")))
    (h : wpAny M A (call (.builtin "object.__ne__") (.ref x :: args)) (fun v => Q (some v)) E s) : wpAny M A (callSpecialIfBound? (.ref x) "__ne__" args) Q E s := by
  simp only [callSpecialIfBound?, bindSpecialIfBound?]
  refine wpAny_holding (wpAny_bind (wpAny_bind (wpAny_bind (I.type.here ((PySem.W.looks_findIn X hs).here ?_)))))
  refine wpAny_bind (wpAny_askSetting (wpAny_ite ?_))
  have go : wpAny M A (call (.builtin "object.__ne__") ([.ref x] ++ args) >>= fun v => pure (some v)) Q E s :=
    wpAny_bind (wpAny_mono h (fun v s' z => wpAny_pure z) fun _ _ z => z)
  split
  · exact wpAny_bind (wpAny_of_eq (F.cmp_object.ne.bind _) (wpAny_pure (by exact go)))
  · exact wpAny_tryCatch (wpAny_bind (wpAny_of_eq (F.cmp_object.ne.bind _) (wpAny_pure (by exact go))))
/-- object.__ne__ asks the own __eq__ -/
theorem call_objNe {Q : Value → Shared → Prop} (hu : A.in1.units < cLine) (X : K.In s.heap) (I : PySem.W.InstAt s.heap x ox C od) (hm : PySem.W.mroIn K C (.type "object") = some true)
    (he : PySem.W.findIn K (.ref C) "__eq__" = some (some (.ref f))) (hf : PySem.W.isFn K (.ref f) = true)
    (h : wpAny (model prog w) A.in1 (call (.ref f) [.ref x, .ref b]) (fun v s' => ∃ k, v = .bool k ∧ Q (.bool (!k)) s') E s) :
    wpAny (model prog w) A (call (.builtin "object.__ne__") [.ref x, .ref b]) Q E s := by
  refine wpAny_call (codeAny_call_builtin F.cmp_object.ne.plain F.cmpEntry_ne (PySem.W.check_slot F.cmpKind_ne F.cmpSplit_ne (I.type.andThen (PySem.W.looks_mroIn X hm)) (F.cmpArgs_ne _ _) ?_))
  unfold Builtin.«object.__ne__»
  have e1 : slotArgs "__ne__" 1 ⟨[Value.ref x, Value.ref b], []⟩ = pure (Value.ref x, [Value.ref b]) := by rfl
  rw [e1]
  refine wpAny_bind (wpAny_pure ?_)
  refine wpAny_bind (wpAny_cRoomFor hu ?_)
  refine wpAny_bind (PySem.W.ifBound_K X I he hf (wpAny_mono h (fun v s' z => ?_) fun _ _ z => z))
  obtain ⟨k, rfl, q⟩ := z
  exact wpAny_bind (wpAny_truthy_bool (wpAny_pure q))
end

section
variable {prog : Program} {w : World} {A : Around} {E : Value → Shared → Prop} {s : Shared} {K : PySem.W.Frag} {x b C f : Addr} {ox oy : Obj} {od oe : Option Obj}
theorem rc_neOwn {Q : Value → Shared → Prop} (hu : A.units + 1 < cLine) (X : K.In s.heap) (I : PySem.W.InstAt s.heap x ox C od) (J : PySem.W.InstAt s.heap b oy C oe) (hm : PySem.W.mroIn K C (.type "object") = some true)
    (hn : PySem.W.findIn K (.ref C) "__ne__" = some (some (.builtin "object.__ne__"))) (he : PySem.W.findIn K (.ref C) "__eq__" = some (some (.ref f))) (hf : PySem.W.isFn K (.ref f) = true)
    (h : wpAny (model prog w) A.in1 (call (.ref f) [.ref x, .ref b]) (fun v s' => ∃ k, v = .bool k ∧ Q (.bool (!k)) s') E s) : wpAny (model prog w) A (richCompare .NotEq (.ref x) (.ref b)) Q E s := by
  have one : wpAny (model prog w) A (tryCompare (.ref x) (cmpInfo .NotEq).2.1 (.ref b)) (fun r s' => ∃ v, r = some v ∧ Q v s') E s := by
    unfold tryCompare
    refine wpAny_bind (special_ne X I hn (call_objNe hu X I hm he hf (wpAny_mono h (fun v s' z => ?_) fun _ _ z => z)))
    obtain ⟨k, e, q⟩ := z
    refine ⟨k, e, wpAny_pure ⟨_, rfl, q⟩⟩
  unfold richCompare
  simp only [oneThing_ref]
  refine wpAny_holding (wpAny_bind (wpAny_cRoomFor (by omega) ?_))
  refine wpAny_bind (I.type.here (wpAny_bind (J.type.here ?_)))
  split
  · rename_i q
    exact absurd q (by simp)
  · refine wpAny_bind (wpAny_pure ?_)
    simp only [Bool.false_eq_true, if_false]
    refine wpAny_bind (wpAny_mono one (fun r s' z => ?_) fun _ _ z => z)
    obtain ⟨v, rfl, q⟩ := z
    exact wpAny_pure q
theorem rc_sameObj {Q : Value → Shared → Prop} (hu : A.units + 1 < cLine) (X : K.In s.heap) (I : PySem.W.InstAt s.heap x ox C od) (hm : PySem.W.mroIn K C (.type "object") = some true)
    (he : PySem.W.findIn K (.ref C) "__eq__" = some (some (.builtin "object.__eq__"))) (q : Q (.bool true) s) : wpAny (model prog w) A (richCompare .Eq (.ref x) (.ref x)) Q E s := by
  have one : wpAny (model prog w) A (tryCompare (.ref x) (cmpInfo .Eq).2.1 (.ref x)) (fun r s' => ∃ v, r = some v ∧ Q v s') E s := by
    unfold tryCompare
    refine wpAny_bind (HN.ifBound_objEq X I he ?_)
    exact wpAny_call (codeAny_call_builtin F.cmp_object.eq.plain F.cmpEntry_eq (PySem.W.check_slot F.cmpKind_eq F.cmpSplit_eq (I.type.andThen (PySem.W.looks_mroIn X hm)) (F.cmpArgs_eq _ _) (objEq_entry_same (wpAny_pure ⟨_, rfl, q⟩))))
  unfold richCompare
  simp only [oneThing_ref]
  refine wpAny_holding (wpAny_bind (wpAny_cRoomFor (by omega) ?_))
  refine wpAny_bind (I.type.here (wpAny_bind (I.type.here ?_)))
  split
  · rename_i q
    exact absurd q (by simp)
  · refine wpAny_bind (wpAny_pure ?_)
    simp only [Bool.false_eq_true, if_false]
    refine wpAny_bind (wpAny_mono one (fun r s' z => ?_) fun _ _ z => z)
    obtain ⟨v, rfl, q⟩ := z
    exact wpAny_pure q
end
/-- what an own class with == must say -/
structure EqC (K : PySem.W.Frag) (C f : Addr) : Prop where
  hm : PySem.W.mroIn K C (.type "object") = some true
  hn : PySem.W.findIn K (.ref C) "__ne__" = some (some (.builtin "object.__ne__"))
  he : PySem.W.findIn K (.ref C) "__eq__" = some (some (.ref f))
  hf : PySem.W.isFn K (.ref f) = true
def rNeOwn (C : Addr) (sp : Sp) (E : XK) : R2 := fun x y H Q => ∃ a b dx dy fs gs, x = .ref a ∧ y = .ref b ∧ H a = some (.ins C dx fs) ∧ H b = some (.ins C dy gs) ∧ sp [.ref a, .ref b] H (fun v H' => ∃ k, v = .bl k ∧ Q (.bl (!k)) H') E
def rEqSelf (K : PySem.W.Frag) : R2 := fun x y H Q => ∃ a C dx fs, x = .ref a ∧ y = .ref a ∧ H a = some (.ins C dx fs) ∧ PySem.W.mroIn K C (.type "object") = some true ∧ PySem.W.findIn K (.ref C) "__eq__" = some (some (.builtin "object.__eq__")) ∧ Q (.bl true) H
section
variable {X : Cx} {CX : CXT} {k : Nat} {C f : Addr} {fd : FuncData} {ps : List Str} {sp : Sp} {E : XK}
theorem op_neOwn (T : EqC X.K C f) (G : FnOk X.prog X.w X.K X.mg X.base CX k f fd ps sp) (hr : Room (k + 1) X.A) (hb : Binds X.K fd ps []) (hx : Passes CX X E) : OpR X (compareOp .NotEq) (rNeOwn C sp E) := by
  intro pins s σ H x y v u Q I rx ry h
  obtain ⟨a, b, dx, dy, fs, gs, rfl, rfl, ha, hb', q⟩ := h
  obtain rfl : v = Value.ref a := rx
  obtain rfl : u = Value.ref b := ry
  obtain ⟨mA, J, _⟩ := ins_get I.hok ha
  obtain ⟨mB, L, _⟩ := ins_get I.hok hb'
  obtain ⟨od, J, _⟩ := J.look
  obtain ⟨oe, L, _⟩ := L.look
  have hl := G.len _ _ _ _ q
  refine PySem.W.cmp_ofNotEq (rc_neOwn (by have := hr.units; omega) I.kIn J L T.hm T.hn T.he T.hf ?_)
  refine wpAny_call (codeAny_mono (G.run X.A.in1 X.stack s H ⟨[.ref a, .ref b], []⟩ [.ref a, .ref b] [.ref a, .ref b] _ E hr.in1 I.env0.in1 (by
    have z := hb s [.ref a, .ref b] I.kIn (by simpa using hl)
    simpa using z) (.cons rfl (.cons rfl .nil)) q) fun r s' hq => ?_)
  cases r with
  | error e => exact hx pins σ H s e s' I hq
  | ok fl =>
    cases fl with
    | ret u =>
      obtain ⟨z, H', I', rz, k, rfl, q'⟩ := I.after hq
      obtain rfl : u = Value.bool k := rz
      exact ⟨k, rfl, .bl (!k), H', I', rfl, q'⟩
    | next => exact False.elim hq
    | brk => exact False.elim hq
    | cont => exact False.elim hq
theorem op_eqSelf (hu : X.A.units + 1 < cLine) : OpR X (compareOp .Eq) (rEqSelf X.K) := by
  intro pins s σ H x y v u Q I rx ry h
  obtain ⟨a, C, dx, fs, rfl, rfl, ha, hm, he, q⟩ := h
  obtain rfl : v = Value.ref a := rx
  obtain rfl : u = Value.ref a := ry
  obtain ⟨mA, J, _⟩ := ins_get I.hok ha
  obtain ⟨od, J, _⟩ := J.look
  exact rc_sameObj hu I.kIn J hm he (fin_bl I q rfl)
end
end Bt
set_option Elab.async false
set_option linter.all false
set_option maxRecDepth 100000
set_option maxHeartbeats 4000000
/-! Own exceptions over LookupError, ArithmeticError, ValueError: made, with fields of their own __init__. -/
namespace Bt
open PySem PySem.Spec PyProof.Rows L2
abbrev St := L2.St
/-- own classes, then the mro of a built-in base -/
def tailB (tl : List Value) : List Value → Bool
  | .ref _ :: r => tailB tl r
  | l => l == tl
structure BT (B newId initId : String) (tl : List Value) : Prop where
  fb : ExcBaseFacts B newId initId tl
  ps : ∀ self, refuseLoop self "__setattr__" tl = pure ()
  ob : tl.contains (.type "object") = true
  ht : ∃ n r, tl = .type n :: r
theorem bt_value : BT "ValueError" "ValueError.__new__" "ValueError.__init__" [.type "ValueError", .type "Exception", .type "BaseException", .type "object"] :=
  ⟨F.excBase_ValueError, F.store_ValueError.passes, by decide +kernel, ⟨_, _, rfl⟩⟩
theorem bt_lookup : BT "LookupError" "LookupError.__new__" "LookupError.__init__" [.type "LookupError", .type "Exception", .type "BaseException", .type "object"] :=
  ⟨F.excBase_LookupError, F.store_LookupError.passes, by decide +kernel, ⟨_, _, rfl⟩⟩
theorem bt_arith : BT "ArithmeticError" "ArithmeticError.__new__" "ArithmeticError.__init__" [.type "ArithmeticError", .type "Exception", .type "BaseException", .type "object"] :=
  ⟨F.excBase_ArithmeticError, F.store_ArithmeticError.passes, by decide +kernel, ⟨_, _, rfl⟩⟩
section
variable {tl : List Value}
theorem tailB_cases (l : List Value) (e : tailB tl l = true) : (∃ c r, l = .ref c :: r ∧ tailB tl r = true) ∨ l = tl := by
  cases l with
  | nil => exact .inr (beq_iff_eq.mp (show (([] : List Value) == tl) = true from e))
  | cons a r =>
    cases a with
    | ref c => exact .inl ⟨c, r, rfl, e⟩
    | _ => exact .inr (beq_iff_eq.mp e)
theorem tailB_pass {B n i : String} (T : BT B n i tl) (self : Value) : ∀ l : List Value, tailB tl l = true → refuseLoop self "__setattr__" l = pure () := by
  intro l
  induction l with
  | nil =>
    intro e
    rcases tailB_cases _ e with ⟨c, r, q, _⟩ | q
    · cases q
    · rw [q]; exact T.ps self
  | cons a r ih =>
    intro e
    rcases tailB_cases _ e with ⟨c, r', q, h⟩ | q
    · injection q with q1 q2
      subst q1 q2
      rw [refuseLoop_ref]
      exact ih h
    · rw [q]
      exact T.ps self
theorem tailB_has (X : String) : ∀ l : List Value, tailB tl l = true → l.contains (.type X) = tl.contains (.type X) := by
  intro l
  induction l with
  | nil =>
    intro e
    rcases tailB_cases _ e with ⟨c, r, q, _⟩ | q
    · cases q
    · rw [q]
  | cons a r ih =>
    intro e
    rcases tailB_cases _ e with ⟨c, r', q, h⟩ | q
    · injection q with q1 q2
      subst q1 q2
      rw [List.contains_cons, ih h]
      rfl
    · rw [q]
theorem tailB_full {B n i : String} (T : BT B n i tl) {l : List Value} (e : tailB tl l = true) : l.isEmpty = false := by
  obtain ⟨x, r, q⟩ := T.ht
  cases l with
  | nil =>
    rcases tailB_cases _ e with ⟨c, r, q2, _⟩ | q2
    · cases q2
    · rw [q] at q2; cases q2
  | cons _ _ => rfl
end
/-- what the written part says of such a class -/
structure OexT (K : PySem.W.Frag) (C : Addr) : Prop where
  cls : ∃ B newId initId tl, BT B newId initId tl ∧ ∃ nm q N bs bm sn sub ab col dd k0 k1 k2 k3 k5, K.lookup C = some (excClassObj nm q C N bs bm true sn sub ab col dd k0 k1 k2 k3 k5 newId) ∧ tailB tl bm = true
  sa : PySem.W.findIn K (.ref C) "__setattr__" = some (some (.builtin "object.__setattr__"))
  exC : PySem.W.subIn K (.ref C) (.type "BaseException") = some true
  tyC : PySem.W.typeIn K (.ref C) = some (.type "type")
  kC : PySem.W.keepIn K (.ref C) = true

section
open PySem.W PySem.Calls PySem.HandSPX Builtin Builtin.ObjectAttr
variable {prog : Program} {w : World} {A : Around} {E : Value → Shared → Prop} {R : Result → Shared → Prop} {hp : Heap} {g : Array GenState} {d : Drawn} {t : Nat} {os : OsState}
theorem osa_new {K : W.Frag} {nm : Str} {tk : Tok} {v : Value} {x C : Addr} {fv : Array Value} {cd : ClassData} {B newId initId : String} {tl : List Value} (T : BT B newId initId tl)
    (X : K.In hp) (gx : hp.get? x = some { cls := .ref C, data := .fields fv }) (hcd : W.clsIn K C = some cd) (hm : tailB tl cd.mro = true) (hh : cd.hasDict = true) (ha : W.findIn K (.ref C) nm = some none)
    (hq : ∀ h' tk' dx, (∀ b o, b ≠ x → hp.get? b = some o → h'.get? b = some o) → hp.objs.size ≤ dx → dx ≠ x → h'.get? x = some { cls := .ref C, dict := some dx, data := .fields fv } →
      h'.Ns1 dx (fun y => if y = nm then some v else none) → R (.ok (.ret .none)) ⟨h', g, d, tk', os⟩) :
    codeAny (model prog w) A (.call (.builtin "object.__setattr__") ⟨[.ref x, .str nm tk, v], []⟩) R ⟨hp, g, d, t, os⟩ := by
  have J : W.InstAt hp x { cls := .ref C, data := .fields fv } C none := ⟨gx, rfl, rfl, trivial⟩
  have so := F.store_object
  have nex := tailB_full T hm
  have obj : cd.mro.contains (.type "object") = true := (tailB_has "object" _ hm).trans T.ob
  have lsub : W.Looks (model prog w) hp (isInstance (.ref x) (.type "object")) true := J.type.andThen (W.looks_mroIn X (by
    unfold W.mroIn
    rw [hcd, Option.bind_some, if_neg (by rw [nex]; decide), obj]))
  refine codeAny_call_builtin so.slot.plain so.entry (@W.check_slot (model prog w) _ _ ⟨hp, g, d, t, os⟩ "object.__setattr__" "object" "__setattr__" (.ref x) [.str nm tk, v] [] _ so.kind so.split lsub (so.args (.ref x) (.str nm tk) v) ?_)
  have lmro : W.Looks (model prog w) hp (mroOf (.ref C)) cd.mro := (W.looks_clsIn X hcd).andThen .now
  have ltak : W.Looks (model prog w) hp (storeTaker? none) none := .now
  have lcls : W.Looks (model prog w) hp (classData C) cd := W.looks_clsIn X hcd
  rw [W.osa_eq, refuse_eq]
  refine wpAny_bind (wpAny_bind (J.type.at (wpAny_bind (lmro.at ?_))))
  rw [tailB_pass T _ _ hm]
  refine wpAny_pure (wpAny_bind (J.type.at (wpAny_bind ((W.looks_findIn X ha).at (wpAny_bind (ltak.at ?_))))))
  have xs : x ≠ hp.objs.size := Nat.ne_of_lt (Heap.lt_size gx)
  show wpAny _ _ (storeInOwnDict (.ref x) (.ref C) (.str nm tk) nm v false) _ _ _
  obtain ⟨cn, bs, mro, ns, qn, hd, sn, sb, ab, col, del⟩ := cd
  dsimp only at hh
  subst hh
  unfold storeInOwnDict ownDictForStores
  repeat (first | with_reducible refine store_in_new ?_ ?_ | with_reducible refine wpAny_loadPart_at gx ?_ | with_reducible refine lcls.at ?_ | wp_step)
  · exact ⟨_, #[], _, (Heap.get?_update_ne _ _ _ _ xs.symm).trans (Heap.get?_push_at rfl rfl), rfl, fun e he => absurd he (by simp), fun _ => rfl⟩
  · intro h' tk' hn' same
    have gx1 : (hp.push { cls := .type "dict", data := .dict #[] }).get? x = some { cls := .ref C, data := .fields fv } := Heap.get?_push_of_some _ gx
    refine hq h' tk' hp.objs.size (fun b o hb ho => ?_) (Nat.le_refl _) xs.symm ?_ hn'
    · exact (same.2 b (Nat.ne_of_lt (Heap.lt_size ho))).trans ((Heap.get?_update_ne _ _ _ _ hb).trans (Heap.get?_push_of_some _ ho))
    · exact (same.2 x xs).trans (Heap.get?_update_self _ gx1 rfl)
theorem osa_more {K : W.Frag} {nm : Str} {tk : Tok} {v : Value} {x C dx : Addr} {fv : Array Value} {cd : ClassData} {m0 : Str → Option Value} {nl : List Str} {B newId initId : String} {tl : List Value} (T : BT B newId initId tl)
    (X : K.In hp) (gx : hp.get? x = some { cls := .ref C, dict := some dx, data := .fields fv }) (hns : hp.Ns1 dx m0) (hw : Within m0 nl) (hz : nl.length ≤ 1000) (hcd : W.clsIn K C = some cd) (hm : tailB tl cd.mro = true) (hh : cd.hasDict = true)
    (ha : W.findIn K (.ref C) nm = some none)
    (hq : ∀ h' tk', (∀ b o, b ≠ dx → hp.get? b = some o → h'.get? b = some o) → h'.Ns1 dx (fun y => if y = nm then some v else m0 y) → R (.ok (.ret .none)) ⟨h', g, d, tk', os⟩) :
    codeAny (model prog w) A (.call (.builtin "object.__setattr__") ⟨[.ref x, .str nm tk, v], []⟩) R ⟨hp, g, d, t, os⟩ := by
  obtain ⟨oD, _, _, hoD, _, _⟩ := hns.count hw
  have J : W.InstAt hp x { cls := .ref C, dict := some dx, data := .fields fv } C (some oD) := ⟨gx, rfl, rfl, hoD⟩
  have so := F.store_object
  have nex := tailB_full T hm
  have obj : cd.mro.contains (.type "object") = true := (tailB_has "object" _ hm).trans T.ob
  have lsub : W.Looks (model prog w) hp (isInstance (.ref x) (.type "object")) true := J.type.andThen (W.looks_mroIn X (by
    unfold W.mroIn
    rw [hcd, Option.bind_some, if_neg (by rw [nex]; decide), obj]))
  refine codeAny_call_builtin so.slot.plain so.entry (@W.check_slot (model prog w) _ _ ⟨hp, g, d, t, os⟩ "object.__setattr__" "object" "__setattr__" (.ref x) [.str nm tk, v] [] _ so.kind so.split lsub (so.args (.ref x) (.str nm tk) v) ?_)
  have lmro : W.Looks (model prog w) hp (mroOf (.ref C)) cd.mro := (W.looks_clsIn X hcd).andThen .now
  have ltak : W.Looks (model prog w) hp (storeTaker? none) none := .now
  have lcls : W.Looks (model prog w) hp (classData C) cd := W.looks_clsIn X hcd
  rw [W.osa_eq, refuse_eq]
  refine wpAny_bind (wpAny_bind (J.type.at (wpAny_bind (lmro.at ?_))))
  rw [tailB_pass T _ _ hm]
  refine wpAny_pure (wpAny_bind (J.type.at (wpAny_bind ((W.looks_findIn X ha).at (wpAny_bind (ltak.at ?_))))))
  show wpAny _ _ (storeInOwnDict (.ref x) (.ref C) (.str nm tk) nm v false) _ _ _
  obtain ⟨cn, bs, mro, ns, qn, hd, sn, sb, ab, col, del⟩ := cd
  dsimp only at hh
  subst hh
  unfold storeInOwnDict ownDictForStores
  repeat (first | with_reducible refine PySem.OEX.store_in_old hns hw hz ?_ | with_reducible refine wpAny_loadPart_at gx ?_ | with_reducible refine lcls.at ?_ | wp_step)
  intro h' tk' hn' same
  exact hq h' tk' (fun b o hb ho => (same.2 b hb).trans ho) hn'
end

section
variable {X : Cx} {pins : List (Addr × Obj)} {σ : St} {H : Hp} {s : Shared} {a C dx : Addr} {f : Str} {y : V} {u : Value} {fs : List (Str × V)} {Q : Unit → Shared → Prop} {E : Value → Shared → Prop} {A : Around}
/-- self.f = y, where self has no dict yet -/
theorem stn_first (T : OexT X.K C) (I : Inv X pins σ H s) (e : H a = some (exo a C none)) (hno : PySem.W.findIn X.K (.ref C) f = some none) (ry : RelV y u)
    (h : ∀ dx s', H dx = none → dx ≠ a → Inv X pins σ (upd (upd H dx (exd dx [(f, y)])) a (exo a C (some dx))) s' → Q () s') : wpAny (model X.prog X.w) A (setAttr (.ref a) f u) Q E s := by
  obtain ⟨B, newId, initId, tl, BB, nm, q, N, bs, bm, sn, sub, ab, col, dd, k0, k1, k2, k3, k5, hC, hbm⟩ := T.cls
  have hcl : PySem.W.clsIn X.K C = some { name := nm, bases := bs, mro := .ref C :: bm, ns := N, qualname := q, hasDict := true, slotNames := sn, subclasses := sub, abstract := ab, collection := col, hasDel := false } := by
    unfold PySem.W.clsIn
    rw [hC] <;> rfl
  obtain ⟨t1, ho⟩ := exo_at I.hok e
  obtain ⟨hp, g, d, t, os⟩ := s
  refine PySem.W.set_plain I.kIn (ox := { cls := .ref C, dict := none, data := .fields #[.ref t1, .none, .none, .none, .bool false, .none] }) (od := none) ⟨ho, rfl, rfl, trivial⟩ T.sa ?_
  refine osa_new BB I.kIn ho hcl (show tailB tl (.ref C :: bm) = true from hbm) rfl hno (fun h' tk' dx k dn dne hx hn => ?_)
  have hnd : H dx = none := I.hok.fresh dn
  have nd : ∀ {b : Addr} {o : Obj}, hp.get? b = some o → b ≠ dx := fun {b o} q => Nat.ne_of_lt (Nat.lt_of_lt_of_le (Heap.lt_size q) dn)
  have na : ∀ {b : Addr}, H b = none → b ≠ a := fun {b} n z => by
    rw [z, e] at n
    cases n
  have U : Un X.fs [] H (upd (upd H dx (exd dx [(f, y)])) a (exo a C (some dx))) hp h' := {
    keep := fun b o q n _ _ => k b o (na n) q
    slot := fun b o q n _ _ => ⟨o.slots, k b o (na n) q⟩
    free := fun b o q n _ => by rw [upd_ne (na n), upd_ne (nd q)]; exact n
    there := fun b o q _ => by
      by_cases hb : b = a
      · exact ⟨_, by rw [hb]; exact hx⟩
      · exact ⟨o, k b o hb q⟩
    tups := fun b xs q => by rw [upd_ne (at_ne e q exo_tup), upd_ne (ne_of_none q hnd)]; exact q
    frzs := fun b o v q => by rw [upd_ne (at_ne e q exo_frz), upd_ne (ne_of_none q hnd)]; exact q
    tbls := fun b ps q => ⟨#[], by rw [upd_ne (at_ne e q exo_tbl), upd_ne (ne_of_none q hnd), q]; simp⟩ }
  refine h dx _ hnd dne (I.un (t' := tk') U fun b o q => ?_)
  by_cases hb : b = a
  · subst hb
    rw [upd_same] at q
    cases q
    exact exo_ok hx
  · rw [upd_ne hb] at q
    by_cases hd : b = dx
    · subst hd
      rw [upd_same] at q
      cases q
      exact exd_ok hn (relO_put (fs := []) ry fun g => True.intro)
    · rw [upd_ne hd] at q
      exact (I.hok b o q).stay (fun c v hc z => k c v (by
          rcases hc with hc | hc
          · rw [hc]
            exact hb
          · exact at_ne e hc exo_own) z)
        (fun c hc => by
          rw [upd_ne (at_ne e hc exo_own), upd_ne (ne_of_none hc hnd)]
          exact hc)
        (fun c xs hc => by
          rw [upd_ne (at_ne e hc exo_tup), upd_ne (ne_of_none hc hnd)]
          exact hc)
/-- self.f = y, a further field -/
theorem stn_next (T : OexT X.K C) (I : Inv X pins σ H s) (e : H a = some (exo a C (some dx))) (ed : H dx = some (exd dx fs)) (hl : fs.length ≤ 900) (hno : PySem.W.findIn X.K (.ref C) f = some none) (ry : RelV y u)
    (h : ∀ s', Inv X pins σ (upd H dx (exd dx ((f, y) :: fs))) s' → Q () s') : wpAny (model X.prog X.w) A (setAttr (.ref a) f u) Q E s := by
  obtain ⟨B, newId, initId, tl, BB, nm, q, N, bs, bm, sn, sub, ab, col, dd, k0, k1, k2, k3, k5, hC, hbm⟩ := T.cls
  have hcl : PySem.W.clsIn X.K C = some { name := nm, bases := bs, mro := .ref C :: bm, ns := N, qualname := q, hasDict := true, slotNames := sn, subclasses := sub, abstract := ab, collection := col, hasDel := false } := by
    unfold PySem.W.clsIn
    rw [hC] <;> rfl
  obtain ⟨t1, ho⟩ := exo_at I.hok e
  obtain ⟨mA, hns, rel⟩ := exd_at I.hok ed
  have hw := within_of rel
  obtain ⟨hp, g, d, t, os⟩ := s
  obtain ⟨oD, _, _, hoD, _, _⟩ := hns.count hw
  refine PySem.W.set_plain I.kIn (ox := { cls := .ref C, dict := some dx, data := .fields #[.ref t1, .none, .none, .none, .bool false, .none] }) (od := some oD) ⟨ho, rfl, rfl, hoD⟩ T.sa ?_
  refine osa_more BB I.kIn ho hns hw (by rw [List.length_map]; omega) hcl (show tailB tl (.ref C :: bm) = true from hbm) rfl hno (fun h' tk' k hn => ?_)
  have hd : ∃ o, h'.get? dx = some o := by
    obtain ⟨o, _, _, e', _⟩ := hn
    exact ⟨o, e'⟩
  exact h _ (I.write (t' := tk') (x := dx) (e := dx) (o := exd dx ((f, y) :: fs)) (by rw [ed]; exact True.intro) (.inl rfl) k hd (exd_ok hn (relO_put ry rel)))
end
/-- self.f = e, self an exception that is being made -/
def tStn (K : PySem.W.Frag) (f : Str) (to te : TE) : TS := fun D σ H => te σ H fun y H1 => to σ H1 fun x H2 => ∃ a C : Addr, x = .ref a ∧ OexT K C ∧ PySem.W.findIn K (.ref C) f = some none ∧
  ((H2 a = some (exo a C none) ∧ ∀ dx, H2 dx = none → dx ≠ a → D.nx σ (upd (upd H2 dx (exd dx [(f, y)])) a (exo a C (some dx)))) ∨
    ∃ (dx : Addr) (fs : List (Str × V)), H2 a = some (exo a C (some dx)) ∧ H2 dx = some (exd dx fs) ∧ fs.length ≤ 900 ∧ D.nx σ (upd H2 dx (exd dx ((f, y) :: fs))))
/-- C(e, ..), whose own __init__ keeps sp -/
def tMkT (C : Addr) (sp : Sp) (ta : TA) : St → Hp → XK → Prop := fun σ H Q => ta σ H fun vs H1 => vs.length ≤ 1000 ∧ ∀ a, H1 a = none → sp (.ref a :: vs) (upd H1 a (exo a C none))
  (fun v H2 => v = .non ∧ ∃ (d : Addr) (fs : List (Str × V)), H2 a = some (exo a C (some d)) ∧ H2 d = some (exd d fs) ∧ H1 d = none ∧ Q (.ref C) (some d) (upd (del H2 a) d (.xd fs))) (fun _ _ _ => False)
section
variable {X : Cx} {o e : Expr} {es : List Expr} {to te : TE} {ta : TA} {f : Str} {p p' p1 p2 pos : Pos}
theorem ps_stn (ho : PE X o to) (he : PE X e te) (hs : swapsWith e (some (.Attribute o f p')) pos.line X.env = pure false := by rfl) : PS X (.Assign [.Attribute o f p'] e pos) (tStn X.K f to te) := by
  refine ⟨fun pins s σ H D I h => ?_⟩
  refine plainObj_wpAny_Assign_Attribute (thn (he.run pins s σ H _ I h) fun v s1 h1 => ?_) hs
  obtain ⟨y, H1, I1, r1, q1⟩ := h1
  refine thn (ho.run pins s1 σ H1 _ I1 q1) fun u s2 h2 => ?_
  obtain ⟨x, H2, I2, r2, a, C, ex, T, hno, q⟩ := h2
  subst ex
  obtain rfl : u = Value.ref a := r2
  rcases q with ⟨ea, q⟩ | ⟨dx, fs, ea, ed, hl, q⟩
  · exact stn_first T I2 ea hno r1 fun dx s' n ne J => ⟨σ, _, J, q dx n ne⟩
  · exact stn_next T I2 ea ed hl hno r1 fun s' J => ⟨σ, _, J, q⟩
theorem pmk_oet {CX : CXT} {x : Str} {C fI : Addr} {k : Nat} {fd : FuncData} {ps : List Str} {sp : Sp} (T : OexT X.K C) (iC : PySem.W.findIn X.K (.ref C) "__init__" = some (some (.ref fI))) (tI : PySem.W.typeIn X.K (.ref fI) = some (.type "function"))
    (F1 : FnOk X.prog X.w X.K X.mg X.base CX k fI fd ps sp) (hr : Room (k + 1) X.A) (hb : Binds X.K fd ps []) (hx : Passes CX X (fun _ _ _ => False)) (hg : Gl X x) (hm : X.mg x = some (.ref C)) (ha : PA X (e :: es) ta)
    (hdb : (x == ("__debug__" : Str)) = false := by decide) (he : starEach (e :: es) X.env = (false, eval e X.env) :: starEach es X.env := by rfl) (hpl : (backTo pos (starEach es X.env)).any (·.1) = false := by rfl) :
    PMk X (.Call (.Name x p) (e :: es) [] pos) (tMkT C sp ta) := by
  intro pins s σ H Q I h
  obtain ⟨B, newId, initId, tl, BB, nm, q, N, bs, bm, sn, sub, ab, col, dd, k0, k1, k2, k3, k5, hC, hbm⟩ := T.cls
  refine wpAny_Call_Name_kw (ld_glob I hg hm ?_ hdb)
  refine PySem.W.callWith_K (h₀ := X.base) I.ok.mod.kin T.kC (thn (ha.run pos pins s σ H _ I h) fun us s1 hh => ?_) he hpl
  obtain ⟨vs, H1, I1, r1, hz, q1⟩ := hh
  refine ⟨I1.kIn, ?_⟩
  show wpAny _ _ (call (.ref C) us) _ _ _
  obtain ⟨hp, g, dr, tk, os⟩ := s1
  have sz : hp.objs.size ≤ hp.objs.size + 1 := Nat.le_succ _
  have hn : H1 (hp.objs.size + 1) = none := I1.hok.fresh sz
  have hq := q1 (hp.objs.size + 1) hn
  have kk : ∀ b o, hp.get? b = some o → ((hp.push (PySem.W.kdv_tup us)).push (PySem.HandSPX.excO C hp.objs.size)).get? b = some o := fun b o e =>
    Heap.get?_push_of_some _ (Heap.get?_push_of_some _ e)
  have gnew : ((hp.push (PySem.W.kdv_tup us)).push (PySem.HandSPX.excO C hp.objs.size)).get? (hp.objs.size + 1) = some (PySem.HandSPX.excO C hp.objs.size) := by heap_get
  have I2 : Inv X pins σ (upd H1 (hp.objs.size + 1) (exo (hp.objs.size + 1) C none)) ⟨(hp.push (PySem.W.kdv_tup us)).push (PySem.HandSPX.excO C hp.objs.size), g, dr, tk, os⟩ :=
    I1.laid (t' := tk) (a := hp.objs.size + 1) (o := exo (hp.objs.size + 1) C none) kk sz (exo_ok gnew)
  have r2 : Vals (V.ref (hp.objs.size + 1) :: vs) (Value.ref (hp.objs.size + 1) :: us) := .cons rfl r1
  have hl : (Value.ref (hp.objs.size + 1) :: us).length = ps.length := by
    have e := r2.length
    rw [F1.len _ _ _ _ hq] at e
    exact e.symm
  have hus : us.length ≤ sizeLine := by
    rw [← Paired.length r1, sizeLine_eq]
    omega
  have hb2 := hb _ (Value.ref (hp.objs.size + 1) :: us) I2.kIn (by rw [List.append_nil]; exact hl)
  rw [List.append_nil] at hb2
  refine wpAny_call (PySem.HandSPX.call_own BB.fb (fun Y => tailB_has Y bm hbm) (I1.kIn _ _ hC) (PySem.W.looks_findIn I1.kIn iC) (fun self => PySem.W.bind_fn I1.kIn self tI) hus
    (codeAny_mono (F1.run _ X.stack _ _ ⟨Value.ref (hp.objs.size + 1) :: us, []⟩ (Value.ref (hp.objs.size + 1) :: us) _ _ (fun _ _ _ => False) (hr.make C us []) (I2.env0.make C us []) hb2 r2 hq) fun r s' hq' => ?_))
  cases r with
  | error er => exact hx pins σ _ _ er s' I2 hq'
  | ok fl =>
    cases fl with
    | ret u =>
      obtain ⟨v, H2, os2, bare2, un2, hok2, rv, ev, d, fs, ea, ed, hd1, q2⟩ := hq'
      subst ev
      obtain ⟨h2, g2, d2, t2, os'⟩ := s'
      exact ⟨rv, mk_end (raises_own T.exC T.tyC) I1 sz kk un2 hok2 os2 bare2 ea ed hd1 q2⟩
    | next => exact False.elim hq'
    | brk => exact False.elim hq'
    | cont => exact False.elim hq'
/-- C() -/
theorem pmk_own0 {C : Addr} {bmB : List Value} {B newId initId : String} {x : Str} (F : ExcBaseFacts B newId initId bmB) (q : PySem.W.excIn X.K C bmB newId = true) (gC : X.mg x = some (.ref C)) (kC : PySem.W.keepIn X.K (.ref C) = true) (r : Raises X (.ref C)) (hg : Gl X x)
    (hdb : (x == ("__debug__" : Str)) = false := by decide) : PMk X (.Call (.Name x p) [] [] pos) (fun _ H Q => Q (.ref C) none H) := by
  intro pins s σ H Q I h
  refine wpAny_Call_Name_kw (ld_glob I hg gC ?_ hdb)
  refine PySem.W.callWith_K0 I.kIn kC ?_
  show wpAny _ _ (call (.ref C) []) _ _ _
  obtain ⟨bm, N, nm, qn, bs, hdct, sn, sub, ab, col, dd, k0, k1, k2, k3, k5, mN, hC, hN, hni, T⟩ := exc_obj I.kIn q
  refine wpAny_call_exc_subT F T hC hN hni (fun h' e hm => ?_) (by show 0 ≤ sizeLine; omega)
  exact mk_of I hm r h (I.hok.gone hm.new)
end
end Bt
set_option Elab.async false
set_option linter.all false
set_option maxRecDepth 100000
set_option maxHeartbeats 4000000
/-! A try with `except (A, B, C) as n` and `except D`; what may be done while an exception is handled. -/
namespace Bt
open PySem PySem.Spec PyProof.Rows L2 HotX L2H
/-- what flies stays so where nothing of the heap is lost -/
theorem flying_keeps {B h h' : Heap} {l : List Env} {a : Addr} {Z : Obj → Prop} (k : ∀ b o, h.get? b = some o → h'.get? b = some o) (x : PySem.HandSPX.FlyingZ B l a Z h) : PySem.HandSPX.FlyingZ B l a Z h' := by
  obtain ⟨st, n, ff, oe, vs, T, oT, ts, he, hz, hd, h1, hn, hne, hT, hdT, h3⟩ := x
  exact ⟨fun b o e => k b o (st b o e), n, Heap.FunFrames.of_keeps (fun b o e _ => ⟨o, k b o e, rfl⟩) ff, oe, vs, T, oT, ts, k _ _ he, hz, hd, h1, hn, hne, k _ _ hT, hdT, h3⟩
/-- the wish of the two clauses; every exception is caught -/
def wT3 (K : PySem.W.Frag) (c1 c2 c3 c4 : Value) (i : Nat) (ts : Addr → Value → Option Addr → TS) (ts2 : Addr → Value → Option Addr → TS) (D : Ends) : WX := fun cls d σ H =>
  ∃ b, PySem.W.exmAny K cls [c1, c2, c3] = some b ∧
    (b = true → ∀ a, H a = none → ts a cls d { nx := fun σ' H' => D.nx (σ'.set i none) H', rt := D.rt, bk := fun σ' H' => D.bk (σ'.set i none) H', ct := fun σ' H' => D.ct (σ'.set i none) H' } (σ.set i (some (.ref a))) H) ∧
    (b = false → PySem.W.exmOne K cls c4 = some true ∧ ∀ a, H a = none → ts2 a cls d D σ H)
section
variable {X : Cx} {x1 x2 x3 y n : Str} {c1 c2 c3 : Addr} {c4 : Value} {i kk : Nat} {body suite suite2 : List Stmt} {b₀ d₀ : Stmt} {np1 np2 np3 tp np pos1 pos2 pos : Pos} {tb : WX → TS} {ts ts2 : Addr → Value → Option Addr → TS}
theorem ps_try_t3 (hs : X.stack = X.env :: X.outer) (hf : X.env.frame = some X.env.locals) (hN : X.N.Nodup) (hi : X.N[i]? = some n) (hln : X.env.kindOf n = some .local)
    (g1 : Gl X x1) (m1 : X.mg x1 = some (.ref c1)) (d1 : (x1 == ("__debug__" : Str)) = false) (g2 : Gl X x2) (m2 : X.mg x2 = some (.ref c2)) (d2 : (x2 == ("__debug__" : Str)) = false) (g3 : Gl X x3) (m3 : X.mg x3 = some (.ref c3)) (d3 : (x3 == ("__debug__" : Str)) = false) (h4 : Names X y c4)
    (hb : ∀ (W : WX) (pn : List (Addr × Obj)) (xe : Value → Shared → Prop), L2N.Takes (X.tr pn xe) W → PassesOwn (model X.prog X.w) X.A X.env xe → PSs (X.tr pn xe) body (tb W))
    (hsu : ∀ (a : Addr) (oe : Obj) (cls : Value) (d : Option Addr) (pn : List (Addr × Obj)), L2N.Zn cls d oe → (∃ vs, oe.data = .fields vs) → PSs (X.suite a ((a, oe) :: pn)) (b₀ :: suite) (ts a cls d))
    (hsu2 : ∀ (a : Addr) (oe : Obj) (cls : Value) (d : Option Addr) (pn : List (Addr × Obj)), L2N.Zn cls d oe → (∃ vs, oe.data = .fields vs) → PSs (X.suite a ((a, oe) :: pn)) (d₀ :: suite2) (ts2 a cls d)) :
    PS X (.Try body [.ExceptHandler (some (.Tuple [.Name x1 np1, .Name x2 np2, .Name x3 np3] kk tp)) (some n) (b₀ :: suite) pos1, .ExceptHandler (some (.Name y np)) none (d₀ :: suite2) pos2] [] [] pos)
      (fun D σ H => tb (wT3 X.K (.ref c1) (.ref c2) (.ref c3) c4 i ts ts2 D) D σ H) := by
  refine ⟨fun pins s σ H D I h => ?_⟩
  have ok := I.ok
  have fr : X.A.frames = some (X.env :: X.outer) := by rw [ok.frames, hs]
  have loc : Loc X.env.scope n := .inl hln
  refine wpAny_Try_except ?_
  refine wpAny_mono ((hb (wT3 X.K (.ref c1) (.ref c2) (.ref c3) c4 i ts ts2 D) (X.pn ++ pins) _ (fun u s' xx => ?_) PassesOwn.looking).run [] s σ H D (I.toTry _) h) (fun f s1 hsp => ?_) (fun e s1 he => he)
  · obtain ⟨a, B, sI, pins', σ', H', cls, d, rfl, J', nb, up, sky, na, os, ag, b, hb1, hyes, hno⟩ := xx
    have J : Inv X pins σ' H' sI := J'.ofTry ok
    have sky' : Sky B (X.env :: X.outer) a (L2N.Zn cls d) X.env.locals s'.heap := by rw [← hs]; exact sky
    show wpAny (model X.prog X.w) X.A (noteFrame (.ref a) X.env) _ _ _
    refine L2N.Sky.land L2N.Zn.steady fr hf sky' fun h3 fl3 up3 => ?_
    have J3 : Inv X pins σ' H' { s' with heap := h3 } := J.landed nb fl3.1 (up.trans up3) os ag
    obtain ⟨oe3, vs3, he3, hz3, hd3⟩ := fl3.there
    have offF : ∀ {h : Heap} {o : Obj} {vs : Array Value}, h.FunFrames B (X.env :: X.outer) → h.get? a = some o → o.data = .fields vs → a ∉ frs (X.env :: X.outer) := fun {h o vs} ff e dd hm => by
      obtain ⟨_, o', e', hnf⟩ := ff.mem hm
      cases e.symm.trans e'
      exact hnf _ dd
    have nfr := offF fl3.2.2.1 he3 hd3
    have nL : a ≠ X.env.locals := fun z => nfr (List.mem_filterMap.mpr ⟨X.env, List.mem_cons_self, by rw [hf, z]⟩)
    have nF : a ∉ X.fs := fun hm => by
      obtain ⟨e, he, q⟩ := List.mem_filterMap.mp hm
      exact nfr (List.mem_filterMap.mpr ⟨e, List.mem_cons_of_mem _ he, q⟩)
    have S3 := J3.suite he3 hd3 na nL nF
    have nm : ∀ {x : Str} {c : Addr} {p : Pos} {Q : Value → Shared → Prop} {E : Value → Shared → Prop}, Gl X x → X.mg x = some (.ref c) → (x == ("__debug__" : Str)) = false → Q (.ref c) { s' with heap := h3 } →
        wpAny (model X.prog X.w) (X.A.mark (some (.ref a))) (eval (.Name x p) X.env) Q E { s' with heap := h3 } := fun {x c p Q E} g m d q => ld_glob (X := X.suite a ((a, oe3) :: (X.pn ++ pins))) S3 g m q d
    refine wpAny_handleBy_cons (codeAny_handlers_test ?_) (by intro q; cases q)
    refine Tuple_ (Calls.spliced_cons (nm g1 m1 d1 (Calls.spliced_cons (nm g2 m2 d2 (Calls.spliced_cons (nm g3 m3 d3 (Calls.spliced_nil ?_)))))))
    refine wpAny_newObj_type ?_ (by show 3 ≤ sizeLine; decide)
    have kp : ∀ b o, h3.get? b = some o → (h3.push { cls := .type "tuple", data := .seq [Value.ref c1, Value.ref c2, Value.ref c3].toArray }).get? b = some o := fun b o e => Heap.get?_push_of_some _ e
    have fl5 := flying_keeps kp fl3
    have J5 : Inv X pins σ' H' { s' with heap := h3.push { cls := .type "tuple", data := .seq [Value.ref c1, Value.ref c2, Value.ref c3].toArray } } := J3.kept (t' := s'.toks) kp
    have up5 : s'.heap.UpToSlots (h3.push { cls := .type "tuple", data := .seq [Value.ref c1, Value.ref c2, Value.ref c3].toArray }) := up3.trans (Heap.UpToSlots.of_keeps kp)
    have he5 := kp _ _ he3
    have S5 := J5.suite he5 hd3 na nL nF
    have LT : PySem.W.Looks (model X.prog X.w) (h3.push { cls := .type "tuple", data := .seq [Value.ref c1, Value.ref c2, Value.ref c3].toArray }) (typeOf (.ref a)) cls := fun A Q E s k q => wpAny_typeOf_ref (k _ _ he5) (by rw [hz3.1]; exact q)
    have LM := PySem.W.exm_tup3 (M := model X.prog X.w) J5.kIn LT (Heap.get?_push_size _ rfl) hb1
    refine LM.here ?_
    cases b with
    | true =>
      refine codeAny_handlers_suite_as ?_
      refine PySem.HandSPX.lands_againZ fl5 fun h4 fl4 up4 => ?_
      have J4 : Inv X pins σ' H' { s' with heap := h4 } := J.landed nb fl4.1 ((up.trans up5).trans up4) os ag
      obtain ⟨oe4, vs4, he4, hz4, hd4⟩ := fl4.there
      have S4 := J4.suite he4 hd4 na nL nF
      refine store_ok (X := X.suite a ((a, oe4) :: (X.pn ++ pins))) (v := .ref a) S4 hN hi loc rfl (fun s5 T5 => ?_) (.inr hln)
      refine wpAny_mono ((hsu a oe4 cls d (X.pn ++ pins) hz4 ⟨_, hd4⟩).run [] s5 _ H' _ T5 (hyes rfl a na)) (fun f s6 hsp => ?_) (fun _ _ z => False.elim z)
      have fin : ∀ {σ6 : St} {H6 : Hp} {Q : Shared → Prop}, Inv (X.suite a ((a, oe4) :: (X.pn ++ pins))) [] σ6 H6 s6 → (∀ s7, Inv X pins (σ6.set i none) H6 s7 → Q s7) →
          wpAny (model X.prog X.w) X.A (do bindName X.env n .none; unbindBehindTheSuite X.env n pos1) (fun _ s7 => Q s7) X.xe s6 := fun {σ6 H6 Q} S6 hq => gone_ok (S6.unsuite ok) hN hi hln hq
      cases f with
      | next =>
        obtain ⟨σ6, H6, S6, q6⟩ := hsp
        exact fin S6 fun s7 J7 => ⟨_, _, J7, q6⟩
      | brk =>
        obtain ⟨σ6, H6, S6, q6⟩ := hsp
        exact fin S6 fun s7 J7 => ⟨_, _, J7, q6⟩
      | cont =>
        obtain ⟨σ6, H6, S6, q6⟩ := hsp
        exact fin S6 fun s7 J7 => ⟨_, _, J7, q6⟩
      | ret u =>
        obtain ⟨v6, σ6, H6, S6, r6, q6⟩ := hsp
        exact fin S6 fun s7 J7 => ⟨_, _, _, J7, r6, q6⟩
    | false =>
      obtain ⟨hb4, hs2⟩ := hno rfl
      show wpAny _ X.A (handleBy (.ref a) X.env _) _ _ _
      refine wpAny_handleBy_cons (codeAny_handlers_test ?_) (by intro q; cases q)
      have LM2 := PySem.W.exm_one (M := model X.prog X.w) J5.kIn LT hb4
      have test : ∀ {Q : Value → Shared → Prop} {E : Value → Shared → Prop}, Q c4 { s' with heap := h3.push { cls := .type "tuple", data := .seq [Value.ref c1, Value.ref c2, Value.ref c3].toArray } } →
          wpAny (model X.prog X.w) (X.A.mark (some (.ref a))) (eval (.Name y np) X.env) Q E { s' with heap := h3.push { cls := .type "tuple", data := .seq [Value.ref c1, Value.ref c2, Value.ref c3].toArray } } := fun {Q E} q => by
        obtain ⟨hg, hdbg, hm | ⟨hm, hv, hnn⟩⟩ := h4
        · exact ld_glob (X := X.suite a ((a, oe3) :: (X.pn ++ pins))) S5 hg hm q hdbg
        · exact ld_blt (X := X.suite a ((a, oe3) :: (X.pn ++ pins))) S5 hg hm hv q hnn hdbg
      refine test (LM2.here ?_)
      refine codeAny_handlers_suite ?_
      refine PySem.HandSPX.lands_againZ fl5 fun h4 fl4 up4 => ?_
      have J4 : Inv X pins σ' H' { s' with heap := h4 } := J.landed nb fl4.1 ((up.trans up5).trans up4) os ag
      obtain ⟨oe4, vs4, he4, hz4, hd4⟩ := fl4.there
      have S4 := J4.suite he4 hd4 na nL nF
      refine wpAny_mono ((hsu2 a oe4 cls d (X.pn ++ pins) hz4 ⟨_, hd4⟩).run [] _ _ H' _ S4 (hs2 a na)) (fun f s6 hsp => ?_) (fun _ _ z => False.elim z)
      cases f with
      | next =>
        obtain ⟨σ6, H6, S6, q6⟩ := hsp
        exact ⟨_, _, S6.unsuite ok, q6⟩
      | brk =>
        obtain ⟨σ6, H6, S6, q6⟩ := hsp
        exact ⟨_, _, S6.unsuite ok, q6⟩
      | cont =>
        obtain ⟨σ6, H6, S6, q6⟩ := hsp
        exact ⟨_, _, S6.unsuite ok, q6⟩
      | ret u =>
        obtain ⟨v6, σ6, H6, S6, r6, q6⟩ := hsp
        exact ⟨_, _, _, S6.unsuite ok, r6, q6⟩
  · cases f with
    | next =>
      obtain ⟨σ', H', J', q⟩ := hsp
      exact wpAny_execs_nil ⟨σ', H', J'.ofTry ok, q⟩
    | brk =>
      obtain ⟨σ', H', J', q⟩ := hsp
      exact ⟨σ', H', J'.ofTry ok, q⟩
    | cont =>
      obtain ⟨σ', H', J', q⟩ := hsp
      exact ⟨σ', H', J'.ofTry ok, q⟩
    | ret u =>
      obtain ⟨v, σ', H', J', r, q⟩ := hsp
      exact ⟨v, σ', H', J'.ofTry ok, r, q⟩
end
end Bt
set_option Elab.async false
set_option linter.all false
set_option maxRecDepth 100000
set_option maxHeartbeats 4000000
/-! While an exception is handled: two names at once, isinstance and the fields of that exception. -/
namespace Bt
open PySem PySem.Spec PyProof.Rows L2 HotX L2H
section
variable {prog : Program} {w : World} {A : Around} {E : Value → Shared → Prop} {s : Shared}
theorem tup_end_hot {it t x1 : Addr} {i : Nat} {items} {Q : Option Value → Shared → Prop} (hot : HotAt A x1 s.heap)
    (hit : IsTupIter s.heap it t i) (ht : IsTup s.heap t items) (hx : items[i]? = none) (hne : x1 ≠ it)
    (hQ : ∀ h', (∀ b o, b ≠ it → s.heap.get? b = some o → h'.get? b = some o) → Q none { s with heap := h' }) : wpAny (model prog w) A (pyNext (.ref it)) Q E s := by
  obtain ⟨o, ho, hc, hd⟩ := id hit
  obtain ⟨ol, hol, _, nl, hdl⟩ := ht
  obtain ⟨hh, o1, vs1, h1, e1, k1⟩ := hot
  unfold pyNext
  refine wpAny_bind (wpAny_attempt (wpAny_callSpecial?_slot (name := Str.ofString "__next__") hit.typeIs slot_tupleiter_next
    (wpAny_call_entry slot_tupleiter_next hit.typeIs entry_tupleiter_next ?_ (args_tupleiter_next _))))
  show wpAny _ _ (field (.ref it) 0 >>= _) _ _ s
  refine wpAny_bind (wpAny_field ho hd (x := .ref t) rfl ?_)
  show wpAny _ _ (if (Value.ref t == Value.none) = true then _ else _) _ _ s
  rw [if_neg (show ¬ ((Value.ref t == Value.none) = true) from Bool.false_ne_true)]
  show wpAny _ _ (field (.ref it) 1 >>= _) _ _ s
  refine wpAny_bind (wpAny_field ho hd (x := .int i 0) rfl ?_)
  show wpAny _ _ (seqItems? (.ref t) >>= _) _ _ s
  refine wpAny_bind (wpAny_seqItems hol hdl ?_)
  simp only [Int.toNat_natCast, hx]
  refine wpAny_bind (wpAny_rule (wpAny_bind (wpAny_setField ho hd (by simp) ?_)))
  show wpAny _ _ (newExc (.type "StopIteration") [] >>= _) _ _ _
  refine wpAny_bind ?_
  simp only [newExc, newTuple]
  refine wpAny_bind (wpAny_newObj_type ?_ (by size_fits))
  refine wpAny_bind (m := firstArgMember _ _) (wpAny_of_eq (a := Value.none) (by first | rfl | (simp only [firstArgMember]; rfl)) ?_)
  refine wpAny_newObj_type ?_ (by size_fits)
  have g1 : (s.heap.update it (Obj.mapFields (·.setIfInBounds 0 Value.none))).get? x1 = some o1 := (Heap.get?_update_other _ _ (Ne.symm hne)).trans h1
  refine raiseNew_hot ⟨hh, o1, vs1, Heap.get?_push_of_some _ (Heap.get?_push_of_some _ g1), e1, k1⟩ (Nat.ne_of_lt (Heap.lt_size (Heap.get?_push_of_some _ g1))) (Heap.get?_push_size _ rfl) rfl (by first | (simp; done) | (simp; omega) | (simp only [Array.size_append]; simp; omega)) ?_
  refine wpAny_bind (wpAny_isInstance (T := "StopIteration") (b := true) ⟨_, Heap.get?_update_self _ (Heap.get?_push_size _ rfl) rfl, rfl⟩ isSubtype_stop ?_)
  refine wpAny_pure (hQ _ fun b o hb e => ?_)
  have g2 : (s.heap.update it (Obj.mapFields (·.setIfInBounds 0 Value.none))).get? b = some o := (Heap.get?_update_other _ _ (Ne.symm hb)).trans e
  rw [Heap.get?_update_other _ _ (Nat.ne_of_gt (Heap.lt_size (Heap.get?_push_of_some _ g2)))]
  exact Heap.get?_push_of_some _ (Heap.get?_push_of_some _ g2)
theorem unpack_hot {t x1 : Addr} {items : Array Value} {Q : List Value → Shared → Prop} (hot : HotAt A x1 s.heap) (ht : IsTup s.heap t items)
    (hQ : ∀ h', (∀ b o, s.heap.get? b = some o → h'.get? b = some o) → Q items.toList { s with heap := h' }) : wpAny (model prog w) A (unpackItems (.ref t) items.size none) Q E s := by
  have hlt : t ≠ s.heap.objs.size := by
    obtain ⟨o, ho, _⟩ := ht
    exact Nat.ne_of_lt (Heap.lt_size ho)
  obtain ⟨hh, o1, vs1, h1, e1, k1⟩ := hot
  have x1lt : x1 ≠ s.heap.objs.size := Nat.ne_of_lt (Heap.lt_size h1)
  unfold unpackItems
  refine wpAny_bind ?_
  · unfold notIterableAtAll
    refine wpAny_bind (wpAny_specialOf ht.typeIs slot_tuple_iter.lookup ?_)
    refine wpAny_pure ?_
    simp only [Bool.false_eq_true, if_false]
    refine wpAny_bind (wpAny_holding (iter_tuple ht ?_))
    refine wpAny_bind (wpAny_holding (draw_tuple hlt items.size 0 _ _ ⟨_, Heap.get?_push_size _ rfl, rfl, rfl⟩ (ht.push _) (by omega) fun h₁ hit₁ hs₁ => ?_))
    have hall : List.take items.size (List.drop 0 items.toList) = items.toList := by
      rw [List.drop_zero]
      exact List.take_of_length_le (by simp)
    rw [hall]
    rw [if_neg (by simp)]
    have ht₁ : IsTup h₁ t items := (ht.push _).extBut hs₁.extBut hlt
    have hx1 : h₁.get? x1 = some o1 := hs₁.extBut x1 o1 x1lt (Heap.get?_push_of_some _ h1)
    refine wpAny_bind (wpAny_holding (tup_end_hot (x1 := x1) ⟨hh, o1, vs1, hx1, e1, k1⟩ hit₁ ht₁ (by simp) x1lt fun h₂ he₂ => ?_))
    simp only [Option.isSome_none, Bool.false_eq_true, if_false]
    exact wpAny_pure (hQ h₂ fun b o e => he₂ b o (Nat.ne_of_lt (Heap.lt_size e)) (hs₁.extBut b o (Nat.ne_of_lt (Heap.lt_size e)) (Heap.get?_push_of_some _ e)))
end
section
variable {X : Cx}
/-- x, y = a, b while an exception is handled -/
theorem ps_parH {i j : Nat} {x y : Str} {a b : Expr} {ta : TA} {px py pt pos : Pos} {kt k2 pt2} (hc : HotC X) (hN : X.N.Nodup) (hi : X.N[i]? = some x) (hj : X.N[j]? = some y) (hij : i ≠ j)
    (hx : X.env.scope.names.lookup x = some .local) (hy : X.env.scope.names.lookup y = some .local) (ha : PA X [a, b] ta)
    (hw : swappedStores [.Tuple [.Name x px, .Name y py] kt pt] (.Tuple [a, b] k2 pt2) X.env = pure (some [x, y]))
    (hs : swapsWithSole [.Tuple [.Name x px, .Name y py] kt pt] (.Tuple [a, b] k2 pt2) pos.line X.env = pure false := by rfl) :
    PS X (.Assign [.Tuple [.Name x px, .Name y py] kt pt] (.Tuple [a, b] k2 pt2) pos) (tPar i j ta) := by
  refine ⟨fun pins s σ H D I h => ?_⟩
  rw [exec_Assign_arm]
  refine wpAny_bind (wpAny_standAt ?_)
  rw [hs]
  refine wpAny_bind (wpAny_pure ?_)
  rw [if_neg (by decide)]
  refine wpAny_bind (Tuple_ (thn (ha.run _ pins s σ H _ I h) fun us s1 h1 => ?_))
  obtain ⟨vs, H1, I1, r1, v, w, e1, q1⟩ := h1
  subst e1
  obtain ⟨u1, u2, rfl, rv, rw'⟩ : ∃ u1 u2, us = [u1, u2] ∧ RelV v u1 ∧ RelV w u2 := by
    cases r1 with
    | cons p q =>
      cases q with
      | cons p' q' =>
        cases q'
        exact ⟨_, _, rfl, p, p'⟩
  refine wpAny_newObj_type ?_ (by show 2 ≤ sizeLine; decide)
  have I2 : Inv X pins σ H1 { s1 with heap := s1.heap.push { cls := .type "tuple", data := .seq [u1, u2].toArray } } := I1.kept (t' := s1.toks) fun b o e => Heap.get?_push_of_some _ e
  rw [hw]
  refine wpAny_bind (wpAny_pure ?_)
  show wpAny (model X.prog X.w) X.A (do rule "assign.swapped-stores"; let items ← unpackItems (.ref s1.heap.objs.size) 2 none; assignInOrder [fun v => bindName X.env y v, fun v => bindName X.env x v] items.reverse; pure Flow.next) _ _ _
  obtain ⟨x1, hot⟩ := hc.at I2
  refine wpAny_bind (wpAny_rule (wpAny_bind (unpack_hot (items := #[u1, u2]) hot (IsTup.new s1.heap _) fun h' hx' => ?_)))
  have I3 := I2.kept (h' := h') (t' := s1.toks) hx'
  show wpAny _ _ (assignInOrder [fun v => bindName X.env y v, fun v => bindName X.env x v] [u2, u1] >>= fun _ => pure Flow.next) _ _ _
  refine wpAny_bind (assignInOrder_cons (wpAny_bindName (store_ok I3 hN hj (.inl hy) rw' (fun s2 I4 => ?_) (.inr hy))))
  refine assignInOrder_cons (wpAny_bindName (store_ok I4 hN hi (.inl hx) rv (fun s3 I5 => assignInOrder_nil (wpAny_pure ?_)) (.inr hx)))
  rw [List.set_comm _ _ (Ne.symm hij)] at I5
  exact ⟨_, H1, I5, q1⟩
/-- the exception that stands at a, an instance of the own class at D, its dict at dx (or none) -/
theorem pin_inst {a D : Addr} {oe : Obj} {d : Option Addr} {pins : List (Addr × Obj)} {σ : St} {H : Hp} {s : Shared} (I : Inv X pins σ H s) (hm : (a, oe) ∈ X.pn) (hz : Zc (.ref D) d oe) (hf : ∃ vs, oe.data = .fields vs)
    (hd : ∀ dx, d = some dx → ∃ fs, H dx = some (.xd fs)) : ∃ od, PySem.W.InstAt s.heap a oe D od := by
  obtain ⟨hget, _⟩ := I.pin (a, oe) (List.mem_append_left _ hm)
  obtain ⟨vs, hv⟩ := hf
  obtain ⟨oc, dd, oda, osl⟩ := oe
  obtain ⟨h1, h2⟩ := hz
  dsimp only at h1 h2 hv
  subst h1 h2 hv
  cases dd with
  | none => exact ⟨none, hget, rfl, rfl, trivial⟩
  | some dx =>
    obtain ⟨fs, e⟩ := hd dx rfl
    have hx : ObjOk X.prog X.w H s.heap dx (.xd fs) := I.hok dx _ e
    obtain ⟨mA, hns, hr⟩ := hx
    obtain ⟨od, ho, hl⟩ := lookIn_ns hns
    exact ⟨some od, hget, rfl, rfl, ho⟩
end
end Bt
set_option Elab.async false
set_option linter.all false
set_option maxRecDepth 100000
set_option maxHeartbeats 4000000
/-! A def called with the exception that is handled: its promise may speak of that object. -/
namespace Bt
open PySem PySem.Spec PyProof.Rows L2 HotX L2H
/-- as FnH; the promise knows the handled exception's object -/
structure FnHP (P : Program) (w : World) (K : PySem.W.Frag) (mg : Str → Option Value) (base : Heap) (k : Nat) (f : Addr) (fd : FuncData) (ps : List Str) (sp : Addr × Obj → Sp) : Prop where
  len : ∀ p vs H Q E, sp p vs H Q E → vs.length = ps.length
  run : ∀ (A : Around) (outer : List Env) (s : Shared) (H : Hp) (args : Args) (us : List Value) (vs : List V) (Q : VK) (E : XK) (p : Addr × Obj), RoomH k A → Hot1 A p → PinOk outer H s p → Env0 P w K mg base A outer s H → BindsTo s fd args (ps.zip us) → Vals vs us → sp p vs H Q E →
    codeAny (model P w) A (.call (.ref f) args) (CR C8.CX0 outer P w H s Q E) s
section
variable {P : Program} {w : World} {K : PySem.W.Frag} {mg : Str → Option Value} {base : Heap}
theorem fn_ofHP {k : Nat} {f : Addr} {name qual : Str} {params : Arguments} {body : List Stmt} {scope : Scope} {dV kV doc pm cdv ct oc : Value} {an od : Option Addr}
    {osl : Array (Option Value)} {N ps : List Str} {sp : Addr × Obj → Sp} (lk : K.lookup f = some ⟨oc, od, .func (PySem.W.fnOf name qual params body scope dV kV doc pm an cdv ct), osl⟩) (hcd : PySem.W.codeIn K cdv qual = true) (S : FnScope N ps scope)
    (len : ∀ p vs H Q E, sp p vs H Q E → vs.length = ps.length)
    (hbody : ∀ (A : Around) (outer : List Env) (s : Shared) (H : Hp) (vs : List V) (Q : VK) (E : XK) (p : Addr × Obj), Hot1 A p → RoomH k (A.deeper (envOfC qual scope s.heap.objs.size f cdv)) → sp p vs H Q E →
      ∃ t, PSs (cxH C8.CX0 P w K mg base N qual scope f cdv A outer s H E p) body t ∧ t { nx := fun _ H' => Q .non H', rt := Q } (L2.start N vs) H) :
    FnHP P w K mg base (k + 1) f (PySem.W.fnOf name qual params body scope dV kV doc pm an cdv ct) ps sp := by
  refine ⟨len, fun A outer s H args us vs Q E p hr hot hpin e0 hb r hsp => ?_⟩
  have hl := len _ _ _ _ _ hsp
  have inS : K.In s.heap := e0.mod.kin.keeps fun b o e => (e0.bs b o e).1
  have lim : s.heap.NoLimit := e0.mod.nolimit.keeps fun b o e => (e0.bs b o e).1
  have hk : ∀ y ∈ ps.zip us, scope.names.lookup y.1 = some .local ∨ (scope.names.lookup y.1 = some .cell ∧ ((cellsFrom (s.heap.objs.size + 1) scope.names []).lookup y.1).isSome = true) := fun ⟨n, v⟩ hy => by
    rcases S.par n (List.of_mem_zip hy).1 with q | q
    · exact .inl q
    · exact .inr ⟨q, PySem.W.cellsFrom_some _ _ _ (.inl q)⟩
  refine codeAny_call_function hr.depth (inS _ _ lk) rfl S.co S.gen rfl (PySem.W.codeRec_of inS hcd) (hb _ _ _ _ ?_)
  refine wpAny_newFunctionEnv_cells S.kind hk fun env he s1 x => ?_
  subst he
  refine ⟨lim.keeps x.toInCall.keep, codeAny_func ?_⟩
  obtain ⟨t, ht, hq⟩ := hbody A outer s H vs Q E p hot (hr.deeper _) hsp
  have I : Inv (cxH C8.CX0 P w K mg base N qual scope f cdv A outer s H E p) [] (L2.start N vs) H s1 := inv_startH S hpin e0 hl r x
  refine wpAny_mono (ht.run [] s1 (L2.start N vs) H _ I hq) (fun fl s' hs => ?_) fun e s' hs => hs
  have fin : ∀ {σ' : L2.St} {H' : Hp} {v : V} {u : Value}, Inv (cxH C8.CX0 P w K mg base N qual scope f cdv A outer s H E p) [] σ' H' s' → RelV v u → Q v H' → CE outer P w H s Q u s' :=
    fun {σ' H' v u} J rv q => ⟨v, H', J.os, J.bare, J.base, J.hok, rv, q⟩
  cases fl with
  | ret u =>
    obtain ⟨v, σ', H', J, rv, q⟩ := hs
    exact fin J rv q
  | next =>
    obtain ⟨σ', H', J, q⟩ := hs
    exact fin (v := V.non) (u := Value.none) J rfl q
  | brk =>
    obtain ⟨_, _, _, q⟩ := hs
    exact False.elim q
  | cont =>
    obtain ⟨_, _, _, q⟩ := hs
    exact False.elim q
end
section
variable {X : Cx} {k : Nat} {f : Addr} {fd : FuncData} {ps : List Str} {sp : Addr × Obj → Sp} {p : Addr × Obj}
theorem run_fnHP {pins : List (Addr × Obj)} {σ : L2.St} {H : Hp} {s : Shared} {Q : VK} {us : List Value} {vs : List V} {E : XK} (F : FnHP X.prog X.w X.K X.mg X.base k f fd ps sp) (hr : RoomH k X.A) (hot : Hot1 X.A p) (hp : p ∈ X.pn) (hb : Binds X.K fd ps [])
    (I : Inv X pins σ H s) (r : Vals vs us) (h : sp p vs H Q E) : wpAny (model X.prog X.w) X.A (call (.ref f) us) (EP X pins σ Q) X.xe s := by
  have hl : us.length = ps.length := by rw [← r.length]; exact F.len _ _ _ _ _ h
  have b := hb s us I.kIn (by rw [List.append_nil]; exact hl)
  rw [List.append_nil] at b
  have P1 := I.pin p (List.mem_append_left _ hp)
  have hpin : PinOk X.stack H s p := ⟨P1.1, P1.2.1, fun hm => (List.mem_cons.mp (I.stkSub p.1 hm)).elim P1.2.2.1 P1.2.2.2.1, P1.2.2.2.2⟩
  refine wpAny_call (codeAny_mono (F.run X.A X.stack s H ⟨us, []⟩ us vs Q E p hr hot hpin I.env0 b r h) fun r s' hq => ?_)
  cases r with
  | error e => exact False.elim hq
  | ok fl =>
    cases fl with
    | ret u => exact I.after hq
    | next => exact False.elim hq
    | brk => exact False.elim hq
    | cont => exact False.elim hq
/-- x(e, ..) -/
theorem pe_callHP {x : Str} {q pos : Pos} {e : Expr} {es : List Expr} {t : TA} {E : XK} (F : FnHP X.prog X.w X.K X.mg X.base k f fd ps sp) (hr : RoomH k X.A) (hot : Hot1 X.A p) (hp : p ∈ X.pn) (hg : Gl X x) (hm : X.mg x = some (.ref f)) (hk : PySem.W.keepIn X.K (.ref f) = true) (hb : Binds X.K fd ps [])
    (ha : PA X (e :: es) t) (hdb : (x == ("__debug__" : Str)) = false := by decide) (he : starEach (e :: es) X.env = (false, eval e X.env) :: starEach es X.env := by rfl) (hpl : (backTo pos (starEach es X.env)).any (·.1) = false := by rfl) :
    PE X (.Call (.Name x q) (e :: es) [] pos) (fun σ H Q => t σ H fun vs H1 => sp p vs H1 Q E) := by
  refine ⟨fun pins s σ H Q I h => ?_⟩
  refine wpAny_Call_Name_kw (ld_glob I hg hm ?_ hdb)
  refine PySem.W.callWith_K (h₀ := X.base) I.ok.mod.kin hk (thn (ha.run pos pins s σ H _ I h) fun us s1 hh => ?_) he hpl
  obtain ⟨vs, H1, I1, r, q⟩ := hh
  exact ⟨I1.kIn, run_fnHP F hr hot hp hb I1 r q⟩
/-- isinstance(e, c), e the exception at p -/
def rIsP (K : PySem.W.Frag) (D a : Addr) (d : Option Addr) : List V → Hp → VK → Prop := fun xs H Q => ∃ (c : V) (cv : Value) (b : Bool), xs = [.ref a, c] ∧ (∀ u, RelV c u → u = cv) ∧ PySem.W.kitOne K (.ref D) cv = some b ∧ (∀ dx, d = some dx → ∃ fs, H dx = some (.xd fs)) ∧ Q (.bl b) H
theorem call_isP {a D : Addr} {oe : Obj} {d : Option Addr} (hp : (a, oe) ∈ X.pn) (C : ExcC X.K D) (hz : Zc (.ref D) d oe) (hf : ∃ vs, oe.data = .fields vs) : CallR X (.builtin "isinstance") (rIsP X.K D a d) := by
  intro pins s σ H xs us Q I r h
  obtain ⟨c, cv, b, rfl, hcv, e, hd, q⟩ := h
  cases r with
  | cons rx rr =>
    cases rr with
    | cons rt rr =>
      cases rr
      cases rx
      have ec := hcv _ rt
      subst ec
      obtain ⟨od, J⟩ := pin_inst I hp hz hf hd
      have hcl : (PySem.W.clsIn X.K D).isSome = true := by
        have z := C.hd
        unfold PySem.W.hasDictIn at z
        cases e2 : PySem.W.clsIn X.K D with
        | none => rw [e2] at z; cases z
        | some _ => rfl
      exact PySem.W.kia_one (PySem.W.kitx_exc hcl C.hg C.hk C.hs C.ha C.hn C.ht C.hm) I.kIn J e (fun z => nomatch z) fun tk => ⟨.bl b, H, I.kept (t' := tk) fun _ _ z => z, rfl, q⟩
/-- e.f, e the exception at p -/
def tXfP (a dx : Addr) (f : Str) (te : TE) : TE := fun σ H Q => te σ H fun x H1 => x = .ref a ∧ ∃ (fs : List (Str × V)) (v : V), H1 dx = some (.xd fs) ∧ fs.lookup f = some v ∧ Q v H1
theorem pe_xfP {a C dx : Addr} {oe : Obj} {e : Expr} {te : TE} {pos : Pos} {n : Str} (hp : (a, oe) ∈ X.pn) (T : XfC X.K C) (hno : PySem.W.findIn X.K (.ref C) n = some none) (hz : Zc (.ref C) (some dx) oe) (hf : ∃ vs, oe.data = .fields vs)
    (he : PE X e te) (hb : attributeBase e n X.env (eval e X.env) = eval e X.env := by rfl) : PE X (.Attribute e n pos) (tXfP a dx n te) := by
  refine ⟨fun pins s σ H Q I h => ?_⟩
  refine attr_of hb (thn (he.run pins s σ H _ I h) fun u s1 hh => ?_)
  obtain ⟨x, H1, I1, rx, ex, fs, v, ea, l, q⟩ := hh
  subst ex
  obtain rfl : u = Value.ref a := rx
  obtain ⟨ha, _⟩ := I1.pin (a, oe) (List.mem_append_left _ hp)
  obtain ⟨vs, hd⟩ := hf
  have hx : ObjOk X.prog X.w H1 s1.heap dx (.xd fs) := I1.hok dx _ ea
  obtain ⟨mA, hns, hr⟩ := hx
  obtain ⟨od, ho, hl⟩ := lookIn_ns hns
  obtain ⟨u, hu, ru⟩ := RelO.some_of (v := v) (o := mA n) (by rw [← l]; exact hr n)
  have J : PySem.W.InstAt s1.heap a oe C (some od) := ⟨ha, hz.1, by unfold PySem.W.notCls; rw [hd] <;> rfl, by rw [hz.2]; exact ho⟩
  exact PySem.HandSPX.exc_get I1.kIn J T.ga T.gg T.exC (PySem.W.findObj_own T.hdC hno rfl (by rw [hl, hu])) (handed_of ru) ⟨v, H1, I1.tok _, ru, q⟩
end
end Bt
set_option Elab.async false
set_option linter.all false
set_option maxRecDepth 100000
set_option maxHeartbeats 4000000
/-! with, whose body may raise: the library's statement, walked. -/
namespace Bt
open PySem PySem.Spec PyProof.Rows L2 HotX L2H PySem.W
section
variable {prog : Program} {w : World} {A : Around} {E : Value → Shared → Prop} {s : Shared} {env : Env} {K : Frag} {x C fe fx : Addr} {ox : Obj} {od : Option Obj} {pos : Pos}
/-- an exception e of the body: noted, __exit__ called while it is handled, on it flies -/
def WithErr (prog : Program) (w : World) (A : Around) (E : Value → Shared → Prop) (env : Env) (x fx : Addr) (Q : Flow → Shared → Prop) (e : Value) (s : Shared) : Prop :=
  wpAny (model prog w) A (noteFrame e env) (fun _ s2 => e ≠ byPass ∧ wpAny (model prog w) A (setFlight e none) (fun _ s3 => wpAny (model prog w) A (typeOf e) (fun ty s4 => wpAny (model prog w) A (tracebackOf e) (fun tb s5 =>
    codeAny (model prog w) (A.mark (some e)) (.call (.ref fx) ⟨[.ref x, ty, e, tb], []⟩) (fun r s6 => match r with
      | .ok (.ret v) => v = .none ∧ wpAny (model prog w) A (passOn "with" e env : Sem Flow) Q E s6
      | _ => False) s5) E s4) E s3) E s2) E s
theorem kw_coreX {b : Value → Sem Unit} {bdy : Sem Flow} {Q : Flow → Shared → Prop} (X : K.In s.heap) (I : InstAt s.heap x ox C od) (he : findIn K (.ref C) "__enter__" = some (some (.ref fe))) (hfe : isFn K (.ref fe) = true) (hx : findIn K (.ref C) "__exit__" = some (some (.ref fx))) (hfx : isFn K (.ref fx) = true)
    (h : wpAny (model prog w) A (call (.ref fe) [.ref x]) (fun v s₂ => wpAny (model prog w) A (b v) (fun _ s₃ => wpAny (model prog w) A bdy (fun f s₄ => wpAny (model prog w) A (call (.ref fx) [.ref x, .none, .none, .none]) (fun _ s₅ => Q f s₅) E s₄) (WithErr prog w A E env x fx Q) s₃) (fun _ _ => False) s₂) E s) :
    wpAny (model prog w) A (withItem false pos env (pure (.ref x)) (some b) bdy) Q E s := by
  obtain ⟨cd, hcd, ae⟩ := kw_along he
  obtain ⟨cd', hcd', ax⟩ := kw_along hx
  cases hcd.symm.trans hcd'
  obtain ⟨hh, g, d, tt, os⟩ := s
  have k1 : Looks (model prog w) hh (specialOnItsLine (.ref x) "__enter__") (some (.ref fe), cd.mro) := kw_special X I hcd ae
  have k2 : Looks (model prog w) hh (specialOnItsLine (.ref x) "__exit__") (some (.ref fx), cd.mro) := kw_special X I hcd ax
  have k3 : Looks (model prog w) hh (bindSpecial (.ref fe) (.ref x)) (.ref fe, [.ref x]) := bind_fn X _ (beq_iff_eq.mp hfe)
  have k4 : Looks (model prog w) hh (bindSpecial (.ref fx) (.ref x)) (.ref fx, [.ref x]) := bind_fn X _ (beq_iff_eq.mp hfx)
  have k5 : Looks (model prog w) hh (aMethodOfAnotherBuiltinTypeStops (.ref fe) cd.mro) () := Looks.of_pure rfl
  have k6 : Looks (model prog w) hh (aMethodOfAnotherBuiltinTypeStops (.ref fx) cd.mro) () := Looks.of_pure rfl
  unfold withItem
  refine wpAny_bind (wpAny_pure ?_)
  refine wpAny_bind (wpAny_standAt ?_)
  simp only [Bool.false_eq_true, if_false]
  kw_lk
  refine wpAny_mono h (fun v s₂ h₂ => ?_) fun _ _ z => z
  kw_lk
  refine wpAny_attempt (kw_held ?_)
  show wpAny _ _ (b v >>= fun _ => bdy) _ _ _
  refine wpAny_bind (wpAny_mono h₂ (fun _ s₃ h₃ => wpAny_mono h₃ (fun f s₄ h₄ => ?_) fun e s₄ h₄ => ?_) fun _ _ z => z.elim)
  · kw_lk
    refine wpAny_mono h₄ (fun _ s₅ h₅ => ?_) fun _ _ z => z
    kw_lk
    exact h₅
  · refine wpAny_bind (wpAny_mono h₄ (fun _ s5 h5 => ?_) fun _ _ z => z)
    obtain ⟨nb, h5⟩ := h5
    refine wpAny_bind (wpAny_mono h5 (fun _ s6 h6 => ?_) fun _ _ z => z)
    refine wpAny_bind (wpAny_standAt (wpAny_holding ?_))
    refine wpAny_bind (wpAny_mono h6 (fun ty s7 h7 => ?_) fun _ _ z => z)
    refine wpAny_bind (wpAny_mono h7 (fun tb s8 h8 => ?_) fun _ _ z => z)
    refine wpAny_bind ?_
    unfold withItem.marked
    refine wpAny_bind (wpAny_run (codeAny_mono h8 fun r s9 h9 => ?_) (fun z => nb (Option.some.inj z)))
    cases r with
    | error er => exact h9.elim
    | ok f9 =>
      cases f9 with
      | next => exact h9.elim
      | brk => exact h9.elim
      | cont => exact h9.elim
      | ret v9 =>
        obtain ⟨rfl, q9⟩ := h9
        refine wpAny_pure ?_
        refine wpAny_bind (wpAny_pure ?_)
        first
          | exact q9
          | (refine wpAny_bind (wpAny_pure ?_); exact q9)
          | (simp only [Bool.false_eq_true, if_false]; exact q9)
          | (refine wpAny_bind (wpAny_pure ?_); simp only [Bool.false_eq_true, if_false]; exact q9)
end
/-- what is wished of an exception of the body: __exit__ is called with it, then Wout -/
def wWith (x : Addr) (spx : Addr × Obj → Sp) (Wout : WX) : WX := fun cls d σ H => ∃ kv : V, RelV kv cls ∧ ∀ (p : Addr × Obj) (tv : V), H p.1 = none → L2N.Zn cls d p.2 → (∃ vs, p.2.data = .fields vs) →
  spx p [.ref x, kv, .ref p.1, tv] H (fun v H2 => v = .non ∧ Wout cls d σ H2) (fun _ _ _ => False)
abbrev E00 : XK := fun _ _ _ => False
def tWith (C : Addr) (i : Nat) (spE spN : Sp) (spx : Addr × Obj → Sp) (te : TE) (tb : WX → TS) (Wout : WX) : TS := fun D σ H => te σ H fun xv H1 => ∃ (x dx : Addr) (fs : List (Str × V)), xv = .ref x ∧ H1 x = some (.ins C dx fs) ∧
  spE [.ref x] H1 (fun v H2 => tb (wWith x spx Wout) { nx := fun σ3 H3 => spN [.ref x, .non, .non, .non] H3 (fun _ H4 => D.nx σ3 H4) E00, rt := fun v H3 => spN [.ref x, .non, .non, .non] H3 (fun _ H4 => D.rt v H4) E00 } (σ.set i (some v)) H2) E00
section
variable {X : Cx} {C fe fx : Addr} {i k1 k2 k3 : Nat} {y : Str} {py pos : Pos} {ctx : Expr} {body : List Stmt} {te : TE} {tb : WX → TS} {Wout : WX} {fdE fdX : FuncData} {psE psX : List Str} {spE spN : Sp} {spx : Addr × Obj → Sp}
theorem with_exc {pins : List (Addr × Obj)} {D : Ends} {u : Value} {s' : Shared} {x : Addr} (hs : X.stack = X.env :: X.outer) (hf : X.env.frame = some X.env.locals) (hex : X.ex = []) (ok : X.Ok) (tk : L2N.Takes X Wout)
    (FX : FnHP X.prog X.w X.K X.mg X.base k3 fx fdX psX spx) (hr : Room k3 X.A) (hb : Binds X.K fdX psX []) (xx : L2N.XE (X.tr (X.pn ++ pins) (WithErr X.prog X.w X.A X.xe X.env x fx (SP X pins D))) (wWith x spx Wout) u s') :
    WithErr X.prog X.w X.A X.xe X.env x fx (SP X pins D) u s' := by
  have fr : X.A.frames = some (X.env :: X.outer) := by rw [ok.frames, hs]
  obtain ⟨a, B, sI, pins', σ', H', cls, d, rfl, J', nb, up, sky, na, os, ag, kv, rkv, hw⟩ := xx
  have J : Inv X pins σ' H' sI := J'.ofTry ok
  have sky' : Sky B (X.env :: X.outer) a (L2N.Zn cls d) X.env.locals s'.heap := by rw [← hs]; exact sky
  have fin : ∀ h1, PySem.HandSPX.HeldZ B (X.env :: X.outer) a (L2N.Zn cls d) X.env.locals h1 → s'.heap.UpToSlots h1 → (Value.ref a ≠ byPass ∧ wpAny (model X.prog X.w) X.A (setFlight (.ref a) none) (fun _ s3 => wpAny (model X.prog X.w) X.A (typeOf (.ref a)) (fun ty s4 => wpAny (model X.prog X.w) X.A (tracebackOf (.ref a)) (fun tb s5 =>
    codeAny (model X.prog X.w) (X.A.mark (some (.ref a))) (.call (.ref fx) ⟨[.ref x, ty, .ref a, tb], []⟩) (fun r s6 => match r with
      | .ok (.ret v) => v = .none ∧ wpAny (model X.prog X.w) X.A (passOn "with" (.ref a) X.env : Sem Flow) (SP X pins D) X.xe s6
      | _ => False) s5) X.xe s4) X.xe s3) X.xe { s' with heap := h1 }) := fun h1 hh1 up1 => by
    refine ⟨ref_ne_byPass a, PySem.HandSPX.landsZ hh1 fun h3 fl3 up3 => ?_⟩
    have J3 : Inv X pins σ' H' { s' with heap := h3 } := J.landed nb fl3.1 ((up.trans up1).trans up3) os ag
    obtain ⟨q1, q2, q3, oe, vs, T, oT, ts, he3, hz, hd, hv1, hnT, hTe, hT, hdT, ht3⟩ := id fl3
    have nT : H' T = none := (J.inGround nb).gone hnT
    have offF : ∀ (b : Addr) (o : Obj) (fv : Array Value), h3.get? b = some o → o.data = .fields fv → b ∉ frs (X.env :: X.outer) := fun b o fv e dd hm => by
      obtain ⟨_, o', e', hnf⟩ := q3.mem hm
      cases e.symm.trans e'
      exact hnf _ dd
    have locF : X.env.locals ∈ frs (X.env :: X.outer) := List.mem_filterMap.mpr ⟨X.env, List.mem_cons_self, hf⟩
    have fsF : ∀ b, b ∈ X.fs → b ∈ frs (X.env :: X.outer) := fun b hm => by
      obtain ⟨e, he, q⟩ := List.mem_filterMap.mp hm
      exact List.mem_filterMap.mpr ⟨e, List.mem_cons_of_mem _ he, q⟩
    have fa := offF a oe vs he3 hd
    have fT := offF T oT ts hT hdT
    have S3 : Inv (X.suite a ((a, oe) :: (T, oT) :: (X.pn ++ pins))) [] σ' H' { s' with heap := h3 } :=
      ⟨J3.ok.suite _ _, J3.os, J3.bare, J3.base, J3.loc, J3.cell, J3.free, J3.freeC, fun p hp => by
        rw [List.append_nil] at hp
        rcases List.mem_cons.mp hp with z | hp
        · rw [z]
          refine ⟨he3, na, fun z2 => fa ?_, fun z2 => fa (fsF _ z2), fun v z2 => ?_⟩
          · rw [show a = X.env.locals from z2]
            exact locF
          · have z3 : oe.data = .cell v := z2
            rw [hd] at z3
            cases z3
        · rcases List.mem_cons.mp hp with z | hp
          · rw [z]
            refine ⟨hT, nT, fun z2 => fT ?_, fun z2 => fT (fsF _ z2), fun v z2 => ?_⟩
            · rw [show T = X.env.locals from z2]
              exact locF
            · have z3 : oT.data = .cell v := z2
              rw [hdT] at z3
              cases z3
          · exact J3.pin p hp, J3.hok, J3.len⟩
    -- the class, the traceback
    refine wpAny_typeOf_ref he3 ?_
    have htb : wpAny (model X.prog X.w) X.A (tracebackOf (.ref a)) (fun tb s5 => (∃ tv : V, RelV tv tb) ∧ s5 = { s' with heap := h3 }) X.xe { s' with heap := h3 } := by
      unfold tracebackOf
      refine wpAny_bind (wpAny_field he3 hd hv1 ?_)
      have i1 : 1 < ts.size := by
        have := (Array.getElem?_eq_some_iff.mp ht3).1
        omega
      have e1 : ts[1]? = some ts[1] := Array.getElem?_eq_some_iff.mpr ⟨i1, rfl⟩
      refine wpAny_bind (wpAny_field hT hdT e1 ?_)
      split
      · exact wpAny_pure ⟨⟨.non, rfl⟩, rfl⟩
      · exact wpAny_pure ⟨⟨.ref T, rfl⟩, rfl⟩
    refine wpAny_mono htb (fun tb s5 hh => ?_) fun _ _ z => z
    obtain ⟨⟨tv, rtv⟩, rfl⟩ := hh
    have hot : Hot1 (X.suite a ((a, oe) :: (T, oT) :: (X.pn ++ pins))).A (a, oe) := ⟨rfl, vs, hd, hz.2.2 vs hd⟩
    have P1 := S3.pin (a, oe) (List.mem_append_left _ List.mem_cons_self)
    have hpin : PinOk X.stack H' { s' with heap := h3 } (a, oe) := ⟨P1.1, P1.2.1, fun hm => by rw [hs] at hm; exact fa hm, P1.2.2.2.2⟩
    have sp := hw (a, oe) tv na hz ⟨vs, hd⟩
    have rl : Vals [V.ref x, kv, V.ref a, tv] [Value.ref x, oe.cls, Value.ref a, tb] := .cons rfl (.cons (by rw [hz.1]; exact rkv) (.cons rfl (.cons rtv .nil)))
    have hl : [Value.ref x, oe.cls, Value.ref a, tb].length = psX.length := by rw [← rl.length]; exact FX.len _ _ _ _ _ sp
    have b := hb { s' with heap := h3 } [Value.ref x, oe.cls, Value.ref a, tb] S3.kIn (by rw [List.append_nil]; exact hl)
    rw [List.append_nil] at b
    refine codeAny_mono (FX.run (X.A.mark (some (.ref a))) X.stack { s' with heap := h3 } H' ⟨[Value.ref x, oe.cls, Value.ref a, tb], []⟩ [Value.ref x, oe.cls, Value.ref a, tb] _ _ _ (a, oe) (roomH_mark hr _) hot hpin S3.env0 b rl sp) fun r s6 hq => ?_
    cases r with
    | error e => exact False.elim hq
    | ok fl =>
      cases fl with
      | next => exact False.elim hq
      | brk => exact False.elim hq
      | cont => exact False.elim hq
      | ret u =>
        obtain ⟨v6, H6, S6, r6, e6, q6⟩ := S3.after hq
        subst e6
        obtain rfl : u = Value.none := r6
        refine ⟨rfl, ?_⟩
        have J6 : Inv X pins σ' H6 s6 := ⟨ok, S6.os, S6.bare, S6.base, S6.loc, S6.cell, S6.free, S6.freeC, fun p hp => S6.pin p (List.mem_append_left _ (List.mem_cons_of_mem _ (List.mem_cons_of_mem _ hp))), S6.hok, S6.len⟩
        have pa := S6.pin (a, oe) (List.mem_append_left _ List.mem_cons_self)
        have pT := S6.pin (T, oT) (List.mem_append_left _ (List.mem_cons_of_mem _ List.mem_cons_self))
        have ga : s6.heap.get? a = some oe := pa.1
        have gT : s6.heap.get? T = some oT := pT.1
        have na6 : H6 a = none := pa.2.1
        have nT6 : H6 T = none := pT.2.1
        have far : ∀ b o, sI.heap.get? b = some o → b ≠ a ∧ b ≠ T := fun b o e => by
          by_cases hb : b ∈ frs X.stack
          · rw [hs] at hb
            exact ⟨fun z => fa (by rw [← z]; exact hb), fun z => fT (by rw [← z]; exact hb)⟩
          · have q := nb b o e hb
            refine ⟨fun z => ?_, fun z => ?_⟩
            · rw [z, q2] at q
              cases q
            · rw [z, hnT] at q
              cases q
        have far0 : ∀ b o, X.s_0.heap.get? b = some o → b ≠ a ∧ b ≠ T := fun b o e => by
          obtain ⟨o', q⟩ := J.base.there b o e (by rw [hex]; simp)
          exact far b o' q
        have farP : ∀ p ∈ X.pn ++ pins, p.1 ≠ a ∧ p.1 ≠ T := fun p hp => far p.1 p.2 (J.pin p hp).1
        obtain ⟨G, g1, g2⟩ := restrict s6.heap fun b => !(decide (b = a) || decide (b = T))
        have gIn : ∀ b o, G.get? b = some o → s6.heap.get? b = some o ∧ b ≠ a ∧ b ≠ T := fun b o e => by
          cases q : (!(decide (b = a) || decide (b = T))) with
          | false =>
            rw [g2 b q] at e
            cases e
          | true =>
            rw [g1 b q] at e
            simp only [Bool.not_eq_true', Bool.or_eq_false_iff, decide_eq_false_iff_not] at q
            exact ⟨e, q.1, q.2⟩
        have gOf : ∀ b o, b ≠ a → b ≠ T → s6.heap.get? b = some o → G.get? b = some o := fun b o h1 h2 e => by
          rw [g1 b (by simp [h1, h2])]
          exact e
        have I6 : Inv X pins σ' H6 { s6 with heap := G } := J6.less (fun b o e => (gIn b o e).1) gOf ⟨oe, vs, ga, hd⟩ ⟨oT, ts, gT, hdT⟩ na6 nT6 far0 farP
        have B6in : ∀ b o, (PySem.W.hideAll G (frs X.stack)).get? b = some o → s6.heap.get? b = some o := fun b o e => (gIn b o (PySem.W.of_hideAll _ e)).1
        have Bno : ∀ b, (b = a ∨ b = T) → (PySem.W.hideAll G (frs X.stack)).get? b = none := fun b hb => by
          cases q : (PySem.W.hideAll G (frs X.stack)).get? b with
          | none => rfl
          | some o =>
            obtain ⟨_, n1, n2⟩ := gIn b o (PySem.W.of_hideAll _ q)
            rcases hb with z | z
            · exact absurd z n1
            · exact absurd z n2
        have fl6 : PySem.HandSPX.FlyingZ (PySem.W.hideAll G (frs X.stack)) (X.env :: X.outer) a (L2N.Zn cls d) s6.heap := by
          refine ⟨B6in, Bno a (.inl rfl), ?_, oe, vs, T, oT, ts, ga, hz, hd, hv1, Bno T (.inr rfl), hTe, gT, hdT, ht3⟩
          have ff := funFrames_none (B := PySem.W.hideAll G (frs X.stack)) J6.stack fun b hb => PySem.W.hideAll_none _ hb
          rw [← hs]
          exact ff
        show wpAny (model X.prog X.w) X.A (PySem.passOn "with" (.ref a) X.env) (SP X pins D) X.xe s6
        unfold PySem.passOn
        refine wpAny_bind (wpAny_field ga hd hv1 ?_)
        rw [if_neg (show ¬ ((Value.ref T == Value.none) = true) from by simp)]
        have goOn : wpAny (model X.prog X.w) X.A (setFlight (.ref a) X.env.frame) (fun _ s7 => wpAny (model X.prog X.w) X.A (throw (.ref a) : Sem Flow) (SP X pins D) X.xe s7) X.xe s6 := by
          rw [hf]
          refine PySem.HandSPX.setFlight_upZ fl6 fun h7 hh7 up7 => wpAny_throw (tk _ _ ?_)
          refine ⟨a, PySem.W.hideAll G (frs X.stack), { s6 with heap := G }, pins, σ', H6, cls, d, rfl, I6, fun b o e hb => PySem.W.hideAll_get _ e hb, ?_, .inr (.inr (by rw [← hs] at hh7; exact hh7)), na6, rfl, J6.bare, q6⟩
          exact Heap.UpToSlots.trans (Heap.UpToSlots.of_keeps fun b o e => (gIn b o e).1) up7
        first
          | exact wpAny_bind (wpAny_pure (wpAny_bind goOn))
          | exact wpAny_bind goOn
  show wpAny (model X.prog X.w) X.A (noteFrame (.ref a) X.env) _ _ _
  rcases sky' with ⟨hB, hn, hl, oe, vs, he0, hz, hd, hv1⟩ | fl | hh
  · exact PySem.PXN.look_newZ L2N.Zn.steady fr hl hf he0 hB hn hd hv1 hz fin
  · exact PySem.PXN.looks_onZ L2N.Zn.steady fr hf fl fin
  · exact PySem.HandSPX.againZ hf hh.2.2.2 (fin s'.heap hh (Heap.UpToSlots.refl _))
theorem ps_with (hs : X.stack = X.env :: X.outer) (hf : X.env.frame = some X.env.locals) (hex : X.ex = []) (tk : L2N.Takes X Wout) (hN : X.N.Nodup) (hi : X.N[i]? = some y) (hln : X.env.scope.names.lookup y = some .local)
    (he : PE X ctx te) (fE : findIn X.K (.ref C) "__enter__" = some (some (.ref fe))) (iE : isFn X.K (.ref fe) = true) (fX : findIn X.K (.ref C) "__exit__" = some (some (.ref fx))) (iX : isFn X.K (.ref fx) = true)
    (FE : FnOk X.prog X.w X.K X.mg X.base C8.CX0 k1 fe fdE psE spE) (bE : Binds X.K fdE psE []) (FN : FnOk X.prog X.w X.K X.mg X.base C8.CX0 k2 fx fdX psX spN) (bX : Binds X.K fdX psX []) {fdX2 : FuncData} {psX2 : List Str} (FX : FnHP X.prog X.w X.K X.mg X.base k3 fx fdX2 psX2 spx) (bX2 : Binds X.K fdX2 psX2 [])
    (r1 : Room k1 X.A) (r2 : Room k2 X.A) (r3 : Room k3 X.A)
    (hb : ∀ (W : WX) (pn : List (Addr × Obj)) (xe : Value → Shared → Prop), L2N.Takes (X.tr pn xe) W → PassesOwn (model X.prog X.w) X.A X.env xe → PSs (X.tr pn xe) body (tb W)) :
    PS X (.With [⟨ctx, some (.Name y py)⟩] body pos) (tWith C i spE spN spx te tb Wout) := by
  refine ⟨fun pins s σ H D I h => ?_⟩
  have ok := I.ok
  refine kw_execN (thn (he.run pins s σ H _ I h) fun u s1 hh => ?_)
  obtain ⟨xv, H1, I1, rx, x, dx, fs, rfl, hx, q⟩ := hh
  obtain rfl : u = Value.ref x := rx
  obtain ⟨mA, J, _⟩ := ins_get I1.hok hx
  obtain ⟨od, J, _⟩ := J.look
  show wpAny _ _ (withItem false _ X.env (pure (.ref x)) (some (assign (.Name y py) X.env)) (execs body X.env)) _ _ _
  refine kw_coreX I1.kIn J fE iE fX iX ?_
  refine thn (run_fn (us := [.ref x]) (vs := [.ref x]) (dvs := []) (ds := []) FE r1 bE .nil C8.pass0 I1 (.cons rfl .nil) q) fun v s2 h2 => ?_
  obtain ⟨vv, H2, I2, rv, q2⟩ := h2
  refine wpAny_assign_Name (store_ok I2 hN hi (.inl hln) rv (fun s3 I3 => ?_) (.inr hln))
  have leave : ∀ {σ4 : L2.St} {H4 : Hp} {s4 : Shared} {R : Hp → Prop} {Q : Shared → Prop}, Inv X pins σ4 H4 s4 → spN [.ref x, .non, .non, .non] H4 (fun _ H5 => R H5) E00 → (∀ H5 s5, Inv X pins σ4 H5 s5 → R H5 → Q s5) →
      wpAny (model X.prog X.w) X.A (call (.ref fx) [.ref x, .none, .none, .none]) (fun _ s5 => Q s5) X.xe s4 := fun {σ4 H4 s4 R Q} I4 sp k => by
    refine thn (run_fn (us := [.ref x, .none, .none, .none]) (vs := [.ref x, .non, .non, .non]) (dvs := []) (ds := []) FN r2 bX .nil C8.pass0 I4 (.cons rfl (.cons rfl (.cons rfl (.cons rfl .nil)))) sp) fun v5 s5 h5 => ?_
    obtain ⟨_, H5, I5, _, q5⟩ := h5
    exact k H5 s5 I5 q5
  refine wpAny_mono ((hb (wWith x spx Wout) (X.pn ++ pins) (WithErr X.prog X.w X.A X.xe X.env x fx (SP X pins D)) (fun u s' xx => with_exc hs hf hex ok tk FX r3 bX2 xx) PassesOwn.looking).run [] s3 _ H2 _ (I3.toTry _) q2) (fun f s4 hsp => ?_) (fun e s4 he => he)
  cases f with
  | next =>
    obtain ⟨σ4, H4, J4, q4⟩ := hsp
    exact leave (J4.ofTry ok) q4 fun H5 s5 I5 r5 => ⟨σ4, H5, I5, r5⟩
  | brk =>
    obtain ⟨_, _, _, q4⟩ := hsp
    exact False.elim q4
  | cont =>
    obtain ⟨_, _, _, q4⟩ := hsp
    exact False.elim q4
  | ret u4 =>
    obtain ⟨v4, σ4, H4, J4, rv4, q4⟩ := hsp
    exact leave (J4.ofTry ok) q4 fun H5 s5 I5 r5 => ⟨v4, σ4, H5, I5, rv4, r5⟩
end
end Bt
set_option Elab.async false
set_option linter.all false
set_option maxRecDepth 100000
set_option maxHeartbeats 4000000
/-! Lambdas: made in a def or in a lambda, with a parameter or none, called later; what they raise is passed on. -/
namespace Bt
open PySem PySem.Spec PyProof.Rows L2 L2H LamX PySem.W

/-! ### code objects, with their own tables -/
section
variable {M : Model} {A : Around} {E : Value → Shared → Prop} {s : Shared} {name qual : Str} {params : Arguments} {body : Expr} {scope : Scope} {env : Env} {c P : Addr} {ps : Array Value} {pos : Pos} {firstLine : Nat} {mg : Str → Option Value}
  {clos : List (Str × Addr)} {Q : Value → Shared → Prop}
theorem fun_made (hcl : closureFor scope env = pure clos) (hge0 : env.globals = mainGlobals) (hg : s.heap.Ns mainGlobals mg) (hcode : env.code = .ref c) (C : CodeHd s.heap c P) (hP : s.heap.get? P = some (tabObj ps)) (ht : TriplesOk ps.toList)
    (hnf : codeAmong pos ps.toList = none) (hgP : mainGlobals ≠ P) (hb : s.heap.BuiltinsAt mg P)
    (h : ∀ c' P' ctv h' tk, Heap.ExtBut P s.heap h' → s.heap.objs.size ≤ c' → c' < h'.objs.size → h'.CodeRec (.ref c') qual → h'.get? P = some (tabObj (ps ++ #[rawInt pos.line, rawInt pos.col, .ref c'])) →
      s.heap.objs.size ≤ P' → CodeHd h' c' P' → h'.get? P' = some (tabObj #[]) →
      Q (.ref h'.objs.size) { s with heap := h'.push (kla_obj name qual params body scope clos ((mg "__name__").getD .none) c' ctv), toks := tk }) :
    wpAny M A (makeFunction name qual params (.expr body) scope env [] [] [] pos firstLine) Q E s := by
  rw [makeFunction_eq]
  simp only [List.zip_nil_right, List.filterMap_nil, List.isEmpty_nil, if_true, pure_bind]
  obtain ⟨bm, ob, hbm, hne0, _, hneP, hbo, hcls, hdict, hdata⟩ := hb
  unfold makeTail
  rw [hcl, hge0]
  refine wpAny_bind (wpAny_pure ?_)
  cases clos with
  | nil =>
    simp only [List.isEmpty_nil, if_true]
    refine wpAny_bind (wpAny_pure ?_)
    refine wpAny_bind (wpAny_functionCodeX hcode (C.code hP ht) (C.tab hP) hnf fun c' h' tk hx hge hlt _ hrec htb hn => ?_)
    obtain ⟨P', z1, z2, z3⟩ := hn
    have hg' := hg.extBut hx hgP
    refine wpAny_bind (wpAny_builtinsFor hg' hbm hne0 (hx _ _ hneP hbo) hcls hdict hdata ?_)
    refine wpAny_bind (wpAny_nsGet hg' ?_)
    exact wpAny_bind (wpAny_pure (wpAny_newObj_type (h c' P' .none h' tk hx hge hlt hrec htb.2 z1 (.of z2 z3) z3.2) (by size_fits)))
  | cons q r =>
    simp only [List.isEmpty_cons, Bool.false_eq_true, if_false]
    refine wpAny_bind (wpAny_newTextTuple ?_)
    refine wpAny_bind (wpAny_functionCodeX hcode ((C.keeps fun b o e => Heap.get?_push_of_some _ e).code (Heap.get?_push_of_some _ hP) ht) ((C.keeps fun b o e => Heap.get?_push_of_some _ e).tab (Heap.get?_push_of_some _ hP)) hnf fun c' h' tk hx hge hlt _ hrec htb hn => ?_)
    obtain ⟨P', z1, z2, z3⟩ := hn
    have hg' := (hg.push _).extBut hx hgP
    have hx' : Heap.ExtBut P s.heap h' := fun b o hb' e => hx b o hb' (Heap.get?_push_of_some _ e)
    have le1 : ∀ {n : Nat} {oT : Obj}, (s.heap.push oT).objs.size ≤ n → s.heap.objs.size ≤ n := fun {n oT} z => Nat.le_trans (by rw [Heap.size_push]; omega) z
    refine wpAny_bind (wpAny_builtinsFor hg' hbm hne0 (hx' _ _ hneP hbo) hcls hdict hdata ?_)
    refine wpAny_bind (wpAny_nsGet hg' ?_)
    exact wpAny_bind (wpAny_pure (wpAny_newObj_type (h c' P' _ h' tk hx' (le1 hge) hlt hrec htb.2 (le1 z1) (.of z2 z3) z3.2) (by size_fits)))
end
/-- a code object whose name is q, whose own table stands at P -/
def CodeP (c : Addr) (q : Str) (P : Addr) : HO := .ext fun h => (∃ (oc : Obj) (vs : Array Value) (t : Tok), h.get? c = some oc ∧ oc.data = .fields vs ∧ vs[1]? = some (.str q t)) ∧ ∃ (o : Obj) (vs : Array Value) (file : Str) (tf : Tok) (flags : Int) (tg : Tok) (inF : Bool) (text : Int) (tt : Tok),
  h.get? c = some o ∧ o.cls = .type "code" ∧ o.data = .fields vs ∧ vs[11]? = some (.ref P) ∧ vs.getD 11 .none = .ref P ∧ vs.getD 18 .none = .str file tf ∧ vs.getD 7 .none = .int flags tg ∧ vs.getD 9 .none = .bool inF ∧ vs.getD 10 .none = .int text tt ∧ c ≠ P
theorem codeP_head {c P : Addr} {q : Str} {Pr : Program} {w : World} {H : Hp} {h : Heap} (x : ObjOk Pr w H h c (CodeP c q P)) : CodeHd h c P := by
  have x' : ObjOk Pr w H h c (.ext _) := x
  exact x'.1.2
theorem codeP_rec {c P : Addr} {q : Str} {Pr : Program} {w : World} {H : Hp} {h : Heap} (x : ObjOk Pr w H h c (CodeP c q P)) : h.CodeRec (.ref c) q := by
  have x' : ObjOk Pr w H h c (.ext _) := x
  obtain ⟨oc, vs, t, e1, e2, e3⟩ := x'.1.1
  exact ⟨c, oc, vs, t, rfl, e1, e2, e3⟩
theorem codeP_ok {c P : Addr} {q : Str} {Pr : Program} {w : World} {H : Hp} {h : Heap} (a : h.CodeRec (.ref c) q) (b : CodeHd h c P) : ObjOk Pr w H h c (CodeP c q P) := by
  obtain ⟨c2, oc, vs, t, e0, e1, e2, e3⟩ := a
  cases e0
  refine ⟨⟨⟨oc, vs, t, e1, e2, e3⟩, b⟩, ⟨oc, e1⟩, fun h1 h2 z st => ?_⟩
  obtain ⟨⟨oc, vs, t, a1, a2, a3⟩, o, vs', file, tf, flags, tg, inF, text, tt, b1, b2⟩ := z
  exact ⟨⟨oc, vs, t, st _ a1, a2, a3⟩, o, vs', file, tf, flags, tg, inF, text, tt, st _ b1, b2⟩
theorem codeP_tbl {c P : Addr} {q : Str} (ps : Array Value) : CodeP c q P ≠ .tbl ps := fun z => by
  unfold CodeP at z
  cases z
theorem codeP_tup {c P : Addr} {q : Str} (ps : List V) : CodeP c q P ≠ .tup ps := fun z => by
  unfold CodeP at z
  cases z

/-! ### the heap's tables -/
/-- the fixed tables (of the defs that make lambdas), the names of their lambdas' code -/
structure TC where
  P1 : Addr
  P2 : Addr
  q1 : Str
  q2 : Str
  q3 : Str
/-- a code object of the second table: its name is q2, its own table holds code of the name q3 -/
def CodeN (T : TC) (H : Hp) (c : Addr) : Prop := ∃ P', P' ≠ T.P1 ∧ P' ≠ T.P2 ∧ H c = some (CodeP c T.q2 P') ∧ TabS H P' T.q3
def Tab2 (T : TC) (H : Hp) : Prop := ∃ ps : Array Value, H T.P2 = some (.tbl ps) ∧ TriplesOk ps.toList ∧ ∀ (pos : Pos) (cv : Value), codeAmong pos ps.toList = some cv → ∃ c, cv = .ref c ∧ CodeN T H c
structure TOk (T : TC) (H : Hp) : Prop where
  ne : T.P1 ≠ T.P2
  t1 : TabS H T.P1 T.q1
  t2 : Tab2 T H
/-- tables, and what stands as itself -/
def isT : HO → Bool
  | .tbl _ => true
  | .ext _ => true
  | _ => false
/-- tables and code stay -/
def KT (H H' : Hp) : Prop := ∀ b o, H b = some o → isT o = true → H' b = some o
theorem KT.of {H H' : Hp} (e : ∀ b o, H b = some o → H' b = some o) : KT H H' := fun b o h _ => e b o h
theorem KT.trans {H H1 H2 : Hp} (a : KT H H1) (b : KT H1 H2) : KT H H2 := fun c o h n => b c o (a c o h n) n
theorem KT.tabS {H H' : Hp} {P : Addr} {q : Str} (k : KT H H') (t : TabS H P q) : TabS H' P q := by
  obtain ⟨ps, h1, h2, h3⟩ := t
  refine ⟨ps, k _ _ h1 rfl, h2, fun pos cv hc => ?_⟩
  obtain ⟨c, e1, e2⟩ := h3 pos cv hc
  exact ⟨c, e1, k _ _ e2 rfl⟩
theorem KT.codeN {T : TC} {H H' : Hp} {c : Addr} (k : KT H H') (t : CodeN T H c) : CodeN T H' c := by
  obtain ⟨P', n1, n2, e, t⟩ := t
  exact ⟨P', n1, n2, k _ _ e rfl, k.tabS t⟩
theorem KT.tOk {T : TC} {H H' : Hp} (k : KT H H') (t : TOk T H) : TOk T H' := by
  refine ⟨t.ne, k.tabS t.t1, ?_⟩
  obtain ⟨ps, h1, h2, h3⟩ := t.t2
  refine ⟨ps, k _ _ h1 rfl, h2, fun pos cv hc => ?_⟩
  obtain ⟨c, e1, e2⟩ := h3 pos cv hc
  exact ⟨c, e1, k.codeN e2⟩

section
variable {X : Cx} {pins : List (Addr × Obj)} {σ : L2.St} {H : Hp} {s : Shared}
/-- the table at P is written, the code object at c and its own table at P' are new, known from now on -/
theorem inv_code {P c P' : Addr} {q : Str} {ps more : Array Value} {h' : Heap} {t' : Nat} (I : Inv X pins σ H s) (hP : H P = some (.tbl ps)) (k : ∀ b o, b ≠ P → s.heap.get? b = some o → h'.get? b = some o)
    (hm : h'.get? P = some { cls := .none, data := .fields (ps ++ more) }) (hc : s.heap.objs.size ≤ c) (hp : s.heap.objs.size ≤ P') (a1 : h'.CodeRec (.ref c) q) (a2 : CodeHd h' c P') (a3 : h'.get? P' = some (tabObj #[])) :
    Inv X pins σ (upd (upd (upd H P (.tbl (ps ++ more))) P' (.tbl #[])) c (CodeP c q P')) { s with heap := h', toks := t' } := by
  have nC : H c = none := I.hok.fresh hc
  have nQ : H P' = none := I.hok.fresh hp
  have cP : c ≠ P' := by
    obtain ⟨_, _, _, _, _, _, _, _, _, _, _, _, _, _, _, _, _, _, n⟩ := a2
    exact n
  have nPc : P ≠ c := ne_of_none hP nC
  have nPQ : P ≠ P' := ne_of_none hP nQ
  have off : ∀ b, b ≠ P → b ≠ c → b ≠ P' → upd (upd (upd H P (.tbl (ps ++ more))) P' (.tbl #[])) c (CodeP c q P') b = H b := fun b h1 h2 h3 => by rw [upd_ne h2, upd_ne h3, upd_ne h1]
  have onP : upd (upd (upd H P (.tbl (ps ++ more))) P' (.tbl #[])) c (CodeP c q P') P = some (.tbl (ps ++ more)) := by rw [upd_ne nPc, upd_ne nPQ, upd_same]
  have nP : ∀ b u, H b = some u → (∀ q, u ≠ .tbl q) → b ≠ P := fun b u e q z => by
    rw [z, hP] at e
    exact q ps (Option.some.inj e).symm
  have nN : ∀ b, H b = none → b ≠ P := fun b e z => by
    rw [z, hP] at e
    cases e
  have ltc : ∀ b o, s.heap.get? b = some o → b ≠ c ∧ b ≠ P' := fun b o e => ⟨Nat.ne_of_lt (Nat.lt_of_lt_of_le (Heap.lt_size e) hc), Nat.ne_of_lt (Nat.lt_of_lt_of_le (Heap.lt_size e) hp)⟩
  have sm : ∀ b u, H b = some u → b ≠ c ∧ b ≠ P' := fun b u e => ⟨ne_of_none e nC, ne_of_none e nQ⟩
  refine I.step (g' := s.gens) (d' := s.drawn) (ch := []) (fun b hb => absurd hb (by simp)) (fun b o _ _ _ e n => k b o (nN b n) e) (fun b o _ _ _ e n => ⟨o.slots, k b o (nN b n) e⟩)
    (fun b o _ e n => by rw [off b (nN b n) (ltc b o e).1 (ltc b o e).2]; exact n) (fun b o _ e => ?_) (fun b xs e => ?_) (fun b o u e => ?_) (fun b qs e => ?_) (fun m hn => ?_) (fun b u e => ?_) I.bare
  · by_cases hb : b = P
    · rw [hb]
      exact ⟨_, hm⟩
    · exact ⟨o, k b o hb e⟩
  · rw [off b (nP b _ e (fun q z => by cases z)) (sm b _ e).1 (sm b _ e).2]
    exact e
  · rw [off b (nP b _ e (fun q z => by cases z)) (sm b _ e).1 (sm b _ e).2]
    exact e
  · by_cases hb : b = P
    · rw [hb, hP] at e
      cases e
      rw [hb, onP]
      exact ⟨more, rfl⟩
    · rw [off b hb (sm b _ e).1 (sm b _ e).2, e]
      exact ⟨#[], by simp⟩
  · obtain ⟨ob, es, ep, ho, r⟩ := hn
    exact ⟨ob, es, ep, k _ ob (nN _ I.free) ho, r⟩
  · by_cases hb : b = c
    · rw [hb, upd_same] at e
      cases e
      rw [hb]
      exact codeP_ok a1 a2
    · by_cases hb3 : b = P'
      · rw [hb3, upd_ne (Ne.symm cP), upd_same] at e
        cases e
        rw [hb3]
        exact a3
      · by_cases hb2 : b = P
        · rw [hb2, onP] at e
          cases e
          rw [hb2]
          exact hm
        · rw [off b hb2 hb hb3] at e
          refine (I.hok b u e).stay (fun d v hd q => k d v ?_ q) (fun d q => ?_) fun d xs q => ?_
          · rcases hd with z | z
            · rw [z]
              exact hb2
            · exact nP d _ z (fun q z => by cases z)
          · rw [off d (nP d _ q (fun q z => by cases z)) (sm d _ q).1 (sm d _ q).2]
            exact q
          · rw [off d (nP d _ q (fun q z => by cases z)) (sm d _ q).1 (sm d _ q).2]
            exact q
end

/-! ### what stays true of the tables -/
/-- all but the table at P stays -/
def ButP (P : Addr) (H H' : Hp) : Prop := ∀ b o, H b = some o → b ≠ P → H' b = some o
theorem ButP.tabS {P R : Addr} {q : Str} {H H' : Hp} (k : ButP P H H') (t : TabS H R q) (n : R ≠ P) (hP : ∃ ps, H P = some (.tbl ps)) : TabS H' R q := by
  obtain ⟨ps, h1, h2, h3⟩ := t
  obtain ⟨pp, hP⟩ := hP
  refine ⟨ps, k _ _ h1 n, h2, fun pos cv hc => ?_⟩
  obtain ⟨c, e1, e2⟩ := h3 pos cv hc
  refine ⟨c, e1, k _ _ e2 fun z => ?_⟩
  rw [z, hP] at e2
  exact codeO_ne _ (Option.some.inj e2).symm
theorem tOk_1 {T : TC} {H H' : Hp} (t : TOk T H) (k : ButP T.P1 H H') (n : TabS H' T.P1 T.q1) : TOk T H' := by
  have e1 : ∃ ps, H T.P1 = some (.tbl ps) := by
    obtain ⟨ps, h, _⟩ := t.t1
    exact ⟨ps, h⟩
  refine ⟨t.ne, n, ?_⟩
  obtain ⟨ps, h1, h2, h3⟩ := t.t2
  refine ⟨ps, k _ _ h1 (Ne.symm t.ne), h2, fun pos cv hc => ?_⟩
  obtain ⟨c, z1, P', n1, n2, e, tb⟩ := h3 pos cv hc
  refine ⟨c, z1, P', n1, n2, k _ _ e fun z => ?_, k.tabS tb n1 e1⟩
  obtain ⟨pp, e1⟩ := e1
  rw [z, e1] at e
  exact codeP_tbl _ (Option.some.inj e).symm
theorem codeN_3 {T : TC} {H H' : Hp} {c P : Addr} (k : ButP P H H') (hP : TabS H P T.q3) (n : TabS H' P T.q3) (t : CodeN T H c) : CodeN T H' c := by
  have e1 : ∃ ps, H P = some (.tbl ps) := by
    obtain ⟨ps, h, _⟩ := hP
    exact ⟨ps, h⟩
  obtain ⟨P2, n1, n2, e, tb⟩ := t
  refine ⟨P2, n1, n2, k _ _ e fun z => ?_, ?_⟩
  · obtain ⟨pp, e1⟩ := e1
    rw [z, e1] at e
    exact codeP_tbl _ (Option.some.inj e).symm
  · by_cases z : P2 = P
    · rw [z]
      exact n
    · exact k.tabS tb z e1
theorem tOk_3 {T : TC} {H H' : Hp} {P : Addr} (t : TOk T H) (k : ButP P H H') (n1 : P ≠ T.P1) (n2 : P ≠ T.P2) (hP : TabS H P T.q3) (n : TabS H' P T.q3) : TOk T H' := by
  have e1 : ∃ ps, H P = some (.tbl ps) := by
    obtain ⟨ps, h, _⟩ := hP
    exact ⟨ps, h⟩
  refine ⟨t.ne, k.tabS t.t1 (Ne.symm n1) e1, ?_⟩
  obtain ⟨ps, h1, h2, h3⟩ := t.t2
  refine ⟨ps, k _ _ h1 (Ne.symm n2), h2, fun pos cv hc => ?_⟩
  obtain ⟨c, z1, z2⟩ := h3 pos cv hc
  exact ⟨c, z1, codeN_3 k hP n z2⟩

/-! ### making -/
section
variable {X : Cx} {pins : List (Addr × Obj)} {σ : L2.St} {H : Hp} {s : Shared}
/-- the function object of a lambda -/
def FnObj (X : Cx) (params : Arguments) (body : Expr) (scope : Scope) (f c' : Addr) (s : Shared) : Prop := ∃ pm ctv, s.heap.get? f = some (kla_obj "<lambda>" (X.env.qual ++ "<lambda>") params body scope (cloFrom X.env.cells scope.names []) pm c' ctv)
theorem off_stack (I : Inv X pins σ H s) {f : Addr} (hf : s.heap.objs.size ≤ f) : f ∉ frs X.stack := fun z => by
  rcases List.mem_cons.mp (I.stkSub _ z) with e | e
  · have h1 := I.lt
    rw [← e] at h1
    exact Nat.lt_irrefl _ (Nat.lt_of_lt_of_le h1 hf)
  · exact I.nofs hf e
/-- a lambda in which none is made; the maker's code is at c, its table at P -/
theorem lam_leaf {c P : Addr} {params : Arguments} {body : Expr} {scope : Scope} {pos : Pos} {E : Value → Shared → Prop} {Q : Value → Shared → Prop} (I : Inv X pins σ H s) (hC : CodeHd s.heap c P) (hcode : X.env.code = .ref c) (gP : mainGlobals ≠ P) (bP : s.heap.BuiltinsAt X.mg P)
    (hT : TabS H P (X.env.qual ++ "<lambda>")) (hdef : defaultsOf params X.env = ([], [])) (hfree : ∀ y ∈ scope.names, y.2 = .free → ∃ c, X.env.cells.lookup y.1 = some c)
    (h : ∀ (f c' : Addr) (H1 : Hp) (s' : Shared), Inv X pins σ H1 s' → ButP P H H1 → TabS H1 P (X.env.qual ++ "<lambda>") → FnObj X params body scope f c' s' → H1 f = none → f ∉ frs X.stack → H1 c' = some (CodeO c' (X.env.qual ++ "<lambda>")) → Q (.ref f) s') :
    wpAny (model X.prog X.w) X.A (eval (.Lambda params body scope pos) X.env) Q E s := by
  obtain ⟨ps, hP, ht, ha⟩ := hT
  refine kla_eval hdef ?_
  have hP' : s.heap.get? P = some { cls := .none, data := .fields ps } := I.hok P _ hP
  cases hc : codeAmong pos ps.toList with
  | none =>
    refine kla_makeFunction (mg := X.mg) (c := c) (P := P) (ps := ps) (closure_ok hfree) I.ok.glob (I.mod.glob.keeps I.bk) hcode hC hP' ht hc gP bP fun c' ctv h' tk hx hge hlt hrec htb => ?_
    obtain ⟨c2, oc, vs, t, e2, hoc, hd, hv⟩ := hrec
    cases e2
    have hsz : s.heap.objs.size ≤ h'.objs.size := Nat.le_trans hge (Nat.le_of_lt hlt)
    have nC : H c' = none := I.hok.fresh hge
    have I1 := inv_table (t' := tk) (more := #[rawInt pos.line, rawInt pos.col, .ref c']) (h' := h'.push (kla_obj "<lambda>" (X.env.qual ++ "<lambda>") params body scope (cloFrom X.env.cells scope.names []) ((X.mg "__name__").getD .none) c' ctv)) I hP
      (fun b o hb e => Heap.get?_push_of_some _ (hx b o hb e)) (Heap.get?_push_of_some _ htb) hge ⟨oc, vs, t, Heap.get?_push_of_some _ hoc, hd, hv⟩
    have hE : ButP P H (upd (upd H P (.tbl (ps ++ #[rawInt pos.line, rawInt pos.col, .ref c']))) c' (CodeO c' (X.env.qual ++ "<lambda>"))) := fun b o e n => by
      rw [upd_ne (ne_of_none e nC), upd_ne n]
      exact e
    have eL : (ps ++ #[rawInt pos.line, rawInt pos.col, .ref c']).toList = ps.toList ++ [rawInt pos.line, rawInt pos.col, .ref c'] := by simp
    have nCP : c' ≠ P := fun z => by
      rw [z, hP] at nC
      cases nC
    refine h h'.objs.size c' _ _ I1 hE ⟨_, by rw [upd_ne (Ne.symm nCP), upd_same], by rw [eL]; exact PySem.TriplesOk_snoc _ _ _ _ ht, fun p' cv hcv => ?_⟩ ⟨_, _, Heap.get?_push_size _ rfl⟩ ?_ (off_stack I hsz) upd_same
    · rw [eL] at hcv
      rcases among_app _ ht hcv with z | z
      · obtain ⟨c0, e1, e2⟩ := ha p' cv z
        refine ⟨c0, e1, hE _ _ e2 fun z => ?_⟩
        rw [z, hP] at e2
        exact codeO_ne _ (Option.some.inj e2).symm
      · exact ⟨c', z, upd_same⟩
    · have n1 : h'.objs.size ≠ c' := Nat.ne_of_gt hlt
      have n2 : h'.objs.size ≠ P := Nat.ne_of_gt (Nat.lt_of_lt_of_le (Heap.lt_size hP') hsz)
      rw [upd_ne n1, upd_ne n2]
      exact I.hok.fresh hsz
  | some cv =>
    obtain ⟨c', e, hco⟩ := ha pos cv hc
    subst e
    refine kla_makeFunctionHit (mg := X.mg) (c := c) (P := P) (ps := ps) (closure_ok hfree) I.ok.glob (I.mod.glob.keeps I.bk) hcode hC hP' ht hc bP fun ctv h' tk hx hsz => ?_
    have I1 : Inv X pins σ H { s with heap := h'.push (kla_obj "<lambda>" (X.env.qual ++ "<lambda>") params body scope (cloFrom X.env.cells scope.names []) ((X.mg "__name__").getD .none) c' ctv), toks := tk } := I.kept fun b o e => Heap.get?_push_of_some _ (hx b o e)
    exact h h'.objs.size c' H _ I1 (fun _ _ e _ => e) ⟨ps, hP, ht, ha⟩ ⟨_, _, Heap.get?_push_size _ rfl⟩ (I.hok.fresh hsz) (off_stack I hsz) hco
/-- a lambda in which another is made; the maker is the def whose table is T.P2 -/
theorem lam_nest {T : TC} {c : Addr} {params : Arguments} {body : Expr} {scope : Scope} {pos : Pos} {E : Value → Shared → Prop} {Q : Value → Shared → Prop} (I : Inv X pins σ H s) (hC : CodeHd s.heap c T.P2) (hcode : X.env.code = .ref c) (gP : mainGlobals ≠ T.P2) (bP : s.heap.BuiltinsAt X.mg T.P2)
    (hT : TOk T H) (eq : X.env.qual ++ "<lambda>" = T.q2) (hdef : defaultsOf params X.env = ([], [])) (hfree : ∀ y ∈ scope.names, y.2 = .free → ∃ c, X.env.cells.lookup y.1 = some c)
    (h : ∀ (f c' : Addr) (H1 : Hp) (s' : Shared), Inv X pins σ H1 s' → ButP T.P2 H H1 → TOk T H1 → FnObj X params body scope f c' s' → H1 f = none → f ∉ frs X.stack → CodeN T H1 c' → Q (.ref f) s') :
    wpAny (model X.prog X.w) X.A (eval (.Lambda params body scope pos) X.env) Q E s := by
  obtain ⟨ps, hP, ht, ha⟩ := hT.t2
  refine kla_eval hdef ?_
  have hP' : s.heap.get? T.P2 = some { cls := .none, data := .fields ps } := I.hok T.P2 _ hP
  cases hc : codeAmong pos ps.toList with
  | none =>
    refine fun_made (mg := X.mg) (c := c) (P := T.P2) (ps := ps) (closure_ok hfree) I.ok.glob (I.mod.glob.keeps I.bk) hcode hC hP' ht hc gP bP fun c' P' ctv h' tk hx hge hlt hrec htb hpe hcd hpt => ?_
    have hsz : s.heap.objs.size ≤ h'.objs.size := Nat.le_trans hge (Nat.le_of_lt hlt)
    have nC : H c' = none := I.hok.fresh hge
    have nQ : H P' = none := I.hok.fresh hpe
    have cP : c' ≠ P' := by
      obtain ⟨_, _, _, _, _, _, _, _, _, _, _, _, _, _, _, _, _, _, n⟩ := hcd
      exact n
    have kk : ∀ b o, h'.get? b = some o → (h'.push (kla_obj "<lambda>" (X.env.qual ++ "<lambda>") params body scope (cloFrom X.env.cells scope.names []) ((X.mg "__name__").getD .none) c' ctv)).get? b = some o := fun b o e => Heap.get?_push_of_some _ e
    have hrec' : (h'.push (kla_obj "<lambda>" (X.env.qual ++ "<lambda>") params body scope (cloFrom X.env.cells scope.names []) ((X.mg "__name__").getD .none) c' ctv)).CodeRec (.ref c') T.q2 := by
      obtain ⟨c2, oc, vs, t, e2, hoc, hd, hv⟩ := hrec
      rw [eq] at hv
      exact ⟨c2, oc, vs, t, e2, kk _ _ hoc, hd, hv⟩
    have I1 := inv_code (t' := tk) (more := #[rawInt pos.line, rawInt pos.col, .ref c']) I hP (fun b o hb e => kk _ _ (hx b o hb e)) (kk _ _ htb) hge hpe hrec' (hcd.keeps kk) (kk _ _ hpt)
    have nPQ : T.P2 ≠ P' := ne_of_none hP nQ
    have nPC : T.P2 ≠ c' := ne_of_none hP nC
    have hE : ButP T.P2 H (upd (upd (upd H T.P2 (.tbl (ps ++ #[rawInt pos.line, rawInt pos.col, .ref c']))) P' (.tbl #[])) c' (CodeP c' T.q2 P')) := fun b o e n => by
      rw [upd_ne (ne_of_none e nC), upd_ne (ne_of_none e nQ), upd_ne n]
      exact e
    have e1 : ∃ pq, H T.P1 = some (.tbl pq) := by
      obtain ⟨pq, h, _⟩ := hT.t1
      exact ⟨pq, h⟩
    have new : CodeN T (upd (upd (upd H T.P2 (.tbl (ps ++ #[rawInt pos.line, rawInt pos.col, .ref c']))) P' (.tbl #[])) c' (CodeP c' T.q2 P')) c' := by
      obtain ⟨pq, e1⟩ := e1
      refine ⟨P', Ne.symm (ne_of_none e1 nQ), Ne.symm nPQ, upd_same, .nil ?_⟩
      rw [upd_ne (Ne.symm cP), upd_same]
    have eL : (ps ++ #[rawInt pos.line, rawInt pos.col, .ref c']).toList = ps.toList ++ [rawInt pos.line, rawInt pos.col, .ref c'] := by simp
    refine h h'.objs.size c' _ _ I1 hE ⟨hT.ne, hE.tabS hT.t1 hT.ne ⟨ps, hP⟩, _, by rw [upd_ne nPC, upd_ne nPQ, upd_same], by rw [eL]; exact PySem.TriplesOk_snoc _ _ _ _ ht, fun p' cv hcv => ?_⟩ ⟨_, _, Heap.get?_push_size _ rfl⟩ ?_ (off_stack I hsz) new
    · rw [eL] at hcv
      rcases among_app _ ht hcv with z | z
      · obtain ⟨c0, x1, P0, n1, n2, e, tb⟩ := ha p' cv z
        refine ⟨c0, x1, P0, n1, n2, hE _ _ e fun z => ?_, hE.tabS tb n2 ⟨ps, hP⟩⟩
        rw [z, hP] at e
        exact codeP_tbl _ (Option.some.inj e).symm
      · exact ⟨c', z, new⟩
    · have n1 : h'.objs.size ≠ c' := Nat.ne_of_gt hlt
      have n2 : h'.objs.size ≠ T.P2 := Nat.ne_of_gt (Nat.lt_of_lt_of_le (Heap.lt_size hP') hsz)
      have n3 : h'.objs.size ≠ P' := Nat.ne_of_gt (Heap.lt_size hpt)
      rw [upd_ne n1, upd_ne n3, upd_ne n2]
      exact I.hok.fresh hsz
  | some cv =>
    obtain ⟨c', e, hco⟩ := ha pos cv hc
    subst e
    refine kla_makeFunctionHit (mg := X.mg) (c := c) (P := T.P2) (ps := ps) (closure_ok hfree) I.ok.glob (I.mod.glob.keeps I.bk) hcode hC hP' ht hc bP fun ctv h' tk hx hsz => ?_
    have I1 : Inv X pins σ H { s with heap := h'.push (kla_obj "<lambda>" (X.env.qual ++ "<lambda>") params body scope (cloFrom X.env.cells scope.names []) ((X.mg "__name__").getD .none) c' ctv), toks := tk } := I.kept fun b o e => Heap.get?_push_of_some _ (hx b o e)
    exact h h'.objs.size c' H _ I1 (fun _ _ e _ => e) hT ⟨_, _, Heap.get?_push_size _ rfl⟩ (I.hok.fresh hsz) (off_stack I hsz) hco
end
end Bt
set_option Elab.async false
set_option linter.all false
set_option maxRecDepth 100000
set_option maxHeartbeats 4000000
/-! The body of a lambda; what a lambda that was handed on does when it is called. -/
namespace Bt
open PySem PySem.Spec PyProof.Rows L2 L2H LamX PySem.W
/-- parameters ps (none or one), captured names, globals -/
structure LamP (ps : List Str) (N : List Str) (sc scope : Scope) : Prop where
  kind : scope.kind = .function
  co : scope.isCoroutine = false
  gen : scope.isGenerator = false
  one : ps = [] ∨ ∃ p, ps = [p]
  par : ∀ p ∈ ps, scope.names.lookup p = some .local ∧ p ∉ N
  own : ∀ y ∈ scope.names, y.2 ≠ .cell ∧ (y.2 = .local → y.1 ∈ ps)
  free : ∀ y ∈ scope.names, y.2 = .free → sc.names.lookup y.1 = some .cell ∨ sc.names.lookup y.1 = some .free
def lamPB (ps N : List Str) (sc scope : Scope) : Bool :=
  decide (scope.kind = .function) && !scope.isCoroutine && !scope.isGenerator && decide (ps.length ≤ 1) && (ps.all fun p => decide (scope.names.lookup p = some .local) && !decide (p ∈ N)) &&
    scope.names.all fun y => !decide (y.2 = .cell) && (!decide (y.2 = .local) || decide (y.1 ∈ ps)) && (!decide (y.2 = .free) || decide (sc.names.lookup y.1 = some .cell) || decide (sc.names.lookup y.1 = some .free))
theorem lamP_by {ps N : List Str} {sc scope : Scope} (h : lamPB ps N sc scope = true) : LamP ps N sc scope := by
  unfold lamPB at h
  simp only [Bool.and_eq_true, Bool.or_eq_true, Bool.not_eq_true', decide_eq_true_eq, decide_eq_false_iff_not, List.all_eq_true] at h
  obtain ⟨⟨⟨⟨⟨h1, h2⟩, h3⟩, h4⟩, h5⟩, h6⟩ := h
  refine ⟨h1, h2, h3, ?_, fun p hp => h5 p hp, fun y hy => ⟨(h6 y hy).1.1, fun e => ?_⟩, fun y hy e => ?_⟩
  · cases ps with
    | nil => exact .inl rfl
    | cons a r =>
      cases r with
      | nil => exact .inr ⟨a, rfl⟩
      | cons b r => simp at h4
  · rcases (h6 y hy).1.2 with z | z
    · exact absurd e z
    · exact z
  · rcases (h6 y hy).2 with (z | z) | z
    · exact absurd e z
    · exact .inl z
    · exact .inr z
theorem LamP.has {X : Cx} {ps N : List Str} {scope : Scope} (L : LamP ps N X.env.scope scope) (ok : X.Ok) : ∀ y ∈ scope.names, y.2 = .free → ∃ c, X.env.cells.lookup y.1 = some c := fun y hy e => by
  rcases L.free y hy e with k | k
  · exact ok.has _ (.inl k)
  · exact ok.has _ (.inr k)
/-- the context of the lambda's body -/
def clCx (X : Cx) (A : Around) (outer : List Env) (s : Shared) (H : Hp) (E : XK) (ps : List Str) (scope : Scope) (f c' : Addr) : Cx where
  prog := X.prog
  w := X.w
  K := X.K
  mg := X.mg
  base := X.base
  A := A.deeper (lamEnv X scope s.heap.objs.size f c')
  N := ps ++ X.N
  s_0 := s
  H_0 := H
  env := lamEnv X scope s.heap.objs.size f c'
  outer := outer
  stack := lamEnv X scope s.heap.objs.size f c' :: outer
  ex := []
  fn := fun _ => false
  calm := true
  pn := []
  xe := fun e s' => wpAny (model X.prog X.w) (A.deeper (lamEnv X scope s.heap.objs.size f c')) (leaving (lamEnv X scope s.heap.objs.size f c') e) (fun _ s'' => L2N.CX X.prog X.w outer H s E e s'') (fun e' s'' => L2N.CX X.prog X.w outer H s E e' s'') s'
theorem clCx_takes {X : Cx} {A : Around} {outer : List Env} {s : Shared} {H : Hp} {E : XK} {ps : List Str} {scope : Scope} {f c' : Addr} : L2N.Takes (clCx X A outer s H E ps scope f c') (fun cls d _ H => E cls d H) := L2N.takes_of rfl rfl rfl rfl
section
variable {X : Cx} {pins : List (Addr × Obj)} {σ : L2.St} {H HZ : Hp} {s s1 : Shared}
theorem cl_start {A : Around} {outer : List Env} {E : XK} {ps : List Str} {scope : Scope} {f c' : Addr} {h₁ : Heap} {tk : Nat} {us : List Value} {vs : List V} (I : Inv X pins σ H s) (L : LamP ps X.N X.env.scope scope) (e0 : Env0 X.prog X.w X.K X.mg X.base A outer s1 HZ) (hd : A.handled = none)
    (un : Un (frs X.stack) [] H HZ s.heap s1.heap) (hl : vs.length = ps.length) (r : Vals vs us) (hns : h₁.Ns s1.heap.objs.size fun y => (ps.zip us).reverse.lookup y) (kp : ∀ b o, s1.heap.get? b = some o → h₁.get? b = some o) :
    Inv (clCx X A outer s1 HZ E ps scope f c') [] (vs.map some ++ σ) HZ { s1 with heap := h₁, toks := tk } := by
  have hfree := L.has I.ok
  have cm : ∀ {y c}, (cloFrom X.env.cells scope.names []).lookup y = some c → X.env.cells.lookup y = some c := fun {y c} e => by
    rcases cloFrom_mem (PySem.mem_of_lookup e) with hm | ⟨h1, h2⟩
    · cases hm
    · obtain ⟨c1, hc⟩ := hfree _ h1 rfl
      have hc : X.env.cells.lookup y = some c1 := hc
      have e2 : c = c1 := by
        rw [h2, hc] <;> rfl
      rw [e2]
      exact hc
  have look : ∀ {y}, scope.names.lookup y = some .free → ∃ c, (cloFrom X.env.cells scope.names []).lookup y = some c := fun {y} hl => by
    have hy : (y, NameKind.free) ∈ scope.names := PySem.mem_of_lookup hl
    exact mem_lookup (cloFrom_has (cells := X.env.cells) (acc := []) hy)
  have cellK : ∀ {c : Addr} {v : Option Value}, H c = none → s.heap.IsCell c v → h₁.IsCell c v := fun {c v} n ⟨o, ho, hd⟩ => by
    obtain ⟨sl, q⟩ := un.any ho n (by simp)
    exact ⟨_, kp _ _ q, hd⟩
  have noA : ∀ b : Addr, b ∉ (clCx X A outer s1 HZ E ps scope f c').ex := fun b z => absurd (show b ∈ ([] : List Addr) from z) (by simp)
  have pL : (ps ++ X.N).length = ps.length + X.N.length := List.length_append
  refine ⟨⟨e0.mod, L.kind, rfl, rfl, Nat.le_refl _, fun y z c e1 e2 => I.ok.inj y z c (cm e1) (cm e2), fun y hy => ?_, fun y c z _ => ?_, fun _ => hd, Around.frames_deeper e0.frames, .inr ⟨rfl, rfl⟩, fun b z => absurd z (noA b), e0.bs, e0.bsz, fun b _ _ => noA b,
      fun b z => absurd z (noA b), e0.funs, e0.frf⟩,
    rfl, e0.bare, Un.kept kp, ⟨_, hns, fun i y v e1 e2 e3 => ?_⟩, fun y c e => ?_, e0.hok.fresh (Nat.le_refl _), fun y c e => ?_, fun q hq => absurd (show q ∈ ([] : List (Addr × Obj)) ++ [] from hq) (by simp), e0.hok.kept kp, ?_⟩
  · have hy : scope.names.lookup y = some .cell ∨ scope.names.lookup y = some .free := hy
    rcases hy with hy | hy
    · exact absurd rfl (L.own _ (PySem.mem_of_lookup hy)).1
    · exact look hy
  · have z : false = true := z
    cases z
  · have e3 : Vis scope y := e3
    have e1 : (ps ++ X.N)[i]? = some y := e1
    by_cases hi : i < ps.length
    · -- a parameter
      rw [List.getElem?_append_left hi] at e1
      rw [List.getElem?_append_left (by simpa [hl] using hi), List.getElem?_map] at e2
      have ev : vs[i]? = some v := by
        cases e : vs[i]? with
        | none =>
          rw [e] at e2
          cases e2
        | some a =>
          rw [e] at e2
          cases e2
          rfl
      obtain ⟨u, hu, rv⟩ := r.get ev
      refine ⟨u, rv, .inl ⟨(L.par y (List.mem_of_getElem? e1)).1, ?_⟩⟩
      rcases L.one with z | ⟨p, z⟩
      · rw [z] at hi
        exact absurd hi (by simp)
      · subst z
        have i0 : i = 0 := by
          have : i < 1 := hi
          omega
        subst i0
        have ey : p = y := by simpa using e1
        subst ey
        cases us with
        | nil => simp at hu
        | cons a us' =>
          have ea : a = u := by simpa using hu
          subst ea
          simp [List.lookup]
    · have hi' : ps.length ≤ i := by omega
      rw [List.getElem?_append_right hi'] at e1
      rw [List.getElem?_append_right (by simpa [hl] using hi')] at e2
      rw [List.length_map, hl] at e2
      have fr : scope.names.lookup y = some .free := by
        rcases e3 with k | k | k
        · have hp := (L.own _ (PySem.mem_of_lookup k)).2 rfl
          exact absurd (List.mem_of_getElem? e1) (L.par y hp).2
        · exact absurd rfl (L.own _ (PySem.mem_of_lookup k)).1
        · exact k
      obtain ⟨m, hn, hlk⟩ := I.loc
      have hvis : Vis X.env.scope y := (L.free _ (PySem.mem_of_lookup fr) rfl).elim (fun k => .inr (.inl k)) (fun k => .inr (.inr k))
      obtain ⟨w', r', q⟩ := hlk (i - ps.length) y v e1 e2 hvis
      obtain ⟨c2, h2⟩ := look fr
      refine ⟨w', r', .inr ⟨.inr fr, c2, h2, ?_⟩⟩
      have c1 := cm h2
      rcases q with ⟨k', _⟩ | ⟨_, c3, e', z⟩
      · have k' : X.env.scope.names.lookup y = some .local := k'
        rcases L.free _ (PySem.mem_of_lookup fr) rfl with k2 | k2 <;> rw [show X.env.scope.names.lookup y = _ from k2] at k' <;> cases k'
      · rw [c1] at e'
        cases e'
        exact cellK (I.freeC y _ c1) z
  · obtain ⟨w', z⟩ := I.cell y c (cm e)
    exact ⟨w', cellK (I.freeC y c (cm e)) z⟩
  · obtain ⟨v, o, ho, hd⟩ := I.cell y c (cm e)
    exact un.free c o ho (I.freeC y c (cm e)) (by simp)
  · show (vs.map some ++ σ).length = (ps ++ X.N).length
    rw [List.length_append, List.length_append, List.length_map, hl, I.len]
/-- what a lambda does, called from frames above stack; s, H: where it was handed on; gd: what is known of the activations around -/
structure Clos (X : Cx) (s : Shared) (H : Hp) (f : Addr) (k : Nat) (ps : List Str) (sp : Sp) : Prop where
  fn : FnAt f s.heap
  hn : H f = none
  hf : f ∉ frs X.stack
  run : ∀ (A : Around) (outer : List Env) (s1 : Shared) (HZ : Hp) (us : List Value) (vs : List V) (Q : VK) (E : XK), A.guards = some [] → Room (k + 1) A → Env0 X.prog X.w X.K X.mg X.base A outer s1 HZ → Un (frs X.stack) [] H HZ s.heap s1.heap → (∀ b o, H b = some o → HZ b = some o) →
    Vals vs us → vs.length = ps.length → sp vs HZ Q E → codeAny (model X.prog X.w) A (.call (.ref f) ⟨us, []⟩) (CR (L2N.CX X.prog X.w) outer X.prog X.w HZ s1 Q E) s1
theorem clos_of {f c' : Addr} {params : Arguments} {body : Expr} {scope : Scope} {k : Nat} {ps : List Str} {t : XK → TE} (I : Inv X pins σ H s) (L : LamP ps X.N X.env.scope scope) (ho : FnObj X params body scope f c' s) (hn : H f = none) (hf : f ∉ frs X.stack) (hcode : ∀ (s1 : Shared) (HZ : Hp), HOk X.prog X.w HZ s1.heap → (∀ b o, H b = some o → HZ b = some o) → s1.heap.CodeRec (.ref c') (X.env.qual ++ "<lambda>"))
    (hbind : ∀ (us : List Value) (q : Str) (cl : List (Str × Addr)) (pm cv ctv : Value), us.length = ps.length → bindArgs (kla_fn "<lambda>" q params body scope cl pm cv ctv) ⟨us, []⟩ = pure (ps.zip us))
    (hbody : ∀ (A : Around) (outer : List Env) (s1 : Shared) (HZ : Hp) (E : XK), A.guards = some [] → Room k (A.deeper (lamEnv X scope s1.heap.objs.size f c')) → PE (clCx X A outer s1 HZ E ps scope f c') body (t E)) :
    Clos X s H f k ps (fun vs HZ Q E => t E (vs.map some ++ σ) HZ Q) := by
  obtain ⟨pm, ctv, ho⟩ := ho
  refine ⟨⟨_, _, _, _, ho⟩, hn, hf, fun A outer s1 HZ us vs Q E hg hr e0 un he r hl h => ?_⟩
  have of1 : s1.heap.get? f = some (kla_obj "<lambda>" (X.env.qual ++ "<lambda>") params body scope (cloFrom X.env.cells scope.names []) pm c' ctv) := un.keep f _ ho hn hf (by simp)
  refine kla_callFunE hr.depth of1 rfl L.co L.gen rfl (hcode s1 HZ e0.hok he) ?_
  rw [hbind us _ _ _ _ _ (by rw [← r.length]; exact hl)]
  refine wpAny_pure (wpAny_newFunctionEnv (fun y hy => (L.own y hy).1) (fun y hy => ?_) (fun h₁ hns hsb => ⟨(e0.mod.nolimit.keeps fun b o e => (e0.bs b o e).1).fresh _ hsb, ?_⟩) L.kind)
  · exact (L.par y.1 (List.of_mem_zip (show (y.1, y.2) ∈ ps.zip us from hy)).1).1
  show codeAny _ _ (.expr body (lamEnv X scope s1.heap.objs.size f c')) _ _
  have kp : ∀ b o, s1.heap.get? b = some o → h₁.get? b = some o := fun b o e => hsb.extBut b o (Nat.ne_of_lt (Heap.lt_size e)) (Heap.get?_push_of_some _ e)
  have J : Inv (clCx X A outer s1 HZ E ps scope f c') [] (vs.map some ++ σ) HZ { s1 with heap := h₁, toks := s1.toks + (ps.zip us).length } :=
    cl_start I L e0 hr.hd un hl r hns kp
  refine kla_codeExpr (wpAny_mono ((hbody _ _ s1 HZ E hg (hr.deeper _)).run [] _ _ HZ Q J h) (fun v s' hq => ?_) fun e s' hq => hq)
  obtain ⟨w', H', J', rv, q⟩ := hq
  exact ⟨w', H', J'.os, J'.bare, J'.base, J'.hok, rv, q⟩
end
end Bt
set_option Elab.async false
set_option linter.all false
set_option maxRecDepth 100000
set_option maxHeartbeats 4000000
/-! Calls by what a run of the callee says; defs that ask for empty guards; lambdas handed on. -/
namespace Bt
open PySem PySem.Spec PyProof.Rows L2 L2H LamX PySem.W
abbrev CXN (P : Program) (w : World) : CXT := L2N.CX P w
/-! ### promises under empty guards -/
structure FnG (P : Program) (w : World) (K : Frag) (mg : Str → Option Value) (base : Heap) (CX : CXT) (k : Nat) (f : Addr) (fd : FuncData) (ps : List Str) (sp : Sp) : Prop where
  len : ∀ vs H Q E, sp vs H Q E → vs.length = ps.length
  run : ∀ (A : Around) (outer : List Env) (s : Shared) (H : Hp) (args : Args) (us : List Value) (vs : List V) (Q : VK) (E : XK), A.guards = some [] → Room k A → Env0 P w K mg base A outer s H → BindsTo s fd args (ps.zip us) → Vals vs us → sp vs H Q E →
    codeAny (model P w) A (.call (.ref f) args) (CR CX outer P w H s Q E) s
theorem FnG.mono {P : Program} {w : World} {K : Frag} {mg : Str → Option Value} {base : Heap} {CX : CXT} {j k : Nat} {f : Addr} {fd : FuncData} {ps : List Str} {sp : Sp} (F : FnG P w K mg base CX j f fd ps sp) (h : j ≤ k) : FnG P w K mg base CX k f fd ps sp :=
  ⟨F.len, fun A outer s H args us vs Q E hg hr => F.run A outer s H args us vs Q E hg (hr.mono h)⟩
theorem fn_ofG {CX : CXT} {P : Program} {w : World} {K : Frag} {mg : Str → Option Value} {base : Heap} {k : Nat} {f : Addr} {name qual : Str} {params : Arguments} {body : List Stmt} {scope : Scope} {dV kV doc pm cdv ct oc : Value} {an od : Option Addr}
    {osl : Array (Option Value)} {N ps : List Str} {sp : Sp} (lk : K.lookup f = some ⟨oc, od, .func (fnOf name qual params body scope dV kV doc pm an cdv ct), osl⟩) (hcd : codeIn K cdv qual = true) (S : FnScope N ps scope)
    (len : ∀ vs H Q E, sp vs H Q E → vs.length = ps.length)
    (hbody : ∀ (A : Around) (outer : List Env) (s : Shared) (H : Hp) (vs : List V) (Q : VK) (E : XK), A.guards = some [] → Room k (A.deeper (envOfC qual scope s.heap.objs.size f cdv)) → sp vs H Q E →
      ∃ t, PSs (cxOf CX P w K mg base N qual scope f cdv A outer s H E) body t ∧ t { nx := fun _ H' => Q .non H', rt := Q } (L2.start N vs) H) :
    FnG P w K mg base CX (k + 1) f (fnOf name qual params body scope dV kV doc pm an cdv ct) ps sp :=
  ⟨len, fun A outer s H args us vs Q E hg hr e0 hb r hsp => run_ofS lk hcd S hr e0 hb r (len _ _ _ _ hsp) fun hr' => hbody A outer s H vs Q E hg hr' hsp⟩
/-! ### calls by a run -/
/-- what a call of f does in X -/
def RunR (X : Cx) (f : Addr) (sp : Sp) (E : XK) : Prop := ∀ (pins : List (Addr × Obj)) (s : Shared) (σ : L2.St) (H : Hp) (us : List Value) (vs : List V) (Q : VK), Inv X pins σ H s → Vals vs us → sp vs H Q E → wpAny (model X.prog X.w) X.A (call (.ref f) us) (EP X pins σ Q) X.xe s
section
variable {X : Cx} {CX : CXT} {k : Nat} {f C : Addr} {fd : FuncData} {ps : List Str} {sp : Sp} {E : XK} {x m : Str} {p pos apos : Pos} {e o : Expr} {es : List Expr} {ta : TE} {t : TA}
theorem run_back {pins : List (Addr × Obj)} {σ : L2.St} {H : Hp} {s : Shared} {Q : VK} {f : Value} {us : List Value} {kw : List (Str × Value)} (hx : Passes CX X E) (I : Inv X pins σ H s) (h : codeAny (model X.prog X.w) X.A (.call f ⟨us, kw⟩) (CR CX X.stack X.prog X.w H s Q E) s) :
    wpAny (model X.prog X.w) X.A (call f us kw) (EP X pins σ Q) X.xe s := by
  refine wpAny_call (codeAny_mono h fun r s' hq => ?_)
  cases r with
  | error e => exact hx pins σ H s e s' I hq
  | ok fl =>
    cases fl with
    | ret u => exact I.after hq
    | next => exact False.elim hq
    | brk => exact False.elim hq
    | cont => exact False.elim hq
theorem runR_ok (F : FnOk X.prog X.w X.K X.mg X.base CX k f fd ps sp) (hr : Room k X.A) (hb : Binds X.K fd ps []) (hx : Passes CX X E) : RunR X f sp E := fun pins s σ H us vs Q I r h =>
  run_fn (dvs := []) (ds := []) F hr hb .nil hx I r (by rw [List.append_nil]; exact h)
theorem runR_g (F : FnG X.prog X.w X.K X.mg X.base CX k f fd ps sp) (hg : X.A.guards = some []) (hr : Room k X.A) (hb : Binds X.K fd ps []) (hx : Passes CX X E) : RunR X f sp E := fun pins s σ H us vs Q I r h => by
  have hl : us.length = ps.length := by rw [← r.length]; exact F.len _ _ _ _ h
  have b := hb s us I.kIn (by rw [List.append_nil]; exact hl)
  rw [List.append_nil] at b
  exact run_back hx I (F.run X.A X.stack s H ⟨us, []⟩ us vs Q E hg hr I.env0 b r h)
theorem pe_callR (F : RunR X f sp E) (hg : Gl X x) (hm : X.mg x = some (.ref f)) (hk : keepIn X.K (.ref f) = true) (ha : PA X (e :: es) t)
    (hdb : (x == ("__debug__" : Str)) = false := by decide) (he : starEach (e :: es) X.env = (false, eval e X.env) :: starEach es X.env := by rfl) (hpl : (backTo pos (starEach es X.env)).any (·.1) = false := by rfl) :
    PE X (.Call (.Name x p) (e :: es) [] pos) (tCall sp [] E t) := by
  refine ⟨fun pins s σ H Q I h => ?_⟩
  refine wpAny_Call_Name_kw (ld_glob I hg hm ?_ hdb)
  refine callWith_K (h₀ := X.base) I.ok.mod.kin hk (thn (ha.run pos pins s σ H _ I h) fun us s1 hh => ?_) he hpl
  obtain ⟨vs, H1, I1, r, q⟩ := hh
  rw [List.append_nil] at q
  exact ⟨I1.kIn, F pins s1 σ H1 us vs Q I1 r q⟩
theorem pe_methR {pl : Sem Bool} (he : PE X o ta) (c : Cls X.K C) (hm : Meth X.K C m f) (F : RunR X f sp E) (ha : PA X (e :: es) t)
    (hst : starEach (e :: es) X.env = (false, eval e X.env) :: starEach es X.env := by rfl) (hpl : (backTo pos (starEach es X.env)).any (·.1) = false := by rfl)
    (ht : eval (.Call (.Attribute o m apos) (e :: es) [] pos) X.env = (do
      let ov ← eval o X.env
      standAt apos.atName
      let (f, first) ← holding [ov] (getMethod ov m pl)
      callWith pos f first (backTo pos (starEach (e :: es) X.env)) (backToKw pos (keywordEach [] X.env))) := by rfl) :
    PE X (.Call (.Attribute o m apos) (e :: es) [] pos) (tMeth C m sp [] E ta t) := by
  refine ⟨fun pins s σ H Q I h => ?_⟩
  refine methodCall_KW (pl := pl) (thn (he.run pins s σ H _ I h) fun u s1 hh => ?_) ht
  obtain ⟨x, H1, I1, rx, a, dx, fs, ex, ea, l, q⟩ := hh
  subst ex
  obtain rfl : u = Value.ref a := rx
  refine getmeth_ok I1 ea c hm l ?_
  refine callWith_K (first := [.ref a]) (h₀ := X.base) I.ok.mod.kin hm.kp (thn (ha.run pos pins s1 σ H1 _ I1 q) fun us s2 hh => ?_) hst hpl
  obtain ⟨vs, H2, I2, r, q2⟩ := hh
  rw [List.append_nil] at q2
  exact ⟨I2.kIn, F pins s2 σ H2 (.ref a :: us) (.ref a :: vs) Q I2 (.cons rfl r) q2⟩
theorem pe_methR0 {pl : Sem Bool} (he : PE X o ta) (c : Cls X.K C) (hm : Meth X.K C m f) (F : RunR X f sp E)
    (ht : eval (.Call (.Attribute o m apos) [] [] pos) X.env = (do
      let ov ← eval o X.env
      standAt apos.atName
      let (f, first) ← holding [ov] (getMethod ov m pl)
      callWith pos f first (backTo pos (starEach [] X.env)) (backToKw pos (keywordEach [] X.env))) := by rfl) :
    PE X (.Call (.Attribute o m apos) [] [] pos) (tMeth C m sp [] E ta tNil) := by
  refine ⟨fun pins s σ H Q I h => ?_⟩
  refine methodCall_KW (pl := pl) (thn (he.run pins s σ H _ I h) fun u s1 hh => ?_) ht
  obtain ⟨x, H1, I1, rx, a, dx, fs, ex, ea, l, q⟩ := hh
  subst ex
  obtain rfl : u = Value.ref a := rx
  refine getmeth_ok I1 ea c hm l ?_
  exact callWith_K0 (first := [.ref a]) I1.kIn hm.kp (F pins s1 σ H1 [.ref a] [.ref a] Q I1 (.cons rfl .nil) q)
/-- a def called, told of the very state -/
theorem run_body {pins : List (Addr × Obj)} {σ : L2.St} {H : Hp} {s : Shared} {Q : VK} {us : List Value} {vs : List V} {args : Args} {name qual : Str} {params : Arguments} {body : List Stmt} {scope : Scope} {dV kV doc pm cdv ct oc : Value} {an od : Option Addr}
    {osl : Array (Option Value)} {N ps : List Str} (lk : X.K.lookup f = some ⟨oc, od, .func (fnOf name qual params body scope dV kV doc pm an cdv ct), osl⟩) (hcd : codeIn X.K cdv qual = true) (S : FnScope N ps scope) (hr : Room (k + 1) X.A) (I : Inv X pins σ H s)
    (hb : BindsTo s (fnOf name qual params body scope dV kV doc pm an cdv ct) args (ps.zip us)) (r : Vals vs us) (hl : vs.length = ps.length) (hx : Passes CX X E)
    (hbody : Room k (X.A.deeper (envOfC qual scope s.heap.objs.size f cdv)) → ∃ t, PSs (cxOf CX X.prog X.w X.K X.mg X.base N qual scope f cdv X.A X.stack s H E) body t ∧ t { nx := fun _ H' => Q .non H', rt := Q } (L2.start N vs) H) :
    wpAny (model X.prog X.w) X.A (call (.ref f) args.pos args.kw) (EP X pins σ Q) X.xe s :=
  run_back hx I (run_ofS lk hcd S hr I.env0 hb r hl hbody)
end
/-! ### the makers -/
/-- e makes a lambda -/
def LamMk (X : Cx) (e : Expr) (pre : Hp → Prop) (rel : Hp → Hp → Prop) (k : Nat) (ps : List Str) (t : XK → TE) : Prop :=
  ∀ (pins : List (Addr × Obj)) (s : Shared) (σ : L2.St) (H : Hp) (Q : Value → Shared → Prop) (E : Value → Shared → Prop), Inv X pins σ H s → pre H →
    (∀ (f : Addr) (H1 : Hp) (s' : Shared), Inv X pins σ H1 s' → rel H H1 → Clos X s' H1 f k ps (fun vs HZ Q E => t E (vs.map some ++ σ) HZ Q) → Q (.ref f) s') → wpAny (model X.prog X.w) X.A (eval e X.env) Q E s
/-- all but the tables stays, and the tables are in order -/
def RelT (T : TC) (H H' : Hp) : Prop := (∀ b o, H b = some o → (∀ ps, o ≠ .tbl ps) → H' b = some o) ∧ TOk T H'
theorem RelT.of {T : TC} {P : Addr} {H H' : Hp} {ps : Array Value} (hP : H P = some (.tbl ps)) (k : ButP P H H') (t : TOk T H') : RelT T H H' := ⟨fun b o e n => k b o e fun z => by
  rw [z, hP] at e
  exact n ps (Option.some.inj e).symm, t⟩
theorem RelT.trans {T : TC} {H H1 H2 : Hp} (a : RelT T H H1) (b : RelT T H1 H2) : RelT T H H2 := ⟨fun c o e n => b.1 c o (a.1 c o e n) n, b.2⟩
section
variable {X : Cx} {T : TC} {k : Nat} {ps : List Str} {params : Arguments} {body : Expr} {scope : Scope} {pos : Pos} {c : Addr}
theorem builtinsAt_other {base : Heap} {mg : Str → Option Value} {P P' : Addr} (b : base.BuiltinsAt mg P) {s : Heap} (k : ∀ b o, base.get? b = some o → s.get? b = some o) (n : base.get? P' = none) : s.BuiltinsAt mg P' := by
  obtain ⟨bm, o, h1, h2, h3, h4, h5, h6⟩ := b
  refine ⟨bm, o, h1, h2, h3, fun z => ?_, k _ _ h5, h6⟩
  rw [z, n] at h5
  cases h5
/-- in a def whose lambdas make none -/
theorem mk_leaf1 {t : XK → TE} (TB : TabB X.base X.mg c T.P1) (hcode : X.env.code = .ref c) (eq : X.env.qual ++ "<lambda>" = T.q1) (L : LamP ps X.N X.env.scope scope) (hdef : defaultsOf params X.env = ([], []))
    (hbind : ∀ (us : List Value) (q : Str) (cl : List (Str × Addr)) (pm cv ctv : Value), us.length = ps.length → bindArgs (kla_fn "<lambda>" q params body scope cl pm cv ctv) ⟨us, []⟩ = pure (ps.zip us))
    (hbody : ∀ (A : Around) (outer : List Env) (s1 : Shared) (HZ : Hp) (E : XK) (f c' : Addr), A.guards = some [] → Room k (A.deeper (lamEnv X scope s1.heap.objs.size f c')) → PE (clCx X A outer s1 HZ E ps scope f c') body (t E)) :
    LamMk X (.Lambda params body scope pos) (TOk T) (RelT T) k ps t := by
  intro pins s σ H Q E I hT h
  refine lam_leaf I (TB.code.keeps I.bk) hcode TB.gP (TB.bm.keeps I.bk) (by rw [eq]; exact hT.t1) hdef (L.has I.ok) fun f c' H1 s' I1 kp t1 ho hn hf hc => ?_
  rw [eq] at t1
  obtain ⟨pq, hP, _⟩ := hT.t1
  refine h f H1 s' I1 (.of hP kp (tOk_1 hT kp t1)) (clos_of I1 L ho hn hf (fun s1 HZ hok he => ?_) hbind fun A outer s1 HZ E hg hr => hbody A outer s1 HZ E f c' hg hr)
  obtain ⟨⟨oc, vs, t, e1, e2, e3⟩, _, _⟩ := hok c' _ (he _ _ hc)
  exact ⟨c', oc, vs, t, rfl, e1, e2, e3⟩
/-- in a lambda of the def T.P2: its code object is one of that table's -/
theorem mk_leaf3 {t : XK → TE} {c0 P0 : Addr} (TB : TabB X.base X.mg c0 P0) (hcode : X.env.code = .ref c) (eq : X.env.qual ++ "<lambda>" = T.q3) (hG : X.base.get? mainGlobals ≠ none) (L : LamP ps X.N X.env.scope scope) (hdef : defaultsOf params X.env = ([], []))
    (hbind : ∀ (us : List Value) (q : Str) (cl : List (Str × Addr)) (pm cv ctv : Value), us.length = ps.length → bindArgs (kla_fn "<lambda>" q params body scope cl pm cv ctv) ⟨us, []⟩ = pure (ps.zip us))
    (hbody : ∀ (A : Around) (outer : List Env) (s1 : Shared) (HZ : Hp) (E : XK) (f c' : Addr), A.guards = some [] → Room k (A.deeper (lamEnv X scope s1.heap.objs.size f c')) → PE (clCx X A outer s1 HZ E ps scope f c') body (t E)) :
    LamMk X (.Lambda params body scope pos) (fun H => TOk T H ∧ CodeN T H c) (RelT T) k ps t := by
  intro pins s σ H Q E I hT h
  obtain ⟨hT, P', n1, n2, ec, tb⟩ := hT
  obtain ⟨pq, hP, tb2⟩ := id tb
  have nb : X.base.get? P' = none := by
    cases e : X.base.get? P' with
    | none => rfl
    | some o =>
      have := (I.bs P' o e).2
      rw [hP] at this
      cases this
  refine lam_leaf I (codeP_head (I.hok c _ ec)) hcode (fun z => hG (by rw [z]; exact nb)) (builtinsAt_other TB.bm I.bk nb) (by rw [eq]; exact tb) hdef (L.has I.ok) fun f c' H1 s' I1 kp t1 ho hn hf hc => ?_
  rw [eq] at t1
  refine h f H1 s' I1 (.of hP kp (tOk_3 hT kp n1 n2 tb t1)) (clos_of I1 L ho hn hf (fun s1 HZ hok he => ?_) hbind fun A outer s1 HZ E hg hr => hbody A outer s1 HZ E f c' hg hr)
  obtain ⟨⟨oc, vs, t, e1, e2, e3⟩, _, _⟩ := hok c' _ (he _ _ hc)
  exact ⟨c', oc, vs, t, rfl, e1, e2, e3⟩
/-- in the def T.P2: a lambda in which another is made -/
theorem mk_nest {t : Addr → XK → TE} (TB : TabB X.base X.mg c T.P2) (hcode : X.env.code = .ref c) (eq : X.env.qual ++ "<lambda>" = T.q2) (L : LamP ps X.N X.env.scope scope) (hdef : defaultsOf params X.env = ([], []))
    (hbind : ∀ (us : List Value) (q : Str) (cl : List (Str × Addr)) (pm cv ctv : Value), us.length = ps.length → bindArgs (kla_fn "<lambda>" q params body scope cl pm cv ctv) ⟨us, []⟩ = pure (ps.zip us))
    (hbody : ∀ (A : Around) (outer : List Env) (s1 : Shared) (HZ : Hp) (E : XK) (f c' : Addr), A.guards = some [] → Room k (A.deeper (lamEnv X scope s1.heap.objs.size f c')) → PE (clCx X A outer s1 HZ E ps scope f c') body (t c' E)) :
    LamMk X (.Lambda params body scope pos) (TOk T) (RelT T) k ps (fun E σ H Q => ∀ c', CodeN T H c' → t c' E σ H Q) := by
  intro pins s σ H Q E I hT h
  refine lam_nest I (TB.code.keeps I.bk) hcode TB.gP (TB.bm.keeps I.bk) hT eq hdef (L.has I.ok) fun f c' H1 s' I1 kp t1 ho hn hf hc => ?_
  obtain ⟨pq, hP, _⟩ := hT.t2
  have C := clos_of (t := t c') (k := k) I1 L ho hn hf (fun s1 HZ hok he => by
    obtain ⟨P', _, _, e, _⟩ := hc
    rw [eq]
    exact codeP_rec (hok c' _ (he _ _ e))) hbind fun A outer s1 HZ E hg hr => hbody A outer s1 HZ E f c' hg hr
  refine h f H1 s' I1 (.of hP kp t1) ⟨C.fn, C.hn, C.hf, fun A outer s1 HZ us vs Q E hg hr e0 un he r hl hq => C.run A outer s1 HZ us vs Q E hg hr e0 un he r hl (hq c' ((KT.of he).codeN hc))⟩
end
/-! ### a lambda that was handed on is called; it is handed on -/
section
variable {X : Cx} {pins : List (Addr × Obj)} {σ : L2.St} {H : Hp} {s : Shared} {f : Addr} {k : Nat} {ps : List Str} {sp : Sp}
/-- Z: the def that got it, entered at s -/
theorem clos_call {CXg : CXT} {Eg E : XK} {Ng : List Str} {qg : Str} {sg : Scope} {g : Addr} {cdg : Value} {pn pinsZ : List (Addr × Obj)} {xe : Value → Shared → Prop} {W : WX} {σZ : L2.St} {HZ : Hp} {sZ : Shared} {us : List Value} {vs : List V} {Q : VK} (C : Clos X s H f k ps sp)
    (hg : X.A.guards = some []) (tk : L2N.Takes ((cxOf CXg X.prog X.w X.K X.mg X.base Ng qg sg g cdg X.A X.stack s H Eg).tr pn xe) W) (hW : ∀ cls d σ' H', E cls d H' → W cls d σ' H') (hr : Room (k + 1) (X.A.deeper (envOfC qg sg s.heap.objs.size g cdg)))
    (IZ : Inv ((cxOf CXg X.prog X.w X.K X.mg X.base Ng qg sg g cdg X.A X.stack s H Eg).tr pn xe) pinsZ σZ HZ sZ) (he : ∀ b o, H b = some o → HZ b = some o) (r : Vals vs us) (hl : vs.length = ps.length) (h : sp vs HZ Q E) :
    wpAny (model X.prog X.w) (X.A.deeper (envOfC qg sg s.heap.objs.size g cdg)) (call (.ref f) us) (EP ((cxOf CXg X.prog X.w X.K X.mg X.base Ng qg sg g cdg X.A X.stack s H Eg).tr pn xe) pinsZ σZ Q) xe sZ := by
  have hx : Passes (L2N.CX X.prog X.w) ((cxOf CXg X.prog X.w X.K X.mg X.base Ng qg sg g cdg X.A X.stack s H Eg).tr pn xe) E := L2N.passes_call tk hW
  exact run_back (X := (cxOf CXg X.prog X.w X.K X.mg X.base Ng qg sg g cdg X.A X.stack s H Eg).tr pn xe) hx IZ (C.run _ _ sZ HZ us vs Q E hg hr IZ.env0 IZ.base he r hl h)
/-- x(), x a name of Z -/
theorem pe_clos0 {CXg : CXT} {Eg E : XK} {Ng : List Str} {qg : Str} {sg : Scope} {g : Addr} {cdg : Value} {pn : List (Addr × Obj)} {xe : Value → Shared → Prop} {W : WX} {i : Nat} {a : Str} {p1 p2 : Pos} (C : Clos X s H f k ps sp) (hp : ps = [])
    (hg : X.A.guards = some []) (tk : L2N.Takes ((cxOf CXg X.prog X.w X.K X.mg X.base Ng qg sg g cdg X.A X.stack s H Eg).tr pn xe) W) (hW : ∀ cls d σ' H', E cls d H' → W cls d σ' H') (hr : Room (k + 1) (X.A.deeper (envOfC qg sg s.heap.objs.size g cdg)))
    (hN : Ng[i]? = some a) (hv : Vis sg a) (hd : (a == ("__debug__" : Str)) = false := by decide) (hcd : (a == ("__classdict__" : Str)) = false := by decide) :
    PE ((cxOf CXg X.prog X.w X.K X.mg X.base Ng qg sg g cdg X.A X.stack s H Eg).tr pn xe) (.Call (.Name a p1) [] [] p2) (fun σZ HZ Q => σZ[i]? = some (some (.ref f)) ∧ (∀ b o, H b = some o → HZ b = some o) ∧ sp [] HZ Q E) := by
  refine ⟨fun pinsZ sZ σZ HZ Q IZ h => ?_⟩
  obtain ⟨hs, he, ht⟩ := h
  refine wpAny_Call_Name_kw (thn ((pe_var (pos := p1) (i := i) hN hv hd hcd).run pinsZ sZ σZ HZ (fun v H1 => v = .ref f ∧ H1 = HZ) IZ ⟨.ref f, hs, rfl, rfl⟩) fun u s1 hh => ?_)
  obtain ⟨v, H1, I1, r1, ev, eH⟩ := hh
  subst ev
  rw [eH] at I1
  obtain rfl : u = Value.ref f := r1
  obtain ⟨oc, od, fd, sl, e0⟩ := C.fn
  have fnat : FnAt f s1.heap := ⟨oc, od, fd, sl, I1.base.keep f _ e0 C.hn C.hf (fun z => nomatch (show f ∈ ([] : List Addr) from z))⟩
  exact callWith_F0 fnat (clos_call C hg tk hW hr I1 he .nil (by rw [hp]; rfl) ht)
/-- x(e), x a name of Z -/
theorem pe_clos1 {CXg : CXT} {Eg E : XK} {Ng : List Str} {qg : Str} {sg : Scope} {g : Addr} {cdg : Value} {pn : List (Addr × Obj)} {xe : Value → Shared → Prop} {W : WX} {i : Nat} {a : Str} {p1 p2 : Pos} {e : Expr} {te : TA} (C : Clos X s H f k ps sp) (hp : ps.length = 1)
    (hg : X.A.guards = some []) (tk : L2N.Takes ((cxOf CXg X.prog X.w X.K X.mg X.base Ng qg sg g cdg X.A X.stack s H Eg).tr pn xe) W) (hW : ∀ cls d σ' H', E cls d H' → W cls d σ' H') (hr : Room (k + 1) (X.A.deeper (envOfC qg sg s.heap.objs.size g cdg)))
    (hN : Ng[i]? = some a) (hv : Vis sg a) (ha : PA ((cxOf CXg X.prog X.w X.K X.mg X.base Ng qg sg g cdg X.A X.stack s H Eg).tr pn xe) [e] te) (hst : ∀ env, starEach [e] env = [(false, eval e env)] := by intro _; rfl)
    (hd : (a == ("__debug__" : Str)) = false := by decide) (hcd : (a == ("__classdict__" : Str)) = false := by decide) :
    PE ((cxOf CXg X.prog X.w X.K X.mg X.base Ng qg sg g cdg X.A X.stack s H Eg).tr pn xe) (.Call (.Name a p1) [e] [] p2) (fun σZ HZ Q => σZ[i]? = some (some (.ref f)) ∧ te σZ HZ fun vs H2 => vs.length = 1 ∧ (∀ b o, H b = some o → H2 b = some o) ∧ sp vs H2 Q E) := by
  refine ⟨fun pinsZ sZ σZ HZ Q IZ h => ?_⟩
  obtain ⟨hs, ht⟩ := h
  refine wpAny_Call_Name_kw (thn ((pe_var (pos := p1) (i := i) hN hv hd hcd).run pinsZ sZ σZ HZ (fun v H1 => v = .ref f ∧ H1 = HZ) IZ ⟨.ref f, hs, rfl, rfl⟩) fun u s1 hh => ?_)
  obtain ⟨v, H1, I1, r1, ev, eH⟩ := hh
  subst ev
  rw [eH] at I1
  obtain rfl : u = Value.ref f := r1
  obtain ⟨oc, od, fd, sl, e0⟩ := C.fn
  have fnat : ∀ {s1 : Shared} {σ1 : L2.St} {H1 : Hp}, Inv ((cxOf CXg X.prog X.w X.K X.mg X.base Ng qg sg g cdg X.A X.stack s H Eg).tr pn xe) pinsZ σ1 H1 s1 → FnAt f s1.heap := fun I1 => ⟨oc, od, fd, sl, I1.base.keep f _ e0 C.hn C.hf (fun z => nomatch (show f ∈ ([] : List Addr) from z))⟩
  refine callWith_F (first := []) (fnat I1) (thn (ha.run p2 pinsZ s1 σZ HZ _ I1 ht) fun us s2 hh => ?_) (hst _) rfl
  obtain ⟨vs, H2, I2, r, hl, he, q⟩ := hh
  exact ⟨fnat I2, clos_call C hg tk hW hr I2 he r (by rw [hl, hp]) q⟩
/-- what a call of g does that gets a lambda behind the values pre -/
def RunC (X : Cx) (g : Addr) (k : Nat) (ps : List Str) (pre : List V) (kw : List (Str × Unit)) (SP : Sp → Hp → VK → Prop) : Prop :=
  ∀ (pins : List (Addr × Obj)) (s : Shared) (σ : L2.St) (H : Hp) (f : Addr) (sp : Sp) (Q : VK) (us : List Value), Inv X pins σ H s → Clos X s H f k ps sp → Vals pre us → SP sp H Q →
    wpAny (model X.prog X.w) X.A (match kw with | [] => call (.ref g) (us ++ [.ref f]) | (n, _) :: _ => call (.ref g) us [(n, .ref f)]) (EP X pins σ Q) X.xe s
theorem pe_clcall {X : Cx} {x : Str} {g : Addr} {k : Nat} {ps : List Str} {lam : Expr} {pre : Hp → Prop} {rel : Hp → Hp → Prop} {t : XK → TE} {SP : Sp → Hp → VK → Prop} {p pos : Pos} (hM : LamMk X lam pre rel k ps t) (hR : RunC X g k ps [] [] SP)
    (hg : Gl X x) (hm : X.mg x = some (.ref g)) (hk : keepIn X.K (.ref g) = true) (hdb : (x == ("__debug__" : Str)) = false := by decide) (he : starEach [lam] X.env = [(false, eval lam X.env)] := by rfl) :
    PE X (.Call (.Name x p) [lam] [] pos) (fun σ H Q => pre H ∧ ∀ H1, rel H H1 → SP (fun vs HZ Q E => t E (vs.map some ++ σ) HZ Q) H1 Q) := by
  refine ⟨fun pins s σ H Q I h => ?_⟩
  obtain ⟨hp, h⟩ := h
  refine wpAny_Call_Name_kw (ld_glob I hg hm ?_ hdb)
  refine callWith_K (h₀ := X.base) I.ok.mod.kin hk ?_ he rfl
  rw [he]
  show wpAny _ _ (spliced [(false, eval lam X.env)]) _ _ s
  refine Calls.spliced_cons (hM pins s σ H _ _ I hp fun f H1 s' I1 hrel C => Calls.spliced_nil ⟨I1.kIn, ?_⟩)
  exact hR pins s' σ H1 f _ Q [] I1 C .nil (h H1 hrel)
/-- o.m(lambda ..) -/
def tClM (C : Addr) (m : Str) (pre rel : Hp → Hp → Prop) (SP : Addr → Sp → Hp → VK → Prop) (ta : TE) (t : XK → TE) : TE := fun σ H Q => ta σ H fun x H1 => ∃ a dx fs, x = .ref a ∧ H1 a = some (.ins C dx fs) ∧ fs.lookup m = none ∧ pre H H1 ∧ ∀ H2, rel H1 H2 → SP a (fun vs HZ Q E => t E (vs.map some ++ σ) HZ Q) H2 Q
theorem pe_clmeth {X : Cx} {m : Str} {C g : Addr} {k : Nat} {ps : List Str} {lam o : Expr} {ta : TE} {pre : Hp → Prop} {rel : Hp → Hp → Prop} {t : XK → TE} {SP : Addr → Sp → Hp → VK → Prop} {apos pos : Pos} {pl : Sem Bool} (he : PE X o ta) (c : Cls X.K C) (hm : Meth X.K C m g) (hM : LamMk X lam pre rel k ps t) (hR : ∀ a, RunC X g k ps [.ref a] [] (SP a))
    (hst : starEach [lam] X.env = [(false, eval lam X.env)] := by rfl)
    (ht : eval (.Call (.Attribute o m apos) [lam] [] pos) X.env = (do
      let ov ← eval o X.env
      standAt apos.atName
      let (f, first) ← holding [ov] (getMethod ov m pl)
      callWith pos f first (backTo pos (starEach [lam] X.env)) (backToKw pos (keywordEach [] X.env))) := by rfl) :
    PE X (.Call (.Attribute o m apos) [lam] [] pos) (tClM C m (fun _ H => pre H) rel SP ta t) := by
  refine ⟨fun pins s σ H Q I h => ?_⟩
  refine methodCall_KW (pl := pl) (thn (he.run pins s σ H _ I h) fun u s1 hh => ?_) ht
  obtain ⟨x, H1, I1, rx, a, dx, fs, ex, ea, l, hp, q⟩ := hh
  subst ex
  obtain rfl : u = Value.ref a := rx
  refine getmeth_ok I1 ea c hm l ?_
  refine callWith_K (first := [.ref a]) (h₀ := X.base) I.ok.mod.kin hm.kp ?_ hst rfl
  rw [hst]
  show wpAny _ _ (spliced [(false, eval lam X.env)]) _ _ s1
  refine Calls.spliced_cons (hM pins s1 σ H1 _ _ I1 hp fun f H2 s' I2 hrel C => Calls.spliced_nil ⟨I2.kIn, ?_⟩)
  exact hR a pins s' σ H2 f _ Q [.ref a] I2 C (.cons rfl .nil) (q H2 hrel)
/-- o.m(n=lambda ..) -/
theorem pe_clmethK {X : Cx} {m n : Str} {C g : Addr} {k : Nat} {ps : List Str} {lam o : Expr} {ta : TE} {pre : Hp → Prop} {rel : Hp → Hp → Prop} {t : XK → TE} {SP : Addr → Sp → Hp → VK → Prop} {apos pos : Pos} {kws : List Keyword} {pl : Sem Bool} (he : PE X o ta) (c : Cls X.K C) (hm : Meth X.K C m g) (hM : LamMk X lam pre rel k ps t) (hR : ∀ a, RunC X g k ps [.ref a] [(n, ())] (SP a))
    (hkw : backToKw pos (keywordEach kws X.env) = [(some n, do let v ← eval lam X.env; standAt pos; pure v)] := by rfl)
    (ht : eval (.Call (.Attribute o m apos) [] kws pos) X.env = (do
      let ov ← eval o X.env
      standAt apos.atName
      let (f, first) ← holding [ov] (getMethod ov m pl)
      callWith pos f first (backTo pos (starEach [] X.env)) (backToKw pos (keywordEach kws X.env))) := by rfl) :
    PE X (.Call (.Attribute o m apos) [] kws pos) (tClM C m (fun _ H => pre H) rel SP ta t) := by
  refine ⟨fun pins s σ H Q I h => ?_⟩
  refine methodCall_KW (pl := pl) (thn (he.run pins s σ H _ I h) fun u s1 hh => ?_) ht
  obtain ⟨x, H1, I1, rx, a, dx, fs, ex, ea, l, hp, q⟩ := hh
  subst ex
  obtain rfl : u = Value.ref a := rx
  refine getmeth_ok I1 ea c hm l ?_
  refine callWith_KW0 (first := [.ref a]) (h₀ := X.base) I.ok.mod.kin hm.kp (by rw [hkw]; rfl) ?_ (by rw [hkw]; rfl)
  rw [hkw]
  show wpAny _ _ (evalAll [do let v ← eval lam X.env; standAt pos; pure v]) _ _ s1
  refine evalAll_cons ?_
  refine wpAny_bind (hM pins s1 σ H1 _ _ I1 hp fun f H2 s' I2 hrel C => wpAny_bind (wpAny_standAt (wpAny_pure ?_)))
  refine evalAll_nil ⟨I2.kIn, ?_⟩
  exact hR a pins s' σ H2 f _ Q [.ref a] I2 C (.cons rfl .nil) (q H2 hrel)
end
end Bt
set_option Elab.async false
set_option linter.all false
set_option maxRecDepth 100000
set_option maxHeartbeats 4000000
/-! The program's defs by places; what the proofs ask of the top. -/
namespace Bt
open PySem PySem.Spec PyProof.Rows L2
def top (i : Nat) : Stmt := PySem.Challenge.pw_bentthrough_k57_whole_desk_trials.main.body.getD i (.Pass ⟨0, 0, 0, 0⟩)
abbrev st_m_InvalidText_init : Stmt := inClass (top 2) 0
def m_InvalidText_init : He.DefD := ⟨("InvalidText", some "__init__"), "__init__", "InvalidText.__init__", defArgs st_m_InvalidText_init, defBody st_m_InvalidText_init, defScope st_m_InvalidText_init, [], []⟩
abbrev st_m_InvalidName_init : Stmt := inClass (top 3) 0
def m_InvalidName_init : He.DefD := ⟨("InvalidName", some "__init__"), "__init__", "InvalidName.__init__", defArgs st_m_InvalidName_init, defBody st_m_InvalidName_init, defScope st_m_InvalidName_init, [], []⟩
abbrev st_m_InvalidIndex_init : Stmt := inClass (top 4) 0
def m_InvalidIndex_init : He.DefD := ⟨("InvalidIndex", some "__init__"), "__init__", "InvalidIndex.__init__", defArgs st_m_InvalidIndex_init, defBody st_m_InvalidIndex_init, defScope st_m_InvalidIndex_init, [], []⟩
abbrev st_m_InvalidDegree_init : Stmt := inClass (top 5) 0
def m_InvalidDegree_init : He.DefD := ⟨("InvalidDegree", some "__init__"), "__init__", "InvalidDegree.__init__", defArgs st_m_InvalidDegree_init, defBody st_m_InvalidDegree_init, defScope st_m_InvalidDegree_init, [], []⟩
abbrev st_m_InvalidClaim_init : Stmt := inClass (top 6) 0
def m_InvalidClaim_init : He.DefD := ⟨("InvalidClaim", some "__init__"), "__init__", "InvalidClaim.__init__", defArgs st_m_InvalidClaim_init, defBody st_m_InvalidClaim_init, defScope st_m_InvalidClaim_init, [], []⟩
abbrev st_m_NotAFrame_init : Stmt := inClass (top 7) 0
def m_NotAFrame_init : He.DefD := ⟨("NotAFrame", some "__init__"), "__init__", "NotAFrame.__init__", defArgs st_m_NotAFrame_init, defBody st_m_NotAFrame_init, defScope st_m_NotAFrame_init, [], []⟩
abbrev st_m_InvalidKnots_init : Stmt := inClass (top 8) 0
def m_InvalidKnots_init : He.DefD := ⟨("InvalidKnots", some "__init__"), "__init__", "InvalidKnots.__init__", defArgs st_m_InvalidKnots_init, defBody st_m_InvalidKnots_init, defScope st_m_InvalidKnots_init, [], []⟩
abbrev st_m_InvalidPlaces_init : Stmt := inClass (top 9) 0
def m_InvalidPlaces_init : He.DefD := ⟨("InvalidPlaces", some "__init__"), "__init__", "InvalidPlaces.__init__", defArgs st_m_InvalidPlaces_init, defBody st_m_InvalidPlaces_init, defScope st_m_InvalidPlaces_init, [], []⟩
abbrev st_m_UnknownName_init : Stmt := inClass (top 11) 0
def m_UnknownName_init : He.DefD := ⟨("UnknownName", some "__init__"), "__init__", "UnknownName.__init__", defArgs st_m_UnknownName_init, defBody st_m_UnknownName_init, defScope st_m_UnknownName_init, [], []⟩
abbrev st_m_InUse_init : Stmt := inClass (top 12) 0
def m_InUse_init : He.DefD := ⟨("InUse", some "__init__"), "__init__", "InUse.__init__", defArgs st_m_InUse_init, defBody st_m_InUse_init, defScope st_m_InUse_init, [], []⟩
abbrev st_m_Broken_init : Stmt := inClass (top 15) 0
def m_Broken_init : He.DefD := ⟨("Broken", some "__init__"), "__init__", "Broken.__init__", defArgs st_m_Broken_init, defBody st_m_Broken_init, defScope st_m_Broken_init, [], []⟩
abbrev st_d_is_integer : Stmt := top 25
def d_is_integer : He.DefD := ⟨("is_integer", none), "is_integer", "is_integer", defArgs st_d_is_integer, defBody st_d_is_integer, defScope st_d_is_integer, [], []⟩
abbrev st_d_is_between : Stmt := top 26
def d_is_between : He.DefD := ⟨("is_between", none), "is_between", "is_between", defArgs st_d_is_between, defBody st_d_is_between, defScope st_d_is_between, [], []⟩
abbrev st_d_is_name : Stmt := top 27
def d_is_name : He.DefD := ⟨("is_name", none), "is_name", "is_name", defArgs st_d_is_name, defBody st_d_is_name, defScope st_d_is_name, [], []⟩
abbrev st_d_number_in : Stmt := top 28
def d_number_in : He.DefD := ⟨("number_in", none), "number_in", "number_in", defArgs st_d_number_in, defBody st_d_number_in, defScope st_d_number_in, [], []⟩
abbrev st_d_is_place : Stmt := top 29
def d_is_place : He.DefD := ⟨("is_place", none), "is_place", "is_place", defArgs st_d_is_place, defBody st_d_is_place, defScope st_d_is_place, [], []⟩
abbrev st_d_are_places : Stmt := top 30
def d_are_places : He.DefD := ⟨("are_places", none), "are_places", "are_places", defArgs st_d_are_places, defBody st_d_are_places, defScope st_d_are_places, [], []⟩
abbrev st_d_places_fault : Stmt := top 31
def d_places_fault : He.DefD := ⟨("places_fault", none), "places_fault", "places_fault", defArgs st_d_places_fault, defBody st_d_places_fault, defScope st_d_places_fault, [], []⟩
abbrev st_d_check_places : Stmt := top 32
def d_check_places : He.DefD := ⟨("check_places", none), "check_places", "check_places", defArgs st_d_check_places, defBody st_d_check_places, defScope st_d_check_places, [], []⟩
abbrev st_d_knots_fault : Stmt := top 35
def d_knots_fault : He.DefD := ⟨("knots_fault", none), "knots_fault", "knots_fault", defArgs st_d_knots_fault, defBody st_d_knots_fault, defScope st_d_knots_fault, [], []⟩
abbrev st_m_Frame_init : Stmt := inClass (top 36) 0
def m_Frame_init : He.DefD := ⟨("Frame", some "__init__"), "__init__", "Frame.__init__", defArgs st_m_Frame_init, defBody st_m_Frame_init, defScope st_m_Frame_init, [], []⟩
abbrev st_m_Frame_eq : Stmt := inClass (top 36) 6
def m_Frame_eq : He.DefD := ⟨("Frame", some "__eq__"), "__eq__", "Frame.__eq__", defArgs st_m_Frame_eq, defBody st_m_Frame_eq, defScope st_m_Frame_eq, [], []⟩
abbrev st_m_Frame_str : Stmt := inClass (top 36) 7
def m_Frame_str : He.DefD := ⟨("Frame", some "__str__"), "__str__", "Frame.__str__", defArgs st_m_Frame_str, defBody st_m_Frame_str, defScope st_m_Frame_str, [], []⟩
abbrev st_m_Frame_repr : Stmt := inClass (top 36) 8
def m_Frame_repr : He.DefD := ⟨("Frame", some "__repr__"), "__repr__", "Frame.__repr__", defArgs st_m_Frame_repr, defBody st_m_Frame_repr, defScope st_m_Frame_repr, [], []⟩
abbrev st_d_check_frame : Stmt := top 37
def d_check_frame : He.DefD := ⟨("check_frame", none), "check_frame", "check_frame", defArgs st_d_check_frame, defBody st_d_check_frame, defScope st_d_check_frame, [], []⟩
abbrev st_d_within : Stmt := top 38
def d_within : He.DefD := ⟨("within", none), "within", "within", defArgs st_d_within, defBody st_d_within, defScope st_d_within, [], []⟩
abbrev st_d_is_up : Stmt := top 40
def d_is_up : He.DefD := ⟨("is_up", none), "is_up", "is_up", defArgs st_d_is_up, defBody st_d_is_up, defScope st_d_is_up, [], []⟩
abbrev st_d_lengths_from : Stmt := top 42
def d_lengths_from : He.DefD := ⟨("lengths_from", none), "lengths_from", "lengths_from", defArgs st_d_lengths_from, defBody st_d_lengths_from, defScope st_d_lengths_from, [], []⟩
abbrev st_d_rank_of : Stmt := top 43
def d_rank_of : He.DefD := ⟨("rank_of", none), "rank_of", "rank_of", defArgs st_d_rank_of, defBody st_d_rank_of, defScope st_d_rank_of, [], []⟩
abbrev st_d_check_both : Stmt := top 44
def d_check_both : He.DefD := ⟨("check_both", none), "check_both", "check_both", defArgs st_d_check_both, defBody st_d_check_both, defScope st_d_check_both, [], []⟩
abbrev st_d_rank : Stmt := top 45
def d_rank : He.DefD := ⟨("rank", none), "rank", "rank", defArgs st_d_rank, defBody st_d_rank, defScope st_d_rank, [], []⟩
abbrev st_d_is_claim : Stmt := top 48
def d_is_claim : He.DefD := ⟨("is_claim", none), "is_claim", "is_claim", defArgs st_d_is_claim, defBody st_d_is_claim, defScope st_d_is_claim, [], []⟩
abbrev st_d_names_in : Stmt := top 49
def d_names_in : He.DefD := ⟨("names_in", none), "names_in", "names_in", defArgs st_d_names_in, defBody st_d_names_in, defScope st_d_names_in, [], []⟩
abbrev st_d_is_kept : Stmt := top 50
def d_is_kept : He.DefD := ⟨("is_kept", none), "is_kept", "is_kept", defArgs st_d_is_kept, defBody st_d_is_kept, defScope st_d_is_kept, [], []⟩
abbrev st_d_shown_by : Stmt := top 51
def d_shown_by : He.DefD := ⟨("shown_by", none), "shown_by", "shown_by", defArgs st_d_shown_by, defBody st_d_shown_by, defScope st_d_shown_by, [], []⟩
abbrev st_m_Page_init : Stmt := inClass (top 53) 0
def m_Page_init : He.DefD := ⟨("Page", some "__init__"), "__init__", "Page.__init__", defArgs st_m_Page_init, defBody st_m_Page_init, defScope st_m_Page_init, [], []⟩
abbrev st_m_PageMark_init : Stmt := inClass (top 54) 0
def m_PageMark_init : He.DefD := ⟨("PageMark", some "__init__"), "__init__", "PageMark.__init__", defArgs st_m_PageMark_init, defBody st_m_PageMark_init, defScope st_m_PageMark_init, [], []⟩
abbrev st_m_DeskTrial_init : Stmt := inClass (top 55) 0
def m_DeskTrial_init : He.DefD := ⟨("DeskTrial", some "__init__"), "__init__", "DeskTrial.__init__", defArgs st_m_DeskTrial_init, defBody st_m_DeskTrial_init, defScope st_m_DeskTrial_init, [], []⟩
abbrev st_m_DeskTrial_enter : Stmt := inClass (top 55) 1
def m_DeskTrial_enter : He.DefD := ⟨("DeskTrial", some "__enter__"), "__enter__", "DeskTrial.__enter__", defArgs st_m_DeskTrial_enter, defBody st_m_DeskTrial_enter, defScope st_m_DeskTrial_enter, [], []⟩
abbrev st_m_DeskTrial_exit : Stmt := inClass (top 55) 2
def m_DeskTrial_exit : He.DefD := ⟨("DeskTrial", some "__exit__"), "__exit__", "DeskTrial.__exit__", defArgs st_m_DeskTrial_exit, defBody st_m_DeskTrial_exit, defScope st_m_DeskTrial_exit, [], []⟩
abbrev st_d_check_kept : Stmt := top 56
def d_check_kept : He.DefD := ⟨("check_kept", none), "check_kept", "check_kept", defArgs st_d_check_kept, defBody st_d_check_kept, defScope st_d_check_kept, [], []⟩
abbrev st_m_Desk_init : Stmt := inClass (top 57) 0
def m_Desk_init : He.DefD := ⟨("Desk", some "__init__"), "__init__", "Desk.__init__", defArgs st_m_Desk_init, defBody st_m_Desk_init, defScope st_m_Desk_init, [], []⟩
abbrev st_m_Desk_contains : Stmt := inClass (top 57) 1
def m_Desk_contains : He.DefD := ⟨("Desk", some "__contains__"), "__contains__", "Desk.__contains__", defArgs st_m_Desk_contains, defBody st_m_Desk_contains, defScope st_m_Desk_contains, [], []⟩
abbrev st_m_Desk_need : Stmt := inClass (top 57) 5
def m_Desk_need : He.DefD := ⟨("Desk", some "need"), "need", "Desk.need", defArgs st_m_Desk_need, defBody st_m_Desk_need, defScope st_m_Desk_need, [], []⟩
abbrev st_m_Desk_put : Stmt := inClass (top 57) 6
def m_Desk_put : He.DefD := ⟨("Desk", some "put"), "put", "Desk.put", defArgs st_m_Desk_put, defBody st_m_Desk_put, defScope st_m_Desk_put, [], []⟩
abbrev st_m_Desk_thing : Stmt := inClass (top 57) 7
def m_Desk_thing : He.DefD := ⟨("Desk", some "thing"), "thing", "Desk.thing", defArgs st_m_Desk_thing, defBody st_m_Desk_thing, defScope st_m_Desk_thing, [], []⟩
abbrev st_m_Desk_drop : Stmt := inClass (top 57) 8
def m_Desk_drop : He.DefD := ⟨("Desk", some "drop"), "drop", "Desk.drop", defArgs st_m_Desk_drop, defBody st_m_Desk_drop, defScope st_m_Desk_drop, [], []⟩
abbrev st_m_Desk_claim : Stmt := inClass (top 57) 9
def m_Desk_claim : He.DefD := ⟨("Desk", some "claim"), "claim", "Desk.claim", defArgs st_m_Desk_claim, defBody st_m_Desk_claim, defScope st_m_Desk_claim, [], []⟩
abbrev st_m_Desk_lift : Stmt := inClass (top 57) 10
def m_Desk_lift : He.DefD := ⟨("Desk", some "lift"), "lift", "Desk.lift", defArgs st_m_Desk_lift, defBody st_m_Desk_lift, defScope st_m_Desk_lift, [], []⟩
abbrev st_m_Desk_undo : Stmt := inClass (top 57) 11
def m_Desk_undo : He.DefD := ⟨("Desk", some "undo"), "undo", "Desk.undo", defArgs st_m_Desk_undo, defBody st_m_Desk_undo, defScope st_m_Desk_undo, [], []⟩
abbrev st_m_Desk_trial : Stmt := inClass (top 57) 12
def m_Desk_trial : He.DefD := ⟨("Desk", some "trial"), "trial", "Desk.trial", defArgs st_m_Desk_trial, defBody st_m_Desk_trial, defScope st_m_Desk_trial, [], []⟩
abbrev st_m_Desk_tried : Stmt := inClass (top 57) 13
def m_Desk_tried : He.DefD := ⟨("Desk", some "tried"), "tried", "Desk.tried", defArgs st_m_Desk_tried, defBody st_m_Desk_tried, defScope st_m_Desk_tried, [], []⟩
abbrev st_d_law_urn : Stmt := top 59
def d_law_urn : He.DefD := ⟨("_law_urn", none), "_law_urn", "_law_urn", defArgs st_d_law_urn, defBody st_d_law_urn, defScope st_d_law_urn, [], []⟩
abbrev st_d_law_grab : Stmt := top 60
def d_law_grab : He.DefD := ⟨("_law_grab", none), "_law_grab", "_law_grab", defArgs st_d_law_grab, defBody st_d_law_grab, defScope st_d_law_grab, [], []⟩
abbrev st_d_law_take : Stmt := top 61
def d_law_take : He.DefD := ⟨("_law_take", none), "_law_take", "_law_take", defArgs st_d_law_take, defBody st_d_law_take, defScope st_d_law_take, [], []⟩
abbrev st_d_law_shape : Stmt := top 62
def d_law_shape : He.DefD := ⟨("_law_shape", none), "_law_shape", "_law_shape", defArgs st_d_law_shape, defBody st_d_law_shape, defScope st_d_law_shape, [], []⟩
abbrev st_d_law_many : Stmt := top 63
def d_law_many : He.DefD := ⟨("_law_many", none), "_law_many", "_law_many", defArgs st_d_law_many, defBody st_d_law_many, defScope st_d_law_many, [], []⟩
abbrev st_d_law_framed : Stmt := top 64
def d_law_framed : He.DefD := ⟨("_law_framed", none), "_law_framed", "_law_framed", defArgs st_d_law_framed, defBody st_d_law_framed, defScope st_d_law_framed, [], []⟩
abbrev st_d_law_sites : Stmt := top 65
def d_law_sites : He.DefD := ⟨("_law_sites", none), "_law_sites", "_law_sites", defArgs st_d_law_sites, defBody st_d_law_sites, defScope st_d_law_sites, [], []⟩
abbrev st_d_law_is_up : Stmt := top 66
def d_law_is_up : He.DefD := ⟨("_law_is_up", none), "_law_is_up", "_law_is_up", defArgs st_d_law_is_up, defBody st_d_law_is_up, defScope st_d_law_is_up, [], []⟩
abbrev st_d_law_free : Stmt := top 67
def d_law_free : He.DefD := ⟨("_law_free", none), "_law_free", "_law_free", defArgs st_d_law_free, defBody st_d_law_free, defScope st_d_law_free, [], []⟩
abbrev st_d_law_want : Stmt := top 68
def d_law_want : He.DefD := ⟨("_law_want", none), "_law_want", "_law_want", defArgs st_d_law_want, defBody st_d_law_want, defScope st_d_law_want, [], []⟩
abbrev st_d_law_shown : Stmt := top 69
def d_law_shown : He.DefD := ⟨("_law_shown", none), "_law_shown", "_law_shown", defArgs st_d_law_shown, defBody st_d_law_shown, defScope st_d_law_shown, [], []⟩
abbrev st_d_law_broken : Stmt := top 70
def d_law_broken : He.DefD := ⟨("_law_broken", none), "_law_broken", "_law_broken", defArgs st_d_law_broken, defBody st_d_law_broken, defScope st_d_law_broken, [], []⟩
abbrev st_d_law_behind : Stmt := top 71
def d_law_behind : He.DefD := ⟨("_law_behind", none), "_law_behind", "_law_behind", defArgs st_d_law_behind, defBody st_d_law_behind, defScope st_d_law_behind, [], []⟩
abbrev st_d_law_new_deed : Stmt := top 72
def d_law_new_deed : He.DefD := ⟨("_law_new_deed", none), "_law_new_deed", "_law_new_deed", defArgs st_d_law_new_deed, defBody st_d_law_new_deed, defScope st_d_law_new_deed, [], []⟩
abbrev st_d_law_near : Stmt := top 73
def d_law_near : He.DefD := ⟨("_law_near", none), "_law_near", "_law_near", defArgs st_d_law_near, defBody st_d_law_near, defScope st_d_law_near, [], []⟩
abbrev st_d_law_done : Stmt := top 74
def d_law_done : He.DefD := ⟨("_law_done", none), "_law_done", "_law_done", defArgs st_d_law_done, defBody st_d_law_done, defScope st_d_law_done, [], []⟩
abbrev st_d_law_desk_is : Stmt := top 75
def d_law_desk_is : He.DefD := ⟨("_law_desk_is", none), "_law_desk_is", "_law_desk_is", defArgs st_d_law_desk_is, defBody st_d_law_desk_is, defScope st_d_law_desk_is, [], []⟩
abbrev st_d_law_slip : Stmt := top 76
def d_law_slip : He.DefD := ⟨("_law_slip", none), "_law_slip", "_law_slip", defArgs st_d_law_slip, defBody st_d_law_slip, defScope st_d_law_slip, [], []⟩
abbrev st_d_law_heard : Stmt := top 77
def d_law_heard : He.DefD := ⟨("_law_heard", none), "_law_heard", "_law_heard", defArgs st_d_law_heard, defBody st_d_law_heard, defScope st_d_law_heard, [], []⟩
abbrev st_d_law_turn : Stmt := top 78
def d_law_turn : He.DefD := ⟨("_law_turn", none), "_law_turn", "_law_turn", defArgs st_d_law_turn, defBody st_d_law_turn, defScope st_d_law_turn, [], []⟩
abbrev st_d_law_tried : Stmt := top 79
def d_law_tried : He.DefD := ⟨("_law_tried", none), "_law_tried", "_law_tried", defArgs st_d_law_tried, defBody st_d_law_tried, defScope st_d_law_tried, [], []⟩
abbrev st_d_law_inside : Stmt := top 80
def d_law_inside : He.DefD := ⟨("_law_inside", none), "_law_inside", "_law_inside", defArgs st_d_law_inside, defBody st_d_law_inside, defScope st_d_law_inside, [], []⟩
abbrev st_d_law_right : Stmt := top 81
def d_law_right : He.DefD := ⟨("_law_right", none), "_law_right", "_law_right", defArgs st_d_law_right, defBody st_d_law_right, defScope st_d_law_right, [], []⟩
abbrev st_d_law : Stmt := top 82
def d_law : He.DefD := ⟨("law", none), "law", "law", defArgs st_d_law, defBody st_d_law, defScope st_d_law, [], []⟩
def fnL : List He.DefD := [m_InvalidText_init, m_InvalidName_init, m_InvalidIndex_init, m_InvalidDegree_init, m_InvalidClaim_init, m_NotAFrame_init, m_InvalidKnots_init, m_InvalidPlaces_init, m_UnknownName_init, m_InUse_init, m_Broken_init, d_is_integer, d_is_between, d_is_name, d_number_in, d_is_place, d_are_places, d_places_fault, d_check_places, d_knots_fault, m_Frame_init, m_Frame_eq, m_Frame_str, m_Frame_repr, d_check_frame, d_within, d_is_up, d_lengths_from, d_rank_of, d_check_both, d_rank, d_is_claim, d_names_in, d_is_kept, d_shown_by, m_Page_init, m_PageMark_init, m_DeskTrial_init, m_DeskTrial_enter, m_DeskTrial_exit, d_check_kept, m_Desk_init, m_Desk_contains, m_Desk_need, m_Desk_put, m_Desk_thing, m_Desk_drop, m_Desk_claim, m_Desk_lift, m_Desk_undo, m_Desk_trial, m_Desk_tried, d_law_urn, d_law_grab, d_law_take, d_law_shape, d_law_many, d_law_framed, d_law_sites, d_law_is_up, d_law_free, d_law_want, d_law_shown, d_law_broken, d_law_behind, d_law_new_deed, d_law_near, d_law_done, d_law_desk_is, d_law_slip, d_law_heard, d_law_turn, d_law_tried, d_law_inside, d_law_right, d_law]
abbrev st_p_Frame_degree : Stmt := inClass (top 36) 2
def p_Frame_degree : He.DefD := ⟨("Frame", some "degree"), "degree", "Frame.degree", defArgs st_p_Frame_degree, defBody st_p_Frame_degree, defScope st_p_Frame_degree, [], []⟩
abbrev st_p_Frame_knots : Stmt := inClass (top 36) 3
def p_Frame_knots : He.DefD := ⟨("Frame", some "knots"), "knots", "Frame.knots", defArgs st_p_Frame_knots, defBody st_p_Frame_knots, defScope st_p_Frame_knots, [], []⟩
abbrev st_p_Frame_hills : Stmt := inClass (top 36) 4
def p_Frame_hills : He.DefD := ⟨("Frame", some "hills"), "hills", "Frame.hills", defArgs st_p_Frame_hills, defBody st_p_Frame_hills, defScope st_p_Frame_hills, [], []⟩
abbrev st_p_Desk_names : Stmt := inClass (top 57) 2
def p_Desk_names : He.DefD := ⟨("Desk", some "names"), "names", "Desk.names", defArgs st_p_Desk_names, defBody st_p_Desk_names, defScope st_p_Desk_names, [], []⟩
abbrev st_p_Desk_claims : Stmt := inClass (top 57) 3
def p_Desk_claims : He.DefD := ⟨("Desk", some "claims"), "claims", "Desk.claims", defArgs st_p_Desk_claims, defBody st_p_Desk_claims, defScope st_p_Desk_claims, [], []⟩
abbrev st_p_Desk_changes : Stmt := inClass (top 57) 4
def p_Desk_changes : He.DefD := ⟨("Desk", some "changes"), "changes", "Desk.changes", defArgs st_p_Desk_changes, defBody st_p_Desk_changes, defScope st_p_Desk_changes, [], []⟩
def prL : List He.DefD := [p_Frame_degree, p_Frame_knots, p_Frame_hills, p_Desk_names, p_Desk_claims, p_Desk_changes]
def gloL : List Str := ([Str.ofString "NotRight", Str.ofString "InvalidText", Str.ofString "InvalidName", Str.ofString "InvalidIndex", Str.ofString "InvalidDegree", Str.ofString "InvalidClaim", Str.ofString "NotAFrame", Str.ofString "InvalidKnots"] : List Str) ++ ([Str.ofString "InvalidPlaces", Str.ofString "NotKnown", Str.ofString "UnknownName", Str.ofString "InUse", Str.ofString "NothingToUndo", Str.ofString "NotPossible", Str.ofString "Broken", Str.ofString "is_integer"] : List Str) ++ ([Str.ofString "is_between", Str.ofString "is_name", Str.ofString "number_in", Str.ofString "is_place", Str.ofString "are_places", Str.ofString "places_fault", Str.ofString "check_places", Str.ofString "knots_fault"] : List Str) ++ ([Str.ofString "Frame", Str.ofString "check_frame", Str.ofString "within", Str.ofString "is_up", Str.ofString "lengths_from", Str.ofString "rank_of", Str.ofString "check_both", Str.ofString "rank"] : List Str) ++ ([Str.ofString "is_claim", Str.ofString "names_in", Str.ofString "is_kept", Str.ofString "shown_by", Str.ofString "Page", Str.ofString "PageMark", Str.ofString "DeskTrial", Str.ofString "check_kept"] : List Str) ++ ([Str.ofString "Desk", Str.ofString "_law_urn", Str.ofString "_law_grab", Str.ofString "_law_take", Str.ofString "_law_shape", Str.ofString "_law_many", Str.ofString "_law_framed", Str.ofString "_law_sites"] : List Str) ++ ([Str.ofString "_law_is_up", Str.ofString "_law_free", Str.ofString "_law_want", Str.ofString "_law_shown", Str.ofString "_law_broken", Str.ofString "_law_behind", Str.ofString "_law_new_deed", Str.ofString "_law_near"] : List Str) ++ ([Str.ofString "_law_done", Str.ofString "_law_desk_is", Str.ofString "_law_slip", Str.ofString "_law_heard", Str.ofString "_law_turn", Str.ofString "_law_tried", Str.ofString "_law_inside", Str.ofString "_law_right"] : List Str) ++ ([Str.ofString "law", Str.ofString "SIZES"] : List Str)
def freeL : List Str := ([Str.ofString "isinstance", Str.ofString "len", Str.ofString "int", Str.ofString "bool", Str.ofString "str", Str.ofString "tuple", Str.ofString "list", Str.ofString "dict"] : List Str) ++ ([Str.ofString "set", Str.ofString "sorted", Str.ofString "max", Str.ofString "min", Str.ofString "abs", Str.ofString "range", Str.ofString "enumerate", Str.ofString "repr"] : List Str) ++ ([Str.ofString "all", Str.ofString "ValueError", Str.ofString "LookupError", Str.ofString "ArithmeticError", Str.ofString "KeyError"] : List Str)
def intL : List (Str × Int) := [("MOST_DEGREE", 4), ("MOST_KNOT", 1000000), ("MOST_HILLS", 10), ("MOST_PLACES", 12), ("MOST_LETTERS", 8), ("MOST_FIGURES", 60)]
def strL : List (Str × Str) := [("LETTERS", "abcdefghijklmnopqrstuvwxyz")]
def clsL : List Str := ([Str.ofString "Frame", Str.ofString "Page", Str.ofString "PageMark", Str.ofString "DeskTrial", Str.ofString "Desk"] : List Str)
def noatL : List (Str × Str) := [("Frame", "parts"), ("Page", "shelf"), ("Page", "wanted"), ("Page", "ahead"), ("Page", "depth"), ("PageMark", "page"), ("PageMark", "before"), ("DeskTrial", "owner"), ("DeskTrial", "mark"), ("Desk", "page")]
def methL : List (Str × Str) := [("Desk", "need"), ("Desk", "put"), ("Desk", "thing"), ("Desk", "drop"), ("Desk", "claim"), ("Desk", "lift"), ("Desk", "undo"), ("Desk", "trial"), ("Desk", "tried")]
def mkrL : List Str := ([Str.ofString "Frame", Str.ofString "Page", Str.ofString "PageMark", Str.ofString "DeskTrial", Str.ofString "Desk"] : List Str)
def oexL : List Str := ([Str.ofString "InvalidText", Str.ofString "InvalidName", Str.ofString "InvalidIndex", Str.ofString "InvalidDegree", Str.ofString "InvalidClaim", Str.ofString "NotAFrame", Str.ofString "InvalidKnots", Str.ofString "InvalidPlaces"] : List Str) ++ ([Str.ofString "UnknownName", Str.ofString "InUse", Str.ofString "Broken"] : List Str)
def efL : List (Str × Str) := [("InvalidText", "given"), ("InvalidName", "given"), ("InvalidIndex", "given"), ("InvalidDegree", "given"), ("InvalidClaim", "given"), ("NotAFrame", "given"), ("InvalidKnots", "index"), ("InvalidPlaces", "index"), ("UnknownName", "given"), ("InUse", "index"), ("Broken", "index"), ("Broken", "shown")]
/-- what the top has left, as the proofs use it -/
structure Hd (K : PySem.W.Frag) (mg : Str → Option Value) : Prop where
  fn : ∀ (i : Nat) (d : He.DefD), fnL[i]? = some d → ∃ fd, FunD K d.name d.qual d.params d.body d.scope [] [] (He.fAd K d.at_) fd
  pr : ∀ (i : Nat) (d : He.DefD), prL[i]? = some d → ∃ p g fd, PropOf K (He.ga K d.at_.1) d.name p g ∧ FunD K d.name d.qual d.params d.body d.scope [] [] g fd
  glo : ∀ x ∈ gloL, mg x = some (.ref (He.ga K x))
  free : ∀ x ∈ freeL, mg x = none
  int : ∀ p ∈ intL, ∃ t, mg p.1 = some (.int p.2 t)
  str : ∀ p ∈ strL, ∃ t, mg p.1 = some (.str p.2 t)
  cls : ∀ x ∈ clsL, Cls K (He.ga K x)
  noat : ∀ p ∈ noatL, NoAttr K (He.ga K p.1) p.2
  meth : ∀ p ∈ methL, Meth K (He.ga K p.1) p.2 (He.ma K (He.ga K p.1) p.2)
  mkr : ∀ x ∈ mkrL, Mk K (He.ga K x) (He.ma K (He.ga K x) "__init__")
  oex : ∀ x ∈ oexL, OexT K (He.ga K x) ∧ PySem.W.findIn K (.ref (He.ga K x)) "__init__" = some (some (.ref (He.ma K (He.ga K x) "__init__"))) ∧ PySem.W.typeIn K (.ref (He.ma K (He.ga K x) "__init__")) = some (.type "function")
  ef : ∀ p ∈ efL, PySem.W.findIn K (.ref (He.ga K p.1)) p.2 = some none
/-- a def's promise, with what a caller needs -/
def Okf (P : Program) (w : World) (K : PySem.W.Frag) (mg : Str → Option Value) (base : Heap) (CX : CXT) (k : Nat) (f : Addr) (ps : List Str) (sp : Sp) : Prop :=
  ∃ fd, FnOk P w K mg base CX k f fd ps sp ∧ Binds K fd ps [] ∧ PySem.W.keepIn K (.ref f) = true
def Okg (P : Program) (w : World) (K : PySem.W.Frag) (mg : Str → Option Value) (base : Heap) (CX : CXT) (k : Nat) (f : Addr) (ps : List Str) (sp : Sp) : Prop :=
  ∃ fd, FnG P w K mg base CX k f fd ps sp ∧ Binds K fd ps [] ∧ PySem.W.keepIn K (.ref f) = true
section
variable {P : Program} {w : World} {K : PySem.W.Frag} {mg : Str → Option Value} {base : Heap} {CX : CXT} {x qual : Str} {params : Arguments} {body : List Stmt} {scope : Scope} {f : Addr} {N ps : List Str} {k : Nat} {sp : Sp}
theorem okf_of (F : ∃ fd, FunD K x qual params body scope [] [] f fd) (S : FnScope N ps scope)
    (hb : ∀ (kV doc pm : Value) (an : Option Addr) (cdv ct : Value) (us : List Value), us.length = ps.length → bindArgs (PySem.W.fnOf x qual params body scope .none kV doc pm an cdv ct) ⟨us, []⟩ = pure (ps.zip us))
    (len : ∀ vs H Q E, sp vs H Q E → vs.length = ps.length)
    (hbody : ∀ (cdv : Value) (A : Around) (outer : List Env) (s : Shared) (H : Hp) (vs : List V) (Q : VK) (E : XK), Room k (A.deeper (envOfC qual scope s.heap.objs.size f cdv)) → sp vs H Q E →
      ∃ t, PSs (cxOf CX P w K mg base N qual scope f cdv A outer s H E) body t ∧ t { nx := fun _ H' => Q .non H', rt := Q } (L2.start N vs) H) : Okf P w K mg base CX (k + 1) f ps sp := by
  obtain ⟨fd, F⟩ := F
  exact ⟨fd, F.ok S len hbody, F.bindsN hb, F.kp⟩
theorem okg_of (F : ∃ fd, FunD K x qual params body scope [] [] f fd) (S : FnScope N ps scope)
    (hb : ∀ (kV doc pm : Value) (an : Option Addr) (cdv ct : Value) (us : List Value), us.length = ps.length → bindArgs (PySem.W.fnOf x qual params body scope .none kV doc pm an cdv ct) ⟨us, []⟩ = pure (ps.zip us))
    (len : ∀ vs H Q E, sp vs H Q E → vs.length = ps.length)
    (hbody : ∀ (cdv : Value) (A : Around) (outer : List Env) (s : Shared) (H : Hp) (vs : List V) (Q : VK) (E : XK), A.guards = some [] → Room k (A.deeper (envOfC qual scope s.heap.objs.size f cdv)) → sp vs H Q E →
      ∃ t, PSs (cxOf CX P w K mg base N qual scope f cdv A outer s H E) body t ∧ t { nx := fun _ H' => Q .non H', rt := Q } (L2.start N vs) H) : Okg P w K mg base CX (k + 1) f ps sp := by
  obtain ⟨fd, F⟩ := F
  refine ⟨fd, ?_, F.bindsN hb, F.kp⟩
  obtain ⟨oc, od, dV, kV, doc, pm, an, cdv, ct, osl, rfl, lk, hcd, _, _⟩ := F.ex
  exact fn_ofG lk hcd S len fun A outer s H vs Q E hg hr hsp => hbody cdv A outer s H vs Q E hg hr hsp
theorem Okf.mono {j : Nat} (h : Okf P w K mg base CX j f ps sp) (l : j ≤ k) : Okf P w K mg base CX k f ps sp := by
  obtain ⟨fd, a, b, c⟩ := h
  exact ⟨fd, a.mono l, b, c⟩
theorem Okg.mono {j : Nat} (h : Okg P w K mg base CX j f ps sp) (l : j ≤ k) : Okg P w K mg base CX k f ps sp := by
  obtain ⟨fd, a, b, c⟩ := h
  exact ⟨fd, a.mono l, b, c⟩
/-- a call by its promise -/
theorem Okf.run {X : Cx} {j : Nat} {E : XK} (h : Okf X.prog X.w X.K X.mg X.base CX j f ps sp) (hr : Room j X.A) (hx : Passes CX X E) : RunR X f sp E := by
  obtain ⟨fd, a, b, c⟩ := h
  exact runR_ok a hr b hx
theorem Okg.run {X : Cx} {j : Nat} {E : XK} (h : Okg X.prog X.w X.K X.mg X.base CX j f ps sp) (hg : X.A.guards = some []) (hr : Room j X.A) (hx : Passes CX X E) : RunR X f sp E := by
  obtain ⟨fd, a, b, c⟩ := h
  exact runR_g a hg hr b hx
theorem Okf.kp (h : Okf P w K mg base CX k f ps sp) : PySem.W.keepIn K (.ref f) = true := by
  obtain ⟨fd, a, b, c⟩ := h
  exact c
theorem Okg.kp (h : Okg P w K mg base CX k f ps sp) : PySem.W.keepIn K (.ref f) = true := by
  obtain ⟨fd, a, b, c⟩ := h
  exact c
end
theorem bind0 {β : Type} {us : List Value} {f : List Value → β} {b : β} (hl : us.length = 0) (h : f [] = b) : f us = b := by
  cases us with
  | nil => exact h
  | cons _ _ => cases hl
theorem us1 {us : List Value} (hl : us.length = 1) : ∃ a, us = [a] := by
  rcases us with _ | ⟨a, _ | ⟨b, r⟩⟩
  · cases hl
  · exact ⟨a, rfl⟩
  · simp at hl
theorem us2 {us : List Value} (hl : us.length = 2) : ∃ a b, us = [a, b] := by
  rcases us with _ | ⟨a, _ | ⟨b, _ | ⟨c, r⟩⟩⟩
  · cases hl
  · cases hl
  · exact ⟨a, b, rfl⟩
  · simp at hl
theorem us3 {us : List Value} (hl : us.length = 3) : ∃ a b c, us = [a, b, c] := by
  rcases us with _ | ⟨a, _ | ⟨b, _ | ⟨c, _ | ⟨d, r⟩⟩⟩⟩
  · cases hl
  · cases hl
  · cases hl
  · exact ⟨a, b, c, rfl⟩
  · simp at hl
theorem us4 {us : List Value} (hl : us.length = 4) : ∃ a b c d, us = [a, b, c, d] := by
  rcases us with _ | ⟨a, _ | ⟨b, _ | ⟨c, _ | ⟨d, _ | ⟨e, r⟩⟩⟩⟩⟩
  · cases hl
  · cases hl
  · cases hl
  · cases hl
  · exact ⟨a, b, c, d, rfl⟩
  · simp at hl

theorem Hd.f_m_InvalidText_init {K : PySem.W.Frag} {mg : Str → Option Value} (h : Hd K mg) : ∃ fd, FunD K m_InvalidText_init.name m_InvalidText_init.qual m_InvalidText_init.params m_InvalidText_init.body m_InvalidText_init.scope [] [] (He.fAd K m_InvalidText_init.at_) fd := h.fn 0 m_InvalidText_init rfl
theorem Hd.f_m_InvalidName_init {K : PySem.W.Frag} {mg : Str → Option Value} (h : Hd K mg) : ∃ fd, FunD K m_InvalidName_init.name m_InvalidName_init.qual m_InvalidName_init.params m_InvalidName_init.body m_InvalidName_init.scope [] [] (He.fAd K m_InvalidName_init.at_) fd := h.fn 1 m_InvalidName_init rfl
theorem Hd.f_m_InvalidIndex_init {K : PySem.W.Frag} {mg : Str → Option Value} (h : Hd K mg) : ∃ fd, FunD K m_InvalidIndex_init.name m_InvalidIndex_init.qual m_InvalidIndex_init.params m_InvalidIndex_init.body m_InvalidIndex_init.scope [] [] (He.fAd K m_InvalidIndex_init.at_) fd := h.fn 2 m_InvalidIndex_init rfl
theorem Hd.f_m_InvalidDegree_init {K : PySem.W.Frag} {mg : Str → Option Value} (h : Hd K mg) : ∃ fd, FunD K m_InvalidDegree_init.name m_InvalidDegree_init.qual m_InvalidDegree_init.params m_InvalidDegree_init.body m_InvalidDegree_init.scope [] [] (He.fAd K m_InvalidDegree_init.at_) fd := h.fn 3 m_InvalidDegree_init rfl
theorem Hd.f_m_InvalidClaim_init {K : PySem.W.Frag} {mg : Str → Option Value} (h : Hd K mg) : ∃ fd, FunD K m_InvalidClaim_init.name m_InvalidClaim_init.qual m_InvalidClaim_init.params m_InvalidClaim_init.body m_InvalidClaim_init.scope [] [] (He.fAd K m_InvalidClaim_init.at_) fd := h.fn 4 m_InvalidClaim_init rfl
theorem Hd.f_m_NotAFrame_init {K : PySem.W.Frag} {mg : Str → Option Value} (h : Hd K mg) : ∃ fd, FunD K m_NotAFrame_init.name m_NotAFrame_init.qual m_NotAFrame_init.params m_NotAFrame_init.body m_NotAFrame_init.scope [] [] (He.fAd K m_NotAFrame_init.at_) fd := h.fn 5 m_NotAFrame_init rfl
theorem Hd.f_m_InvalidKnots_init {K : PySem.W.Frag} {mg : Str → Option Value} (h : Hd K mg) : ∃ fd, FunD K m_InvalidKnots_init.name m_InvalidKnots_init.qual m_InvalidKnots_init.params m_InvalidKnots_init.body m_InvalidKnots_init.scope [] [] (He.fAd K m_InvalidKnots_init.at_) fd := h.fn 6 m_InvalidKnots_init rfl
theorem Hd.f_m_InvalidPlaces_init {K : PySem.W.Frag} {mg : Str → Option Value} (h : Hd K mg) : ∃ fd, FunD K m_InvalidPlaces_init.name m_InvalidPlaces_init.qual m_InvalidPlaces_init.params m_InvalidPlaces_init.body m_InvalidPlaces_init.scope [] [] (He.fAd K m_InvalidPlaces_init.at_) fd := h.fn 7 m_InvalidPlaces_init rfl
theorem Hd.f_m_UnknownName_init {K : PySem.W.Frag} {mg : Str → Option Value} (h : Hd K mg) : ∃ fd, FunD K m_UnknownName_init.name m_UnknownName_init.qual m_UnknownName_init.params m_UnknownName_init.body m_UnknownName_init.scope [] [] (He.fAd K m_UnknownName_init.at_) fd := h.fn 8 m_UnknownName_init rfl
theorem Hd.f_m_InUse_init {K : PySem.W.Frag} {mg : Str → Option Value} (h : Hd K mg) : ∃ fd, FunD K m_InUse_init.name m_InUse_init.qual m_InUse_init.params m_InUse_init.body m_InUse_init.scope [] [] (He.fAd K m_InUse_init.at_) fd := h.fn 9 m_InUse_init rfl
theorem Hd.f_m_Broken_init {K : PySem.W.Frag} {mg : Str → Option Value} (h : Hd K mg) : ∃ fd, FunD K m_Broken_init.name m_Broken_init.qual m_Broken_init.params m_Broken_init.body m_Broken_init.scope [] [] (He.fAd K m_Broken_init.at_) fd := h.fn 10 m_Broken_init rfl
theorem Hd.f_d_is_integer {K : PySem.W.Frag} {mg : Str → Option Value} (h : Hd K mg) : ∃ fd, FunD K d_is_integer.name d_is_integer.qual d_is_integer.params d_is_integer.body d_is_integer.scope [] [] (He.fAd K d_is_integer.at_) fd := h.fn 11 d_is_integer rfl
theorem Hd.f_d_is_between {K : PySem.W.Frag} {mg : Str → Option Value} (h : Hd K mg) : ∃ fd, FunD K d_is_between.name d_is_between.qual d_is_between.params d_is_between.body d_is_between.scope [] [] (He.fAd K d_is_between.at_) fd := h.fn 12 d_is_between rfl
theorem Hd.f_d_is_name {K : PySem.W.Frag} {mg : Str → Option Value} (h : Hd K mg) : ∃ fd, FunD K d_is_name.name d_is_name.qual d_is_name.params d_is_name.body d_is_name.scope [] [] (He.fAd K d_is_name.at_) fd := h.fn 13 d_is_name rfl
theorem Hd.f_d_number_in {K : PySem.W.Frag} {mg : Str → Option Value} (h : Hd K mg) : ∃ fd, FunD K d_number_in.name d_number_in.qual d_number_in.params d_number_in.body d_number_in.scope [] [] (He.fAd K d_number_in.at_) fd := h.fn 14 d_number_in rfl
theorem Hd.f_d_is_place {K : PySem.W.Frag} {mg : Str → Option Value} (h : Hd K mg) : ∃ fd, FunD K d_is_place.name d_is_place.qual d_is_place.params d_is_place.body d_is_place.scope [] [] (He.fAd K d_is_place.at_) fd := h.fn 15 d_is_place rfl
theorem Hd.f_d_are_places {K : PySem.W.Frag} {mg : Str → Option Value} (h : Hd K mg) : ∃ fd, FunD K d_are_places.name d_are_places.qual d_are_places.params d_are_places.body d_are_places.scope [] [] (He.fAd K d_are_places.at_) fd := h.fn 16 d_are_places rfl
theorem Hd.f_d_places_fault {K : PySem.W.Frag} {mg : Str → Option Value} (h : Hd K mg) : ∃ fd, FunD K d_places_fault.name d_places_fault.qual d_places_fault.params d_places_fault.body d_places_fault.scope [] [] (He.fAd K d_places_fault.at_) fd := h.fn 17 d_places_fault rfl
theorem Hd.f_d_check_places {K : PySem.W.Frag} {mg : Str → Option Value} (h : Hd K mg) : ∃ fd, FunD K d_check_places.name d_check_places.qual d_check_places.params d_check_places.body d_check_places.scope [] [] (He.fAd K d_check_places.at_) fd := h.fn 18 d_check_places rfl
theorem Hd.f_d_knots_fault {K : PySem.W.Frag} {mg : Str → Option Value} (h : Hd K mg) : ∃ fd, FunD K d_knots_fault.name d_knots_fault.qual d_knots_fault.params d_knots_fault.body d_knots_fault.scope [] [] (He.fAd K d_knots_fault.at_) fd := h.fn 19 d_knots_fault rfl
theorem Hd.f_m_Frame_init {K : PySem.W.Frag} {mg : Str → Option Value} (h : Hd K mg) : ∃ fd, FunD K m_Frame_init.name m_Frame_init.qual m_Frame_init.params m_Frame_init.body m_Frame_init.scope [] [] (He.fAd K m_Frame_init.at_) fd := h.fn 20 m_Frame_init rfl
theorem Hd.f_m_Frame_eq {K : PySem.W.Frag} {mg : Str → Option Value} (h : Hd K mg) : ∃ fd, FunD K m_Frame_eq.name m_Frame_eq.qual m_Frame_eq.params m_Frame_eq.body m_Frame_eq.scope [] [] (He.fAd K m_Frame_eq.at_) fd := h.fn 21 m_Frame_eq rfl
theorem Hd.f_m_Frame_str {K : PySem.W.Frag} {mg : Str → Option Value} (h : Hd K mg) : ∃ fd, FunD K m_Frame_str.name m_Frame_str.qual m_Frame_str.params m_Frame_str.body m_Frame_str.scope [] [] (He.fAd K m_Frame_str.at_) fd := h.fn 22 m_Frame_str rfl
theorem Hd.f_m_Frame_repr {K : PySem.W.Frag} {mg : Str → Option Value} (h : Hd K mg) : ∃ fd, FunD K m_Frame_repr.name m_Frame_repr.qual m_Frame_repr.params m_Frame_repr.body m_Frame_repr.scope [] [] (He.fAd K m_Frame_repr.at_) fd := h.fn 23 m_Frame_repr rfl
theorem Hd.f_d_check_frame {K : PySem.W.Frag} {mg : Str → Option Value} (h : Hd K mg) : ∃ fd, FunD K d_check_frame.name d_check_frame.qual d_check_frame.params d_check_frame.body d_check_frame.scope [] [] (He.fAd K d_check_frame.at_) fd := h.fn 24 d_check_frame rfl
theorem Hd.f_d_within {K : PySem.W.Frag} {mg : Str → Option Value} (h : Hd K mg) : ∃ fd, FunD K d_within.name d_within.qual d_within.params d_within.body d_within.scope [] [] (He.fAd K d_within.at_) fd := h.fn 25 d_within rfl
theorem Hd.f_d_is_up {K : PySem.W.Frag} {mg : Str → Option Value} (h : Hd K mg) : ∃ fd, FunD K d_is_up.name d_is_up.qual d_is_up.params d_is_up.body d_is_up.scope [] [] (He.fAd K d_is_up.at_) fd := h.fn 26 d_is_up rfl
theorem Hd.f_d_lengths_from {K : PySem.W.Frag} {mg : Str → Option Value} (h : Hd K mg) : ∃ fd, FunD K d_lengths_from.name d_lengths_from.qual d_lengths_from.params d_lengths_from.body d_lengths_from.scope [] [] (He.fAd K d_lengths_from.at_) fd := h.fn 27 d_lengths_from rfl
theorem Hd.f_d_rank_of {K : PySem.W.Frag} {mg : Str → Option Value} (h : Hd K mg) : ∃ fd, FunD K d_rank_of.name d_rank_of.qual d_rank_of.params d_rank_of.body d_rank_of.scope [] [] (He.fAd K d_rank_of.at_) fd := h.fn 28 d_rank_of rfl
theorem Hd.f_d_check_both {K : PySem.W.Frag} {mg : Str → Option Value} (h : Hd K mg) : ∃ fd, FunD K d_check_both.name d_check_both.qual d_check_both.params d_check_both.body d_check_both.scope [] [] (He.fAd K d_check_both.at_) fd := h.fn 29 d_check_both rfl
theorem Hd.f_d_rank {K : PySem.W.Frag} {mg : Str → Option Value} (h : Hd K mg) : ∃ fd, FunD K d_rank.name d_rank.qual d_rank.params d_rank.body d_rank.scope [] [] (He.fAd K d_rank.at_) fd := h.fn 30 d_rank rfl
theorem Hd.f_d_is_claim {K : PySem.W.Frag} {mg : Str → Option Value} (h : Hd K mg) : ∃ fd, FunD K d_is_claim.name d_is_claim.qual d_is_claim.params d_is_claim.body d_is_claim.scope [] [] (He.fAd K d_is_claim.at_) fd := h.fn 31 d_is_claim rfl
theorem Hd.f_d_names_in {K : PySem.W.Frag} {mg : Str → Option Value} (h : Hd K mg) : ∃ fd, FunD K d_names_in.name d_names_in.qual d_names_in.params d_names_in.body d_names_in.scope [] [] (He.fAd K d_names_in.at_) fd := h.fn 32 d_names_in rfl
theorem Hd.f_d_is_kept {K : PySem.W.Frag} {mg : Str → Option Value} (h : Hd K mg) : ∃ fd, FunD K d_is_kept.name d_is_kept.qual d_is_kept.params d_is_kept.body d_is_kept.scope [] [] (He.fAd K d_is_kept.at_) fd := h.fn 33 d_is_kept rfl
theorem Hd.f_d_shown_by {K : PySem.W.Frag} {mg : Str → Option Value} (h : Hd K mg) : ∃ fd, FunD K d_shown_by.name d_shown_by.qual d_shown_by.params d_shown_by.body d_shown_by.scope [] [] (He.fAd K d_shown_by.at_) fd := h.fn 34 d_shown_by rfl
theorem Hd.f_m_Page_init {K : PySem.W.Frag} {mg : Str → Option Value} (h : Hd K mg) : ∃ fd, FunD K m_Page_init.name m_Page_init.qual m_Page_init.params m_Page_init.body m_Page_init.scope [] [] (He.fAd K m_Page_init.at_) fd := h.fn 35 m_Page_init rfl
theorem Hd.f_m_PageMark_init {K : PySem.W.Frag} {mg : Str → Option Value} (h : Hd K mg) : ∃ fd, FunD K m_PageMark_init.name m_PageMark_init.qual m_PageMark_init.params m_PageMark_init.body m_PageMark_init.scope [] [] (He.fAd K m_PageMark_init.at_) fd := h.fn 36 m_PageMark_init rfl
theorem Hd.f_m_DeskTrial_init {K : PySem.W.Frag} {mg : Str → Option Value} (h : Hd K mg) : ∃ fd, FunD K m_DeskTrial_init.name m_DeskTrial_init.qual m_DeskTrial_init.params m_DeskTrial_init.body m_DeskTrial_init.scope [] [] (He.fAd K m_DeskTrial_init.at_) fd := h.fn 37 m_DeskTrial_init rfl
theorem Hd.f_m_DeskTrial_enter {K : PySem.W.Frag} {mg : Str → Option Value} (h : Hd K mg) : ∃ fd, FunD K m_DeskTrial_enter.name m_DeskTrial_enter.qual m_DeskTrial_enter.params m_DeskTrial_enter.body m_DeskTrial_enter.scope [] [] (He.fAd K m_DeskTrial_enter.at_) fd := h.fn 38 m_DeskTrial_enter rfl
theorem Hd.f_m_DeskTrial_exit {K : PySem.W.Frag} {mg : Str → Option Value} (h : Hd K mg) : ∃ fd, FunD K m_DeskTrial_exit.name m_DeskTrial_exit.qual m_DeskTrial_exit.params m_DeskTrial_exit.body m_DeskTrial_exit.scope [] [] (He.fAd K m_DeskTrial_exit.at_) fd := h.fn 39 m_DeskTrial_exit rfl
theorem Hd.f_d_check_kept {K : PySem.W.Frag} {mg : Str → Option Value} (h : Hd K mg) : ∃ fd, FunD K d_check_kept.name d_check_kept.qual d_check_kept.params d_check_kept.body d_check_kept.scope [] [] (He.fAd K d_check_kept.at_) fd := h.fn 40 d_check_kept rfl
theorem Hd.f_m_Desk_init {K : PySem.W.Frag} {mg : Str → Option Value} (h : Hd K mg) : ∃ fd, FunD K m_Desk_init.name m_Desk_init.qual m_Desk_init.params m_Desk_init.body m_Desk_init.scope [] [] (He.fAd K m_Desk_init.at_) fd := h.fn 41 m_Desk_init rfl
theorem Hd.f_m_Desk_contains {K : PySem.W.Frag} {mg : Str → Option Value} (h : Hd K mg) : ∃ fd, FunD K m_Desk_contains.name m_Desk_contains.qual m_Desk_contains.params m_Desk_contains.body m_Desk_contains.scope [] [] (He.fAd K m_Desk_contains.at_) fd := h.fn 42 m_Desk_contains rfl
theorem Hd.f_m_Desk_need {K : PySem.W.Frag} {mg : Str → Option Value} (h : Hd K mg) : ∃ fd, FunD K m_Desk_need.name m_Desk_need.qual m_Desk_need.params m_Desk_need.body m_Desk_need.scope [] [] (He.fAd K m_Desk_need.at_) fd := h.fn 43 m_Desk_need rfl
theorem Hd.f_m_Desk_put {K : PySem.W.Frag} {mg : Str → Option Value} (h : Hd K mg) : ∃ fd, FunD K m_Desk_put.name m_Desk_put.qual m_Desk_put.params m_Desk_put.body m_Desk_put.scope [] [] (He.fAd K m_Desk_put.at_) fd := h.fn 44 m_Desk_put rfl
theorem Hd.f_m_Desk_thing {K : PySem.W.Frag} {mg : Str → Option Value} (h : Hd K mg) : ∃ fd, FunD K m_Desk_thing.name m_Desk_thing.qual m_Desk_thing.params m_Desk_thing.body m_Desk_thing.scope [] [] (He.fAd K m_Desk_thing.at_) fd := h.fn 45 m_Desk_thing rfl
theorem Hd.f_m_Desk_drop {K : PySem.W.Frag} {mg : Str → Option Value} (h : Hd K mg) : ∃ fd, FunD K m_Desk_drop.name m_Desk_drop.qual m_Desk_drop.params m_Desk_drop.body m_Desk_drop.scope [] [] (He.fAd K m_Desk_drop.at_) fd := h.fn 46 m_Desk_drop rfl
theorem Hd.f_m_Desk_claim {K : PySem.W.Frag} {mg : Str → Option Value} (h : Hd K mg) : ∃ fd, FunD K m_Desk_claim.name m_Desk_claim.qual m_Desk_claim.params m_Desk_claim.body m_Desk_claim.scope [] [] (He.fAd K m_Desk_claim.at_) fd := h.fn 47 m_Desk_claim rfl
theorem Hd.f_m_Desk_lift {K : PySem.W.Frag} {mg : Str → Option Value} (h : Hd K mg) : ∃ fd, FunD K m_Desk_lift.name m_Desk_lift.qual m_Desk_lift.params m_Desk_lift.body m_Desk_lift.scope [] [] (He.fAd K m_Desk_lift.at_) fd := h.fn 48 m_Desk_lift rfl
theorem Hd.f_m_Desk_undo {K : PySem.W.Frag} {mg : Str → Option Value} (h : Hd K mg) : ∃ fd, FunD K m_Desk_undo.name m_Desk_undo.qual m_Desk_undo.params m_Desk_undo.body m_Desk_undo.scope [] [] (He.fAd K m_Desk_undo.at_) fd := h.fn 49 m_Desk_undo rfl
theorem Hd.f_m_Desk_trial {K : PySem.W.Frag} {mg : Str → Option Value} (h : Hd K mg) : ∃ fd, FunD K m_Desk_trial.name m_Desk_trial.qual m_Desk_trial.params m_Desk_trial.body m_Desk_trial.scope [] [] (He.fAd K m_Desk_trial.at_) fd := h.fn 50 m_Desk_trial rfl
theorem Hd.f_m_Desk_tried {K : PySem.W.Frag} {mg : Str → Option Value} (h : Hd K mg) : ∃ fd, FunD K m_Desk_tried.name m_Desk_tried.qual m_Desk_tried.params m_Desk_tried.body m_Desk_tried.scope [] [] (He.fAd K m_Desk_tried.at_) fd := h.fn 51 m_Desk_tried rfl
theorem Hd.f_d_law_urn {K : PySem.W.Frag} {mg : Str → Option Value} (h : Hd K mg) : ∃ fd, FunD K d_law_urn.name d_law_urn.qual d_law_urn.params d_law_urn.body d_law_urn.scope [] [] (He.fAd K d_law_urn.at_) fd := h.fn 52 d_law_urn rfl
theorem Hd.f_d_law_grab {K : PySem.W.Frag} {mg : Str → Option Value} (h : Hd K mg) : ∃ fd, FunD K d_law_grab.name d_law_grab.qual d_law_grab.params d_law_grab.body d_law_grab.scope [] [] (He.fAd K d_law_grab.at_) fd := h.fn 53 d_law_grab rfl
theorem Hd.f_d_law_take {K : PySem.W.Frag} {mg : Str → Option Value} (h : Hd K mg) : ∃ fd, FunD K d_law_take.name d_law_take.qual d_law_take.params d_law_take.body d_law_take.scope [] [] (He.fAd K d_law_take.at_) fd := h.fn 54 d_law_take rfl
theorem Hd.f_d_law_shape {K : PySem.W.Frag} {mg : Str → Option Value} (h : Hd K mg) : ∃ fd, FunD K d_law_shape.name d_law_shape.qual d_law_shape.params d_law_shape.body d_law_shape.scope [] [] (He.fAd K d_law_shape.at_) fd := h.fn 55 d_law_shape rfl
theorem Hd.f_d_law_many {K : PySem.W.Frag} {mg : Str → Option Value} (h : Hd K mg) : ∃ fd, FunD K d_law_many.name d_law_many.qual d_law_many.params d_law_many.body d_law_many.scope [] [] (He.fAd K d_law_many.at_) fd := h.fn 56 d_law_many rfl
theorem Hd.f_d_law_framed {K : PySem.W.Frag} {mg : Str → Option Value} (h : Hd K mg) : ∃ fd, FunD K d_law_framed.name d_law_framed.qual d_law_framed.params d_law_framed.body d_law_framed.scope [] [] (He.fAd K d_law_framed.at_) fd := h.fn 57 d_law_framed rfl
theorem Hd.f_d_law_sites {K : PySem.W.Frag} {mg : Str → Option Value} (h : Hd K mg) : ∃ fd, FunD K d_law_sites.name d_law_sites.qual d_law_sites.params d_law_sites.body d_law_sites.scope [] [] (He.fAd K d_law_sites.at_) fd := h.fn 58 d_law_sites rfl
theorem Hd.f_d_law_is_up {K : PySem.W.Frag} {mg : Str → Option Value} (h : Hd K mg) : ∃ fd, FunD K d_law_is_up.name d_law_is_up.qual d_law_is_up.params d_law_is_up.body d_law_is_up.scope [] [] (He.fAd K d_law_is_up.at_) fd := h.fn 59 d_law_is_up rfl
theorem Hd.f_d_law_free {K : PySem.W.Frag} {mg : Str → Option Value} (h : Hd K mg) : ∃ fd, FunD K d_law_free.name d_law_free.qual d_law_free.params d_law_free.body d_law_free.scope [] [] (He.fAd K d_law_free.at_) fd := h.fn 60 d_law_free rfl
theorem Hd.f_d_law_want {K : PySem.W.Frag} {mg : Str → Option Value} (h : Hd K mg) : ∃ fd, FunD K d_law_want.name d_law_want.qual d_law_want.params d_law_want.body d_law_want.scope [] [] (He.fAd K d_law_want.at_) fd := h.fn 61 d_law_want rfl
theorem Hd.f_d_law_shown {K : PySem.W.Frag} {mg : Str → Option Value} (h : Hd K mg) : ∃ fd, FunD K d_law_shown.name d_law_shown.qual d_law_shown.params d_law_shown.body d_law_shown.scope [] [] (He.fAd K d_law_shown.at_) fd := h.fn 62 d_law_shown rfl
theorem Hd.f_d_law_broken {K : PySem.W.Frag} {mg : Str → Option Value} (h : Hd K mg) : ∃ fd, FunD K d_law_broken.name d_law_broken.qual d_law_broken.params d_law_broken.body d_law_broken.scope [] [] (He.fAd K d_law_broken.at_) fd := h.fn 63 d_law_broken rfl
theorem Hd.f_d_law_behind {K : PySem.W.Frag} {mg : Str → Option Value} (h : Hd K mg) : ∃ fd, FunD K d_law_behind.name d_law_behind.qual d_law_behind.params d_law_behind.body d_law_behind.scope [] [] (He.fAd K d_law_behind.at_) fd := h.fn 64 d_law_behind rfl
theorem Hd.f_d_law_new_deed {K : PySem.W.Frag} {mg : Str → Option Value} (h : Hd K mg) : ∃ fd, FunD K d_law_new_deed.name d_law_new_deed.qual d_law_new_deed.params d_law_new_deed.body d_law_new_deed.scope [] [] (He.fAd K d_law_new_deed.at_) fd := h.fn 65 d_law_new_deed rfl
theorem Hd.f_d_law_near {K : PySem.W.Frag} {mg : Str → Option Value} (h : Hd K mg) : ∃ fd, FunD K d_law_near.name d_law_near.qual d_law_near.params d_law_near.body d_law_near.scope [] [] (He.fAd K d_law_near.at_) fd := h.fn 66 d_law_near rfl
theorem Hd.f_d_law_done {K : PySem.W.Frag} {mg : Str → Option Value} (h : Hd K mg) : ∃ fd, FunD K d_law_done.name d_law_done.qual d_law_done.params d_law_done.body d_law_done.scope [] [] (He.fAd K d_law_done.at_) fd := h.fn 67 d_law_done rfl
theorem Hd.f_d_law_desk_is {K : PySem.W.Frag} {mg : Str → Option Value} (h : Hd K mg) : ∃ fd, FunD K d_law_desk_is.name d_law_desk_is.qual d_law_desk_is.params d_law_desk_is.body d_law_desk_is.scope [] [] (He.fAd K d_law_desk_is.at_) fd := h.fn 68 d_law_desk_is rfl
theorem Hd.f_d_law_slip {K : PySem.W.Frag} {mg : Str → Option Value} (h : Hd K mg) : ∃ fd, FunD K d_law_slip.name d_law_slip.qual d_law_slip.params d_law_slip.body d_law_slip.scope [] [] (He.fAd K d_law_slip.at_) fd := h.fn 69 d_law_slip rfl
theorem Hd.f_d_law_heard {K : PySem.W.Frag} {mg : Str → Option Value} (h : Hd K mg) : ∃ fd, FunD K d_law_heard.name d_law_heard.qual d_law_heard.params d_law_heard.body d_law_heard.scope [] [] (He.fAd K d_law_heard.at_) fd := h.fn 70 d_law_heard rfl
theorem Hd.f_d_law_turn {K : PySem.W.Frag} {mg : Str → Option Value} (h : Hd K mg) : ∃ fd, FunD K d_law_turn.name d_law_turn.qual d_law_turn.params d_law_turn.body d_law_turn.scope [] [] (He.fAd K d_law_turn.at_) fd := h.fn 71 d_law_turn rfl
theorem Hd.f_d_law_tried {K : PySem.W.Frag} {mg : Str → Option Value} (h : Hd K mg) : ∃ fd, FunD K d_law_tried.name d_law_tried.qual d_law_tried.params d_law_tried.body d_law_tried.scope [] [] (He.fAd K d_law_tried.at_) fd := h.fn 72 d_law_tried rfl
theorem Hd.f_d_law_inside {K : PySem.W.Frag} {mg : Str → Option Value} (h : Hd K mg) : ∃ fd, FunD K d_law_inside.name d_law_inside.qual d_law_inside.params d_law_inside.body d_law_inside.scope [] [] (He.fAd K d_law_inside.at_) fd := h.fn 73 d_law_inside rfl
theorem Hd.f_d_law_right {K : PySem.W.Frag} {mg : Str → Option Value} (h : Hd K mg) : ∃ fd, FunD K d_law_right.name d_law_right.qual d_law_right.params d_law_right.body d_law_right.scope [] [] (He.fAd K d_law_right.at_) fd := h.fn 74 d_law_right rfl
theorem Hd.f_d_law {K : PySem.W.Frag} {mg : Str → Option Value} (h : Hd K mg) : ∃ fd, FunD K d_law.name d_law.qual d_law.params d_law.body d_law.scope [] [] (He.fAd K d_law.at_) fd := h.fn 75 d_law rfl
theorem Hd.f_p_Frame_degree {K : PySem.W.Frag} {mg : Str → Option Value} (h : Hd K mg) : ∃ p g fd, PropOf K (He.ga K p_Frame_degree.at_.1) p_Frame_degree.name p g ∧ FunD K p_Frame_degree.name p_Frame_degree.qual p_Frame_degree.params p_Frame_degree.body p_Frame_degree.scope [] [] g fd := h.pr 0 p_Frame_degree rfl
theorem Hd.f_p_Frame_knots {K : PySem.W.Frag} {mg : Str → Option Value} (h : Hd K mg) : ∃ p g fd, PropOf K (He.ga K p_Frame_knots.at_.1) p_Frame_knots.name p g ∧ FunD K p_Frame_knots.name p_Frame_knots.qual p_Frame_knots.params p_Frame_knots.body p_Frame_knots.scope [] [] g fd := h.pr 1 p_Frame_knots rfl
theorem Hd.f_p_Frame_hills {K : PySem.W.Frag} {mg : Str → Option Value} (h : Hd K mg) : ∃ p g fd, PropOf K (He.ga K p_Frame_hills.at_.1) p_Frame_hills.name p g ∧ FunD K p_Frame_hills.name p_Frame_hills.qual p_Frame_hills.params p_Frame_hills.body p_Frame_hills.scope [] [] g fd := h.pr 2 p_Frame_hills rfl
theorem Hd.f_p_Desk_names {K : PySem.W.Frag} {mg : Str → Option Value} (h : Hd K mg) : ∃ p g fd, PropOf K (He.ga K p_Desk_names.at_.1) p_Desk_names.name p g ∧ FunD K p_Desk_names.name p_Desk_names.qual p_Desk_names.params p_Desk_names.body p_Desk_names.scope [] [] g fd := h.pr 3 p_Desk_names rfl
theorem Hd.f_p_Desk_claims {K : PySem.W.Frag} {mg : Str → Option Value} (h : Hd K mg) : ∃ p g fd, PropOf K (He.ga K p_Desk_claims.at_.1) p_Desk_claims.name p g ∧ FunD K p_Desk_claims.name p_Desk_claims.qual p_Desk_claims.params p_Desk_claims.body p_Desk_claims.scope [] [] g fd := h.pr 4 p_Desk_claims rfl
theorem Hd.f_p_Desk_changes {K : PySem.W.Frag} {mg : Str → Option Value} (h : Hd K mg) : ∃ p g fd, PropOf K (He.ga K p_Desk_changes.at_.1) p_Desk_changes.name p g ∧ FunD K p_Desk_changes.name p_Desk_changes.qual p_Desk_changes.params p_Desk_changes.body p_Desk_changes.scope [] [] g fd := h.pr 5 p_Desk_changes rfl
theorem bo_int : bootBuiltins "int" = some (.type "int") := by decide +kernel
theorem bo_str : bootBuiltins "str" = some (.type "str") := by decide +kernel
theorem bo_bool : bootBuiltins "bool" = some (.type "bool") := by decide +kernel
theorem bo_tuple : bootBuiltins "tuple" = some (.type "tuple") := by decide +kernel
theorem bo_list : bootBuiltins "list" = some (.type "list") := by decide +kernel
theorem bo_dict : bootBuiltins "dict" = some (.type "dict") := by decide +kernel
theorem bo_set : bootBuiltins "set" = some (.type "set") := by decide +kernel
theorem bo_range : bootBuiltins "range" = some (.type "range") := by decide +kernel
theorem bo_enumerate : bootBuiltins "enumerate" = some (.type "enumerate") := by decide +kernel
theorem bo_len : bootBuiltins "len" = some (.builtin "len") := by decide +kernel
theorem bo_isinstance : bootBuiltins "isinstance" = some (.builtin "isinstance") := by decide +kernel
theorem bo_sorted : bootBuiltins "sorted" = some (.builtin "sorted") := by decide +kernel
theorem bo_max : bootBuiltins "max" = some (.builtin "max") := by decide +kernel
theorem bo_min : bootBuiltins "min" = some (.builtin "min") := by decide +kernel
theorem bo_abs : bootBuiltins "abs" = some (.builtin "abs") := by decide +kernel
theorem bo_repr : bootBuiltins "repr" = some (.builtin "repr") := by decide +kernel
theorem bo_all : bootBuiltins "all" = some (.builtin "all") := by decide +kernel
theorem bo_ValueError : bootBuiltins "ValueError" = some (.type "ValueError") := by decide +kernel
theorem bo_LookupError : bootBuiltins "LookupError" = some (.type "LookupError") := by decide +kernel
theorem bo_ArithmeticError : bootBuiltins "ArithmeticError" = some (.type "ArithmeticError") := by decide +kernel
theorem bo_KeyError : bootBuiltins "KeyError" = some (.type "KeyError") := by decide +kernel
end Bt
set_option linter.all false
/-! The mathematics: two ways to reckon the greatest number of pairs agree; plans; deeds upon pages. -/
namespace Bt

/-! ### the longest rows of pairs -/
section
variable {α β : Type} (R : α → β → Bool)
def lcs : List α → List β → Nat
  | [], _ => 0
  | _ :: _, [] => 0
  | h :: hs, x :: xs => if R h x then max (max (lcs hs (x :: xs)) (lcs (h :: hs) xs)) (lcs hs xs + 1) else max (lcs hs (x :: xs)) (lcs (h :: hs) xs)
termination_by hs xs => hs.length + xs.length
inductive Ch : List α → List β → Nat → Prop where
  | nil (hs : List α) (xs : List β) : Ch hs xs 0
  | left {h : α} {hs : List α} {xs : List β} {k : Nat} : Ch hs xs k → Ch (h :: hs) xs k
  | right {x : β} {hs : List α} {xs : List β} {k : Nat} : Ch hs xs k → Ch hs (x :: xs) k
  | pair {h : α} {x : β} {hs : List α} {xs : List β} {k : Nat} : R h x = true → Ch hs xs k → Ch (h :: hs) (x :: xs) (k + 1)
variable {R}
theorem lcs_nilr (hs : List α) : lcs R hs [] = 0 := by
  cases hs <;> simp [lcs]
theorem lcs_nill (xs : List β) : lcs R [] xs = 0 := by simp [lcs]
theorem lcs_cons (h : α) (hs : List α) (x : β) (xs : List β) : lcs R (h :: hs) (x :: xs) = if R h x then max (max (lcs R hs (x :: xs)) (lcs R (h :: hs) xs)) (lcs R hs xs + 1) else max (lcs R hs (x :: xs)) (lcs R (h :: hs) xs) := by
  rw [lcs]
theorem lcs_left (h : α) (hs : List α) (xs : List β) : lcs R hs xs ≤ lcs R (h :: hs) xs := by
  cases xs with
  | nil => rw [lcs_nilr]; exact Nat.zero_le _
  | cons x xs => rw [lcs_cons]; split <;> omega
theorem lcs_right (x : β) (hs : List α) (xs : List β) : lcs R hs xs ≤ lcs R hs (x :: xs) := by
  cases hs with
  | nil => rw [lcs_nill]; exact Nat.zero_le _
  | cons h hs => rw [lcs_cons]; split <;> omega
theorem Ch.le {hs : List α} {xs : List β} {k : Nat} (c : Ch R hs xs k) : k ≤ lcs R hs xs := by
  induction c with
  | nil => exact Nat.zero_le _
  | left _ ih => exact Nat.le_trans ih (lcs_left _ _ _)
  | right _ ih => exact Nat.le_trans ih (lcs_right _ _ _)
  | pair r _ ih => rw [lcs_cons, if_pos r]; omega
theorem ch_lcs : ∀ (hs : List α) (xs : List β), Ch R hs xs (lcs R hs xs)
  | [], xs => by rw [lcs_nill]; exact .nil _ _
  | h :: hs, [] => by rw [lcs_nilr]; exact .nil _ _
  | h :: hs, x :: xs => by
    have a := ch_lcs hs (x :: xs)
    have b := ch_lcs (h :: hs) xs
    have c := ch_lcs hs xs
    rw [lcs_cons]
    have two : Ch R (h :: hs) (x :: xs) (max (lcs R hs (x :: xs)) (lcs R (h :: hs) xs)) := by
      by_cases q : lcs R hs (x :: xs) ≤ lcs R (h :: hs) xs
      · rw [Nat.max_eq_right q]; exact .right b
      · rw [Nat.max_eq_left (by omega)]; exact .left a
    by_cases r : R h x = true
    · rw [if_pos r]
      by_cases q : max (lcs R hs (x :: xs)) (lcs R (h :: hs) xs) ≤ lcs R hs xs + 1
      · rw [Nat.max_eq_right q]; exact .pair r c
      · rw [Nat.max_eq_left (by omega)]; exact two
    · rw [if_neg r]; exact two
termination_by hs xs => hs.length + xs.length
theorem Ch.more {hs : List α} {xs : List β} {k : Nat} (c : Ch R hs xs k) (h : α) (x : β) : Ch R (hs ++ [h]) xs k ∧ Ch R hs (xs ++ [x]) k ∧ (R h x = true → Ch R (hs ++ [h]) (xs ++ [x]) (k + 1)) := by
  induction c with
  | nil hs xs =>
    refine ⟨.nil _ _, .nil _ _, fun r => ?_⟩
    have one : Ch R [h] [x] 1 := .pair r (.nil _ _)
    have up1 : ∀ ys : List β, Ch R [h] (ys ++ [x]) 1 := fun ys => by
      induction ys with
      | nil => exact one
      | cons y ys ih => exact .right ih
    induction hs with
    | nil => exact up1 xs
    | cons a hs ih => exact .left ih
  | left _ ih => exact ⟨.left ih.1, .left ih.2.1, fun r => .left (ih.2.2 r)⟩
  | right _ ih => exact ⟨.right ih.1, .right ih.2.1, fun r => .right (ih.2.2 r)⟩
  | pair q _ ih => exact ⟨.pair q ih.1, .pair q ih.2.1, fun r => .pair q (ih.2.2 r)⟩
theorem Ch.rev {hs : List α} {xs : List β} {k : Nat} (c : Ch R hs xs k) : Ch R hs.reverse xs.reverse k := by
  induction c with
  | nil => exact .nil _ _
  | @left h hs xs k c ih =>
    rw [List.reverse_cons]
    cases xs with
    | nil =>
      have : k = 0 := by have := ih.le; rw [List.reverse_nil, lcs_nilr] at this; omega
      subst this; exact .nil _ _
    | cons x xs => exact (ih.more h x).1
  | @right x hs xs k c ih =>
    rw [List.reverse_cons]
    cases hs with
    | nil =>
      have : k = 0 := by have := ih.le; rw [List.reverse_nil, lcs_nill] at this; omega
      subst this; exact .nil _ _
    | cons h hs => exact (ih.more h x).2.1
  | @pair h x hs xs k r c ih =>
    rw [List.reverse_cons, List.reverse_cons]
    exact (ih.more h x).2.2 r
theorem lcs_rev (hs : List α) (xs : List β) : lcs R hs.reverse xs.reverse = lcs R hs xs := by
  apply Nat.le_antisymm
  · have c := (ch_lcs (R := R) hs.reverse xs.reverse).rev.le
    rw [List.reverse_reverse, List.reverse_reverse] at c
    exact c
  · exact (ch_lcs hs xs).rev.le
end
theorem lcs_le_right {α β : Type} {R : α → β → Bool} : ∀ (hs : List α) (xs : List β), lcs R hs xs ≤ xs.length := by
  have key : ∀ {hs : List α} {xs : List β} {k : Nat}, Ch R hs xs k → k ≤ xs.length := fun c => by
    induction c with
    | nil => exact Nat.zero_le _
    | left _ ih => exact ih
    | right _ ih => rw [List.length_cons]; omega
    | pair _ _ ih => rw [List.length_cons]; omega
  exact fun hs xs => key (ch_lcs hs xs)

/-! ### frames -/
/-- whether the hill h stands at x: degree g, knots ks -/
def upB (g : Nat) (ks : List Int) (h : Nat) (x : Int) : Bool :=
  (decide (ks.getD h 0 < x) && decide (x < ks.getD (h + g + 1) 0)) || ((decide (x = ks.getD h 0) && decide (x = ks.getD (h + g) 0)) || (decide (x = ks.getD (ks.length - 1) 0) && decide (x = ks.getD (h + 1) 0)))
/-- degree, knots -/
abbrev Plan := Nat × List Int
def Plan.hills (p : Plan) : Nat := p.2.length - p.1 - 1
def Plan.up (p : Plan) : Nat → Int → Bool := upB p.1 p.2
def rk (p : Plan) (xs : List Int) : Nat := lcs p.up (List.range p.hills) xs
structure PlanOk (p : Plan) : Prop where
  deg : p.1 ≤ 4
  lo : p.1 + 2 ≤ p.2.length
  hi : p.2.length ≤ p.1 + 11
  asc : p.2.Pairwise (· ≤ ·)
  few : ∀ k, p.2.count k ≤ p.1 + 1
  rng : ∀ k ∈ p.2, 0 ≤ k ∧ k ≤ 600000 + (p.2.length : Int)
theorem PlanOk.pos {p : Plan} (o : PlanOk p) : 1 ≤ p.hills := by
  have := o.lo; unfold Plan.hills; omega
theorem PlanOk.ten {p : Plan} (o : PlanOk p) : p.hills ≤ 10 := by
  have := o.hi; unfold Plan.hills; omega
theorem PlanOk.len {p : Plan} (o : PlanOk p) : p.2.length ≤ 15 := by
  have := o.hi; have := o.deg; omega
theorem PlanOk.mil {p : Plan} (o : PlanOk p) : ∀ k ∈ p.2, 0 ≤ k ∧ k ≤ 1000000 := fun k hk => by
  have := o.rng k hk; have := o.len; omega
theorem PlanOk.hills_eq {p : Plan} (o : PlanOk p) : (p.hills : Int) = (p.2.length : Int) - (p.1 : Int) - 1 := by
  have := o.lo; unfold Plan.hills; omega

theorem asc_get {ks : List Int} (h : ks.Pairwise (· ≤ ·)) {i j : Nat} (hij : i ≤ j) (hj : j < ks.length) : ks[i]'(by omega) ≤ ks[j] := by
  by_cases e : i = j
  · subst e; exact Int.le_refl _
  · exact List.pairwise_iff_getElem.mp h i j (by omega) hj (by omega)
/-- alike at a distance: as many alike -/
theorem count_run {ks : List Int} (h : ks.Pairwise (· ≤ ·)) {i d : Nat} (hi : i + d < ks.length) (e : ks[i]'(by omega) = ks[i + d]) : d + 1 ≤ ks.count ks[i + d] := by
  have sub : List.Sublist (List.replicate (d + 1) ks[i + d]) ks := by
    have e1 : (ks.drop i).take (d + 1) = List.replicate (d + 1) ks[i + d] := by
      apply List.ext_getElem
      · simp; omega
      · intro n h1 h2
        simp at h1 h2 ⊢
        have a := asc_get h (i := i) (j := i + n) (by omega) (by omega)
        have b := asc_get h (i := i + n) (j := i + d) (by omega) hi
        omega
    rw [← e1]
    exact (List.take_sublist _ _).trans (List.drop_sublist _ _)
  have := sub.count_le ks[i + d]
  rw [List.count_replicate_self] at this
  exact this
theorem PlanOk.apart {p : Plan} (o : PlanOk p) {i : Nat} (h1 : p.1 < i) (h2 : i < p.2.length) : p.2[i - p.1 - 1]'(by omega) ≠ p.2[i] := fun e => by
  have hi : (i - p.1 - 1) + (p.1 + 1) < p.2.length := by omega
  have e2 : (i - p.1 - 1) + (p.1 + 1) = i := by omega
  have c := count_run o.asc hi (by simp only [e2]; exact e)
  have f := o.few (p.2[(i - p.1 - 1) + (p.1 + 1)])
  omega
/-- an ascending list, one more -/
structure Part (g n : Nat) (m : Int) (ks : List Int) : Prop where
  len : ks.length = n
  asc : ks.Pairwise (· ≤ ·)
  few : ∀ k, ks.count k ≤ g + 1
  rng : ∀ k ∈ ks, 0 ≤ k ∧ k ≤ m
theorem Part.ne {g n : Nat} {m : Int} {ks : List Int} (p : Part g (n + 1) m ks) : ks ≠ [] := fun z => by
  have := p.len; rw [z] at this; cases this
theorem last_le {ks : List Int} (h : ks.Pairwise (· ≤ ·)) (ne : ks ≠ []) : ∀ k ∈ ks, k ≤ ks.getLast ne := fun k hk => by
  obtain ⟨i, hi, rfl⟩ := List.getElem_of_mem hk
  rw [List.getLast_eq_getElem]
  exact asc_get h (by omega) (by omega)
theorem Part.snoc {g n : Nat} {m s : Int} {ks : List Int} (p : Part g (n + 1) m ks) (h0 : 0 ≤ s) (h3 : s ≤ 3) (hs : s = 0 → ks.count (ks.getLast p.ne) ≠ g + 1) : Part g (n + 2) (m + 3) (ks ++ [ks.getLast p.ne + s]) := by
  have ll := last_le p.asc p.ne
  have lm := p.rng _ (List.getLast_mem p.ne)
  refine ⟨by simp [p.len], ?_, fun k => ?_, fun k hk => ?_⟩
  · rw [List.pairwise_append]
    refine ⟨p.asc, List.pairwise_singleton _ _, fun a ha b hb => ?_⟩
    have := ll a ha
    rw [List.mem_singleton] at hb
    omega
  · rw [List.count_append]
    by_cases e : k = ks.getLast p.ne + s
    · rw [e, List.count_singleton_self]
      by_cases z : s = 0
      · rw [z, Int.add_zero]
        have := hs z
        have := p.few (ks.getLast p.ne)
        omega
      · have : ks.count (ks.getLast p.ne + s) = 0 := List.count_eq_zero.mpr fun hm => by
          have := ll _ hm; omega
        omega
    · have : List.count k [ks.getLast p.ne + s] = 0 := List.count_eq_zero.mpr fun hm => e (List.mem_singleton.mp hm)
      have := p.few k
      omega
  · rcases List.mem_append.mp hk with q | q
    · have := p.rng k q; omega
    · rw [List.mem_singleton] at q; omega
theorem count_scale {c : Int} (hc : 1 ≤ c) (ks : List Int) (k : Int) : ∃ j, (ks.map (c * ·)).count k ≤ ks.count j := by
  by_cases h : ∃ j ∈ ks, c * j = k
  · obtain ⟨j, hj, e⟩ := h
    refine ⟨j, ?_⟩
    subst e
    rw [List.count, List.count, List.countP_map]
    apply List.countP_mono_left
    intro x hx q
    simp only [Function.comp, beq_iff_eq] at q ⊢
    exact Int.eq_of_mul_eq_mul_left (by omega) q
  · refine ⟨k, ?_⟩
    have : (ks.map (c * ·)).count k = 0 := List.count_eq_zero.mpr fun hm => by
      obtain ⟨j, hj, e⟩ := List.mem_map.mp hm
      exact h ⟨j, hj, e⟩
    omega
/-- a drawn shape -/
theorem Part.plan {g n : Nat} {c : Int} {ks : List Int} (p : Part g n 30 ks) (hg : g ≤ 4) (h2 : g + 2 ≤ n) (h10 : n ≤ 10) (hc : 1 ≤ c) (hc2 : c ≤ 20000) : PlanOk (g, ks.map (c * ·)) := by
  refine ⟨hg, by simp [p.len]; exact h2, by simp [p.len]; omega, ?_, fun k => ?_, fun k hk => ?_⟩
  · rw [List.pairwise_map]
    exact p.asc.imp fun h => Int.mul_le_mul_of_nonneg_left h (by omega)
  · obtain ⟨j, hj⟩ := count_scale hc ks k
    exact Nat.le_trans hj (p.few j)
  · obtain ⟨j, hj, rfl⟩ := List.mem_map.mp hk
    have r := p.rng j hj
    have a := Int.mul_nonneg (show (0 : Int) ≤ c by omega) r.1
    have b : c * j ≤ 20000 * 30 := Int.mul_le_mul hc2 r.2 r.1 (by omega)
    simp only [List.length_map]
    omega
/-- a knot more -/
theorem PlanOk.near {g : Nat} {ks ls : List Int} {m : Int} (o : PlanOk (g, ks)) (hp : ls.Perm (ks ++ [m])) (ha : ls.Pairwise (· ≤ ·)) (hm : ∃ k ∈ ks, k ≤ m ∧ m ≤ k + 1) (hc : ks.count m ≤ g) (hl : ks.length < g + 11) : PlanOk (g, ls) := by
  have el : ls.length = ks.length + 1 := by rw [hp.length_eq]; simp
  have h2 : g + 2 ≤ ks.length := o.lo
  refine ⟨o.deg, by show g + 2 ≤ ls.length; omega, by show ls.length ≤ g + 11; omega, ha, fun k => ?_, fun k hk => ?_⟩
  · show ls.count k ≤ g + 1
    rw [hp.count_eq, List.count_append]
    by_cases e : k = m
    · rw [e, List.count_singleton_self]; omega
    · have : List.count k [m] = 0 := List.count_eq_zero.mpr fun z => e (List.mem_singleton.mp z)
      have : ks.count k ≤ g + 1 := o.few k
      omega
  · show 0 ≤ k ∧ k ≤ 600000 + (ls.length : Int)
    have hk : k ∈ ks ++ [m] := hp.mem_iff.mp hk
    rw [el]
    rcases List.mem_append.mp hk with q | q
    · have r : 0 ≤ k ∧ k ≤ 600000 + (ks.length : Int) := o.rng k q
      omega
    · obtain ⟨j, hj, h1, h3⟩ := hm
      have r : 0 ≤ j ∧ j ≤ 600000 + (ks.length : Int) := o.rng j hj
      rw [List.mem_singleton] at q
      omega

/-! ### places -/
structure SpotsOk (xs : List Int) : Prop where
  ne : xs ≠ []
  asc : xs.Pairwise (· < ·)
  few : xs.length ≤ 12
  rng : ∀ x ∈ xs, 0 ≤ x ∧ x ≤ 1000000
end Bt
set_option Elab.async false
set_option linter.all false
set_option maxRecDepth 100000
set_option maxHeartbeats 4000000
/-! The urn. -/
namespace Bt
open PySem PySem.Spec PyProof.Rows L2
def UrnAt (H : Hp) (u : Addr) : Prop := ∃ d m c : Int, H u = some (.lst [.int d, .int m, .int c])
/-- all but the urn at u stays -/
structure XU (u : Addr) (H H' : Hp) : Prop where
  k : ∀ b o, b ≠ u → H b = some o → H' b = some o
  urn : UrnAt H' u
theorem XU.refl {u : Addr} {H : Hp} (h : UrnAt H u) : XU u H H := ⟨fun _ _ _ e => e, h⟩
theorem XU.trans {u : Addr} {H H1 H2 : Hp} (a : XU u H H1) (b : XU u H1 H2) : XU u H H2 := ⟨fun c o n e => b.k c o n (a.k c o n e), b.urn⟩
theorem XU.new {u p : Addr} {o : HO} {H H1 : Hp} (a : XU u H H1) (h : H1 p = none) : XU u H (upd H1 p o) := by
  have hu : u ≠ p := by
    obtain ⟨d, m, c, e⟩ := a.urn
    exact ne_of_none e h
  refine ⟨fun b ob n e => ?_, ?_⟩
  · rw [upd_ne (ne_of_none (a.k b ob n e) h)]
    exact a.k b ob n e
  · obtain ⟨d, m, c, e⟩ := a.urn
    exact ⟨d, m, c, by rw [upd_ne hu]; exact e⟩
theorem XU.free {u p : Addr} {H H1 : Hp} (a : XU u H H1) (h : H1 p = none) : H p = none := by
  cases e : H p with
  | none => rfl
  | some o =>
    by_cases z : p = u
    · subst z
      obtain ⟨d, m, c, q⟩ := a.urn
      rw [h] at q
      cases q
    · rw [a.k p o z e] at h
      cases h
/-- an object that H does not know may change -/
theorem XU.mut {u p : Addr} {o : HO} {H H1 : Hp} (a : XU u H H1) (h : H p = none) (hu : u ≠ p) : XU u H (upd H1 p o) := by
  refine ⟨fun b ob n e => ?_, ?_⟩
  · rw [upd_ne (ne_of_none e h)]
    exact a.k b ob n e
  · obtain ⟨d, m, c, e⟩ := a.urn
    exact ⟨d, m, c, by rw [upd_ne hu]; exact e⟩
theorem XU.ltup {u : Addr} {K : PySem.W.Frag} {H H1 : Hp} (a : XU u H H1) {b : Addr} {xs : List V} (e : H b = some (.tup xs)) (hu : UrnAt H u) : H1 b = some (.tup xs) := a.k b _ (fun z => by
  obtain ⟨d, m, c, q⟩ := hu
  rw [z, q] at e
  cases e) e
def spGrab (u : Addr) : Sp := fun vs H Q _ => ∃ top : Int, vs = [.ref u, .int top] ∧ UrnAt H u ∧ 0 < top ∧ top < 1073741824 ∧ ∀ (r : Int) (H' : Hp), 0 ≤ r → r < top → XU u H H' → Q (.int r) H'
abbrev mgI : Str → Prop := fun _ => True
section
variable {P : Program} {w : World} {K : PySem.W.Frag} {mg : Str → Option Value} {base : Heap}
theorem scGrab : FnScope ["_law_urn_here", "_law_top", "_law_figure", "_law_base"] ["_law_urn_here", "_law_top"] (defScope st_d_law_grab) := ⟨rfl, rfl, rfl, by decide +kernel, rfl, by decide +kernel, by decide +kernel⟩
theorem ok_grab (hd : Hd K mg) (u : Addr) : Okf P w K mg base C8.CX0 1 (He.fAd K d_law_grab.at_) ["_law_urn_here", "_law_top"] (spGrab u) := by
  have mi : mg "int" = none := hd.free _ (by decide +kernel)
  refine okf_of hd.f_d_law_grab scGrab (fun _ _ _ _ _ _ us hl => ?_) (fun vs H Q E h => ?_) (fun cdv A outer s H vs Q E hr h => ?_)
  · obtain ⟨a, b, rfl⟩ := us2 hl
    rfl
  · obtain ⟨t, rfl, _⟩ := h
    rfl
  · obtain ⟨top, rfl, ⟨d, m, c, hu⟩, t0, t1, k⟩ := h
    have hu' := hu_of hr
    refine ⟨_, pss_cons (ps_if (pt_cmpR op_gt (pe_ix ix_list (pv 0) pe_int (fun _ _ => rfl)) pe_int (nomark _))
        (pss_cons (ps_set (i := 2) scGrab.nd rfl (.inl rfl) (pe_op op_mod (pe_callTy call_int1 (by rfl) mi bo_int (pa_cons (pe_ix ix_list (pv 0) pe_int (fun _ _ => rfl)) pa_nil)) (pv 1)))
        (pss_cons (ps_asg (pe_op op_fdiv (pe_ix ix_list (pv 0) pe_int (fun _ _ => rfl)) (pv 1)) (pg_sub (pv 0) pe_int set_list))
        (pss_one (ps_ret (pv 2))))) pss_nil)
      (pss_cons (ps_asg (pe_op op_add (pe_ix ix_list (pv 0) pe_int (fun _ _ => rfl)) pe_int) (pg_sub (pv 0) pe_int set_list))
      (pss_cons (ps_set (i := 3) scGrab.nd rfl (.inl rfl) (pe_op op_mod (pe_callTy call_int1 (by rfl) mi bo_int (pa_cons (pe_op op_add (pe_ix ix_list (pv 0) pe_int (fun _ _ => rfl)) (pe_op op_mul pe_int (pe_ix ix_list (pv 0) pe_int (fun _ _ => rfl)))) pa_nil)) pe_int))
      (pss_cons (ps_asg (pe_op op_mod (pe_callTy call_int1 (by rfl) mi bo_int (pa_cons (pe_op op_add (pe_op op_add (pe_op op_mul (pv 3) (pe_op op_add (pe_op op_mod (pe_callTy call_int1 (by rfl) mi bo_int (pa_cons (pv 3) pa_nil)) pe_int) pe_int)) (pe_op op_mul pe_int (pe_ix ix_list (pv 0) pe_int (fun _ _ => rfl)))) pe_int) pa_nil)) pe_int) (pg_sub (pv 0) pe_int set_list))
      (pss_one (ps_ret (pe_op op_mod (pe_op op_fdiv (pe_callTy call_int1 (by rfl) mi bo_int (pa_cons (pe_ix ix_list (pv 0) pe_int (fun _ _ => rfl)) pa_nil)) pe_int) (pv 1))))))), ?_⟩
    have g0 : atI [V.int d, V.int m, V.int c] 0 = some (.int d) := rfl
    refine ⟨_, rfl, u, _, _, _, rfl, rfl, .of hu, g0, _, _, rfl, rfl, _, rfl, ?_⟩
    by_cases hd0 : 0 < d
    · rw [decide_eq_true hd0]
      refine iteT ?_
      refine ⟨_, rfl, u, _, _, _, rfl, rfl, .of hu, g0, .inl ⟨_, rfl, ?_⟩⟩
      refine ⟨_, rfl, _, _, rfl, rfl, t0, ?_⟩
      refine ⟨_, rfl, u, _, _, _, rfl, rfl, .of hu, g0, _, rfl, _, _, rfl, rfl, ⟨t0, t1⟩, _, rfl, u, _, _, 0, rfl, rfl, hu, rfl, ?_⟩
      refine ⟨_, rfl, ?_⟩
      exact k _ _ (Int.emod_nonneg _ (by omega)) (Int.emod_lt_of_pos _ t0) ⟨fun b o n e => by rw [upd_ne n]; exact e, _, _, _, upd_same⟩
    · rw [decide_eq_false hd0]
      refine iteF ?_
      refine ⟨_, rfl, u, _, _, _, rfl, rfl, .of hu, (show atI [V.int d, V.int m, V.int c] 2 = some (.int c) from rfl), _, _, rfl, rfl, _, rfl, u, _, _, 2, rfl, rfl, hu, rfl, ?_⟩
      have h1 : (upd H u (.lst ([V.int d, V.int m, V.int c].set 2 (.int (c + 1))))) u = some (.lst [.int d, .int m, .int (c + 1)]) := upd_same
      generalize eH : upd H u (.lst ([V.int d, V.int m, V.int c].set 2 (.int (c + 1)))) = H1 at h1 ⊢
      have n1 : ∀ b o, b ≠ u → H b = some o → H1 b = some o := fun b o n e => by rw [← eH, upd_ne n]; exact e
      refine ⟨_, rfl, u, _, _, _, rfl, rfl, .of h1, (show atI [V.int d, V.int m, V.int (c + 1)] 1 = some (.int m) from rfl), _, rfl, u, _, _, _, rfl, rfl, .of h1, (show atI [V.int d, V.int m, V.int (c + 1)] 2 = some (.int (c + 1)) from rfl), _, _, rfl, rfl, .inl ⟨by decide, by decide⟩, _, _, rfl, rfl, .inl ⟨_, rfl, _, _, rfl, rfl, (by show (0 : Int) < 2147483353; decide), ?_⟩⟩
      generalize eb : (m + 58013 * (c + 1)) % 2147483353 = b
      have b0 : 0 ≤ b := by rw [← eb]; exact Int.emod_nonneg _ (by decide)
      have b1 : b < 2147483353 := by rw [← eb]; exact Int.emod_lt_of_pos _ (by decide)
      refine ⟨_, rfl, _, rfl, .inl ⟨_, rfl, _, _, rfl, rfl, (by show (0 : Int) < 43019; decide), _, _, rfl, rfl, _, _, rfl, rfl, .inl ⟨by omega, by omega⟩, _, rfl, u, _, _, _, rfl, rfl, .of h1, (show atI [V.int d, V.int m, V.int (c + 1)] 2 = some (.int (c + 1)) from rfl), _, _, rfl, rfl, .inl ⟨by decide, by decide⟩,
        _, _, rfl, rfl, _, _, rfl, rfl, .inl ⟨_, rfl, _, _, rfl, rfl, (by show (0 : Int) < 2147483353; decide), _, rfl, u, _, _, 1, rfl, rfl, h1, rfl, ?_⟩⟩⟩
      refine ⟨_, rfl, u, _, _, _, rfl, rfl, .of upd_same, rfl, .inl ⟨_, rfl, _, _, rfl, rfl, (by show (0 : Int) < 389 ∧ (389 : Int) < 1073741824; decide), _, rfl, _, _, rfl, rfl, t0, ?_⟩⟩
      exact k _ _ (Int.emod_nonneg _ (by omega)) (Int.emod_lt_of_pos _ t0) ⟨fun b o n e => by rw [upd_ne n]; exact n1 b o n e, _, _, _, upd_same⟩
end
end Bt
set_option Elab.async false
set_option linter.all false
set_option maxRecDepth 100000
set_option maxHeartbeats 4000000
/-! take. -/
namespace Bt
open PySem PySem.Spec PyProof.Rows L2
def spTake (u : Addr) : Sp := fun vs H Q _ => ∃ (a : Addr) (xs : List V), vs = [.ref u, .ref a] ∧ UrnAt H u ∧ H a = some (.lst xs) ∧ a ≠ u ∧ xs ≠ [] ∧ xs.length < 100000 ∧ ∀ (x : V) (H' : Hp), x ∈ xs → XU u H H' → Q x H'
section
variable {P : Program} {w : World} {K : PySem.W.Frag} {mg : Str → Option Value} {base : Heap}
theorem scTake : FnScope ["_law_urn_here", "_law_some"] ["_law_urn_here", "_law_some"] (defScope st_d_law_take) := ⟨rfl, rfl, rfl, by decide +kernel, rfl, by decide +kernel, by decide +kernel⟩
theorem ok_take (hd : Hd K mg) (u : Addr) : Okf P w K mg base C8.CX0 2 (He.fAd K d_law_take.at_) ["_law_urn_here", "_law_some"] (spTake u) := by
  have ml : mg "len" = none := hd.free _ (by decide +kernel)
  have mG : mg "_law_grab" = some (.ref (He.fAd K d_law_grab.at_)) := hd.glo _ (by decide +kernel)
  have G := ok_grab (P := P) (w := w) (base := base) hd u
  refine okf_of hd.f_d_law_take scTake (fun _ _ _ _ _ _ us hl => ?_) (fun vs H Q E h => ?_) (fun cdv A outer s H vs Q E hr h => ?_)
  · obtain ⟨a, b, rfl⟩ := us2 hl
    rfl
  · obtain ⟨a, xs, rfl, _⟩ := h
    rfl
  · obtain ⟨a, xs, rfl, hu, ha, hau, hne, hz, k⟩ := h
    refine ⟨_, pss_one (ps_ret (pe_ix ix_list (pv 1) (pe_callR (E := E00) (G.run hr C8.pass0) (by rfl) mG G.kp (pa_cons (pv 0) (pa_cons (pe_callB call_len_seq (by rfl) ml bo_len (pa_cons (pv 1) pa_nil)) pa_nil))) (fun _ _ => rfl))), ?_⟩
    have l0 : 0 < xs.length := by
      cases xs with
      | nil => exact absurd rfl hne
      | cons _ _ => simp
    refine ⟨_, rfl, _, rfl, _, rfl, a, xs, rfl, .inl (.of ha), (xs.length : Int), rfl, hu, by omega, by omega, fun r H' h0 h1 X => ?_⟩
    obtain ⟨j, rfl⟩ : ∃ j : Nat, r = (j : Int) := ⟨r.toNat, by omega⟩
    have hj : j < xs.length := by omega
    exact ⟨a, xs, _, xs[j], rfl, rfl, .of (X.k a _ hau ha), atI_nat (List.getElem?_eq_getElem hj), k _ _ (List.getElem_mem hj) X⟩
end
theorem UrnAt.ne {H : Hp} {u p : Addr} (h : UrnAt H u) (hp : H p = none) : p ≠ u := fun z => by
  obtain ⟨d, m, c, e⟩ := h
  rw [← z, hp] at e
  cases e
theorem szl {n : Nat} (h : n ≤ 1000) : n ≤ sizeLine := by rw [sizeLine_eq]; omega
theorem szlt {n : Nat} (h : n ≤ 1000) : n < sizeLine := by rw [sizeLine_eq]; omega
/-- take(urn, [..]) -/
theorem take_lit {u : Addr} {σ : L2.St} {H : Hp} {Q : VK} {i : Nat} {xs : List V} {ta : TA} (hv : σ[i]? = some (some (.ref u))) (ha : ∀ Q : List V → Hp → Prop, Q xs H → ta σ H Q) (hu : UrnAt H u) (ne : xs ≠ []) (len : xs.length ≤ 100)
    (k : ∀ (x : V) (H' : Hp), x ∈ xs → XU u H H' → Q x H') : tCall (spTake u) [] E00 (tCons (tVar i) (tCons (tLst ta) tNil)) σ H Q := by
  refine ⟨_, hv, ha _ ⟨szl (by omega), fun l hl => ⟨l, xs, rfl, ((XU.refl hu).new hl).urn, upd_same, hu.ne hl, ne, by omega, fun x H' hx X => ?_⟩⟩⟩
  exact k x H' hx (((XU.refl hu).new hl).trans X)
/-- take(urn, xs) -/
theorem take_of {u a : Addr} {σ : L2.St} {H : Hp} {Q : VK} {i : Nat} {xs : List V} {te : TE} (hv : σ[i]? = some (some (.ref u))) (ha : ∀ Q : VK, Q (.ref a) H → te σ H Q) (hu : UrnAt H u) (hx : H a = some (.lst xs)) (au : a ≠ u) (ne : xs ≠ []) (len : xs.length < 100000)
    (k : ∀ (x : V) (H' : Hp), x ∈ xs → XU u H H' → Q x H') : tCall (spTake u) [] E00 (tCons (tVar i) (tCons te tNil)) σ H Q :=
  ⟨_, hv, ha _ ⟨a, xs, rfl, hu, hx, au, ne, len, k⟩⟩
/-- grab(urn, e) -/
theorem grab_of {u : Addr} {σ : L2.St} {H : Hp} {Q : VK} {i : Nat} {top : Int} {te : TE} (hv : σ[i]? = some (some (.ref u))) (ha : ∀ Q : VK, Q (.int top) H → te σ H Q) (hu : UrnAt H u) (t0 : 0 < top) (t1 : top < 1073741824)
    (k : ∀ (r : Int) (H' : Hp), 0 ≤ r → r < top → XU u H H' → Q (.int r) H') : tCall (spGrab u) [] E00 (tCons (tVar i) (tCons te tNil)) σ H Q :=
  ⟨_, hv, ha _ ⟨top, rfl, hu, t0, t1, k⟩⟩
theorem ev_chain2 {f g : Int → Int → Bool} {ta tb tc : TE} {σ : L2.St} {H : Hp} {a b c : Int} (ha : Evl.Ev ta σ H (.int a)) (hb : Evl.Ev tb σ H (.int b)) (hc : Evl.Ev tc σ H (.int c)) :
    Evl.Ev (tChain (rI0 fun i j => .bl (f i j)) (rI0 fun i j => .bl (g i j)) ta tb tc) σ H (.bl (f a b && g b c)) := by
  intro H1 x1 Q q
  refine ha H1 x1 _ fun H2 x2 => hb H2 (x1.trans x2) _ fun H3 x3 => ⟨a, b, rfl, rfl, f a b, rfl, ?_⟩
  cases e : f a b with
  | false =>
    rw [if_neg Bool.false_ne_true]
    rw [e] at q
    exact q H3 (x2.trans x3)
  | true =>
    rw [if_pos rfl]
    rw [e] at q
    exact hc H3 ((x1.trans x2).trans x3) _ fun H4 x4 => ⟨b, c, rfl, rfl, q H4 ((x2.trans x3).trans x4)⟩
theorem at_last {ks : List Int} (ne : ks ≠ []) : atI (ks.map V.int) (-1) = some (.int (ks.getLast ne)) := by
  have e : ks.map V.int = ks.dropLast.map V.int ++ [V.int (ks.getLast ne)] := by
    conv => lhs; rw [← List.dropLast_concat_getLast ne]
    simp
  rw [e]
  exact atI_last _ _
theorem given_all (n : Nat) (v : Nat → V) : Evl.given n (fun _ => true) v = (List.range n).map v := by
  unfold Evl.given
  rw [List.filter_eq_self.mpr fun _ _ => rfl]
theorem range_map (ks : List Int) (f : Int → V) : (List.range ks.length).map (fun i => f (ks.getD i 0)) = ks.map f := by
  apply List.ext_getElem
  · simp
  · intro i h1 h2
    simp at h1
    simp [List.getD, h1]
/-! ### readings, one step in -/
theorem i_ret {te : TE} {D : Ends} {σ : L2.St} {H : Hp} (h : te σ H D.rt) : tRet te D σ H := h
theorem i_asg {te : TE} {g : TG} {D : Ends} {σ : L2.St} {H : Hp} (h : te σ H fun x H1 => g x σ H1 D.nx) : tAsg te g D σ H := h
theorem i_seq {t u : TS} {D : Ends} {σ : L2.St} {H : Hp} (h : t { D with nx := u D } σ H) : tSeq t u D σ H := h
theorem i_lst {ta : TA} {σ : L2.St} {H : Hp} {Q : VK} (h : ta σ H fun xs H1 => xs.length ≤ sizeLine ∧ ∀ p, H1 p = none → Q (.ref p) (upd H1 p (.lst xs))) : tLst ta σ H Q := h
theorem i_tup {ta : TA} {σ : L2.St} {H : Hp} {Q : VK} (h : ta σ H fun xs H1 => xs.length ≤ sizeLine ∧ ∀ p, H1 p = none → Q (.ref p) (upd H1 p (.tup xs))) : tTup ta σ H Q := h
theorem i_cons {ta : TE} {tr : TA} {σ : L2.St} {H : Hp} {Q : List V → Hp → Prop} (h : ta σ H fun x H1 => tr σ H1 fun xs H2 => Q (x :: xs) H2) : tCons ta tr σ H Q := h
theorem i_nil {σ : L2.St} {H : Hp} {Q : List V → Hp → Prop} (h : Q [] H) : tNil σ H Q := h
theorem i_cb {r : List V → Hp → VK → Prop} {ta : TA} {σ : L2.St} {H : Hp} {Q : VK} (h : ta σ H fun vs H1 => r vs H1 Q) : tCB r ta σ H Q := h
theorem i_op {r : R2} {ta tb : TE} {σ : L2.St} {H : Hp} {Q : VK} (h : ta σ H fun x H1 => tb σ H1 fun y H2 => r x y H2 Q) : tOp r ta tb σ H Q := h
theorem i_call {sp : Sp} {E : XK} {ta : TA} {σ : L2.St} {H : Hp} {Q : VK} (h : ta σ H fun vs H1 => sp (vs ++ []) H1 Q E) : tCall sp [] E ta σ H Q := h
theorem i_var {i : Nat} {v : V} {σ : L2.St} {H : Hp} {Q : VK} (e : σ[i]? = some (some v)) (h : Q v H) : tVar i σ H Q := ⟨v, e, h⟩
theorem i_c {v : V} {σ : L2.St} {H : Hp} {Q : VK} (h : Q v H) : tC v σ H Q := h
end Bt
set_option Elab.async false
set_option linter.all false
set_option maxRecDepth 100000
set_option maxHeartbeats 4000000
/-! urn made; many. -/
namespace Bt
open PySem PySem.Spec PyProof.Rows L2
def spUrn (K : PySem.W.Frag) : Sp := fun vs H Q _ => ∃ (a : Addr) (ns : List Int) (k : Int), vs = [.ref a, .int k] ∧ SqL K H a (ns.map V.int) ∧ ns.length ≤ 1000000 ∧ 0 ≤ k ∧ k ≤ 10 ∧ ∀ (p : Addr) (H' : Hp), H p = none → Evl.Ex H H' → UrnAt H' p → Q (.ref p) H'
section
variable {P : Program} {w : World} {K : PySem.W.Frag} {mg : Str → Option Value} {base : Heap}
theorem scUrn : FnScope ["_law_cells", "_law_k", "_law_cell", "_law_mixed", "_law_each", "_law_digits"] ["_law_cells", "_law_k"] (defScope st_d_law_urn) := ⟨rfl, rfl, rfl, by decide +kernel, rfl, by decide +kernel, by decide +kernel⟩
theorem ok_urn (hd : Hd K mg) : Okf P w K mg base C8.CX0 1 (He.fAd K d_law_urn.at_) ["_law_cells", "_law_k"] (spUrn K) := by
  have ml : mg "len" = none := hd.free _ (by decide +kernel)
  have mi : mg "int" = none := hd.free _ (by decide +kernel)
  have ma : mg "abs" = none := hd.free _ (by decide +kernel)
  refine okf_of hd.f_d_law_urn scUrn (fun _ _ _ _ _ _ us hl => ?_) (fun vs H Q E h => ?_) (fun cdv A outer s H vs Q E hr h => ?_)
  · obtain ⟨a, b, rfl⟩ := us2 hl
    rfl
  · obtain ⟨a, xs, k, rfl, _⟩ := h
    rfl
  · obtain ⟨a, ns, k, rfl, ha, hz, k0, k1, kk⟩ := h
    refine ⟨_, pss_cons (ps_par (i := 2) (j := 3) rfl scUrn.nd rfl rfl (by decide) rfl rfl (pa_cons (pe_ifExp (pt_cmpR op_lt (pv 1) (pe_callB call_len_seq (by rfl) ml bo_len (pa_cons (pv 0) pa_nil)) (nomark _)) (pe_callTy call_int1 (by rfl) mi bo_int (pa_cons (pe_ix ix_list (pv 0) (pv 1) (fun _ _ => rfl)) pa_nil)) pe_int)
        (pa_cons (pe_op op_add (pe_op op_mul pe_int (pe_op op_add (pv 1) pe_int)) pe_int) pa_nil)) (by rfl))
      (pss_cons (ps_for PassesOwn.leaving rfl (pi_list (pe_slice sl_list (pv 0) po_none (po_some pe_int))) (pg_name (i := 4) scUrn.nd rfl (.inl rfl))
        (pss_one (ps_set (i := 3) scUrn.nd rfl (.inl rfl) (pe_op op_mod (pe_callTy call_int1 (by rfl) mi bo_int (pa_cons (pe_op op_add (pe_op op_add (pe_op op_mul (pv 3) pe_int) (pe_op op_mod (pe_callTy call_int1 (by rfl) mi bo_int (pa_cons (pv 4) pa_nil)) pe_int)) (pe_op op_mul pe_int (pv 1))) pa_nil)) pe_int))))
      (pss_cons (ps_set (i := 5) scUrn.nd rfl (.inl rfl) (pe_ifExp (pw_or (pt_cmpR op_lt (pv 2) pe_int (nomark _)) (pw_or1 (pt_cmpR op_ge (pv 2) (pe_op op_pow pe_int pe_int) (nomark _)))).pt (pe_callB call_abs (by rfl) ma bo_abs (pa_cons (pv 2) pa_nil)) pe_int))
      (pss_one (ps_ret (pe_lst (pa_cons (pv 5) (pa_cons (pe_op op_mod (pe_callTy call_int1 (by rfl) mi bo_int (pa_cons (pe_op op_add (pv 3) (pe_op op_mul pe_int (pe_op op_mod (pe_callTy call_int1 (by rfl) mi bo_int (pa_cons (pv 2) pa_nil)) pe_int))) pa_nil)) pe_int) (pa_cons pe_int pa_nil)))))))), ?_⟩
    -- cell, mixed
    have e1 : ∃ cell : Int, Evl.Ev (tIf (tTest (tOp (rI0 fun i j => .bl (decide (i < j))) (tVar 1) (tCB (Evl.rLenS K) (tCons (tVar 0) tNil)))) (tCB (fun xs H Q => (∃ i, xs = [V.int i] ∧ Q (.int i) H) ∨ ∃ k, xs = [V.bl k] ∧ Q (.int (if k then 1 else 0)) H) (tCons (tOp (rIxL K) (tVar 0) (tVar 1)) tNil)) (tC (.int 0))) (L2.start ["_law_cells", "_law_k", "_law_cell", "_law_mixed", "_law_each", "_law_digits"] [.ref a, .int k]) H (.int cell) := by
      have et : Evl.EvT (tTest (tOp (rI0 fun i j => .bl (decide (i < j))) (tVar 1) (tCB (Evl.rLenS K) (tCons (tVar 0) tNil)))) (L2.start ["_law_cells", "_law_k", "_law_cell", "_law_mixed", "_law_each", "_law_digits"] [.ref a, .int k]) H (decide (k < ((ns.map V.int).length : Int))) :=
        Evl.et_test (Evl.ev_op (Evl.ev_var rfl) (Evl.ev_len (Evl.ev_var rfl) ha) Evl.rv_I0)
      by_cases hk : k < ((ns.map V.int).length : Int)
      · obtain ⟨j, rfl⟩ : ∃ j : Nat, k = (j : Int) := ⟨k.toNat, by omega⟩
        have hj : j < ns.length := by simpa using hk
        refine ⟨ns[j], Evl.ev_if et (fun _ => ?_) (fun z => absurd hk (of_decide_eq_false z))⟩
        have gx : atI (ns.map V.int) (j : Int) = some (.int ns[j]) := atI_nat (by simp [hj])
        intro H1 x1 Q q
        exact ⟨_, rfl, _, rfl, a, _, _, _, rfl, rfl, Evl.ex_l x1 ha, gx, .inl ⟨_, rfl, q H1 (.refl _)⟩⟩
      · exact ⟨0, Evl.ev_if et (fun z => absurd (of_decide_eq_true z) hk) fun _ => Evl.ev_c⟩
    obtain ⟨cell, e1⟩ := e1
    refine e1 H (.refl _) _ fun H1 x1 => ?_
    refine ⟨_, rfl, _, _, rfl, rfl, _, _, rfl, rfl, .inl ⟨by decide, by decide⟩, _, _, rfl, rfl, _, _, rfl, ?_⟩
    -- for each in cells[:7]
    have es : Evl.EvL (L2.tSl (rSlL K) (tVar 0) tNoPart (tPart (tC (.int 7)))) ((L2.start ["_law_cells", "_law_k", "_law_cell", "_law_mixed", "_law_each", "_law_digits"] [.ref a, .int k]).set 2 (some (.int cell)) |>.set 3 (some (.int (70853 * (k + 1) + 5)))) H1 (cutV (ns.map V.int) none (some 7)) :=
      Evl.el_sl (Evl.ev_var rfl) Evl.eo_none (Evl.eo_some Evl.ev_c) (Evl.ex_l x1 ha)
    have isI : ∀ (i : Nat) (x : V), (cutV (ns.map V.int) none (some 7))[i]? = some x → ∃ z, x = .int z := by
      intro i x h
      have hm : x ∈ ns.map V.int := by
        have h2 := List.mem_of_getElem? h
        unfold cutV at h2
        exact List.mem_of_mem_drop (List.mem_of_mem_take h2)
      obtain ⟨z, _, rfl⟩ := List.mem_map.mp hm
      exact ⟨z, rfl⟩
    refine Evl.q_forNLn (K := K) es (fun p i σ' H' => ∃ (mx : Int) (o5 : Option V), σ' = [some (.ref a), some (.int k), some (.int cell), some (.int mx), o5, none] ∧ Evl.Ex H H' ∧ H' p = some (.lst (cutV (ns.map V.int) none (some 7)))) (fun p H2 hp x2 h2 => ⟨_, _, rfl, x1.trans x2, h2⟩) (fun p i σ' H' _ h => ?_) (fun p i x σ' H' hx h => ?_) (fun p σ' H' h => ?_)
    · obtain ⟨_, _, _, _, e⟩ := h
      exact .of e
    · obtain ⟨mx, o5, rfl, x2, e⟩ := h
      obtain ⟨z, rfl⟩ := isI i x hx
      refine ⟨_, rfl, _, _, rfl, rfl, .inr ⟨by decide, by decide⟩, _, rfl, .inl ⟨_, rfl, _, _, rfl, rfl, (by show (0 : Int) < 1000171; decide), _, _, rfl, rfl, _, rfl, _, _, rfl, rfl, .inl ⟨by decide, by decide⟩, _, _, rfl, rfl, .inl ⟨_, rfl, _, _, rfl, rfl, (by show (0 : Int) < 2147483353; decide), ?_⟩⟩⟩
      exact ⟨_, _, rfl, x2, e⟩
    · obtain ⟨mx, o5, rfl, x2, e⟩ := h
      have ed : ∃ dg : Int, Evl.Ev (tIf (tOr (tTest (tOp (rI0 fun i j => .bl (decide (i < j))) (tVar 2) (tC (.int 0)))) (tTest (tOp (rI0 fun i j => .bl (decide (j ≤ i))) (tVar 2) (tOp (rI CPow fun i j => .int (i ^ j.toNat)) (tC (.int 10)) (tC (.int 17)))))) (tCB (fun xs H Q => ∃ i, xs = [V.int i] ∧ Q (.int (if i < 0 then -i else i)) H) (tCons (tVar 2) tNil)) (tC (.int 0))) [some (.ref a), some (.int k), some (.int cell), some (.int mx), o5, none] H' (.int dg) := by
        have et := Evl.et_or (Evl.et_test (Evl.ev_op (σ := [some (.ref a), some (.int k), some (.int cell), some (.int mx), o5, none]) (H := H') (r := rI0 fun i j => .bl (decide (i < j))) (Evl.ev_var (i := 2) rfl) (Evl.ev_c (v := .int 0)) Evl.rv_I0))
          (fun _ => Evl.et_test (Evl.ev_op (σ := [some (.ref a), some (.int k), some (.int cell), some (.int mx), o5, none]) (H := H') (r := rI0 fun i j => .bl (decide (j ≤ i))) (Evl.ev_var (i := 2) rfl) (Evl.ev_op (r := rI CPow fun i j => .int (i ^ j.toNat)) (Evl.ev_c (v := .int 10)) (Evl.ev_c (v := .int 17)) (Evl.rv_I ⟨by decide, by decide, by decide⟩)) Evl.rv_I0))
        refine ⟨if decide (cell < 0) || decide (10 ^ (17 : Int).toNat ≤ cell) then (if cell < 0 then -cell else cell) else 0, Evl.ev_if et (fun z => ?_) (fun z => ?_)⟩
        · rw [z, if_pos rfl]
          exact Evl.ev_cb (Evl.ea_cons (Evl.ev_var rfl) Evl.ea_nil) fun H1 x1 Q q => ⟨_, rfl, q H1 (.refl _)⟩
        · rw [z, if_neg Bool.false_ne_true]
          exact Evl.ev_c
      obtain ⟨dg, ed⟩ := ed
      refine ed H' (.refl _) _ fun H3 x3 => ?_
      refine ⟨_, rfl, _, rfl, _, rfl, .inl ⟨_, rfl, _, _, rfl, rfl, (by show (0 : Int) < 999931; decide), _, _, rfl, rfl, .inl ⟨by decide, by decide⟩, _, _, rfl, rfl, .inl ⟨_, rfl, _, _, rfl, rfl, (by show (0 : Int) < 2147483353; decide), (by show 3 ≤ sizeLine; rw [sizeLine_eq]; decide), fun p hp => ?_⟩⟩⟩
      exact kk p _ (Evl.fresh_back (x2.trans x3) hp) ((x2.trans x3).trans (.new hp)) ⟨_, _, _, upd_same⟩
end
end Bt
set_option Elab.async false
set_option linter.all false
set_option maxRecDepth 100000
set_option maxHeartbeats 4000000
/-! A tuple whose object is known to be bare: its methods may be asked. -/
namespace Bt
open PySem PySem.Spec PyProof.Rows L2
/-- the bare tuple t of the numbers ks -/
def KnT (H : Hp) (t : Addr) (ks : List Int) : Prop := ∃ o : Obj, o.dict = none ∧ H t = some (.frz o (.tup (ks.map V.int)))
theorem KnT.sq {K : PySem.W.Frag} {H : Hp} {t : Addr} {ks : List Int} (h : KnT H t ks) : SqT K H t (ks.map V.int) := by
  obtain ⟨o, _, h⟩ := h
  exact .inl (.inr ⟨o, h⟩)
theorem KnT.keep {H H' : Hp} {t : Addr} {ks : List Int} (h : KnT H t ks) (k : ∀ o, H t = some o → H' t = some o) : KnT H' t ks := by
  obtain ⟨o, d, h⟩ := h
  exact ⟨o, d, k _ h⟩
theorem KnT.ex {H H' : Hp} {t : Addr} {ks : List Int} (h : KnT H t ks) (x : Evl.Ex H H') : KnT H' t ks := h.keep fun o e => x _ _ e
theorem KnT.urn {H : Hp} {t u : Addr} {ks : List Int} (h : KnT H t ks) (hu : UrnAt H u) : t ≠ u := fun z => by
  obtain ⟨o, _, h⟩ := h
  obtain ⟨d, m, c, e⟩ := hu
  rw [z, e] at h
  cases h
theorem KnT.xu {H H' : Hp} {t u : Addr} {ks : List Int} (h : KnT H t ks) (x : XU u H H') (hu : UrnAt H u) : KnT H' t ks := h.keep fun o e => x.k t o (h.urn hu) e
theorem KnT.new {H : Hp} {t : Addr} {ks : List Int} {o : Obj} (d : o.dict = none) : KnT (upd H t (.frz o (.tup (ks.map V.int)))) t ks := ⟨o, d, upd_same⟩
section
variable {X : Cx}
/-- tuple(a list): a bare tuple -/
theorem call_tuple_ofF : CallR X (.type "tuple") (fun xs H Q => ∃ p ys, xs = [.ref p] ∧ SqL X.K H p ys ∧ ∀ (l : Addr) (o : Obj), H l = none → o.dict = none → Q (.ref l) (upd H l (.frz o (.tup ys)))) := by
  intro pins s σ H xs us Q I r h
  obtain ⟨p, ys, rfl, hq, q⟩ := h
  obtain ⟨u, rfl, rx⟩ := vals1 r
  cases rx
  obtain ⟨its, r', pl, hz⟩ := I.list hq
  have hlen := r'.length
  refine call_tuple_list pl.isList (fun h' kp => ?_) (by simp only [List.size_toArray] <;> omega)
  have I1 : Inv X pins σ H { s with heap := h' } := I.kept (t' := s.toks) kp
  have I2 : Inv X pins σ (upd H h'.objs.size (.frz { cls := .type "tuple", data := .seq its.toArray } (.tup ys))) { s with heap := h'.push { cls := .type "tuple", data := .seq its.toArray } } :=
    I1.laid (t' := s.toks) (fun b o e => Heap.get?_push_of_some _ e) (Nat.le_refl _) (show ObjOk X.prog X.w _ _ _ (.frz _ (.tup ys)) from ⟨Heap.get?_push_at rfl rfl, hz, its, r', IsTup.new _ _⟩)
  exact ⟨.ref h'.objs.size, _, I2, rfl, q _ _ (I1.hok.fresh (Nat.le_refl _)) rfl⟩
/-- isinstance(t, tuple) -/
theorem call_isTup : CallR X (.builtin "isinstance") (fun xs H Q => ∃ a ys, xs = [.ref a, .ty "tuple"] ∧ SqT X.K H a ys ∧ Q (.bl true) H) := by
  intro pins s σ H xs us Q I r h
  obtain ⟨a, ys, rfl, ha, q⟩ := h
  obtain ⟨u, w', rfl, ru, rw'⟩ := vals2 r
  cases ru
  cases rw'
  obtain ⟨its, _, ⟨o, e, c, n, d⟩, _⟩ := I.tuple ha
  exact PySem.W.kia_one PySem.W.kitx_tuple I.kIn ⟨o, e, c⟩ (kit_ty (K := X.K) (by decide +kernel)) (fun z => nomatch z) fun tk => ⟨.bl true, H, I.tok _, rfl, q⟩
/-- t.m(..), t a bare tuple of numbers -/
def tBMT (r : V → List V → Hp → VK → Prop) (to : TE) (t : TA) : TE := fun σ H Q => to σ H fun x H1 => (∃ p ks, x = .ref p ∧ KnT H1 p ks) ∧ t σ H1 fun xs H2 => r x xs H2 Q
variable {o e : Expr} {es : List Expr} {to : TE} {t : TA} {name : Str} {apos cpos : Pos} {id : String} {r : V → List V → Hp → VK → Prop}
theorem pe_bmT (slot : Slot "tuple" name id) (hty : typeOf (.builtin id) = pure (.type "method_descriptor")) (hm : MtR X id r) (ho : PE X o to) (ha : PA X (e :: es) t)
    (hbase : attributeBase o name X.env (eval o X.env) = eval o X.env := by rfl)
    (hfew : ((backTo cpos (starEach (e :: es) X.env)).all (fun x => !x.1) && (backToKw cpos (keywordEach [] X.env)).all (fun x => x.1.isSome)
      && decide ((e :: es).length + ([] : List Keyword).length + (if ([] : List Keyword).isEmpty then 0 else 1) < 30)) = true := by rfl)
    (hline : (apos.endLine == cpos.line) = true := by rfl) (hs : starEach (e :: es) X.env = (false, eval e X.env) :: starEach es X.env := by rfl) (hplain : (backTo cpos (starEach es X.env)).any (·.1) = false := by rfl) :
    PE X (.Call (.Attribute o name apos) (e :: es) [] cpos) (tBMT r to t) := by
  refine ⟨fun pins s σ H Q I h => ?_⟩
  refine wpAny_Call_method_late hbase hfew hline rfl (thn (ho.run pins s σ H _ I h) fun v s1 ⟨x, H1, I1, r1, ty, q1⟩ => ?_)
  obtain ⟨p, ks, rfl, kn⟩ := ty
  obtain rfl : v = Value.ref p := r1
  obtain ⟨its, rv, pl, hlen⟩ := I1.tuple (kn.sq (K := X.K))
  obtain ⟨ob, od, hk⟩ := kn
  obtain ⟨hg, _⟩ := I1.hok p _ hk
  refine ⟨"tuple", id, PySem.F.plainAttrs_tuple, slot, hty, ?_, fun a ea => by cases ea; exact ⟨ob, hg, od⟩, ?_⟩
  · obtain ⟨o', e', c', _⟩ := pl
    exact ⟨o', e', c'⟩
  have hA := ha.run cpos pins s1 σ H1 _ I1 q1
  rw [hs] at hA ⊢
  refine Calls.callWith_builtin (by show (false || (backTo cpos (starEach es X.env)).any (·.1)) = false; rw [hplain] <;> rfl) (Calls.evalArgs_plain ?_)
  exact thn hA fun us s2 ⟨vs, H2, I2, r2, q2⟩ => hm pins s2 σ H2 (.ref p) vs (.ref p) us Q I2 rfl r2 q2
end
end Bt
set_option Elab.async false
set_option linter.all false
set_option maxRecDepth 100000
set_option maxHeartbeats 4000000
/-! Plans: many, shape. -/
namespace Bt
open PySem PySem.Spec PyProof.Rows L2
def PlanAt (H : Hp) (a : Addr) (p : Plan) : Prop := ∃ t, H a = some (.lst [.int (p.1 : Nat), .ref t]) ∧ KnT H t p.2
theorem PlanAt.xu {u a : Addr} {H H' : Hp} {p : Plan} (h : PlanAt H a p) (x : XU u H H') (hu : UrnAt H u) : PlanAt H' a p := by
  obtain ⟨t, h1, h2⟩ := h
  refine ⟨t, x.k a _ (fun z => ?_) h1, h2.xu x hu⟩
  obtain ⟨d, m, c, e⟩ := hu
  rw [z, e] at h1
  cases h1
theorem PlanAt.ex {a : Addr} {H H' : Hp} {p : Plan} (h : PlanAt H a p) (x : Evl.Ex H H') : PlanAt H' a p := by
  obtain ⟨t, h1, h2⟩ := h
  exact ⟨t, x _ _ h1, h2.ex x⟩
theorem Part.mono {g n : Nat} {m m' : Int} {ks : List Int} (p : Part g n m ks) (h : m ≤ m') : Part g n m' ks := ⟨p.len, p.asc, p.few, fun k hk => by have := p.rng k hk; omega⟩
def spMany : Sp := fun vs H Q _ => ∃ (a : Addr) (p : Plan), vs = [.ref a] ∧ PlanAt H a p ∧ PlanOk p ∧ Q (.int (p.hills : Nat)) H
def spShape (u : Addr) : Sp := fun vs H Q _ => ∃ most : Int, vs = [.ref u, .int most] ∧ UrnAt H u ∧ 1 ≤ most ∧ most ≤ 5 ∧ ∀ (p : Addr) (H' : Hp) (pl : Plan), PlanOk pl → XU u H H' → H p = none → PlanAt H' p pl → Q (.ref p) H'
section
variable {P : Program} {w : World} {K : PySem.W.Frag} {mg : Str → Option Value} {base : Heap}
theorem scMany : FnScope ["_law_plan"] ["_law_plan"] (defScope st_d_law_many) := ⟨rfl, rfl, rfl, by decide +kernel, rfl, by decide +kernel, by decide +kernel⟩
theorem ok_many (hd : Hd K mg) : Okf P w K mg base C8.CX0 1 (He.fAd K d_law_many.at_) ["_law_plan"] spMany := by
  have ml : mg "len" = none := hd.free _ (by decide +kernel)
  refine okf_of hd.f_d_law_many scMany (fun _ _ _ _ _ _ us hl => ?_) (fun vs H Q E h => ?_) (fun cdv A outer s H vs Q E hr h => ?_)
  · obtain ⟨a, rfl⟩ := us1 hl
    rfl
  · obtain ⟨a, p, rfl, _⟩ := h
    rfl
  · obtain ⟨a, p, rfl, ⟨t, h1, h2⟩, ok, k⟩ := h
    refine ⟨_, pss_one (ps_ret (pe_op op_sub (pe_op op_sub (pe_callB call_len_seq (by rfl) ml bo_len (pa_cons (pe_ix ix_list (pv 0) pe_int (fun _ _ => rfl)) pa_nil)) (pe_ix ix_list (pv 0) pe_int (fun _ _ => rfl))) pe_int)), ?_⟩
    refine ⟨_, rfl, a, _, _, _, rfl, rfl, .of h1, (show atI [V.int (p.1 : Nat), V.ref t] 1 = some (.ref t) from rfl), t, _, rfl, .inr h2.sq, _, rfl, a, _, _, _, rfl, rfl, .of h1, (show atI [V.int (p.1 : Nat), V.ref t] 0 = some (.int (p.1 : Nat)) from rfl), _, _, rfl, rfl, _, _, rfl, rfl, ?_⟩
    rw [ok.hills_eq] at k
    rw [List.length_map]
    exact k
theorem scShape : FnScope ["_law_urn_here", "_law_most", "_law_degree", "_law_many_here", "_law_by", "_law_knots", "_law_clamped", "_law_k", "_law_step", "_law_knot"] ["_law_urn_here", "_law_most"] (defScope st_d_law_shape) := ⟨rfl, rfl, rfl, by decide +kernel, rfl, by decide +kernel, by decide +kernel⟩
theorem ok_shape (hd : Hd K mg) (u : Addr) : Okf P w K mg base C8.CX0 3 (He.fAd K d_law_shape.at_) ["_law_urn_here", "_law_most"] (spShape u) := by
  have mt : mg "tuple" = none := hd.free _ (by decide +kernel)
  have mr : mg "range" = none := hd.free _ (by decide +kernel)
  have mm : mg "max" = none := hd.free _ (by decide +kernel)
  have mG : mg "_law_grab" = some (.ref (He.fAd K d_law_grab.at_)) := hd.glo _ (by decide +kernel)
  have mT : mg "_law_take" = some (.ref (He.fAd K d_law_take.at_)) := hd.glo _ (by decide +kernel)
  have G := ok_grab (P := P) (w := w) (base := base) hd u
  have T := ok_take (P := P) (w := w) (base := base) hd u
  refine okf_of hd.f_d_law_shape scShape (fun _ _ _ _ _ _ us hl => ?_) (fun vs H Q E h => ?_) (fun cdv A outer s H vs Q E hr h => ?_)
  · obtain ⟨a, b, rfl⟩ := us2 hl
    rfl
  · obtain ⟨p, rfl, _⟩ := h
    rfl
  · obtain ⟨most, rfl, hu, m0, m1, k⟩ := h
    have hr1 : Room 1 _ := hr.mono (by decide)
    refine ⟨_, pss_cons (ps_asg (pe_tup (pa_cons (pe_callR (E := E00) (G.run hr1 C8.pass0) (by rfl) mG G.kp (pa_cons (pv 0) (pa_cons pe_int pa_nil))) (pa_cons (pe_op op_add pe_int (pe_callR (E := E00) (G.run hr1 C8.pass0) (by rfl) mG G.kp (pa_cons (pv 0) (pa_cons (pv 1) pa_nil))))
          (pa_cons (pe_callR (E := E00) (T.run hr C8.pass0) (by rfl) mT T.kp (pa_cons (pv 0) (pa_cons (pe_lst (pa_cons pe_int (pa_cons pe_int (pa_cons pe_int (pa_cons pe_int (pa_cons pe_int (pa_cons pe_int pa_nil))))))) pa_nil))) pa_nil))))
        (pg_tup rfl (pgs_cons (pg_name (i := 2) scShape.nd rfl (.inl rfl)) (pgs_cons (pg_name (i := 3) scShape.nd rfl (.inl rfl)) (pgs_cons (pg_name (i := 4) scShape.nd rfl (.inr rfl)) pgs_nil)))))
      (pss_cons (ps_par (i := 5) (j := 6) rfl scShape.nd rfl rfl (by decide) rfl rfl (pa_cons (pe_lst (pa_cons (pe_callR (E := E00) (T.run hr C8.pass0) (by rfl) mT T.kp (pa_cons (pv 0) (pa_cons (pe_lst (pa_cons pe_int (pa_cons pe_int (pa_cons pe_int (pa_cons pe_int pa_nil))))) pa_nil))) pa_nil))
          (pa_cons (pe_cmpR op_eq (pe_callR (E := E00) (G.run hr1 C8.pass0) (by rfl) mG G.kp (pa_cons (pv 0) (pa_cons pe_int pa_nil))) pe_int (nomark _)) pa_nil)) (by rfl))
      (pss_cons (ps_for PassesOwn.leaving rfl (pi_range1 (by rfl) mr (pa_cons (pe_op op_add (pv 2) (pv 3)) pa_nil)) (pg_name (i := 7) scShape.nd rfl (.inl rfl))
        (pss_cons (ps_set (i := 8) scShape.nd rfl (.inl rfl) (pe_callR (E := E00) (T.run hr C8.pass0) (by rfl) mT T.kp (pa_cons (pv 0) (pa_cons (pe_lst (pa_cons pe_int (pa_cons pe_int (pa_cons pe_int (pa_cons pe_int (pa_cons pe_int pa_nil)))))) pa_nil))))
        (pss_cons (ps_if (pw_and (pt_val (pv 6)) (pw_and1 (pt_chain op_le op_lt (pv 2) (pv 7) (pv 3)))).pt (pss_one (ps_set (i := 8) scShape.nd rfl (.inl rfl) (pe_callB (call_max2 rfl) (by rfl) mm bo_max (pa_cons (pv 8) (pa_cons pe_int pa_nil))))) pss_nil)
        (pss_cons (ps_if (pw_and (pt_val (pv 6)) (pw_and1 (pt_not (pt_chain op_le op_lt (pv 2) (pv 7) (pv 3))))).pt (pss_one (ps_set (i := 8) scShape.nd rfl (.inl rfl) pe_int)) pss_nil)
        (pss_cons (ps_if (pw_and (pt_cmpR op_eq (pv 8) pe_int (nomark _)) (pw_and1 (pt_cmpR op_eq (pe_bm PySem.F.plainAttrs_list PySem.F.slot_list_count PySem.F.type_list_count mt_lcount (pv 5) (pa_cons (pe_ix ix_list (pv 5) (pe_un un_neg pe_int) (fun _ _ => rfl)) pa_nil)) (pe_op op_add (pv 2) pe_int) (nomark _)))).pt (pss_one (ps_set (i := 8) scShape.nd rfl (.inl rfl) pe_int)) pss_nil)
        (pss_one (ps_expr (pe_bm PySem.F.plainAttrs_list PySem.F.slot_list_append PySem.F.type_list_append mt_append (pv 5) (pa_cons (pe_op op_add (pe_ix ix_list (pv 5) (pe_un un_neg pe_int) (fun _ _ => rfl)) (pv 8)) pa_nil)))))))))
      (pss_one (ps_ret (pe_lst (pa_cons (pv 2) (pa_cons (pe_callTy call_tuple_ofF (by rfl) mt bo_tuple (pa_cons (pe_lc (own := [("_law_knot", 9)]) (g := gName 9) (tt := tYes) rfl scShape.nd (pi_list (pv 5)) (blkOk_by (N := ["_law_urn_here", "_law_most", "_law_degree", "_law_many_here", "_law_by", "_law_knots", "_law_clamped", "_law_k", "_law_step", "_law_knot"]) (sc := defScope st_d_law_shape) (by decide +kernel))
          (fun _ _ _ _ _ => pg_name (i := 9) scShape.nd rfl (Or.inl rfl)) (fun _ _ _ _ _ => pts_nil) (fun _ _ _ _ _ => pe_op op_mul (pv 4) (pv 9))) pa_nil)) pa_nil))))))), ?_⟩
    refine grab_of rfl (fun Q q => q) hu (by decide) (by decide) fun r1 H1 a0 a1 X1 => ?_
    refine ⟨_, rfl, _, rfl, most, rfl, X1.urn, by omega, by omega, fun r2 H2 b0 b1 X2 => ⟨_, _, rfl, rfl, ?_⟩⟩
    have Y2 := X1.trans X2
    refine take_lit rfl (fun Q q => q) Y2.urn (by simp) (by decide) fun by_ H3 hby X3 => ?_
    have Y3 := Y2.trans X3
    obtain ⟨c, rfl, c1, c2⟩ : ∃ c : Int, by_ = .int c ∧ 1 ≤ c ∧ c ≤ 20000 := by
      simp only [List.mem_cons, List.not_mem_nil, or_false] at hby
      rcases hby with z | z | z | z | z | z <;> exact ⟨_, z, by decide, by decide⟩
    refine ⟨szl (by simp), fun p3 hp3 => ⟨p3, _, rfl, .of upd_same, rfl, _, _, rfl, _, _, rfl, _, _, rfl, rfl, ?_⟩⟩
    have Y4 := Y3.new (o := .tup [.int r1, .int (1 + r2), .int c]) hp3
    refine take_lit rfl (fun Q q => q) Y4.urn (by simp) (by decide) fun k0 H5 hk0 X5 => ?_
    have Y5 := Y4.trans X5
    obtain ⟨k0, rfl, d1, d2⟩ : ∃ c : Int, k0 = .int c ∧ 0 ≤ c ∧ c ≤ 3 := by
      simp only [List.mem_cons, List.not_mem_nil, or_false] at hk0
      rcases hk0 with z | z | z | z <;> exact ⟨_, z, by decide, by decide⟩
    refine ⟨szl (by simp), fun l hl => ?_⟩
    have Y6 := Y5.new (o := .lst [.int k0]) hl
    have hl0 := Y5.free hl
    refine grab_of rfl (fun Q q => q) Y6.urn (by decide) (by decide) fun r3 H7 e0 e1 X7 => ⟨rfl, _, _, rfl, ?_⟩
    have Y7 := Y6.trans X7
    have hlu : l ≠ u := hu.ne hl0
    have l7 : H7 l = some (.lst [.int k0]) := X7.k l _ hlu upd_same
    generalize ecl : decide (V.int r3 = V.int 0) = cl
    obtain ⟨g, rfl⟩ : ∃ g : Nat, r1 = (g : Int) := ⟨r1.toNat, by omega⟩
    obtain ⟨mh, rfl⟩ : ∃ g : Nat, r2 = (g : Int) := ⟨r2.toNat, by omega⟩
    have first : Part g 1 3 [k0] := ⟨rfl, List.pairwise_singleton _ _, fun k => by
      have : [k0].count k ≤ [k0].length := List.count_le_length
      simp at this
      omega, fun k hk => by rw [List.mem_singleton] at hk; omega⟩
    refine ⟨_, rfl, _, rfl, _, _, rfl, rfl, _, rfl, (by show -(2 ^ 62 : Int) ≤ (g : Int) + (1 + (mh : Int)); omega), (by show (g : Int) + (1 + (mh : Int)) < 2 ^ 62; omega), for_range
      (fun i σ' H' => ∃ (ks : List Int) (o7 o8 : Option V), σ' = [some (.ref u), some (.int most), some (.int (g : Int)), some (.int (1 + (mh : Int))), some (.int c), some (.ref l), some (.bl cl), o7, o8, none] ∧ XU u H H' ∧ H' l = some (.lst (ks.map V.int)) ∧ Part g (i + 1) (3 + 3 * (i : Int)) ks)
      ⟨[k0], none, none, rfl, Y7, l7, first.mono (by omega)⟩ (fun i σ' H' hi h => ?_) (fun σ' H' h => ?_)⟩
    · obtain ⟨ks, o7, o8, rfl, X, hl', pt⟩ := h
      refine take_lit rfl (fun Q q => q) X.urn (by simp) (by decide) fun st H8 hst X8 => ?_
      obtain ⟨s, rfl, s0, s3⟩ : ∃ s : Int, st = .int s ∧ 0 ≤ s ∧ s ≤ 3 := by
        simp only [List.mem_cons, List.not_mem_nil, or_false] at hst
        rcases hst with z | z | z | z | z <;> exact ⟨_, z, by decide, by decide⟩
      have X9 := X.trans X8
      have l8 : H8 l = some (.lst (ks.map V.int)) := X8.k l _ hlu hl'
      -- the three steps upon it
      have hN9 : ∀ (v : V), ([some (V.ref u), some (V.int most), some (V.int (g : Int)), some (V.int (1 + (mh : Int))), some (V.int c), some (V.ref l), some (V.bl cl), some (V.int (0 + (i : Int))), some v, none] : L2.St)[8]? = some (some v) := fun _ => rfl
      have ch : ∀ (v : V) (H9 : Hp), Evl.Ev (tChain (rI0 fun i j => .bl (decide (i ≤ j))) (rI0 fun i j => .bl (decide (i < j))) (tVar 2) (tVar 7) (tVar 3)) [some (V.ref u), some (V.int most), some (V.int (g : Int)), some (V.int (1 + (mh : Int))), some (V.int c), some (V.ref l), some (V.bl cl), some (V.int (0 + (i : Int))), some v, none] H9
          (.bl (decide ((g : Int) ≤ 0 + (i : Int)) && decide (0 + (i : Int) < 1 + (mh : Int)))) := fun v H9 => ev_chain2 (f := fun a b => decide (a ≤ b)) (g := fun a b => decide (a < b)) (Evl.ev_var rfl) (Evl.ev_var rfl) (Evl.ev_var rfl)
      generalize ein : (decide ((g : Int) ≤ 0 + (i : Int)) && decide (0 + (i : Int) < 1 + (mh : Int))) = inn at ch
      obtain ⟨s1, t1, u1, eq1⟩ : ∃ s1 : Int, 0 ≤ s1 ∧ s1 ≤ 3 ∧ s1 = if (cl && inn) = true then (if 1 > s then 1 else s) else s := by
        refine ⟨_, ?_, ?_, rfl⟩ <;> (split <;> (try split) <;> omega)
      refine Evl.q_ifAsg (v := .int s1) (Evl.et_and (Evl.et_B (Evl.ev_var rfl)) fun _ => Evl.et_test (ch (.int s) _)) (fun z => ?_) (fun z => ?_) fun H9 x9 => ?_
      · rw [eq1, if_pos z]
        exact Evl.ev_max2 (Evl.ev_var rfl) Evl.ev_c
      · rw [eq1, if_neg (by rw [z]; decide)]
        rfl
      obtain ⟨s2, t2, u2, eq2⟩ : ∃ s2 : Int, 0 ≤ s2 ∧ s2 ≤ 3 ∧ s2 = if (cl && !inn) = true then 0 else s1 := by
        refine ⟨_, ?_, ?_, rfl⟩ <;> (split <;> omega)
      refine Evl.q_ifAsg (v := .int s2) (Evl.et_and (Evl.et_B (Evl.ev_var rfl)) fun _ => Evl.et_not (Evl.et_test (ch (.int s1) _))) (fun z => ?_) (fun z => ?_) fun H10 x10 => ?_
      · rw [eq2, if_pos z]
        exact Evl.ev_c
      · rw [eq2, if_neg (by rw [z]; decide)]
        rfl
      have l10 : H10 l = some (.lst (ks.map V.int)) := x10 _ _ (x9 _ _ l8)
      have gl := at_last pt.ne
      obtain ⟨s3', t3, u3, nz, eq3⟩ : ∃ s3 : Int, 0 ≤ s3 ∧ s3 ≤ 3 ∧ (s3 = 0 → ks.count (ks.getLast pt.ne) ≠ g + 1) ∧ s3 = if (decide (V.int s2 = V.int 0) && decide (V.int (ks.count (ks.getLast pt.ne) : Nat) = V.int ((g : Int) + 1))) = true then 1 else s2 := by
        refine ⟨_, ?_, ?_, fun z q => ?_, rfl⟩
        · split <;> omega
        · split <;> omega
        · have q' : V.int (ks.count (ks.getLast pt.ne) : Nat) = V.int ((g : Int) + 1) := by rw [q]; rfl
          rw [decide_eq_true q', Bool.and_true] at z
          split at z
          · cases z
          · rename_i hn
            exact hn (decide_eq_true (by rw [z]))
      refine Evl.q_ifAsg (v := .int s3') (Evl.et_and (Evl.et_test (Evl.ev_op (Evl.ev_var rfl) Evl.ev_c (Evl.rv_eq rfl))) fun _ => Evl.et_test (Evl.ev_op (x := .int (ks.count (ks.getLast pt.ne) : Nat)) (y := .int ((g : Int) + 1)) (fun H11 x11 Q q => ?_) (Evl.ev_op (Evl.ev_var rfl) Evl.ev_c Evl.rv_I0) (Evl.rv_eq rfl))) (fun z => ?_) (fun z => ?_) fun H11 x11 => ?_
      · have l11 := x11 _ _ l10
        exact ⟨_, rfl, .inl ⟨rfl, _, .of l11⟩, _, rfl, _, rfl, l, _, _, _, rfl, rfl, .of l11, gl, l, ks, _, rfl, rfl, .of l11, q H11 (.refl _)⟩
      · rw [eq3, if_pos z]
        exact Evl.ev_c
      · rw [eq3, if_neg (by rw [z]; decide)]
        rfl
      have l11 := x11 _ _ l10
      have x811 : Evl.Ex H8 H11 := (x9.trans x10).trans x11
      refine ⟨_, rfl, .inl ⟨rfl, _, .of l11⟩, _, rfl, _, rfl, l, _, _, _, rfl, rfl, .of l11, gl, _, rfl, _, _, rfl, rfl, l, _, _, rfl, rfl, l11, szlt (by rw [List.length_map, pt.len]; omega), ?_⟩
      have X12 : XU u H H11 := ⟨fun b o n e => x811 _ _ (X9.k b o n e), by
        obtain ⟨d, m, c, e⟩ := X9.urn
        exact ⟨d, m, c, x811 _ _ e⟩⟩
      exact ⟨ks ++ [ks.getLast pt.ne + s3'], _, _, rfl, X12.mut hl0 (Ne.symm hlu), by rw [upd_same]; simp, (pt.snoc t3 u3 nz).mono (by omega)⟩
    · obtain ⟨ks, o7, o8, rfl, X, hl', pt⟩ := h
      have en : ((g : Int) + (1 + (mh : Int))).toNat = g + 1 + mh := by omega
      rw [en] at pt
      have ok : PlanOk (g, ks.map (c * ·)) := (pt.mono (by omega)).plan (by omega) (by omega) (by omega) c1 c2
      have lc : Evl.EvL (tLc (iList K (tVar 5)) (gName 9) tYes (tOp (rI CMul fun i j => .int (i * j)) (tVar 4) (tVar 9)) [9]) [some (V.ref u), some (V.int most), some (V.int (g : Int)), some (V.int (1 + (mh : Int))), some (V.int c), some (V.ref l), some (V.bl cl), o7, o8, none] H' (Evl.given (ks.map V.int).length (fun _ => true) fun i => V.int (c * ks.getD i 0)) := by
        refine Evl.el_lcL (K := K) (a := l) (xs := ks.map V.int) _ _ (Evl.ev_var rfl) (.of hl') (by rw [List.length_map, pt.len]; omega) (fun x => rfl) (fun i x H1 x1 hx => ?_) (fun i x H1 x1 hx _ => ?_)
        · exact fun H2 x2 Q q => q H2 (.refl _)
        · obtain ⟨y, hy, rfl⟩ := List.getElem?_map .. ▸ hx |> (fun z => Option.map_eq_some_iff.mp z)
          have ey : ks.getD i 0 = y := by simp [List.getD, hy]
          rw [ey]
          exact Evl.ev_op (Evl.ev_var rfl) (Evl.ev_var rfl) (Evl.rv_I (.inl ⟨by omega, by omega⟩))
      have eg : (Evl.given (ks.map V.int).length (fun _ => true) fun i => V.int (c * ks.getD i 0)) = (ks.map (c * ·)).map V.int := by
        rw [given_all, List.length_map, range_map ks (fun x => V.int (c * x)), List.map_map]
        rfl
      rw [eg] at lc
      refine i_ret (i_lst (i_cons (i_var rfl (i_cons (i_cb (i_cons ?_))))))
      refine lc H' (.refl _) _ fun p H1 hp x1 h1 => ⟨p, _, rfl, .of h1, fun q oq hq dq => ?_⟩
      refine ⟨szl (by simp), fun r hr' => ?_⟩
      have X1 : XU u H H1 := ⟨fun b o n e => x1 _ _ (X.k b o n e), by
        obtain ⟨d, m, c, e⟩ := X.urn
        exact ⟨d, m, c, x1 _ _ e⟩⟩
      have X2 := X1.new (o := .frz oq (.tup ((ks.map (c * ·)).map V.int))) hq
      refine k r _ (g, ks.map (c * ·)) ok (X2.new hr') (X2.free hr') ⟨q, upd_same, oq, dq, ?_⟩
      rw [upd_ne, upd_same]
      exact fun z => by
        rw [← z, upd_same] at hr'
        cases hr'
end
end Bt
set_option Elab.async false
set_option linter.all false
set_option maxRecDepth 100000
set_option maxHeartbeats 4000000
/-! Plans: near. -/
namespace Bt
open PySem PySem.Spec PyProof.Rows L2
def spNear (u : Addr) : Sp := fun vs H Q _ => ∃ (a : Addr) (p : Plan), vs = [.ref u, .ref a] ∧ UrnAt H u ∧ PlanAt H a p ∧ PlanOk p ∧ ∀ (q : Addr) (H' : Hp) (pl : Plan), PlanOk pl → XU u H H' → H q = none → PlanAt H' q pl → Q (.ref q) H'
section
variable {P : Program} {w : World} {K : PySem.W.Frag} {mg : Str → Option Value} {base : Heap}
theorem scNear : FnScope ["_law_urn_here", "_law_plan", "_law_degree", "_law_knots", "_law_more", "_law_way", "_law_fits"] ["_law_urn_here", "_law_plan"] (defScope st_d_law_near) := ⟨rfl, rfl, rfl, by decide +kernel, rfl, by decide +kernel, by decide +kernel⟩
theorem ok_near (hd : Hd K mg) (u : Addr) : Okf P w K mg base C8.CX0 4 (He.fAd K d_law_near.at_) ["_law_urn_here", "_law_plan"] (spNear u) := by
  have mt : mg "tuple" = none := hd.free _ (by decide +kernel)
  have ml : mg "list" = none := hd.free _ (by decide +kernel)
  have mn : mg "len" = none := hd.free _ (by decide +kernel)
  have ms : mg "sorted" = none := hd.free _ (by decide +kernel)
  have mG : mg "_law_grab" = some (.ref (He.fAd K d_law_grab.at_)) := hd.glo _ (by decide +kernel)
  have mT : mg "_law_take" = some (.ref (He.fAd K d_law_take.at_)) := hd.glo _ (by decide +kernel)
  have mS : mg "_law_shape" = some (.ref (He.fAd K d_law_shape.at_)) := hd.glo _ (by decide +kernel)
  have G := ok_grab (P := P) (w := w) (base := base) hd u
  have T := ok_take (P := P) (w := w) (base := base) hd u
  have S := ok_shape (P := P) (w := w) (base := base) hd u
  refine okf_of hd.f_d_law_near scNear (fun _ _ _ _ _ _ us hl => ?_) (fun vs H Q E h => ?_) (fun cdv A outer s H vs Q E hr h => ?_)
  · obtain ⟨a, b, rfl⟩ := us2 hl
    rfl
  · obtain ⟨a, p, rfl, _⟩ := h
    rfl
  · obtain ⟨a, ⟨g, ks⟩, rfl, hu, ⟨t, h1, h2⟩, ok, k⟩ := h
    have hr1 : Room 1 _ := hr.mono (by decide)
    have hr2 : Room 2 _ := hr.mono (by decide)
    refine ⟨_, pss_cons (ps_par (i := 2) (j := 3) rfl scNear.nd rfl rfl (by decide) rfl rfl (pa_cons (pe_ix ix_list (pv 1) pe_int (fun _ _ => rfl)) (pa_cons (pe_callTy call_list_of (by rfl) ml bo_list (pa_cons (pe_ix ix_list (pv 1) pe_int (fun _ _ => rfl)) pa_nil)) pa_nil)) (by rfl))
      (pss_cons (ps_par (i := 4) (j := 5) rfl scNear.nd rfl rfl (by decide) rfl rfl (pa_cons (pe_op op_add (pe_callR (E := E00) (T.run hr2 C8.pass0) (by rfl) mT T.kp (pa_cons (pv 0) (pa_cons (pv 3) pa_nil))) (pe_callR (E := E00) (G.run hr1 C8.pass0) (by rfl) mG G.kp (pa_cons (pv 0) (pa_cons pe_int pa_nil))))
          (pa_cons (pe_callR (E := E00) (G.run hr1 C8.pass0) (by rfl) mG G.kp (pa_cons (pv 0) (pa_cons pe_int pa_nil))) pa_nil)) (by rfl))
      (pss_cons (ps_if (pt_cmpR op_eq (pv 5) pe_int (nomark _)) (pss_one (ps_ret (pe_callR (E := E00) (S.run hr C8.pass0) (by rfl) mS S.kp (pa_cons (pv 0) (pa_cons pe_int pa_nil))))) pss_nil)
      (pss_cons (ps_set (i := 6) scNear.nd rfl (.inl rfl) (pe_and (pe_cmpR op_le (pe_bm PySem.F.plainAttrs_list PySem.F.slot_list_count PySem.F.type_list_count mt_lcount (pv 3) (pa_cons (pv 4) pa_nil)) (pv 2) (nomark _))
          (pe_and (pe_cmpR op_lt (pe_callB call_len_seq (by rfl) mn bo_len (pa_cons (pv 3) pa_nil)) (pe_op op_add (pv 2) pe_int) (nomark _)) (pe_one (pe_cmpR op_gt (pv 5) pe_int (nomark _))))))
      (pss_one (ps_ret (pe_lst (pa_cons (pv 2) (pa_cons (pe_ifExp (pt_val (pv 6)) (pe_callTy call_tuple_ofF (by rfl) mt bo_tuple (pa_cons (pe_callB cr_sorted (by rfl) ms bo_sorted (pa_cons (pe_op op_cat (pv 3) (pe_lst (pa_cons (pv 4) pa_nil))) pa_nil)) pa_nil))
          (pe_callTy call_tuple_ofF (by rfl) mt bo_tuple (pa_cons (pv 3) pa_nil))) pa_nil)))))))), ?_⟩
    refine ⟨_, rfl, a, _, _, _, rfl, rfl, .of h1, (show atI [V.int (g : Nat), V.ref t] 0 = some (.int (g : Nat)) from rfl), _, rfl, a, _, _, _, rfl, rfl, .of h1, (show atI [V.int (g : Nat), V.ref t] 1 = some (.ref t) from rfl), t, _, rfl, .inr h2.sq, fun l hl => ⟨_, _, rfl, ?_⟩⟩
    have lu := hu.ne hl
    have X1 : XU u H (upd H l (.lst (ks.map V.int))) := (XU.refl hu).new hl
    have ne : ks ≠ [] := by
      have := ok.lo
      intro z
      simp only [z, List.length_nil] at this
      omega
    have l15 : ks.length ≤ 15 := ok.len
    refine take_of (a := l) rfl (fun Q q => ⟨_, rfl, q⟩) X1.urn upd_same lu (by simpa using ne) (by simp; omega) fun x H2 hx X2 => ?_
    obtain ⟨kk, hkk, rfl⟩ := List.mem_map.mp hx
    refine grab_of rfl (fun Q q => q) X2.urn (by decide) (by decide) fun r H3 r0 r1 X3 => ⟨_, _, rfl, rfl, ?_⟩
    refine grab_of rfl (fun Q q => q) X3.urn (by decide) (by decide) fun wy H4 w0 w1 X4 => ⟨_, _, rfl, ?_⟩
    have Y4 := ((X1.trans X2).trans X3).trans X4
    have l4 : H4 l = some (.lst (ks.map V.int)) := ((X2.trans X3).trans X4).k l _ lu upd_same
    refine ⟨_, rfl, rfl, _, rfl, ?_⟩
    by_cases hw : V.int wy = V.int 0
    · rw [decide_eq_true hw]
      refine iteT ⟨_, rfl, 5, rfl, Y4.urn, by decide, by decide, fun q H5 pl o5 X5 n5 P5 => ?_⟩
      exact k q H5 pl o5 (Y4.trans X5) (Y4.free n5) P5
    · rw [decide_eq_false hw]
      refine iteF ?_
      have hgl : SqL K H4 l (ks.map V.int) := .of l4
      have ef : Evl.Ev (tAndV (tOp (rI0 fun i j => .bl (decide (i ≤ j))) (tBM K "list" (rCntI K) (tVar 3) (tCons (tVar 4) tNil)) (tVar 2)) (tAndV (tOp (rI0 fun i j => .bl (decide (i < j))) (tCB (Evl.rLenS K) (tCons (tVar 3) tNil)) (tOp (rI0 fun i j => .int (i + j)) (tVar 2) (tC (.int 11)))) (tOp (rI0 fun i j => .bl (decide (j < i))) (tVar 5) (tC (.int 1)))))
          [some (V.ref u), some (V.ref a), some (V.int (g : Nat)), some (V.ref l), some (V.int (kk + r)), some (V.int wy), none] H4 (.bl (decide (((ks.count (kk + r) : Nat) : Int) ≤ (g : Nat)) && (decide (((ks.map V.int).length : Int) < (g : Nat) + 11) && decide (1 < wy)))) := by
        refine Evl.ev_andV (Evl.ev_op (x := .int (ks.count (kk + r) : Nat)) (fun H5 x5 Q q => ?_) (Evl.ev_var rfl) Evl.rv_I0) fun _ => Evl.ev_andV (Evl.ev_op (Evl.ev_len (Evl.ev_var rfl) hgl) (Evl.ev_op (Evl.ev_var rfl) Evl.ev_c Evl.rv_I0) Evl.rv_I0) fun _ => Evl.ev_op (Evl.ev_var rfl) Evl.ev_c Evl.rv_I0
        exact ⟨_, rfl, .inl ⟨rfl, _, Evl.ex_l x5 hgl⟩, _, rfl, l, ks, _, rfl, rfl, Evl.ex_l x5 hgl, q H5 (.refl _)⟩
      refine Evl.q_asg ef fun H5 x5 => ?_
      have Y5 : XU u H H5 := ⟨fun b o n e => x5 _ _ (Y4.k b o n e), by
        obtain ⟨d, m, c, e⟩ := Y4.urn
        exact ⟨d, m, c, x5 _ _ e⟩⟩
      have l5 := x5 _ _ l4
      generalize eb : (decide (((ks.count (kk + r) : Nat) : Int) ≤ (g : Nat)) && (decide (((ks.map V.int).length : Int) < (g : Nat) + 11) && decide (1 < wy))) = b at *
      refine i_ret (i_lst (i_cons (i_var rfl (i_cons ?_))))
      refine ⟨_, rfl, b, rfl, ?_⟩
      cases b with
      | true =>
        simp only [Bool.and_eq_true, decide_eq_true_eq, List.length_map] at eb
        refine iteT ⟨_, rfl, _, rfl, szl (by simp), fun m hm => ?_⟩
        have ml5 : (upd H5 m (.lst [V.int (kk + r)])) l = some (.lst (ks.map V.int)) := by
          rw [upd_ne (ne_of_none l5 hm)]
          exact l5
        refine ⟨l, m, _, _, rfl, rfl, ml5, upd_same, szl (by simp; omega), fun z hz => ?_⟩
        have Y6 := (Y5.new (o := .lst [V.int (kk + r)]) hm).new (o := .lst (ks.map V.int ++ [V.int (kk + r)])) hz
        refine ⟨z, ks ++ [kk + r], rfl, .of (by rw [upd_same, List.map_append]; rfl), by simp; omega, fun ns y hp ha hy => ?_⟩
        have Y7 := Y6.new (o := .lst (ns.map V.int)) hy
        refine ⟨y, _, rfl, .of upd_same, fun tq oq htq dq => ?_⟩
        have Y8 := Y7.new (o := .frz oq (.tup (ns.map V.int))) htq
        refine ⟨szl (by simp), fun q hq => ?_⟩
        refine k q _ (g, ns) (ok.near hp ha ⟨kk, hkk, by omega, by omega⟩ (by omega) (by omega)) (Y8.new hq) (Y8.free hq) ⟨tq, upd_same, oq, dq, ?_⟩
        rw [upd_ne (ne_of_none upd_same hq), upd_same]
      | false =>
        refine iteF ⟨_, rfl, l, _, rfl, .of l5, fun tq oq htq dq => ?_⟩
        have Y8 := Y5.new (o := .frz oq (.tup (ks.map V.int))) htq
        refine ⟨szl (by simp), fun q hq => ?_⟩
        refine k q _ (g, ks) ok (Y8.new hq) (Y8.free hq) ⟨tq, upd_same, oq, dq, ?_⟩
        rw [upd_ne (ne_of_none upd_same hq), upd_same]
end
end Bt
set_option linter.all false
/-! The two tables. -/
namespace Bt
/-- the law's table: the first j hills, the first i places -/
def dF (p : Plan) (xs : List Int) (i j : Nat) : Nat := lcs p.up (List.range j).reverse (xs.take i).reverse
theorem dF_0 (p : Plan) (xs : List Int) (j : Nat) : dF p xs 0 j = 0 := by
  unfold dF
  rw [List.take_zero, List.reverse_nil, lcs_nilr]
theorem dF_z (p : Plan) (xs : List Int) (i : Nat) : dF p xs i 0 = 0 := by
  unfold dF
  rw [List.range_zero, List.reverse_nil, lcs_nill]
theorem dF_step (p : Plan) (xs : List Int) {i : Nat} (hi : i < xs.length) (j : Nat) :
    dF p xs (i + 1) (j + 1) = max (max (dF p xs (i + 1) j) (dF p xs i (j + 1))) (dF p xs i j + (if p.up j xs[i] then 1 else 0)) := by
  have e1 : (xs.take (i + 1)).reverse = xs[i] :: (xs.take i).reverse := by
    rw [List.take_succ, List.getElem?_eq_getElem hi]
    simp
  unfold dF
  rw [e1, List.range_succ, List.reverse_append]
  show lcs p.up (j :: (List.range j).reverse) (xs[i] :: (xs.take i).reverse) = _
  rw [lcs_cons]
  have h := lcs_left (R := p.up) j (List.range j).reverse (xs.take i).reverse
  split
  · rfl
  · show _ = max (max _ (lcs p.up (j :: (List.range j).reverse) (xs.take i).reverse)) (_ + 0)
    omega
theorem dF_all (p : Plan) (xs : List Int) : dF p xs xs.length p.hills = rk p xs := by
  unfold dF rk
  rw [List.take_length, lcs_rev]
/-- the program's table: from the hill j on, from the place i on -/
def dB (p : Plan) (xs : List Int) (j i : Nat) : Nat := lcs p.up ((List.range p.hills).drop j) (xs.drop i)
theorem dB_h (p : Plan) (xs : List Int) (i : Nat) : dB p xs p.hills i = 0 := by
  unfold dB
  rw [List.drop_of_length_le (by simp), lcs_nill]
theorem dB_x (p : Plan) (xs : List Int) (j : Nat) : dB p xs j xs.length = 0 := by
  unfold dB
  rw [List.drop_length, lcs_nilr]
theorem dB_step (p : Plan) (xs : List Int) {i j : Nat} (hj : j < p.hills) (hi : i < xs.length) :
    dB p xs j i = if p.up j xs[i] then max (max (dB p xs (j + 1) i) (dB p xs j (i + 1))) (dB p xs (j + 1) (i + 1) + 1) else max (dB p xs (j + 1) i) (dB p xs j (i + 1)) := by
  have e1 : (List.range p.hills).drop j = j :: (List.range p.hills).drop (j + 1) := by
    rw [List.drop_eq_getElem_cons (by simpa using hj)]
    simp
  have e2 : xs.drop i = xs[i] :: xs.drop (i + 1) := List.drop_eq_getElem_cons hi
  unfold dB
  conv => lhs; rw [e1, e2, lcs_cons]
  rw [← e2, ← e1]
theorem dB_all (p : Plan) (xs : List Int) : dB p xs 0 0 = rk p xs := rfl
theorem rk_le (p : Plan) (xs : List Int) : rk p xs ≤ xs.length := lcs_le_right _ _
theorem dF_le (p : Plan) (xs : List Int) (i j : Nat) : dF p xs i j ≤ xs.length := by
  have h := lcs_le_right (R := p.up) (List.range j).reverse (xs.take i).reverse
  rw [List.length_reverse, List.length_take] at h
  unfold dF
  omega
end Bt
set_option Elab.async false
set_option linter.all false
set_option maxRecDepth 100000
set_option maxHeartbeats 4000000
/-! The law's is_up and free. -/
namespace Bt
open PySem PySem.Spec PyProof.Rows L2
def spUp : Sp := fun vs H Q _ => ∃ (a : Addr) (p : Plan) (h : Nat) (x : Int), vs = [.ref a, .int (h : Nat), .int x] ∧ PlanAt H a p ∧ PlanOk p ∧ h < p.hills ∧ Q (.bl (p.up h x)) H
section
variable {P : Program} {w : World} {K : PySem.W.Frag} {mg : Str → Option Value} {base : Heap}
theorem at_int {ks : List Int} {i : Nat} (h : i < ks.length) : atI (ks.map V.int) ((i : Nat) : Int) = some (.int (ks.getD i 0)) := by
  rw [atI_nat (v := .int (ks.getD i 0))]
  simp [List.getD, h]
theorem at_int' {ks : List Int} {i : Int} {j : Nat} (e : i = (j : Int)) (h : j < ks.length) : atI (ks.map V.int) i = some (.int (ks.getD j 0)) := by
  rw [e]
  exact at_int h
theorem at_lastD {ks : List Int} (ne : ks ≠ []) : atI (ks.map V.int) (-1) = some (.int (ks.getD (ks.length - 1) 0)) := by
  rw [at_last ne]
  have : 0 < ks.length := List.length_pos_iff.mpr ne
  have hl : ks.length - 1 < ks.length := by omega
  rw [List.getLast_eq_getElem]
  simp [List.getD, List.getElem?_eq_getElem hl]
theorem scLup : FnScope ["_law_plan", "_law_hill", "_law_x", "_law_degree", "_law_knots"] ["_law_plan", "_law_hill", "_law_x"] (defScope st_d_law_is_up) := ⟨rfl, rfl, rfl, by decide +kernel, rfl, by decide +kernel, by decide +kernel⟩
theorem ok_lup (hd : Hd K mg) : Okf P w K mg base C8.CX0 1 (He.fAd K d_law_is_up.at_) ["_law_plan", "_law_hill", "_law_x"] spUp := by
  refine okf_of hd.f_d_law_is_up scLup (fun _ _ _ _ _ _ us hl => ?_) (fun vs H Q E h => ?_) (fun cdv A outer s H vs Q E hr h => ?_)
  · obtain ⟨a, b, c, rfl⟩ := us3 hl
    rfl
  · obtain ⟨a, p, h, x, rfl, _⟩ := h
    rfl
  · obtain ⟨a, ⟨g, ks⟩, h, x, rfl, ⟨t, h1, h2⟩, ok, hh, k⟩ := h
    refine ⟨_, pss_cons (ps_asg (pv 0) (pg_unl rfl (pgs_cons (pg_name (i := 3) scLup.nd rfl (.inl rfl)) (pgs_cons (pg_name (i := 4) scLup.nd rfl (.inl rfl)) pgs_nil))))
      (pss_cons (ps_if (pt_chain op_lt op_lt (pe_ix ix_tup (pv 4) (pv 1) (fun _ _ => rfl)) (pv 2) (pe_ix ix_tup (pv 4) (pe_op op_add (pe_op op_add (pv 1) (pv 3)) pe_int) (fun _ _ => rfl))) (pss_one (ps_ret pe_bl)) pss_nil)
      (pss_one (ps_ret (pe_or (pe_chain op_eq op_eq (pv 2) (pe_ix ix_tup (pv 4) (pv 1) (fun _ _ => rfl)) (pe_ix ix_tup (pv 4) (pe_op op_add (pv 1) (pv 3)) (fun _ _ => rfl)))
        (pe_one (pe_chain op_eq op_eq (pv 2) (pe_ix ix_tup (pv 4) (pe_un un_neg pe_int) (fun _ _ => rfl)) (pe_ix ix_tup (pv 4) (pe_op op_add (pv 1) pe_int) (fun _ _ => rfl)))))))), ?_⟩
    have lo := ok.lo
    have hh' : h < ks.length - g - 1 := hh
    simp only at lo
    have ne : ks ≠ [] := by
      intro z
      rw [z] at hh'
      simp at hh'
    have a0 := at_int (ks := ks) (i := h) (by omega)
    have a1 : atI (ks.map V.int) ((h : Int) + (g : Nat) + 1) = some (.int (ks.getD (h + g + 1) 0)) := at_int' (by omega) (by omega)
    have a2 : atI (ks.map V.int) ((h : Int) + (g : Nat)) = some (.int (ks.getD (h + g) 0)) := at_int' (by omega) (by omega)
    have a3 : atI (ks.map V.int) ((h : Int) + 1) = some (.int (ks.getD (h + 1) 0)) := at_int' (by omega) (by omega)
    have a4 := at_lastD ne
    refine ⟨_, rfl, a, _, rfl, .of h1, rfl, _, _, rfl, _, _, rfl, rfl, ?_⟩
    refine ⟨_, rfl, _, rfl, t, _, _, _, rfl, rfl, h2.sq, a0, _, rfl, _, _, rfl, rfl, _, rfl, ?_⟩
    have fin : ∀ b : Bool, b = (Plan.up (g, ks) h x) → Q (.bl b) H := fun b e => by rw [e]; exact k
    have eup : Plan.up (g, ks) h x = ((decide (ks.getD h 0 < x) && decide (x < ks.getD (h + g + 1) 0)) || ((decide (x = ks.getD h 0) && decide (x = ks.getD (h + g) 0)) || (decide (x = ks.getD (ks.length - 1) 0) && decide (x = ks.getD (h + 1) 0)))) := rfl
    have rest : (decide (ks.getD h 0 < x) && decide (x < ks.getD (h + g + 1) 0)) = false → ∀ (Q' : VK), (Q' (.bl (Plan.up (g, ks) h x)) H) → tOrV (tChain rEq rEq (tVar 2) (tOp (rIxT K) (tVar 4) (tVar 1)) (tOp (rIxT K) (tVar 4) (tOp (rI0 fun i j => .int (i + j)) (tVar 1) (tVar 3)))) (tChain rEq rEq (tVar 2) (tOp (rIxT K) (tVar 4) (tUn (rU fun i => .int (-i)) (tC (.int 1)))) (tOp (rIxT K) (tVar 4) (tOp (rI0 fun i j => .int (i + j)) (tVar 1) (tC (.int 1))))) [some (V.ref a), some (V.int (h : Nat)), some (V.int x), some (V.int (g : Nat)), some (V.ref t)] H Q' := by
      intro z Q' q
      rw [eup, z, Bool.false_or] at q
      refine ⟨_, rfl, _, rfl, _, rfl, t, _, _, _, rfl, rfl, h2.sq, a0, rfl, _, rfl, ?_⟩
      have second : ∀ b1 : Bool, b1 = (decide (x = ks.getD h 0) && decide (x = ks.getD (h + g) 0)) → ∃ c, V.bl b1 = .bl c ∧ if c = true then Q' (.bl true) H else tChain rEq rEq (tVar 2) (tOp (rIxT K) (tVar 4) (tUn (rU fun i => .int (-i)) (tC (.int 1)))) (tOp (rIxT K) (tVar 4) (tOp (rI0 fun i j => .int (i + j)) (tVar 1) (tC (.int 1)))) [some (V.ref a), some (V.int (h : Nat)), some (V.int x), some (V.int (g : Nat)), some (V.ref t)] H Q' := by
        intro b1 e1
        refine ⟨b1, rfl, ?_⟩
        rw [← e1] at q
        cases b1 with
        | true => exact iteT (by simpa using q)
        | false =>
          rw [Bool.false_or] at q
          refine iteF ⟨_, rfl, _, rfl, _, rfl, t, _, _, _, rfl, rfl, h2.sq, a4, rfl, _, rfl, ?_⟩
          by_cases e : V.int x = V.int (ks.getD (ks.length - 1) 0)
          · rw [decide_eq_true e]
            refine iteT ⟨_, rfl, _, rfl, _, _, rfl, rfl, t, _, _, _, rfl, rfl, h2.sq, a3, rfl, ?_⟩
            injection e with e
            rw [← e] at q ⊢
            simpa using q
          · rw [decide_eq_false e]
            refine iteF ?_
            have e' : ¬ x = ks.getD (ks.length - 1) 0 := fun z => e (by rw [z])
            rw [decide_eq_false e'] at q
            simpa using q
      by_cases e : V.int x = V.int (ks.getD h 0)
      · rw [decide_eq_true e]
        refine iteT ⟨_, rfl, _, rfl, _, rfl, _, _, rfl, rfl, t, _, _, _, rfl, rfl, h2.sq, a2, rfl, second _ ?_⟩
        injection e with e
        rw [← e]
        simp
      · rw [decide_eq_false e]
        refine iteF (second _ ?_)
        have e' : ¬ x = ks.getD h 0 := fun z => e (by rw [z])
        rw [decide_eq_false e']
        simp
    by_cases c1 : ks.getD h 0 < x
    · rw [decide_eq_true c1]
      refine iteT ⟨_, rfl, _, rfl, _, rfl, _, _, rfl, rfl, _, _, rfl, rfl, t, _, _, _, rfl, rfl, h2.sq, a1, _, _, rfl, rfl, _, rfl, ?_⟩
      by_cases c2 : x < ks.getD (h + g + 1) 0
      · rw [decide_eq_true c2]
        exact iteT (fin _ (by rw [eup, decide_eq_true c1, decide_eq_true c2]; rfl))
      · rw [decide_eq_false c2]
        exact iteF (rest (by rw [decide_eq_false c2, Bool.and_false]) _ k)
    · rw [decide_eq_false c1]
      exact iteF ⟨_, rfl, iteF (rest (by rw [decide_eq_false c1, Bool.false_and]) _ k)⟩
end
end Bt
set_option Elab.async false
set_option linter.all false
set_option maxRecDepth 100000
set_option maxHeartbeats 4000000
/-! The law's free. -/
namespace Bt
open PySem PySem.Spec PyProof.Rows L2
def spFree : Sp := fun vs H Q _ => ∃ (a b : Addr) (p : Plan) (xs : List Int), vs = [.ref a, .ref b] ∧ PlanAt H a p ∧ PlanOk p ∧ H b = some (.tup (xs.map V.int)) ∧ xs.length ≤ 12 ∧ ∀ H', Evl.Ex H H' → Q (.int (rk p xs : Nat)) H'
/-- the row of the table -/
def rowF (p : Plan) (xs : List Int) (i : Nat) : List Int := (List.range (p.hills + 1)).map fun j => (dF p xs i j : Int)
/-- the row that is being made: the first j are new -/
def mixF (p : Plan) (xs : List Int) (i j : Nat) : List Int := (List.range (p.hills + 1)).map fun k => if k ≤ j then (dF p xs (i + 1) k : Int) else (dF p xs i k : Int)
theorem rowF_len (p : Plan) (xs : List Int) (i : Nat) : (rowF p xs i).length = p.hills + 1 := by simp [rowF]
theorem mixF_len (p : Plan) (xs : List Int) (i j : Nat) : (mixF p xs i j).length = p.hills + 1 := by simp [mixF]
theorem rowF_at (p : Plan) (xs : List Int) (i : Nat) {j : Nat} (h : j ≤ p.hills) : (rowF p xs i).getD j 0 = (dF p xs i j : Int) := by
  have : j < p.hills + 1 := by omega
  simp [rowF, List.getD, this]
theorem mixF_at (p : Plan) (xs : List Int) (i : Nat) {j k : Nat} (h : k ≤ p.hills) : (mixF p xs i j).getD k 0 = if k ≤ j then (dF p xs (i + 1) k : Int) else (dF p xs i k : Int) := by
  have : k < p.hills + 1 := by omega
  simp [mixF, List.getD, this]
theorem mixF_0 (p : Plan) (xs : List Int) (i : Nat) : mixF p xs i 0 = rowF p xs i := by
  unfold mixF rowF
  apply List.map_congr_left
  intro k _
  by_cases h : k ≤ 0
  · have : k = 0 := by omega
    subst this
    rw [if_pos (by omega), dF_z, dF_z]
  · rw [if_neg h]
theorem mixF_all (p : Plan) (xs : List Int) (i : Nat) : mixF p xs i p.hills = rowF p xs (i + 1) := by
  unfold mixF rowF
  apply List.map_congr_left
  intro k hk
  rw [if_pos (by have := List.mem_range.mp hk; omega)]
theorem mixF_set (p : Plan) (xs : List Int) (i j : Nat) : (mixF p xs i j).set (j + 1) (dF p xs (i + 1) (j + 1) : Int) = mixF p xs i (j + 1) := by
  apply List.ext_getElem
  · simp [mixF]
  · intro k h1 h2
    simp only [mixF_len, List.length_set] at h1 h2
    rw [List.getElem_set]
    simp only [mixF, List.getElem_map, List.getElem_range]
    by_cases e : j + 1 = k
    · subst e
      rw [if_pos rfl, if_pos (by omega)]
    · rw [if_neg e]
      by_cases c : k ≤ j
      · rw [if_pos c, if_pos (by omega)]
      · rw [if_neg c, if_neg (by omega)]
theorem zeros (p : Plan) (xs : List Int) : (List.replicate (p.hills + 1) [V.int 0]).flatten = (rowF p xs 0).map V.int := by
  have e : ∀ n : Nat, (List.replicate n [V.int 0]).flatten = List.replicate n (V.int 0) := by
    intro n
    induction n with
    | zero => rfl
    | succ n ih => rw [List.replicate_succ, List.flatten_cons, ih]; rfl
  rw [e]
  apply List.ext_getElem
  · simp [rowF]
  · intro k h1 h2
    simp [rowF, dF_0]
section
variable {P : Program} {w : World} {K : PySem.W.Frag} {mg : Str → Option Value} {base : Heap}
theorem scFree : FnScope ["_law_plan", "_law_spots", "_law_best", "_law_x", "_law_last", "_law_hill", "_law_more"] ["_law_plan", "_law_spots"] (defScope st_d_law_free) := ⟨rfl, rfl, rfl, by decide +kernel, rfl, by decide +kernel, by decide +kernel⟩
theorem ok_free (hd : Hd K mg) : Okf P w K mg base C8.CX0 2 (He.fAd K d_law_free.at_) ["_law_plan", "_law_spots"] spFree := by
  have ml : mg "list" = none := hd.free _ (by decide +kernel)
  have mr : mg "range" = none := hd.free _ (by decide +kernel)
  have mi : mg "int" = none := hd.free _ (by decide +kernel)
  have mm : mg "max" = none := hd.free _ (by decide +kernel)
  have mM : mg "_law_many" = some (.ref (He.fAd K d_law_many.at_)) := hd.glo _ (by decide +kernel)
  have mU : mg "_law_is_up" = some (.ref (He.fAd K d_law_is_up.at_)) := hd.glo _ (by decide +kernel)
  have M := ok_many (P := P) (w := w) (base := base) hd
  have U := ok_lup (P := P) (w := w) (base := base) hd
  refine okf_of hd.f_d_law_free scFree (fun _ _ _ _ _ _ us hl => ?_) (fun vs H Q E h => ?_) (fun cdv A outer s H vs Q E hr h => ?_)
  · obtain ⟨a, b, rfl⟩ := us2 hl
    rfl
  · obtain ⟨a, b, p, xs, rfl, _⟩ := h
    rfl
  · obtain ⟨a, b, p, xs, rfl, hp, ok, hb, hz, k⟩ := h
    have pm : ∀ {H'}, Evl.Ex H H' → PlanAt H' a p := fun x => hp.ex x
    refine ⟨_, pss_cons (ps_set (i := 2) scFree.nd rfl (.inl rfl) (pe_op op_rep (pe_lst (pa_cons pe_int pa_nil)) (pe_op op_add (pe_callR (E := E00) (M.run hr C8.pass0) (by rfl) mM M.kp (pa_cons (pv 0) pa_nil)) pe_int)))
      (pss_cons (ps_for PassesOwn.leaving rfl (pi_tup (pv 1)) (pg_name (i := 3) scFree.nd rfl (.inl rfl))
        (pss_cons (ps_set (i := 4) scFree.nd rfl (.inl rfl) (pe_callTy call_list_of (by rfl) ml bo_list (pa_cons (pv 2) pa_nil)))
        (pss_one (ps_for PassesOwn.leaving rfl (pi_range1 (by rfl) mr (pa_cons (pe_callR (E := E00) (M.run hr C8.pass0) (by rfl) mM M.kp (pa_cons (pv 0) pa_nil)) pa_nil)) (pg_name (i := 5) scFree.nd rfl (.inl rfl))
          (pss_cons (ps_set (i := 6) scFree.nd rfl (.inl rfl) (pe_op op_add (pe_ix ix_list (pv 4) (pv 5) (fun _ _ => rfl)) (pe_callTy call_int1 (by rfl) mi bo_int (pa_cons (pe_callR (E := E00) (U.run hr C8.pass0) (by rfl) mU U.kp (pa_cons (pv 0) (pa_cons (pv 5) (pa_cons (pv 3) pa_nil)))) pa_nil))))
          (pss_one (ps_asg (pe_callB (call_max3 rfl) (by rfl) mm bo_max (pa_cons (pe_ix ix_list (pv 2) (pv 5) (fun _ _ => rfl)) (pa_cons (pe_ix ix_list (pv 4) (pe_op op_add (pv 5) pe_int) (fun _ _ => rfl)) (pa_cons (pv 6) pa_nil)))) (pg_sub (pv 2) (pe_op op_add (pv 5) pe_int) set_list))))))))
      (pss_one (ps_ret (pe_ix ix_list (pv 2) (pe_un un_neg pe_int) (fun _ _ => rfl))))), ?_⟩
    have ten := ok.ten
    -- best = [0] * (many(plan) + 1)
    refine ⟨szl (by simp), fun l0 hl0 => ?_⟩
    refine ⟨_, rfl, a, p, rfl, pm (.new hl0), ok, _, _, rfl, rfl, l0, _, _, rfl, rfl, upd_same, by omega, by omega, szl (by simp; omega), fun l hl => ?_⟩
    have x1 : Evl.Ex H (upd (upd H l0 (.lst [.int 0])) l (.lst (List.replicate ((p.hills : Int) + 1).toNat [V.int 0]).flatten)) := (Evl.Ex.new hl0).trans (.new hl)
    have hlf : H l = none := Evl.fresh_back (.new hl0) hl
    have et : ((p.hills : Int) + 1).toNat = p.hills + 1 := by omega
    have l1 : (upd (upd H l0 (.lst [.int 0])) l (.lst (List.replicate ((p.hills : Int) + 1).toNat [V.int 0]).flatten)) l = some (.lst ((rowF p xs 0).map V.int)) := by
      rw [upd_same, et, zeros p xs]
    generalize (upd (upd H l0 (.lst [.int 0])) l (.lst (List.replicate ((p.hills : Int) + 1).toNat [V.int 0]).flatten)) = H1 at x1 l1 ⊢
    refine ⟨_, rfl, b, rfl, ⟨_, .of (x1 _ _ hb)⟩, for_tup (K := K) (xs := xs.map V.int) (fun i σ' H' => ∃ o3 o4 o5 o6, σ' = [some (V.ref a), some (V.ref b), some (V.ref l), o3, o4, o5, o6] ∧ Evl.Ex H H' ∧ H' l = some (.lst ((rowF p xs i).map V.int)))
      ⟨_, _, _, _, rfl, x1, l1⟩ (fun i σ' H' _ h => ?_) (fun i x σ' H' hx h => ?_) (fun σ' H' h => ?_)⟩
    · obtain ⟨_, _, _, _, _, x2, _⟩ := h
      exact .of (x2 _ _ hb)
    · obtain ⟨o3, o4, o5, o6, rfl, x2, l2⟩ := h
      obtain ⟨y, hy, rfl⟩ := Option.map_eq_some_iff.mp (List.getElem?_map .. ▸ hx)
      have hi : i < xs.length := (List.getElem?_eq_some_iff.mp hy).1
      have ey : xs[i] = y := (List.getElem?_eq_some_iff.mp hy).2
      -- last = list(best)
      refine ⟨_, rfl, l, _, rfl, .inl (.of l2), fun m hm => ?_⟩
      have lm : l ≠ m := ne_of_none l2 hm
      have hmf : H m = none := Evl.fresh_back x2 hm
      refine ⟨_, rfl, a, p, rfl, pm (x2.trans (.new hm)), ok, _, rfl, by omega, by omega, for_range (fun j σ' H' => ∃ o5 o6, σ' = [some (V.ref a), some (V.ref b), some (V.ref l), some (V.int y), some (V.ref m), o5, o6] ∧ Evl.Ex H H' ∧ H' m = some (.lst ((rowF p xs i).map V.int)) ∧ H' l = some (.lst ((mixF p xs i j).map V.int)))
        ⟨_, _, rfl, x2.trans (.new hm), upd_same, by rw [mixF_0, upd_ne lm]; exact l2⟩ (fun j σ' H' hj h => ?_) (fun σ' H' h => ?_)⟩
      · obtain ⟨o5, o6, rfl, x3, m3, l3⟩ := h
        have hj : j < p.hills := by simpa using hj
        have g0 : atI ((rowF p xs i).map V.int) (0 + (j : Int)) = some (.int (dF p xs i j : Nat)) := by
          rw [at_int' (j := j) (by omega) (by rw [rowF_len]; omega), rowF_at p xs i (by omega)]
        have g1 : atI ((mixF p xs i j).map V.int) (0 + (j : Int)) = some (.int (dF p xs (i + 1) j : Nat)) := by
          rw [at_int' (j := j) (by omega) (by rw [mixF_len]; omega), mixF_at p xs i (by omega), if_pos (Nat.le_refl _)]
        have g2 : atI ((rowF p xs i).map V.int) (0 + (j : Int) + 1) = some (.int (dF p xs i (j + 1) : Nat)) := by
          rw [at_int' (j := j + 1) (by omega) (by rw [rowF_len]; omega), rowF_at p xs i (by omega)]
        have st := dF_step p xs hi j
        rw [ey] at st
        refine ⟨_, rfl, _, rfl, m, _, _, _, rfl, rfl, .of m3, g0, _, rfl, _, rfl, _, rfl, a, p, j, y, by simp, pm x3, ok, hj, .inr ⟨_, rfl, _, _, rfl, rfl, ?_⟩⟩
        refine ⟨_, rfl, _, rfl, l, _, _, _, rfl, rfl, .of l3, g1, _, rfl, _, rfl, _, _, rfl, rfl, m, _, _, _, rfl, rfl, .of m3, g2, _, rfl, _, _, _, rfl, _, rfl, _, rfl, _, _, rfl, rfl, l, _, _, j + 1, rfl, rfl, l3, ?_, ?_⟩
        · unfold ixN
          rw [if_pos (by omega), List.length_map, mixF_len, if_pos (by omega)]
          congr 1
          omega
        · refine ⟨_, _, rfl, x3.mut hlf, by rw [upd_ne (Ne.symm lm)]; exact m3, ?_⟩
          rw [upd_same, ← mixF_set, List.map_set]
          have e1 : max (max (dF p xs (i + 1) j : Int) (dF p xs i (j + 1) : Int)) ((dF p xs i j : Int) + (if p.up j y = true then 1 else 0)) = ((dF p xs (i + 1) (j + 1) : Nat) : Int) := by
            rw [st]
            split <;> omega
          rw [← e1]
      · obtain ⟨o5, o6, rfl, x3, m3, l3⟩ := h
        have eh : ((p.hills : Int)).toNat = p.hills := by omega
        rw [eh, mixF_all] at l3
        exact ⟨_, _, _, _, rfl, x3, l3⟩
    · obtain ⟨o3, o4, o5, o6, rfl, x2, l2⟩ := h
      have hne : rowF p xs (xs.map V.int).length ≠ [] := by
        intro z
        have := rowF_len p xs (xs.map V.int).length
        rw [z] at this
        simp at this
      have gl := at_lastD hne
      rw [rowF_len, show p.hills + 1 - 1 = p.hills from rfl, rowF_at p xs _ (Nat.le_refl _)] at gl
      refine ⟨_, rfl, _, rfl, l, _, _, _, rfl, rfl, .of l2, gl, ?_⟩
      rw [List.length_map, dF_all]
      exact k H' x2
end
end Bt
set_option Elab.async false
set_option linter.all false
set_option maxRecDepth 100000
set_option maxHeartbeats 4000000
/-! set(xs), xs a list of ints. -/
namespace Bt
open PySem PySem.Spec PyProof.Rows L2
/-- a new set's object -/
abbrev newSet (w : World) : Obj := { cls := .type "set", dict := none, data := .set #[] 0 (.fresh 0 0 (!w.params.followText "set-order")) }
section
variable {P : Program} {w : World} {A : Around} {Ez : Value → Shared → Prop} {s : Shared}
/-- set.__init__(S, l) on the new set -/
theorem init_from_list {l : Addr} {its : Array Value} (ks : List Int) (gh : A.handled = none) (gl : s.heap.IsList l its) (gi : IntsAre its.toList ks) (gb : ks.length + 1 < scanBound) {R : Result → Shared → Prop}
    (h : ∀ (h' : Heap) (tz c : Nat), SetR w h' s.heap.objs.size (fun j => decide (j ∈ ks)) c → c ≤ ks.length → (∀ b o, s.heap.get? b = some o → h'.get? b = some o) → R (.ok (.ret .none)) { s with heap := h', toks := tz }) :
    codeAny (model P w) A (.call (.builtin "set.__init__") ⟨[.ref s.heap.objs.size, .ref l], []⟩) R { s with heap := s.heap.push (newSet w) } := by
  have eqz : its.size = ks.length := by have q := IntsAre.length gi; rwa [Array.length_toList] at q
  have gS : (s.heap.push (newSet w)).get? s.heap.objs.size = some (newSet w) := Heap.get?_push_size _ rfl
  have up : (s.heap.push (newSet w)).objs.size = s.heap.objs.size + 1 := Heap.size_push ..
  refine codeAny_call_builtin F.called_set.init.plain F.entry_set_init (check_set_init_1 (show Shared.TypeIs { s with heap := s.heap.push (newSet w) } (.ref s.heap.objs.size) "set" from ⟨_, gS, rfl⟩) ?_)
  obtain ⟨⟨c0, d0, dt, sl⟩, go, gc, nl, gd⟩ := gl
  simp only at gc gd; subst gc; subst gd
  have gl1 : (s.heap.push (newSet w)).IsList l its := ⟨_, Heap.get?_push_of_some _ go, rfl, nl, rfl⟩
  have go1 := Heap.get?_push_of_some (newSet w) go
  have gls : l < s.heap.objs.size := Heap.lt_size go
  have q1 := F.sub_list_set; have q2 := F.sub_list_frozenset; have q3 : (Value.type "list" == Value.type "dict") = false := by decide
  unfold Builtin.«set.__init__» noKeywords Builtin.Frozenset.updateFrom
  generalize ePI : pyIter = PI; wp_walk; subst ePI
  refine wpAny_pyIter_list gl1 (wpAny_bind (wpAny_runValue ?_))
  have gneI : l ≠ (s.heap.push (newSet w)).objs.size := by rw [up]; exact Nat.ne_of_lt (Nat.lt_succ_of_lt gls)
  have noI : s.heap.objs.size ∉ [(s.heap.push (newSet w)).objs.size, l] := by rw [up]; simp only [List.mem_cons, List.not_mem_nil, or_false, not_or]; exact ⟨Nat.ne_of_lt (Nat.lt_succ_self _), Nat.ne_of_gt gls⟩
  have gval : ∀ (i : Nat) (v : Value), its[i]? = some v → ∃ k t, ks[i]? = some k ∧ v = .int k t := fun i v hv => by
    have ki : i < ks.length := by rw [← eqz]; exact (Array.getElem?_eq_some_iff.mp hv).1
    obtain ⟨t, e⟩ := IntsAre.int_at gi i v (by rw [Array.getElem?_toList]; exact hv)
    exact ⟨ks[i], t, List.getElem?_eq_getElem ki, by rw [e, List.getD_eq_getElem?_getD, List.getElem?_eq_getElem ki] <;> rfl⟩
  refine set_update_ints ((Walks.list (show A.in1.in1.handled = none by simp [gh]) _ l gneI its).toS) s.heap.objs.size noI ks eqz gb gval (its.size - 0) 0 _ (by omega) (Nat.zero_le _) ?gs ?g0 ?g1
  case gs => exact ⟨⟨_, Heap.get?_push_size _ rfl, rfl, rfl⟩, gl1.push _⟩
  case g0 => exact ⟨0, Nat.le_refl 0, setR_new_at (Heap.get?_push_of_some _ gS)⟩
  intro s' c' gm gc' gS'
  obtain ⟨h', g2, d', tz, os'⟩ := s'
  obtain rfl : g2 = s.gens := gm.gens
  obtain rfl : d' = s.drawn := gm.drawn
  obtain rfl : os' = s.os := gm.os
  refine wpAny_pure ?_
  rw [eqz] at gc'
  refine wpAny_pure (h h' tz c' gS' gc' fun b o e => gm.heap b o ?_ (Heap.get?_push_of_some _ (Heap.get?_push_of_some _ e)))
  have b0 : b < s.heap.objs.size := Heap.lt_size e
  rw [up]; simp only [List.mem_cons, List.not_mem_nil, or_false, not_or]; exact ⟨Nat.ne_of_lt b0, Nat.ne_of_lt (Nat.lt_succ_of_lt b0)⟩
theorem set_of_list {l : Addr} {its : Array Value} (ks : List Int) {Qz : Value → Shared → Prop} (gh : A.handled = none) (gl : s.heap.IsList l its) (gi : IntsAre its.toList ks) (gb : ks.length + 1 < scanBound)
    (h : ∀ (h' : Heap) (tz c : Nat), SetR w h' s.heap.objs.size (fun j => decide (j ∈ ks)) c → c ≤ ks.length → (∀ b o, s.heap.get? b = some o → h'.get? b = some o) → Qz (.ref s.heap.objs.size) { s with heap := h', toks := tz }) :
    wpAny (model P w) A (call (.type "set") [.ref l]) Qz Ez s := by
  obtain ⟨c, tl, qm⟩ := F.called_set.mro
  have qd := F.called_set.made; have qs := F.called_set.sub; have k1 := F.called_set.notType; have k2 := F.called_set.canCreate; have qt := F.typeCall_set_1 (.ref l)
  refine wpAny_call (codeAny_of_tree (show wpAny _ _ (callAny (.type "set") _) _ _ _ from wpAny_pure ⟨Code.quiet_builtin _ (by decide +kernel), codeAny_builtin F.entry_type_call ?_⟩))
  rw [Around.under_plain (weight_type_call_type "set" [.ref l] []) rfl]
  repeat (any_goals (first | assumption | wp_step))
  refine codeAny_mono (code_set_led1 (.ref l) (E := Ez) (Q₁ := fun obj sA => obj = .ref s.heap.objs.size ∧ sA = { s with heap := s.heap.push (newSet w) }) ⟨rfl, rfl⟩) fun r sA gr => ?_
  cases r with
  | error e => exact gr
  | ok fl =>
    cases fl with
    | ret obj =>
      obtain ⟨rfl, rfl⟩ := gr
      have gS : (s.heap.push (newSet w)).get? s.heap.objs.size = some (newSet w) := Heap.get?_push_size _ rfl
      have gT : Shared.TypeIs { s with heap := s.heap.push (newSet w) } (.ref s.heap.objs.size) "set" := ⟨_, gS, rfl⟩
      have qli := F.called_set.init.lookup; have qbi := F.called_set.init.bind (.ref s.heap.objs.size)
      repeat (any_goals (first | assumption | wp_step))
      refine codeAny_mono (init_from_list (R := wants (fun r sB => r = .none ∧ ∃ h' tz c, sB = { s with heap := h', toks := tz } ∧ SetR w h' s.heap.objs.size (fun j => decide (j ∈ ks)) c ∧ c ≤ ks.length ∧ (∀ b o, s.heap.get? b = some o → h'.get? b = some o)) Ez) ks (by simpa using gh) gl gi gb fun h' tz c a1 a2 a3 => ⟨rfl, h', tz, c, rfl, a1, a2, a3⟩) fun rB sB gr2 => ?_
      cases rB with
      | error e => exact gr2
      | ok fl2 =>
        cases fl2 with
        | ret r =>
          obtain ⟨rfl, h', tz, c', rfl, a1, a2, a3⟩ := gr2
          repeat (any_goals (first | assumption | wp_step))
          exact h _ _ _ a1 a2 a3
        | _ => exact gr2.elim
    | _ => exact gr.elim
/-- the rule -/
def rSetL (K : PySem.W.Frag) (w : World) : List V → Hp → VK → Prop := fun xs H Q => ∃ (a : Addr) (ns : List Int), xs = [.ref a] ∧ SqL K H a (ns.map V.int) ∧ ns.length ≤ 1000 ∧
  ∀ (p : Addr) (n : Nat), n ≤ ns.length → H p = none → Q (.ref p) (upd H p (SetO w p (fun j => decide (j ∈ ns)) n))
theorem cr_setL {X : Cx} (hc : X.calm = true) : CallR X (.type "set") (rSetL X.K X.w) := by
  intro pins s σ H xs us Q I r h
  obtain ⟨a, ns, rfl, ha, hz, q⟩ := h
  obtain ⟨u, rfl, rx⟩ := vals1 r
  obtain rfl : u = Value.ref a := rx
  obtain ⟨its, rv, pl, _⟩ := I.list ha
  have hi : IntsAre its.toArray.toList ns := ints_of_vals rv
  refine set_of_list ns (I.ok.hd hc) pl.isList hi (by unfold scanBound; omega) fun h' tz c R1 hcn k => ?_
  exact ⟨.ref _, upd H s.heap.objs.size (SetO X.w s.heap.objs.size (fun j => decide (j ∈ ns)) c), I.laid (t' := tz) k (Nat.le_refl _) (setO_new R1), rfl, q _ c hcn (I.hok.fresh (Nat.le_refl _))⟩
end
end Bt
set_option Elab.async false
set_option linter.all false
set_option maxRecDepth 100000
set_option maxHeartbeats 4000000
/-! Sites. -/
namespace Bt
open PySem PySem.Spec PyProof.Rows L2
def spSites (u : Addr) : Sp := fun vs H Q _ => ∃ (a : Addr) (p : Plan) (most : Int), vs = [.ref u, .ref a, .int most] ∧ UrnAt H u ∧ PlanAt H a p ∧ PlanOk p ∧ 1 ≤ most ∧ most ≤ 10 ∧
  ∀ (q : Addr) (H' : Hp) (xs : List Int), SpotsOk xs → XU u H H' → H q = none → H' q = some (.tup (xs.map V.int)) → Q (.ref q) H'
theorem given_filter (ks : List Int) (f : Int → Bool) : Evl.given ks.length (fun i => f (ks.getD i 0)) (fun i => V.int (ks.getD i 0)) = (ks.filter f).map V.int := by
  have e : ks = (List.range ks.length).map fun i => ks.getD i 0 := by
    apply List.ext_getElem
    · simp
    · intro i h1 h2
      simp [List.getD, h1]
  unfold Evl.given
  conv => rhs; rw [e, List.filter_map, List.map_map]
  rfl
theorem i_par {i j : Nat} {ta : TA} {D : Ends} {σ : L2.St} {H : Hp} (h : ta σ H fun vs H1 => ∃ v w, vs = [v, w] ∧ D.nx ((σ.set i (some v)).set j (some w)) H1) : tPar i j ta D σ H := h
theorem xu_ex {u : Addr} {H H1 H2 : Hp} (x : XU u H H1) (e : Evl.Ex H1 H2) : XU u H H2 := ⟨fun b o n h => e _ _ (x.k b o n h), by
  obtain ⟨d, m, c, q⟩ := x.urn
  exact ⟨d, m, c, e _ _ q⟩⟩
/-- sites that were found so far -/
structure FoundOk (i : Nat) (fs : List Int) : Prop where
  len : fs.length = 4 * i
  rng : ∀ x ∈ fs, 0 ≤ x
  some : 0 < i → ∃ x ∈ fs, x ≤ 1000000
theorem spots_of {ns some : List Int} {n : Nat} (hp : ns.Pairwise (· < ·)) (hm : ∀ k : Int, k ∈ ns ↔ decide (k ∈ some) = true) (hl : ns.length = n) (hn : n ≤ some.length) (h12 : some.length ≤ 12) (h0 : some ≠ []) (hr : ∀ x ∈ some, 0 ≤ x ∧ x ≤ 1000000) : SpotsOk ns := by
  have hm' : ∀ k : Int, k ∈ ns ↔ k ∈ some := fun k => by rw [hm k, decide_eq_true_iff]
  refine ⟨fun z => ?_, hp, by omega, fun x hx => hr x ((hm' x).mp hx)⟩
  cases some with
  | nil => exact h0 rfl
  | cons a r =>
    have : a ∈ ns := (hm' a).mpr List.mem_cons_self
    rw [z] at this
    cases this
section
variable {P : Program} {w : World} {K : PySem.W.Frag} {mg : Str → Option Value} {base : Heap}
theorem scSites : FnScope ["_law_urn_here", "_law_plan", "_law_most", "_law_knots", "_law_found", "_law_k", "_law_middle", "_law_some", "_law_turn_here", "_law_each"] ["_law_urn_here", "_law_plan", "_law_most"] (defScope st_d_law_sites) := ⟨rfl, rfl, rfl, by decide +kernel, rfl, by decide +kernel, by decide +kernel⟩
theorem ok_sites (hd : Hd K mg) (u : Addr) : Okf P w K mg base C8.CX0 3 (He.fAd K d_law_sites.at_) ["_law_urn_here", "_law_plan", "_law_most"] (spSites u) := by
  have mt : mg "tuple" = none := hd.free _ (by decide +kernel)
  have mr : mg "range" = none := hd.free _ (by decide +kernel)
  have mm : mg "max" = none := hd.free _ (by decide +kernel)
  have mn : mg "len" = none := hd.free _ (by decide +kernel)
  have ms : mg "sorted" = none := hd.free _ (by decide +kernel)
  have mse : mg "set" = none := hd.free _ (by decide +kernel)
  have mG : mg "_law_grab" = some (.ref (He.fAd K d_law_grab.at_)) := hd.glo _ (by decide +kernel)
  have mT : mg "_law_take" = some (.ref (He.fAd K d_law_take.at_)) := hd.glo _ (by decide +kernel)
  have G := ok_grab (P := P) (w := w) (base := base) hd u
  have T := ok_take (P := P) (w := w) (base := base) hd u
  refine okf_of hd.f_d_law_sites scSites (fun _ _ _ _ _ _ us hl => ?_) (fun vs H Q E h => ?_) (fun cdv A outer s H vs Q E hr h => ?_)
  · obtain ⟨a, b, c, rfl⟩ := us3 hl
    rfl
  · obtain ⟨a, p, m, rfl, _⟩ := h
    rfl
  · obtain ⟨a, ⟨g, ks⟩, most, rfl, hu, ⟨t, h1, h2⟩, ok, m0, m1, k⟩ := h
    have hr1 : Room 1 _ := hr.mono (by decide)
    refine ⟨_, pss_cons (ps_par (i := 3) (j := 4) rfl scSites.nd rfl rfl (by decide) rfl rfl (pa_cons (pe_ix ix_list (pv 1) pe_int (fun _ _ => rfl)) (pa_cons (pe_lst pa_nil) pa_nil)) (by rfl))
      (pss_cons (ps_for PassesOwn.leaving rfl (pi_range1 (by rfl) mr (pa_cons (pe_callB call_len_seq (by rfl) mn bo_len (pa_cons (pv 3) pa_nil)) pa_nil)) (pg_name (i := 5) scSites.nd rfl (.inl rfl))
        (pss_cons (ps_set (i := 6) scSites.nd rfl (.inl rfl) (pe_op op_fdiv (pe_op op_add (pe_ix ix_tup (pv 3) (pv 5) (fun _ _ => rfl)) (pe_ix ix_tup (pv 3) (pe_callB (call_max2 rfl) (by rfl) mm bo_max (pa_cons pe_int (pa_cons (pe_op op_sub (pv 5) pe_int) pa_nil))) (fun _ _ => rfl))) pe_int))
        (pss_one (ps_set (i := 4) scSites.nd rfl (.inl rfl) (pe_op op_cat (pv 4) (pe_lst (pa_cons (pe_callB (call_max2 rfl) (by rfl) mm bo_max (pa_cons pe_int (pa_cons (pe_op op_sub (pe_ix ix_tup (pv 3) (pv 5) (fun _ _ => rfl)) pe_int) pa_nil))) (pa_cons (pe_ix ix_tup (pv 3) (pv 5) (fun _ _ => rfl))
          (pa_cons (pe_op op_add (pe_ix ix_tup (pv 3) (pv 5) (fun _ _ => rfl)) pe_int) (pa_cons (pv 6) pa_nil))))))))))
      (pss_cons (ps_par (i := 4) (j := 7) rfl scSites.nd rfl rfl (by decide) rfl rfl (pa_cons (pe_callB (cr_sortedSet rfl) (by rfl) ms bo_sorted (pa_cons (pe_callTy (cr_setL rfl) (by rfl) mse bo_set (pa_cons (pe_lc (own := [("_law_each", 9)]) (g := gName 9) rfl scSites.nd (pi_list (pv 4)) (blkOk_by (N := ["_law_urn_here", "_law_plan", "_law_most", "_law_knots", "_law_found", "_law_k", "_law_middle", "_law_some", "_law_turn_here", "_law_each"]) (sc := defScope st_d_law_sites) (by decide +kernel))
          (fun _ _ _ _ _ => pg_name (i := 9) scSites.nd rfl (Or.inl rfl)) (fun _ _ _ _ _ => pts_one (pt_cmpR op_le (pv 9) (pe_op op_pow pe_int pe_int) (nomark _))) (fun _ _ _ _ _ => pv 9)) pa_nil)) pa_nil)) (pa_cons (pe_lst pa_nil) pa_nil)) (by rfl))
      (pss_cons (ps_for PassesOwn.leaving rfl (pi_range1 (by rfl) mr (pa_cons (pe_op op_add pe_int (pe_callR (E := E00) (G.run hr1 C8.pass0) (by rfl) mG G.kp (pa_cons (pv 0) (pa_cons (pv 2) pa_nil)))) pa_nil)) (pg_name (i := 8) scSites.nd rfl (.inl rfl))
        (pss_one (ps_expr (pe_bm PySem.F.plainAttrs_list PySem.F.slot_list_append PySem.F.type_list_append mt_append (pv 7) (pa_cons (pe_callR (E := E00) (T.run hr C8.pass0) (by rfl) mT T.kp (pa_cons (pv 0) (pa_cons (pv 4) pa_nil))) pa_nil)))))
      (pss_one (ps_ret (pe_callTy call_tuple_of (by rfl) mt bo_tuple (pa_cons (pe_callB (cr_sortedSet rfl) (by rfl) ms bo_sorted (pa_cons (pe_callTy (cr_setL rfl) (by rfl) mse bo_set (pa_cons (pv 7) pa_nil)) pa_nil)) pa_nil))))))), ?_⟩
    have lo := ok.lo
    have l15 := ok.len
    have mil := ok.mil
    simp only at lo l15 mil
    have n0 : 0 < ks.length := by omega
    refine ⟨_, rfl, a, _, _, _, rfl, rfl, .of h1, (show atI [V.int (g : Nat), V.ref t] 1 = some (.ref t) from rfl), szl (by simp), fun f0 hf0 => ⟨_, _, rfl, ?_⟩⟩
    have X1 : XU u H (upd H f0 (.lst [])) := (XU.refl hu).new hf0
    -- for k in range(len(knots))
    have tk : ∀ {H'}, XU u H H' → KnT H' t ks := fun X => h2.xu X hu
    refine ⟨_, rfl, t, _, rfl, .inr (tk X1).sq, _, rfl, by omega, by rw [List.length_map]; omega, for_range (fun i σ' H' => ∃ (l : Addr) (fs : List Int) (o5 o6 : Option V), σ' = [some (V.ref u), some (V.ref a), some (V.int most), some (V.ref t), some (V.ref l), o5, o6, none, none, none] ∧ XU u H H' ∧ H l = none ∧ H' l = some (.lst (fs.map V.int)) ∧ FoundOk i fs)
      ⟨f0, [], none, none, rfl, X1, hf0, upd_same, ⟨rfl, by simp, by simp⟩⟩ (fun i σ' H' hi h => ?_) (fun σ' H' h => ?_)⟩
    · obtain ⟨l, fs, o5, o6, rfl, X, hl0, hl, fo⟩ := h
      have hi : i < ks.length := by simpa using hi
      have ht := tk X
      have gi : atI (ks.map V.int) (0 + (i : Int)) = some (.int (ks.getD i 0)) := at_int' (by omega) hi
      have ri : 0 ≤ ks.getD i 0 ∧ ks.getD i 0 ≤ 1000000 := mil _ (by simp [List.getD, hi])
      obtain ⟨j, ej, hj⟩ : ∃ j : Nat, (if 0 + (i : Int) - 1 > 0 then 0 + (i : Int) - 1 else 0) = (j : Int) ∧ j < ks.length := by
        split
        · exact ⟨i - 1, by omega, by omega⟩
        · exact ⟨0, rfl, by omega⟩
      have gj : atI (ks.map V.int) (if 0 + (i : Int) - 1 > 0 then 0 + (i : Int) - 1 else 0) = some (.int (ks.getD j 0)) := at_int' ej hj
      have rj : 0 ≤ ks.getD j 0 ∧ ks.getD j 0 ≤ 1000000 := mil _ (by simp [List.getD, hj])
      refine ⟨_, rfl, _, rfl, t, _, _, _, rfl, rfl, ht.sq, gi, _, rfl, _, rfl, _, _, rfl, rfl, _, _, rfl, t, _, _, _, rfl, rfl, ht.sq, gj, _, _, rfl, rfl, _, _, rfl, rfl, ⟨by decide, by decide⟩, ?_⟩
      have rm : 0 ≤ (ks.getD i 0 + ks.getD j 0) / 2 ∧ (ks.getD i 0 + ks.getD j 0) / 2 ≤ 1000000 := by omega
      refine ⟨_, rfl, _, rfl, _, rfl, t, _, _, _, rfl, rfl, ht.sq, gi, _, _, rfl, rfl, _, _, rfl, _, rfl, _, rfl, t, _, _, _, rfl, rfl, ht.sq, gi, _, rfl, _, rfl, t, _, _, _, rfl, rfl, ht.sq, gi, _, _, rfl, rfl, _, rfl, szl (by simp), fun q hq => ?_⟩
      have lq : l ≠ q := ne_of_none hl hq
      generalize e1 : (if ks.getD i 0 - 1 > 0 then ks.getD i 0 - 1 else 0) = x1
      have r1 : 0 ≤ x1 ∧ x1 ≤ 1000000 := by rw [← e1]; split <;> omega
      refine ⟨l, q, _, _, rfl, rfl, by rw [upd_ne lq]; exact hl, upd_same, szl (by simp [fo.len]; omega), fun m hm => ?_⟩
      have X2 := (X.new (o := .lst [V.int x1, V.int (ks.getD i 0), V.int (ks.getD i 0 + 1), V.int ((ks.getD i 0 + ks.getD j 0) / 2)]) hq).new (o := .lst (fs.map V.int ++ [V.int x1, V.int (ks.getD i 0), V.int (ks.getD i 0 + 1), V.int ((ks.getD i 0 + ks.getD j 0) / 2)])) hm
      refine ⟨m, fs ++ [x1, ks.getD i 0, ks.getD i 0 + 1, (ks.getD i 0 + ks.getD j 0) / 2], _, _, rfl, X2, ?_, ?_, ?_⟩
      · exact X.free (by
          rw [← hm]
          rw [upd_ne]
          exact fun z => by rw [z, upd_same] at hm; cases hm)
      · rw [upd_same, List.map_append]
        rfl
      · refine ⟨by simp [fo.len]; omega, fun x hx => ?_, fun _ => ⟨ks.getD i 0, by simp, ri.2⟩⟩
        rcases List.mem_append.mp hx with z | z
        · exact fo.rng x z
        · simp only [List.mem_cons, List.not_mem_nil, or_false] at z
          rcases z with z | z | z | z <;> omega
    · obtain ⟨l, fs, o5, o6, rfl, X, hl0, hl, fo⟩ := h
      rw [List.length_map, show ((ks.length : Int)).toNat = ks.length from by omega] at fo
      obtain ⟨x0, hx0, hx1⟩ := fo.some n0
      have lc : Evl.EvL (tLc (iList K (tVar 4)) (gName 9) (tTest (tOp (rI0 fun i j => .bl (decide (i ≤ j))) (tVar 9) (tOp (rI CPow fun i j => .int (i ^ j.toNat)) (tC (.int 10)) (tC (.int 6))))) (tVar 9) [9]) [some (V.ref u), some (V.ref a), some (V.int most), some (V.ref t), some (V.ref l), o5, o6, none, none, none] H' ((fs.filter fun x => decide (x ≤ 1000000)).map V.int) := by
        rw [← given_filter fs fun x => decide (x ≤ 1000000), ← List.length_map (f := V.int)]
        refine Evl.el_lcL (K := K) (a := l) (xs := fs.map V.int) _ _ (Evl.ev_var rfl) (.of hl) (by rw [List.length_map, fo.len]; omega) (fun x => rfl) (fun i x H1 x1 hx => ?_) (fun i x H1 x1 hx _ => ?_)
        · obtain ⟨y, hy, rfl⟩ := Option.map_eq_some_iff.mp (List.getElem?_map .. ▸ hx)
          have ey : fs.getD i 0 = y := by simp [List.getD, hy]
          rw [ey]
          exact Evl.et_test (Evl.ev_op (Evl.ev_var rfl) (Evl.ev_op (z := .int 1000000) Evl.ev_c Evl.ev_c (Evl.rv_I ⟨by decide, by decide, by decide⟩)) Evl.rv_I0)
        · obtain ⟨y, hy, rfl⟩ := Option.map_eq_some_iff.mp (List.getElem?_map .. ▸ hx)
          have ey : fs.getD i 0 = y := by simp [List.getD, hy]
          rw [ey]
          exact Evl.ev_var rfl
      generalize efl : (fs.filter fun x => decide (x ≤ 1000000)) = gs at lc
      have gl : gs.length ≤ 60 := by
        have := List.length_filter_le (fun x : Int => decide (x ≤ 1000000)) fs
        rw [efl, fo.len] at this
        omega
      have gr : ∀ x ∈ gs, 0 ≤ x ∧ x ≤ 1000000 := fun x hx => by
        rw [← efl] at hx
        have := List.mem_filter.mp hx
        exact ⟨fo.rng x this.1, by simpa using this.2⟩
      have g0 : x0 ∈ gs := by
        rw [← efl]
        exact List.mem_filter.mpr ⟨hx0, by simpa using hx1⟩
      dsimp only
      refine i_seq (i_par (i_cons (i_cb (i_cons (i_cb (i_cons ?_))))))
      refine lc H' (.refl _) _ fun p1 H1 hp1 y1 e1 => ⟨p1, gs, rfl, .of e1, by omega, fun p2 n2 hn2 hp2 => ?_⟩
      have X1 := xu_ex X y1
      refine ⟨p2, _, n2, rfl, upd_same, by omega, fun ns p3 hasc hmem hnl hp3 => ?_⟩
      have X3 := (X1.new (o := SetO _ p2 (fun j => decide (j ∈ gs)) n2) hp2).new (o := .lst (ns.map V.int)) hp3
      refine ⟨szl (by simp), fun s0 hs0 => ⟨_, _, rfl, ?_⟩⟩
      have X4 := X3.new (o := .lst []) hs0
      have nsm : ∀ x, x ∈ ns ↔ x ∈ gs := fun x => by rw [hmem x, decide_eq_true_iff]
      have nne : ns ≠ [] := fun z => by
        have := (nsm x0).mpr g0
        rw [z] at this
        cases this
      have f3 : H p3 = none := (X1.new (o := SetO _ p2 (fun j => decide (j ∈ gs)) n2) hp2).free hp3
      have p3u := hu.ne f3
      have sf : H s0 = none := X3.free hs0
      have su := hu.ne sf
      have p3s : p3 ≠ s0 := ne_of_none upd_same hs0
      have e3 : (upd (upd (upd H1 p2 (SetO w p2 (fun j => decide (j ∈ gs)) n2)) p3 (.lst (ns.map V.int))) s0 (.lst [])) p3 = some (.lst (ns.map V.int)) := by
        rw [upd_ne p3s, upd_same]
      refine ⟨_, rfl, _, rfl, most, rfl, X4.urn, by omega, by omega, fun r H5 r0 r1 X5 => ⟨_, _, rfl, rfl, ?_⟩⟩
      have e5 := X5.k p3 _ p3u e3
      have s5 : H5 s0 = some (.lst []) := X5.k s0 _ su upd_same
      refine ⟨_, rfl, by omega, by omega, for_range (fun i σ' H' => ∃ (ss : List Int) (o8 : Option V), σ' = [some (V.ref u), some (V.ref a), some (V.int most), some (V.ref t), some (V.ref p3), o5, o6, some (V.ref s0), o8, none] ∧ XU u H H' ∧ H' p3 = some (.lst (ns.map V.int)) ∧ H' s0 = some (.lst (ss.map V.int)) ∧ ss.length = i ∧ ∀ x ∈ ss, x ∈ gs)
        ⟨[], none, rfl, X4.trans X5, e5, s5, rfl, by simp⟩ (fun i σ' H' hi h => ?_) (fun σ' H' h => ?_)⟩
      · obtain ⟨ss, o8, rfl, X6, e6, s6, hl6, hs6⟩ := h
        refine ⟨_, rfl, .inl ⟨rfl, _, .of s6⟩, ?_⟩
        refine i_cons (take_of (a := p3) rfl (fun Q q => ⟨_, rfl, q⟩) X6.urn e6 p3u (by simpa using nne) (by rw [List.length_map, hnl]; omega) fun x H7 hx X7 => ?_)
        obtain ⟨y, hy, rfl⟩ := List.mem_map.mp hx
        have s7 := X7.k s0 _ su s6
        refine ⟨s0, _, _, rfl, rfl, s7, szlt (by simp [hl6]; omega), ?_⟩
        refine ⟨ss ++ [y], _, rfl, (X6.trans X7).mut sf (Ne.symm su), ?_, by rw [upd_same]; simp, by simp [hl6], fun x hx => ?_⟩
        · rw [upd_ne p3s]
          exact X7.k p3 _ p3u e6
        · rcases List.mem_append.mp hx with z | z
          · exact hs6 x z
          · rw [List.mem_singleton] at z
            rw [z]
            exact (nsm y).mp hy
      · obtain ⟨ss, o8, rfl, X6, e6, s6, hl6, hs6⟩ := h
        have ls : ss.length ≤ 10 := by omega
        have ls0 : ss ≠ [] := fun z => by rw [z] at hl6; simp at hl6; omega
        refine ⟨_, rfl, s0, ss, rfl, .of s6, by omega, fun q1 m1 hm1 hq1 => ⟨q1, _, m1, rfl, upd_same, by omega, fun zs q2 za zm zl hq2 => ⟨q2, _, rfl, .inl ⟨.of upd_same, fun q3 hq3 => ?_⟩⟩⟩⟩
        have X8 := (X6.new (o := SetO _ q1 (fun j => decide (j ∈ ss)) m1) hq1).new (o := .lst (zs.map V.int)) hq2
        exact k q3 _ zs (spots_of za zm zl hm1 (by omega) ls0 fun x hx => gr x (hs6 x hx)) (X8.new hq3) (X8.free hq3) upd_same
end
end Bt
set_option Elab.async false
set_option linter.all false
set_option maxRecDepth 100000
set_option maxHeartbeats 4000000
/-! for i, x in enumerate(tuple). -/
namespace Bt
open PySem PySem.Spec PyProof.Rows L2
/-- enumerate(v) for what begins a walk -/
theorem enum_new1 {v : Value} {o : Obj} {Hv : Heap → Prop} (B : Begins v o Hv) :
    Meets (Builtin.«enumerate.__new__» ⟨[.type "enumerate", v], []⟩) (fun _ R s => Hv s.heap ∧
      R (.ok (.ret (.ref (s.heap.push o).objs.size))) { s with heap := (s.heap.push o).push { cls := .type "enumerate", data := .fields #[.none, .bool false, .ref s.heap.objs.size, rawInt 0, .none, .none] } }) :=
  .of_wp fun prog w A R s z => by
    obtain ⟨hp, g, d, tk, os⟩ := s; obtain ⟨h1, z⟩ := z
    have sb := sub_enumerate
    have it1 : ∀ {A' : Around} {E : Value → Shared → Prop} {Q : Value → Shared → Prop}, Q (.ref hp.objs.size) ⟨hp.push o, g, d, tk, os⟩ → wpAny (model prog w) A' (pyIter v) Q E ⟨hp, g, d, tk, os⟩ := fun q => B.iter prog w _ _ ⟨hp, g, d, tk, os⟩ _ h1 q
    wp_walk using it1
    refine wpAny_stack_any fun st => wpAny_pure ?_
    split
    · rename_i c _ _ _ _ _
      cases (c == Value.type "enumerate")
      · wp_walk using it1; exact ⟨_, rfl, z⟩
      · wp_walk using it1; exact ⟨_, rfl, z⟩
    · wp_walk using it1; exact ⟨_, rfl, z⟩
theorem call_enum1 {prog : Program} {w : World} {A : Around} {E : Value → Shared → Prop} {s : Shared} {v : Value} {o : Obj} {Hv : Heap → Prop} {Q : Value → Shared → Prop} (B : Begins v o Hv) (h1 : Hv s.heap)
    (h : ∀ h', IsEnum h' (s.heap.objs.size + 1) s.heap.objs.size 0 .none → h'.get? s.heap.objs.size = some o → (∀ b u, s.heap.get? b = some u → h'.get? b = some u) → Q (.ref (s.heap.objs.size + 1)) { s with heap := h' }) :
    wpAny (model prog w) A (call (.type "enumerate") [v]) Q E s := by
  refine callType_new F.called_enumerate (by decide) (F.typeCall_enumerate_1 _) (F.newCall_enumerate_1 _) (fun obj => F.args_object_init_2 obj _) F.entry_enumerate_new (enum_new1 B) ⟨h1, ?_⟩
  have hz : (s.heap.push o).objs.size = s.heap.objs.size + 1 := Heap.size_push ..
  show _ ∧ _
  rw [hz]
  have he : IsEnum ((s.heap.push o).push { cls := .type "enumerate", data := .fields #[.none, .bool false, .ref s.heap.objs.size, rawInt 0, .none, .none] }) (s.heap.objs.size + 1) s.heap.objs.size 0 .none := by
    have z := Heap.get?_push_size (s.heap.push o) (o := { cls := .type "enumerate", data := .fields #[.none, .bool false, .ref s.heap.objs.size, rawInt 0, .none, .none] }) rfl
    rw [hz] at z
    exact z
  exact ⟨⟨_, he, rfl⟩, h _ he (Heap.get?_push_of_some _ (Heap.get?_push_size _ B.free)) fun b u x => Heap.get?_push_of_some _ (Heap.get?_push_of_some _ x)⟩
/-- the pairs of a tuple at a -/
def Ite2 (K : PySem.W.Frag) (a : Addr) : It :=
  ⟨fun i H => ∃ (xs : List V) (x : V), SqT K H a xs ∧ xs[i]? = some x, fun i H v H' => ∃ T x, v = .ref T ∧ H T = none ∧ H' = upd H T (.tup [.int (i : Nat), x]) ∧ ∀ xs, SqT K H a xs → xs[i]? = some x, fun i H => ∃ xs : List V, SqT K H a xs ∧ xs.length = i⟩
theorem vals_inj : ∀ {xs ys : List V} {us : List Value}, Vals xs us → Vals ys us → xs = ys
  | _, _, _, .nil, .nil => rfl
  | _, _, _, .cons r t, .cons r' t' => by rw [r.inj r', vals_inj t t']
theorem tup_inj {X : Cx} {pins : List (Addr × Obj)} {σ : L2.St} {H : Hp} {s : Shared} {a : Addr} {xs ys : List V} (I : Inv X pins σ H s) (h1 : SqT X.K H a xs) (h2 : SqT X.K H a ys) : xs = ys := by
  obtain ⟨is, r1, ⟨o1, g1, c1, n1, d1⟩, _⟩ := I.tuple h1
  obtain ⟨js, r2, ⟨o2, g2, c2, n2, d2⟩, _⟩ := I.tuple h2
  rw [g1] at g2
  cases g2
  rw [d1] at d2
  injection d2 with e1 _
  have e : is = js := by simpa using e1
  subst e
  exact vals_inj r1 r2
theorem turn_enum2 {P : Program} {w : World} {K : PySem.W.Frag} {elts : List Expr} {kk : Nat} {tpos : Pos} (a e it : Addr) :
    Turn P w K (.Tuple elts kk tpos) (Ite2 K a) [e, it] e (fun i h => (∃ old, IsEnum h e it ((i : Nat) : Int) old) ∧ h.IsTupleIter it a i ∧ e ≠ it) where
  mem := by simp
  obj := fun i h st b hb => by
    obtain ⟨⟨old, he⟩, ⟨o, ho, hc, hd⟩, _⟩ := st
    rcases (show b = e ∨ b = it by simpa using hb) with z | z
    · rw [z]; exact ⟨_, he, fun v q => nomatch q⟩
    · rw [z]; exact ⟨o, ho, fun v q => by rw [hd] at q; cases q⟩
  keep := fun i h h' st k => let ⟨⟨old, he⟩, hi, ne⟩ := st; ⟨⟨old, k e (by simp) _ he⟩, hi.at fun o q => k it (by simp) o q, ne⟩
  item := by
    intro X hP hw hK hc i pins s σ H E I hf st hg
    subst hP hw hK
    obtain ⟨⟨old, he⟩, hit, ne⟩ := st
    obtain ⟨xs, x, hq, hx⟩ := hg
    obtain ⟨its, rv, p, hz⟩ := I.tuple hq
    obtain ⟨u, hu, ru⟩ := rv.get hx
    have el : e < s.heap.objs.size := Heap.lt_size he
    have il : it < s.heap.objs.size := by obtain ⟨_, q, _⟩ := hit; exact Heap.lt_size q
    have il1 : i < its.toArray.size := by simpa using (List.getElem?_eq_some_iff.mp hu).1
    have ai : a ≠ it := fun z => by
      obtain ⟨o1, g1, c1, n1, d1⟩ := p
      obtain ⟨o2, g2, c2, d2⟩ := hit
      rw [z, g2] at g1
      cases g1
      rw [d2] at d1
      cases d1
    have ae : a ≠ e := fun z => by
      obtain ⟨o1, g1, c1, n1, d1⟩ := p
      rw [z] at g1
      have g2 : s.heap.get? e = some _ := he
      rw [g2] at g1
      cases g1
      cases d1
    refine wpAny_pyNext_enum_itemD (Draws.tuple (A := X.A.in1) (show X.A.in1.handled = none from I.ok.hd hc) it a ai its.toArray) he ⟨hit, p⟩ il1 ne (by simp only [List.mem_cons, List.not_mem_nil, or_false, not_or]; exact ⟨ne, Ne.symm ae⟩) fun v h' tk hv ho hst hT hsz hk => ?_
    have ev : v = u := by
      have : its.toArray[i]? = some v := hv
      rw [List.getElem?_toArray, hu] at this
      exact (Option.some.inj this).symm
    subst ev
    refine ⟨_, rfl, wpAny_letOwnedTupleGo_enum (s := { s with heap := h', toks := tk + 1 }) ho fun h'' he' sb => ?_⟩
    have hT2 : h''.get? s.heap.objs.size = some { cls := .type "tuple", data := .seq #[.int i tk, v] } := (sb.2 _ (Nat.ne_of_gt el)).trans hT
    have new : ObjOk X.prog X.w (upd H s.heap.objs.size (.tup [.int (i : Nat), x])) h'' s.heap.objs.size (.tup [.int (i : Nat), x]) :=
      ⟨by show 2 ≤ sizeLine; decide, [.int i tk, v], .cons ⟨_, rfl⟩ (.cons ru .nil), ⟨_, hT2, rfl, _, rfl⟩⟩
    have I1 : Inv X pins σ (upd H s.heap.objs.size (.tup [.int (i : Nat), x])) { s with heap := h'', toks := tk + 1 } :=
      I.turnedNew (ch := [e, it]) (fun b ob hb q => (sb.2 b (fun z => hb (by simp [z]))).trans (hk b ob (fun z => hb (by simp [z])) (fun z => hb (by simp [z])) q)) hf (Nat.le_refl _) new
    refine ⟨.ref s.heap.objs.size, _, I1, rfl, ⟨_, x, rfl, I.hok.fresh (Nat.le_refl _), rfl, fun ys hy => by rw [tup_inj I hy hq]; exact hx⟩, ⟨⟨v, ?_⟩, hst.1.at fun o q => (sb.2 it (Ne.symm ne)).trans q, ne⟩, fun b hb => ?_⟩
    · have e1 : ((i + 1 : Nat) : Int) = (i : Int) + 1 := by omega
      rw [e1]; exact he'
    · have hb' : b < s.heap.objs.size := by
        rcases (show b = e ∨ b = it by simpa using hb) with z | z
        · rw [z]; exact el
        · rw [z]; exact il
      rw [upd_ne (Nat.ne_of_lt hb')]
      exact (hf b hb).1
  done := by
    intro X hP hw hK hc i pins s σ H E I hf st hg
    subst hP hw hK
    obtain ⟨⟨old, he⟩, hit, ne⟩ := st
    obtain ⟨xs, hq, hx⟩ := hg
    obtain ⟨its, rv, p, hz⟩ := I.tuple hq
    obtain ⟨f0, f1, f2, f3, f4, f5⟩ := hf it (by simp)
    have hl := rv.length
    have ai : a ≠ it := fun z => by
      obtain ⟨o1, g1, c1, n1, d1⟩ := p
      obtain ⟨o2, g2, c2, d2⟩ := hit
      rw [z, g2] at g1
      cases g1
      rw [d2] at d1
      cases d1
    have ei : i = its.toArray.size := by simp; omega
    rw [ei] at hit he
    exact wpAny_pyNext_enum_endD (Draws.tuple (A := X.A.in1) (show X.A.in1.handled = none from I.ok.hd hc) it a ai its.toArray) he ⟨hit, p⟩ fun h' eb => ⟨rfl, I.turned (t' := s.toks) (fun b o hb q => eb b o hb q) f0 f1 f3 f4 f5⟩
  self := fun A i s Q E st h => let ⟨⟨_, he⟩, _⟩ := st; wpAny_pyIter_enum he h
def iEnum2 (K : PySem.W.Frag) (ta : TA) : TI := fun σ H R => ta σ H fun vs H1 => ∃ a xs, vs = [.ref a] ∧ SqT K H1 a xs ∧ R (Ite2 K a) H1
theorem pi_enum2 {X : Cx} {e : Expr} {ta : TA} {p pos tpos : Pos} {elts : List Expr} {kk : Nat} (hg : Gl X "enumerate") (hm : X.mg "enumerate" = none) (ha : PA X [e] ta) (hs : starEach [e] X.env = [(false, eval e X.env)] := by rfl) :
    PI X (.Tuple elts kk tpos) (.Call (.Name "enumerate" p) [e] [] pos) (iEnum2 X.K ta) := by
  refine ⟨fun pins s σ H R I h => ?_⟩
  refine Call_ (ld_blt I hg hm (show bootBuiltins "enumerate" = some (.type "enumerate") by decide +kernel) (PyProof.Rows.callWith_type1 (thn (ha.run pos pins s σ H _ I h) fun us s1 hh => ?_) hs rfl))
  obtain ⟨vs, H1, I1, r1, a, xs, e1, hq, q⟩ := hh
  subst e1
  obtain ⟨u, rfl, rx⟩ := vals1 r1
  obtain rfl : u = Value.ref a := rx
  obtain ⟨its, rv, pt, hz⟩ := I1.tuple hq
  refine call_enum1 (begins_tuple a its.toArray) (show s1.heap.IsTuple a its.toArray from pt) fun h' he hit hk => wpAny_pyIter_enum he ?_
  have I2 : Inv X pins σ H1 { s1 with heap := h' } := I1.kept (t' := s1.toks) hk
  refine ⟨s1.heap.objs.size + 1, [s1.heap.objs.size + 1, s1.heap.objs.size], _, _, H1, rfl, I2, turn_enum2 a (s1.heap.objs.size + 1) s1.heap.objs.size, ⟨⟨.none, he⟩, ⟨_, hit, rfl, rfl⟩, Nat.succ_ne_self _⟩, fun b hb => ?_, q⟩
  rcases (show b = s1.heap.objs.size + 1 ∨ b = s1.heap.objs.size by simpa using hb) with z | z
  · rw [z]; exact I1.fpOk (Nat.le_succ _) (I1.hok.fresh (Nat.le_succ _))
  · rw [z]; exact I1.fpOk (Nat.le_refl _) (I1.hok.fresh (Nat.le_refl _))
/-- a for over the pairs of a tuple, the invariant by place -/
theorem for_enum2 {K : PySem.W.Frag} {a : Addr} {xs : List V} {g : TG} {tb : TS} {D : Ends} {σ : L2.St} {H : Hp} (Pv : Nat → L2.St → Hp → Prop) (h0 : Pv 0 σ H) (hl : ∀ i σ H, i ≤ xs.length → Pv i σ H → SqT K H a xs)
    (hs : ∀ i x σ H T, xs[i]? = some x → Pv i σ H → H T = none → g (.ref T) σ (upd H T (.tup [.int (i : Nat), x])) fun σ2 H2 => tb { D with nx := Pv (i + 1), ct := Pv (i + 1), bk := D.nx } σ2 H2) (hd : ∀ σ H, Pv xs.length σ H → D.nx σ H) :
    ∃ W : Nat → Nat → L2.St → Hp → Prop, (∃ m, W 0 m σ H) ∧ ∀ i m σ H, W i m σ H →
      ((Ite2 K a).stop i H ∧ D.nx σ H) ∨ ((Ite2 K a).go i H ∧ ∃ N : L2.St → Hp → Prop, (∀ σ' H', N σ' H' → ∃ m', m' < m ∧ W (i + 1) m' σ' H') ∧ ∀ y H', (Ite2 K a).yld i H y H' → g y σ H' fun σ2 H2 => tb { D with nx := N, ct := N, bk := D.nx } σ2 H2) := by
  refine ⟨fun i m σ H => m = xs.length - i ∧ i ≤ xs.length ∧ Pv i σ H, ⟨xs.length, by simp, Nat.zero_le _, h0⟩, ?_⟩
  rintro i m σ H ⟨rfl, hi, p⟩
  have hq := hl i σ H hi p
  by_cases hlt : i < xs.length
  · refine .inr ⟨⟨xs, xs[i], hq, List.getElem?_eq_getElem hlt⟩, Pv (i + 1), fun σ' H' q => ⟨xs.length - (i + 1), by omega, rfl, by omega, q⟩, ?_⟩
    rintro y H' ⟨T, x, rfl, hT, rfl, hx⟩
    exact hs i x σ H T (hx xs hq) p hT
  · have e : i = xs.length := by omega
    subst e
    exact .inl ⟨⟨xs, hq, rfl⟩, hd σ H p⟩
end Bt
set_option Elab.async false
set_option linter.all false
set_option maxRecDepth 100000
set_option maxHeartbeats 4000000
/-! The program's small checks of numbers and places. -/
namespace Bt
open PySem PySem.Spec PyProof.Rows L2
theorem ps_dead {X : Cx} {st : Stmt} : PS X st (fun _ _ _ => False) := ⟨fun _ _ _ _ _ _ h => h.elim⟩
theorem pe_dead {X : Cx} {e : Expr} : PE X e (fun _ _ _ => False) := ⟨fun _ _ _ _ _ _ h => h.elim⟩
/-- tuple == tuple, one of them empty -/
def rEqTE (K : PySem.W.Frag) : R2 := fun x y H Q => ∃ a b xs ys, x = .ref a ∧ y = .ref b ∧ SqT K H a xs ∧ SqT K H b ys ∧ (xs = [] ∨ ys = []) ∧ Q (.bl (decide (xs.length = ys.length))) H
theorem op_eqTE {X : Cx} (hu : X.A.units < cLine) : OpR X (compareOp .Eq) (rEqTE X.K) := by
  intro pins s σ H x y v u Q I rx ry h
  obtain ⟨a, b, xs, ys, rfl, rfl, ha, hb, he, q⟩ := h
  obtain rfl : v = Value.ref a := rx
  obtain rfl : u = Value.ref b := ry
  obtain ⟨its, r1, p1, _⟩ := I.tuple ha
  obtain ⟨ist, r2, p2, _⟩ := I.tuple hb
  have l1 := r1.length
  have l2 := r2.length
  have z : min its.toArray.size ist.toArray.size = 0 := by
    rcases he with e | e
    · rw [e] at l1
      simp at l1
      simp [← l1]
    · rw [e] at l2
      simp at l2
      simp [← l2]
  refine SeqAt.eq_tupleAt (e := fun _ => true) p1 p2 hu (fun j h1 h2 => absurd h1 (by omega)) (fin_bl I q ?_)
  rw [z, Bool.eq_iff_iff]
  simp [← l1, ← l2]
/-- a reading that gives v and touches nothing -/
abbrev Vx (te : TE) (σ : L2.St) (H : Hp) (v : V) : Prop := ∀ Q : VK, Q v H → te σ H Q
theorem vx_var {σ : L2.St} {H : Hp} {i : Nat} {v : V} (h : σ[i]? = some (some v)) : Vx (tVar i) σ H v := fun _ q => ⟨v, h, q⟩
theorem vx_c {σ : L2.St} {H : Hp} {v : V} : Vx (tC v) σ H v := fun _ q => q
theorem vx_chain {f g : Int → Int → Bool} {ta tb tc : TE} {σ : L2.St} {H : Hp} {a b c : Int} (ha : Vx ta σ H (.int a)) (hb : Vx tb σ H (.int b)) (hc : Vx tc σ H (.int c)) :
    Vx (tChain (rI0 fun i j => .bl (f i j)) (rI0 fun i j => .bl (g i j)) ta tb tc) σ H (.bl (f a b && g b c)) := fun Q q => by
  refine ha _ (hb _ ⟨a, b, rfl, rfl, f a b, rfl, ?_⟩)
  cases e : f a b with
  | false => rw [e] at q; exact iteF q
  | true => rw [e] at q; exact iteT (hc _ ⟨b, c, rfl, rfl, q⟩)
def spInt : Sp := fun vs H Q _ => ∃ i : Int, vs = [.int i] ∧ Q (.bl true) H
def spBtw : Sp := fun vs H Q _ => ∃ i a b : Int, vs = [.int i, .int a, .int b] ∧ Q (.bl (decide (a ≤ i) && decide (i ≤ b))) H
def spPlace : Sp := fun vs H Q _ => ∃ i : Int, vs = [.int i] ∧ Q (.bl (decide (0 ≤ i) && decide (i ≤ 1000000))) H
def spPf : Sp := fun vs H Q _ => ∃ (a : Addr) (xs : List Int), vs = [.ref a] ∧ H a = some (.tup (xs.map V.int)) ∧ SpotsOk xs ∧ ∀ H', Evl.Ex H H' → Q (.int (-1)) H'
def spAre : Sp := fun vs H Q _ => ∃ (a : Addr) (xs : List Int), vs = [.ref a] ∧ H a = some (.tup (xs.map V.int)) ∧ SpotsOk xs ∧ ∀ H', Evl.Ex H H' → Q (.bl true) H'
def spChk : Sp := fun vs H Q _ => ∃ (a : Addr) (xs : List Int), vs = [.ref a] ∧ H a = some (.tup (xs.map V.int)) ∧ SpotsOk xs ∧ ∀ H', Evl.Ex H H' → Q .non H'
section
variable {P : Program} {w : World} {K : PySem.W.Frag} {mg : Str → Option Value} {base : Heap}
theorem isi_ok {H : Hp} {Q : VK} {x : V} {t : Value} {n : String} {b : Bool} (ty : TyOf K H x t) (k : PySem.W.kitOne K t (.type n) = some b) (q : Q (.bl b) H) : rIsi K [x, .ty n] H Q := ⟨x, .ty n, t, .type n, b, rfl, .ty _, .base ty, k, q⟩
theorem scInt : FnScope ["value"] ["value"] (defScope st_d_is_integer) := ⟨rfl, rfl, rfl, by decide +kernel, rfl, by decide +kernel, by decide +kernel⟩
theorem ok_int (hd : Hd K mg) : Okf P w K mg base C8.CX0 1 (He.fAd K d_is_integer.at_) ["value"] spInt := by
  have ms : mg "isinstance" = none := hd.free _ (by decide +kernel)
  have mi : mg "int" = none := hd.free _ (by decide +kernel)
  have mb : mg "bool" = none := hd.free _ (by decide +kernel)
  refine okf_of hd.f_d_is_integer scInt (fun _ _ _ _ _ _ us hl => ?_) (fun vs H Q E h => ?_) (fun cdv A outer s H vs Q E hr h => ?_)
  · obtain ⟨a, rfl⟩ := us1 hl
    rfl
  · obtain ⟨i, rfl, _⟩ := h
    rfl
  · obtain ⟨i, rfl, k⟩ := h
    refine ⟨_, pss_one (ps_ret (pe_and (pe_callB call_isi (by rfl) ms bo_isinstance (pa_cons (pv 0) (pa_cons (pe_bltn (v := .ty "int") (by rfl) mi bo_int rfl) pa_nil))) (pe_one (pe_not (pe_callB call_isi (by rfl) ms bo_isinstance (pa_cons (pv 0) (pa_cons (pe_bltn (v := .ty "bool") (by rfl) mb bo_bool rfl) pa_nil))))))), ?_⟩
    exact ⟨_, rfl, .int i, .ty "int", .type "int", .type "int", true, rfl, .ty _, .base (.int i), kit_ty (by decide +kernel), true, rfl, iteT ⟨_, rfl, .int i, .ty "bool", .type "int", .type "bool", false, rfl, .ty _, .base (.int i), kit_ty (by decide +kernel), false, rfl, k⟩⟩
theorem scBtw : FnScope ["value", "least", "most"] ["value", "least", "most"] (defScope st_d_is_between) := ⟨rfl, rfl, rfl, by decide +kernel, rfl, by decide +kernel, by decide +kernel⟩
theorem ok_btw (hd : Hd K mg) : Okf P w K mg base C8.CX0 2 (He.fAd K d_is_between.at_) ["value", "least", "most"] spBtw := by
  have mI : mg "is_integer" = some (.ref (He.fAd K d_is_integer.at_)) := hd.glo _ (by decide +kernel)
  have I := ok_int (P := P) (w := w) (base := base) hd
  refine okf_of hd.f_d_is_between scBtw (fun _ _ _ _ _ _ us hl => ?_) (fun vs H Q E h => ?_) (fun cdv A outer s H vs Q E hr h => ?_)
  · obtain ⟨a, b, c, rfl⟩ := us3 hl
    rfl
  · obtain ⟨i, a, b, rfl, _⟩ := h
    rfl
  · obtain ⟨i, a, b, rfl, k⟩ := h
    refine ⟨_, pss_one (ps_ret (pe_and (pe_callR (E := E00) (I.run hr C8.pass0) (by rfl) mI I.kp (pa_cons (pv 0) pa_nil)) (pe_one (pe_chain op_le op_le (pv 1) (pv 0) (pv 2))))), ?_⟩
    refine ⟨_, rfl, i, rfl, true, rfl, iteT ?_⟩
    exact vx_chain (f := fun a b => decide (a ≤ b)) (g := fun a b => decide (a ≤ b)) (vx_var rfl) (vx_var rfl) (vx_var rfl) _ k
theorem scPlace : FnScope ["value"] ["value"] (defScope st_d_is_place) := ⟨rfl, rfl, rfl, by decide +kernel, rfl, by decide +kernel, by decide +kernel⟩
theorem ok_place (hd : Hd K mg) : Okf P w K mg base C8.CX0 3 (He.fAd K d_is_place.at_) ["value"] spPlace := by
  have mB : mg "is_between" = some (.ref (He.fAd K d_is_between.at_)) := hd.glo _ (by decide +kernel)
  obtain ⟨t, mK⟩ := hd.int ("MOST_KNOT", 1000000) (by decide +kernel)
  have B := ok_btw (P := P) (w := w) (base := base) hd
  refine okf_of hd.f_d_is_place scPlace (fun _ _ _ _ _ _ us hl => ?_) (fun vs H Q E h => ?_) (fun cdv A outer s H vs Q E hr h => ?_)
  · obtain ⟨a, rfl⟩ := us1 hl
    rfl
  · obtain ⟨i, rfl, _⟩ := h
    rfl
  · obtain ⟨i, rfl, k⟩ := h
    refine ⟨_, pss_one (ps_ret (pe_callR (E := E00) (B.run hr C8.pass0) (by rfl) mB B.kp (pa_cons (pv 0) (pa_cons pe_int (pa_cons (pe_glob (v := .int 1000000) (by rfl) mK ⟨_, rfl⟩) pa_nil))))), ?_⟩
    exact ⟨_, rfl, i, 0, 1000000, rfl, k⟩
theorem scPf : FnScope ["value", "index", "place"] ["value"] (defScope st_d_places_fault) := ⟨rfl, rfl, rfl, by decide +kernel, rfl, by decide +kernel, by decide +kernel⟩
theorem ok_pf (hd : Hd K mg) : Okf P w K mg base C8.CX0 4 (He.fAd K d_places_fault.at_) ["value"] spPf := by
  have ms : mg "isinstance" = none := hd.free _ (by decide +kernel)
  have mt : mg "tuple" = none := hd.free _ (by decide +kernel)
  have me : mg "enumerate" = none := hd.free _ (by decide +kernel)
  have mP : mg "is_place" = some (.ref (He.fAd K d_is_place.at_)) := hd.glo _ (by decide +kernel)
  obtain ⟨t, mK⟩ := hd.int ("MOST_PLACES", 12) (by decide +kernel)
  have PL := ok_place (P := P) (w := w) (base := base) hd
  refine okf_of hd.f_d_places_fault scPf (fun _ _ _ _ _ _ us hl => ?_) (fun vs H Q E h => ?_) (fun cdv A outer s H vs Q E hr h => ?_)
  · obtain ⟨a, rfl⟩ := us1 hl
    rfl
  · obtain ⟨i, xs, rfl, _⟩ := h
    rfl
  · obtain ⟨a, xs, rfl, ha, so, k⟩ := h
    have hu := hu_of hr
    refine ⟨_, pss_cons (ps_if (pw_or (pt_not (pt_val (pe_callB call_isi (by rfl) ms bo_isinstance (pa_cons (pv 0) (pa_cons (pe_bltn (v := .ty "tuple") (by rfl) mt bo_tuple rfl) pa_nil))))) (pw_or1 (pt_cmpR (op_eqTE (Nat.lt_of_succ_lt hu)) (pv 0) (pe_tup pa_nil) (nomark _)))).pt (pss_one ps_dead) pss_nil)
      (pss_cons (ps_for PassesOwn.leaving rfl (pi_enum2 (by rfl) me (pa_cons (pv 0) pa_nil)) (pg_tup rfl (pgs_cons (pg_name (i := 1) scPf.nd rfl (.inl rfl)) (pgs_cons (pg_name (i := 2) scPf.nd rfl (.inl rfl)) pgs_nil)))
        (pss_one (ps_if (pw_or (pt_cmpR op_eq (pv 1) (pe_glob (v := .int 12) (by rfl) mK ⟨_, rfl⟩) (nomark _)) (pw_or (pt_not (pt_val (pe_callR (E := E00) (PL.run hr C8.pass0) (by rfl) mP PL.kp (pa_cons (pv 2) pa_nil)))) (pw_or1 (pw_and (pt_cmpR op_gt (pv 1) pe_int (nomark _)) (pw_and1 (pt_cmpR op_le (pv 2) (pe_ix ix_tup (pv 0) (pe_op op_sub (pv 1) pe_int) (fun _ _ => rfl)) (nomark _)))).pt))).pt (pss_one ps_dead) pss_nil)))
      (pss_one (ps_ret (pe_un un_neg pe_int)))), ?_⟩
    have n0 : xs.length ≠ 0 := by
      intro z
      exact so.ne (List.length_eq_zero_iff.mp z)
    refine ⟨_, rfl, .ref a, .ty "tuple", .type "tuple", .type "tuple", true, rfl, .ty _, .base (.tup ha), kit_ty (by decide +kernel), true, rfl, iteF ?_⟩
    refine ⟨_, rfl, szl (by simp), fun e he => ⟨a, e, _, _, rfl, rfl, .of (by rw [upd_ne (ne_of_none ha he)]; exact ha), .of upd_same, .inr rfl, false, by simp [so.ne], iteF ?_⟩⟩
    have x1 : Evl.Ex H (upd H e (.tup [])) := .new he
    refine ⟨_, rfl, a, _, rfl, .of (x1 _ _ ha), for_enum2 (K := K) (xs := xs.map V.int) (fun i σ' H' => ∃ o1 o2, σ' = [some (V.ref a), o1, o2] ∧ Evl.Ex H H') ⟨_, _, rfl, x1⟩ (fun i σ' H' _ h => ?_) (fun i x σ' H' T hx h hT => ?_) (fun σ' H' h => ?_)⟩
    · obtain ⟨_, _, _, x2⟩ := h
      exact .of (x2 _ _ ha)
    · obtain ⟨o1, o2, rfl, x2⟩ := h
      obtain ⟨y, hy, rfl⟩ := Option.map_eq_some_iff.mp (List.getElem?_map .. ▸ hx)
      have hi : i < xs.length := (List.getElem?_eq_some_iff.mp hy).1
      have ey : xs[i] = y := (List.getElem?_eq_some_iff.mp hy).2
      have ry := so.rng y (List.mem_of_getElem? hy)
      have f12 := so.few
      have x3 := x2.trans (.new (o := .tup [.int (i : Nat), .int y]) hT)
      refine ⟨T, _, rfl, .of upd_same, rfl, _, _, rfl, _, _, rfl, rfl, ?_⟩
      refine ⟨_, rfl, rfl, _, rfl, ?_⟩
      have e12 : ¬ V.int (i : Nat) = V.int 12 := fun z => by
        injection z with z
        omega
      rw [decide_eq_false e12]
      refine iteF ⟨_, rfl, y, rfl, ?_⟩
      rw [decide_eq_true ry.1, decide_eq_true ry.2]
      refine ⟨true, rfl, iteF ⟨_, rfl, _, _, rfl, rfl, _, rfl, ?_⟩⟩
      by_cases i0 : (0 : Int) < (i : Nat)
      · rw [decide_eq_true i0]
        have gp : atI (xs.map V.int) ((i : Int) - 1) = some (.int (xs.getD (i - 1) 0)) := at_int' (by omega) (by omega)
        have lt : xs.getD (i - 1) 0 < y := by
          have := List.pairwise_iff_getElem.mp so.asc (i - 1) i (by omega) hi (by omega)
          rw [ey] at this
          simpa [List.getD, show i - 1 < xs.length from by omega] using this
        refine iteT ⟨_, rfl, _, rfl, _, rfl, _, _, rfl, rfl, a, _, _, _, rfl, rfl, .of (x3 _ _ ha), gp, _, _, rfl, rfl, false, ?_, ?_⟩
        · show V.bl (decide (y ≤ xs.getD (i - 1) 0)) = V.bl false
          rw [decide_eq_false (by omega)]
        · exact iteF ⟨_, _, rfl, x3⟩
      · rw [decide_eq_false i0]
        exact iteF (iteF ⟨_, _, rfl, x3⟩)
    · obtain ⟨o1, o2, rfl, x2⟩ := h
      exact ⟨1, rfl, k H' x2⟩
theorem scAre : FnScope ["value"] ["value"] (defScope st_d_are_places) := ⟨rfl, rfl, rfl, by decide +kernel, rfl, by decide +kernel, by decide +kernel⟩
theorem ok_are (hd : Hd K mg) : Okf P w K mg base C8.CX0 5 (He.fAd K d_are_places.at_) ["value"] spAre := by
  have mP : mg "places_fault" = some (.ref (He.fAd K d_places_fault.at_)) := hd.glo _ (by decide +kernel)
  have PF := ok_pf (P := P) (w := w) (base := base) hd
  refine okf_of hd.f_d_are_places scAre (fun _ _ _ _ _ _ us hl => ?_) (fun vs H Q E h => ?_) (fun cdv A outer s H vs Q E hr h => ?_)
  · obtain ⟨a, rfl⟩ := us1 hl
    rfl
  · obtain ⟨i, xs, rfl, _⟩ := h
    rfl
  · obtain ⟨a, xs, rfl, ha, so, k⟩ := h
    refine ⟨_, pss_one (ps_ret (pe_cmpR op_eq (pe_callR (E := E00) (PF.run hr C8.pass0) (by rfl) mP PF.kp (pa_cons (pv 0) pa_nil)) (pe_un un_neg pe_int) (nomark _))), ?_⟩
    exact ⟨_, rfl, a, xs, rfl, ha, so, fun H' x => ⟨1, rfl, rfl, k H' x⟩⟩
theorem scChk : FnScope ["value"] ["value"] (defScope st_d_check_places) := ⟨rfl, rfl, rfl, by decide +kernel, rfl, by decide +kernel, by decide +kernel⟩
theorem ok_chk (hd : Hd K mg) : Okf P w K mg base C8.CX0 5 (He.fAd K d_check_places.at_) ["value"] spChk := by
  have mP : mg "places_fault" = some (.ref (He.fAd K d_places_fault.at_)) := hd.glo _ (by decide +kernel)
  have PF := ok_pf (P := P) (w := w) (base := base) hd
  refine okf_of hd.f_d_check_places scChk (fun _ _ _ _ _ _ us hl => ?_) (fun vs H Q E h => ?_) (fun cdv A outer s H vs Q E hr h => ?_)
  · obtain ⟨a, rfl⟩ := us1 hl
    rfl
  · obtain ⟨i, xs, rfl, _⟩ := h
    rfl
  · obtain ⟨a, xs, rfl, ha, so, k⟩ := h
    refine ⟨_, pss_one (ps_if (pt_cmpR op_ne (pe_callR (E := E00) (PF.run hr C8.pass0) (by rfl) mP PF.kp (pa_cons (pv 0) pa_nil)) (pe_un un_neg pe_int) (nomark _)) (pss_one ps_dead) pss_nil), ?_⟩
    exact ⟨_, rfl, a, xs, rfl, ha, so, fun H' x => ⟨1, rfl, rfl, false, rfl, iteF (k H' x)⟩⟩
end
end Bt
set_option Elab.async false
set_option linter.all false
set_option maxRecDepth 100000
set_option maxHeartbeats 4000000
/-! Frames: made, asked. -/
namespace Bt
open PySem PySem.Spec PyProof.Rows L2
/-- a test that gives b and touches nothing -/
abbrev Fx (tt : TT) (σ : L2.St) (H : Hp) (b : Bool) : Prop := ∀ Q : Bool → Hp → Prop, Q b H → tt σ H Q
theorem fx_test {te : TE} {σ : L2.St} {H : Hp} {b : Bool} (h : Vx te σ H (.bl b)) : Fx (tTest te) σ H b := fun _ q => h _ ⟨b, rfl, q⟩
theorem fx_and {t u : TT} {σ : L2.St} {H : Hp} {b c : Bool} (h : Fx t σ H b) (k : b = true → Fx u σ H c) : Fx (tAnd t u) σ H (b && c) := fun Q q => h _ (by
  cases b with
  | false => exact iteF q
  | true => exact iteT (k rfl _ q))
theorem fx_or {t u : TT} {σ : L2.St} {H : Hp} {b c : Bool} (h : Fx t σ H b) (k : b = false → Fx u σ H c) : Fx (tOr t u) σ H (b || c) := fun Q q => h _ (by
  cases b with
  | true => exact iteT q
  | false => exact iteF (k rfl _ q))
theorem vx_op0 {g : Int → Int → V} {ta tb : TE} {σ : L2.St} {H : Hp} {i j : Int} (ha : Vx ta σ H (.int i)) (hb : Vx tb σ H (.int j)) : Vx (tOp (rI0 g) ta tb) σ H (g i j) := fun _ q => ha _ (hb _ ⟨i, j, rfl, rfl, q⟩)
theorem vx_eq {ta tb : TE} {σ : L2.St} {H : Hp} {x y : V} (ha : Vx ta σ H x) (hb : Vx tb σ H y) (s : scal x y = true) : Vx (tOp rEq ta tb) σ H (.bl (decide (x = y))) := fun _ q => ha _ (hb _ ⟨s, q⟩)
theorem vx_ne {ta tb : TE} {σ : L2.St} {H : Hp} {x y : V} (ha : Vx ta σ H x) (hb : Vx tb σ H y) (s : scal x y = true) : Vx (tOp rNe ta tb) σ H (.bl (!decide (x = y))) := fun _ q => ha _ (hb _ ⟨s, q⟩)
theorem vx_eqI {ta tb : TE} {σ : L2.St} {H : Hp} {i j : Int} (ha : Vx ta σ H (.int i)) (hb : Vx tb σ H (.int j)) : Vx (tOp rEq ta tb) σ H (.bl (decide (i = j))) := fun Q q => by
  refine ha _ (hb _ ⟨rfl, ?_⟩)
  have e : decide (V.int i = V.int j) = decide (i = j) := by simp
  rw [e]
  exact q
theorem vx_ixT {K : PySem.W.Frag} {ta tb : TE} {σ : L2.St} {H : Hp} {a : Addr} {xs : List V} {i : Int} {v : V} (ha : Vx ta σ H (.ref a)) (hb : Vx tb σ H (.int i)) (h : SqT K H a xs) (e : atI xs i = some v) : Vx (tOp (rIxT K) ta tb) σ H v := fun _ q => ha _ (hb _ ⟨a, xs, i, v, rfl, rfl, h, e, q⟩)
theorem vx_ixL {K : PySem.W.Frag} {ta tb : TE} {σ : L2.St} {H : Hp} {a : Addr} {xs : List V} {i : Int} {v : V} (ha : Vx ta σ H (.ref a)) (hb : Vx tb σ H (.int i)) (h : H a = some (.lst xs)) (e : atI xs i = some v) : Vx (tOp (rIxL K) ta tb) σ H v := fun _ q => ha _ (hb _ ⟨a, xs, i, v, rfl, rfl, .of h, e, q⟩)
theorem if_f {c : TT} {t u : TS} {D : Ends} {σ : L2.St} {H : Hp} (h : Fx c σ H false) (k : u D σ H) : tIfS c t u D σ H := h _ (iteF k)
theorem if_t {c : TT} {t u : TS} {D : Ends} {σ : L2.St} {H : Hp} (h : Fx c σ H true) (k : t D σ H) : tIfS c t u D σ H := h _ (iteT k)
/-- a Frame -/
def FrameAt (K : PySem.W.Frag) (H : Hp) (a : Addr) (p : Plan) : Prop := ∃ dx q t, H a = some (.ins (He.ga K "Frame") dx [("parts", .ref q)]) ∧ H q = some (.tup [.int (p.1 : Nat), .ref t]) ∧ KnT H t p.2
theorem FrameAt.ex {K : PySem.W.Frag} {a : Addr} {H H' : Hp} {p : Plan} (h : FrameAt K H a p) (x : Evl.Ex H H') : FrameAt K H' a p := by
  obtain ⟨dx, q, t, h1, h2, h3⟩ := h
  exact ⟨dx, q, t, x _ _ h1, x _ _ h2, h3.ex x⟩
def spKf : Sp := fun vs H Q _ => ∃ (a : Addr) (p : Plan), vs = [.int (p.1 : Nat), .ref a] ∧ KnT H a p.2 ∧ PlanOk p ∧ ∀ H', Evl.Ex H H' → Q (.int (-1)) H'
section
variable {P : Program} {w : World} {K : PySem.W.Frag} {mg : Str → Option Value} {base : Heap}
theorem scKf : FnScope ["degree", "value", "index", "knot"] ["degree", "value"] (defScope st_d_knots_fault) := ⟨rfl, rfl, rfl, by decide +kernel, rfl, by decide +kernel, by decide +kernel⟩
theorem ok_kf (hd : Hd K mg) : Okf P w K mg base C8.CX0 3 (He.fAd K d_knots_fault.at_) ["degree", "value"] spKf := by
  have ms : mg "isinstance" = none := hd.free _ (by decide +kernel)
  have mt : mg "tuple" = none := hd.free _ (by decide +kernel)
  have ml : mg "len" = none := hd.free _ (by decide +kernel)
  have me : mg "enumerate" = none := hd.free _ (by decide +kernel)
  have mB : mg "is_between" = some (.ref (He.fAd K d_is_between.at_)) := hd.glo _ (by decide +kernel)
  obtain ⟨t, mH⟩ := hd.int ("MOST_HILLS", 10) (by decide +kernel)
  obtain ⟨t2, mK⟩ := hd.int ("MOST_KNOT", 1000000) (by decide +kernel)
  have B := ok_btw (P := P) (w := w) (base := base) hd
  refine okf_of hd.f_d_knots_fault scKf (fun _ _ _ _ _ _ us hl => ?_) (fun vs H Q E h => ?_) (fun cdv A outer s H vs Q E hr h => ?_)
  · obtain ⟨a, b, rfl⟩ := us2 hl
    rfl
  · obtain ⟨i, xs, rfl, _⟩ := h
    rfl
  · obtain ⟨a, ⟨g, ks⟩, rfl, ha, ok, k⟩ := h
    have hu := hu_of hr
    refine ⟨_, pss_cons (ps_if (pw_or (pt_not (pt_val (pe_callB call_isTup (by rfl) ms bo_isinstance (pa_cons (pv 1) (pa_cons (pe_bltn (v := .ty "tuple") (by rfl) mt bo_tuple rfl) pa_nil))))) (pw_or1 (pt_cmpR op_lt (pe_callB call_len_seq (by rfl) ml bo_len (pa_cons (pv 1) pa_nil)) (pe_op op_add (pv 0) pe_int) (nomark _)))).pt (pss_one ps_dead) pss_nil)
      (pss_cons (ps_for PassesOwn.leaving rfl (pi_enum2 (by rfl) me (pa_cons (pv 1) pa_nil)) (pg_tup rfl (pgs_cons (pg_name (i := 2) scKf.nd rfl (.inl rfl)) (pgs_cons (pg_name (i := 3) scKf.nd rfl (.inl rfl)) pgs_nil)))
        (pss_cons (ps_if (pw_or (pt_cmpR op_eq (pv 2) (pe_op op_add (pe_op op_add (pv 0) pe_int) (pe_glob (v := .int 10) (by rfl) mH ⟨_, rfl⟩)) (nomark _)) (pw_or1 (pt_not (pt_val (pe_callR (E := E00) (B.run hr C8.pass0) (by rfl) mB B.kp (pa_cons (pv 3) (pa_cons pe_int (pa_cons (pe_glob (v := .int 1000000) (by rfl) mK ⟨_, rfl⟩) pa_nil)))))))).pt (pss_one ps_dead) pss_nil)
        (pss_cons (ps_if (pw_and (pt_cmpR op_gt (pv 2) pe_int (nomark _)) (pw_and1 (pt_cmpR op_lt (pv 3) (pe_ix ix_tup (pv 1) (pe_op op_sub (pv 2) pe_int) (fun _ _ => rfl)) (nomark _)))).pt (pss_one ps_dead) pss_nil)
        (pss_one (ps_if (pw_and (pt_cmpR op_gt (pv 2) (pv 0) (nomark _)) (pw_and1 (pt_cmpR op_eq (pe_ix ix_tup (pv 1) (pe_op op_sub (pe_op op_sub (pv 2) (pv 0)) pe_int) (fun _ _ => rfl)) (pv 3) (nomark _)))).pt (pss_one ps_dead) pss_nil)))))
      (pss_one (ps_ret (pe_un un_neg pe_int)))), ?_⟩
    have lo := ok.lo
    have hi' := ok.hi
    have l15 := ok.len
    simp only at lo hi' l15
    refine ⟨_, rfl, a, _, rfl, ha.sq, true, rfl, iteF ?_⟩
    refine ⟨_, rfl, a, _, rfl, .inr ha.sq, _, rfl, _, _, rfl, rfl, _, _, rfl, rfl, false, ?_, iteF ?_⟩
    · show V.bl (decide (((ks.map V.int).length : Int) < (g : Int) + 2)) = V.bl false
      rw [List.length_map, decide_eq_false (by omega)]
    refine ⟨_, rfl, a, _, rfl, ha.sq, for_enum2 (K := K) (xs := ks.map V.int) (fun i σ' H' => ∃ o1 o2, σ' = [some (V.int (g : Nat)), some (V.ref a), o1, o2] ∧ Evl.Ex H H') ⟨_, _, rfl, .refl _⟩ (fun i σ' H' _ h => ?_) (fun i x σ' H' T hx h hT => ?_) (fun σ' H' h => ?_)⟩
    · obtain ⟨_, _, _, x2⟩ := h
      exact (ha.ex x2).sq
    · obtain ⟨o1, o2, rfl, x2⟩ := h
      obtain ⟨y, hy, rfl⟩ := Option.map_eq_some_iff.mp (List.getElem?_map .. ▸ hx)
      have hi : i < ks.length := (List.getElem?_eq_some_iff.mp hy).1
      have ey : ks[i] = y := (List.getElem?_eq_some_iff.mp hy).2
      have ry := ok.mil y (List.mem_of_getElem? hy)
      have x3 := x2.trans (.new (o := .tup [.int (i : Nat), .int y]) hT)
      refine ⟨T, _, rfl, .of upd_same, rfl, _, _, rfl, _, _, rfl, rfl, ?_⟩
      have ey' : ks.getD i 0 = y := by simp [List.getD, hy]
      refine ⟨_, rfl, _, rfl, _, _, rfl, rfl, _, _, rfl, rfl, rfl, _, rfl, ?_⟩
      have e12 : ¬ V.int (i : Nat) = V.int ((g : Int) + 1 + 10) := fun z => by
        injection z with z
        omega
      rw [decide_eq_false e12]
      refine iteF ⟨_, rfl, y, 0, 1000000, rfl, ?_⟩
      rw [decide_eq_true ry.1, decide_eq_true ry.2]
      refine ⟨true, rfl, iteF ?_⟩
      have aft : Evl.Ex H (upd H' T (.tup [.int (i : Nat), .int y])) := x3
      have ht : SqT K (upd H' T (.tup [.int (i : Nat), .int y])) a (ks.map V.int) := (ha.ex x3).sq
      generalize (upd H' T (.tup [.int (i : Nat), .int y])) = H2 at aft ht ⊢
      have f1 : ((decide ((0 : Int) < (i : Nat))) && decide (y < ks.getD (i - 1) 0)) = false := by
        rw [Bool.and_eq_false_iff]
        by_cases i0 : (0 : Int) < (i : Nat)
        · right
          have := asc_get ok.asc (i := i - 1) (j := i) (by omega) hi
          have : ks.getD (i - 1) 0 ≤ y := by
            rw [← ey]
            simpa [List.getD, show i - 1 < ks.length from by omega] using this
          exact decide_eq_false (by omega)
        · left
          exact decide_eq_false i0
      have f2 : ((decide ((g : Int) < (i : Nat))) && decide (ks.getD (i - g - 1) 0 = y)) = false := by
        rw [Bool.and_eq_false_iff]
        by_cases i0 : (g : Int) < (i : Nat)
        · right
          have := ok.apart (i := i) (by show g < i; omega) hi
          refine decide_eq_false fun z => this ?_
          simp only
          rw [ey, ← z]
          simp [List.getD, show i - g - 1 < ks.length from by omega]
        · left
          exact decide_eq_false i0
      dsimp only [tNext]
      refine i_seq (if_f (by
        rw [← f1]
        refine fx_and (fx_test (vx_op0 (g := fun i j => .bl (decide (j < i))) (vx_var rfl) vx_c)) fun z => fx_test (vx_op0 (g := fun i j => .bl (decide (i < j))) (vx_var rfl) (vx_ixT (vx_var rfl) (vx_op0 (g := fun i j => .int (i - j)) (vx_var rfl) vx_c) ht ?_))
        have := of_decide_eq_true z
        exact at_int' (by omega) (by omega)) ?_)
      dsimp only [tNext]
      refine (if_f (by
        rw [← f2]
        refine fx_and (fx_test (vx_op0 (g := fun i j => .bl (decide (j < i))) (vx_var rfl) (vx_var rfl))) fun z => fx_test (vx_eqI (vx_ixT (vx_var rfl) (vx_op0 (g := fun i j => .int (i - j)) (vx_op0 (g := fun i j => .int (i - j)) (vx_var rfl) (vx_var rfl)) vx_c) ht ?_) (vx_var rfl))
        have := of_decide_eq_true z
        exact at_int' (by omega) (by omega)) ⟨_, _, rfl, aft⟩)
    · obtain ⟨o1, o2, rfl, x2⟩ := h
      exact ⟨1, rfl, k H' x2⟩
end
end Bt
set_option Elab.async false
set_option linter.all false
set_option maxRecDepth 100000
set_option maxHeartbeats 4000000
/-! Frames: made, asked. -/
namespace Bt
open PySem PySem.Spec PyProof.Rows L2
/-- a Frame whose knots are the tuple t -/
def FrT (K : PySem.W.Frag) (H : Hp) (a : Addr) (p : Plan) (t : Addr) : Prop := ∃ dx q, H a = some (.ins (He.ga K "Frame") dx [("parts", .ref q)]) ∧ H q = some (.tup [.int (p.1 : Nat), .ref t]) ∧ KnT H t p.2
theorem FrameAt.t {K : PySem.W.Frag} {H : Hp} {a : Addr} {p : Plan} (h : FrameAt K H a p) : ∃ t, FrT K H a p t := by
  obtain ⟨dx, q, t, h⟩ := h
  exact ⟨t, dx, q, h⟩
theorem FrT.f {K : PySem.W.Frag} {H : Hp} {a t : Addr} {p : Plan} (h : FrT K H a p t) : FrameAt K H a p := by
  obtain ⟨dx, q, h⟩ := h
  exact ⟨dx, q, t, h⟩
theorem FrT.ex {K : PySem.W.Frag} {a t : Addr} {H H' : Hp} {p : Plan} (h : FrT K H a p t) (x : Evl.Ex H H') : FrT K H' a p t := by
  obtain ⟨dx, q, h1, h2, h3⟩ := h
  exact ⟨dx, q, x _ _ h1, x _ _ h2, h3.ex x⟩
/-- all but x stays -/
abbrev ExBut (x : Addr) (H H' : Hp) : Prop := ∀ b o, b ≠ x → H b = some o → H' b = some o
def spFi (K : PySem.W.Frag) : Sp := fun vs H Q _ => ∃ (x dx t : Addr) (p : Plan), vs = [.ref x, .int (p.1 : Nat), .ref t] ∧ H x = some (.ins (He.ga K "Frame") dx []) ∧ KnT H t p.2 ∧ PlanOk p ∧
  ∀ H', ExBut x H H' → FrT K H' x p t → Q .non H'
def spFramed (K : PySem.W.Frag) : Sp := fun vs H Q _ => ∃ (a : Addr) (p : Plan), vs = [.ref a] ∧ PlanAt H a p ∧ PlanOk p ∧ ∀ (f : Addr) (H' : Hp), Evl.Ex H H' → H f = none → FrameAt K H' f p → Q (.ref f) H'
def spDeg (K : PySem.W.Frag) : Sp := fun vs H Q _ => ∃ (a : Addr) (p : Plan), vs = [.ref a] ∧ FrameAt K H a p ∧ Q (.int (p.1 : Nat)) H
def spKnots (K : PySem.W.Frag) : Sp := fun vs H Q _ => ∃ (a t : Addr) (p : Plan), vs = [.ref a] ∧ FrT K H a p t ∧ Q (.ref t) H
def spHills (K : PySem.W.Frag) : Sp := fun vs H Q _ => ∃ (a : Addr) (p : Plan), vs = [.ref a] ∧ FrameAt K H a p ∧ PlanOk p ∧ Q (.int (p.hills : Nat)) H
/-- a property's promise -/
def OkPr (P : Program) (w : World) (K : PySem.W.Frag) (mg : Str → Option Value) (base : Heap) (CX : CXT) (k : Nat) (C : Addr) (f : Str) (sp : Sp) : Prop := ∃ p g, PropOf K C f p g ∧ Okf P w K mg base CX k g ["self"] sp
section
variable {X : Cx} {CX : CXT} {k : Nat} {C : Addr} {f : Str} {sp : Sp} {E : XK} {e : Expr} {pos : Pos} {ta : TE}
theorem pe_propR (c : Cls X.K C) (F : OkPr X.prog X.w X.K X.mg X.base CX k C f sp) (hr : Room (k + 1) X.A) (hx : Passes CX X.nox E) (hab : attributeBase e f X.env (eval e X.env) = eval e X.env) (ha : PE X e ta) : PE X (.Attribute e f pos) (tProp C sp [] E ta) := by
  obtain ⟨p, g, hp, fd, F, hb, _⟩ := F
  exact pe_prop ha c hp F hr hb .nil hx hab
end
section
variable {P : Program} {w : World} {K : PySem.W.Frag} {mg : Str → Option Value} {base : Heap}
theorem scFi : FnScope ["self", "degree", "knots"] ["self", "degree", "knots"] (defScope st_m_Frame_init) := ⟨rfl, rfl, rfl, by decide +kernel, rfl, by decide +kernel, by decide +kernel⟩
theorem ok_fi (hd : Hd K mg) : Okf P w K mg base C8.CX0 4 (He.fAd K m_Frame_init.at_) ["self", "degree", "knots"] (spFi K) := by
  have mB : mg "is_between" = some (.ref (He.fAd K d_is_between.at_)) := hd.glo _ (by decide +kernel)
  have mF : mg "knots_fault" = some (.ref (He.fAd K d_knots_fault.at_)) := hd.glo _ (by decide +kernel)
  obtain ⟨t, mD⟩ := hd.int ("MOST_DEGREE", 4) (by decide +kernel)
  have B := ok_btw (P := P) (w := w) (base := base) hd
  have F := ok_kf (P := P) (w := w) (base := base) hd
  refine okf_of hd.f_m_Frame_init scFi (fun _ _ _ _ _ _ us hl => ?_) (fun vs H Q E h => ?_) (fun cdv A outer s H vs Q E hr h => ?_)
  · obtain ⟨a, b, c, rfl⟩ := us3 hl
    rfl
  · obtain ⟨x, dx, t, p, rfl, _⟩ := h
    rfl
  · obtain ⟨x, dx, t, ⟨g, ks⟩, rfl, hx, ht, ok, k⟩ := h
    refine ⟨_, pss_cons (ps_if (pt_not (pt_val (pe_callR (E := E00) (B.run (hr.mono (by decide)) C8.pass0) (by rfl) mB B.kp (pa_cons (pv 1) (pa_cons pe_int (pa_cons (pe_glob (v := .int 4) (by rfl) mD ⟨_, rfl⟩) pa_nil)))))) (pss_one ps_dead) pss_nil)
      (pss_cons (ps_if (pt_cmpR op_ne (pe_callR (E := E00) (F.run hr C8.pass0) (by rfl) mF F.kp (pa_cons (pv 1) (pa_cons (pv 2) pa_nil))) (pe_un un_neg pe_int) (nomark _)) (pss_one ps_dead) pss_nil)
      (pss_one (ps_fld (pv 0) (pe_tup (pa_cons (pv 1) (pa_cons (pv 2) pa_nil))) rfl))), ?_⟩
    have dg := ok.deg
    simp only at dg
    refine ⟨_, rfl, (g : Nat), 0, 4, rfl, ?_⟩
    rw [decide_eq_true (show (0 : Int) ≤ (g : Nat) by omega), decide_eq_true (show ((g : Nat) : Int) ≤ 4 by omega)]
    refine ⟨true, rfl, iteF ?_⟩
    refine ⟨_, rfl, _, rfl, t, ⟨g, ks⟩, rfl, ht, ok, fun H1 x1 => ⟨1, rfl, rfl, false, rfl, iteF ?_⟩⟩
    refine ⟨_, rfl, _, rfl, szl (by simp), fun q hq => ?_⟩
    have x2 := x1.trans (.new (o := .tup [.int (g : Nat), .ref t]) hq)
    have xq : x ≠ q := ne_of_none (x1 _ _ hx) hq
    refine ⟨_, rfl, x, He.ga K "Frame", dx, [], rfl, x2 _ _ hx, hd.cls _ (by decide +kernel), hd.noat ("Frame", "parts") (by decide +kernel), by decide, ?_⟩
    have tx : t ≠ x := fun z => by
      obtain ⟨o, _, ht⟩ := ht
      rw [z, hx] at ht
      cases ht
    refine k _ (fun b o n h => by rw [upd_ne n]; exact x2 _ _ h) ⟨dx, q, upd_same, ?_, ?_⟩
    · rw [upd_ne (Ne.symm xq), upd_same]
    · exact (ht.ex x2).keep fun o e => by
        rw [upd_ne tx]
        exact e
theorem scFramed : FnScope ["_law_plan"] ["_law_plan"] (defScope st_d_law_framed) := ⟨rfl, rfl, rfl, by decide +kernel, rfl, by decide +kernel, by decide +kernel⟩
theorem ok_framed (hd : Hd K mg) : Okf P w K mg base C8.CX0 6 (He.fAd K d_law_framed.at_) ["_law_plan"] (spFramed K) := by
  have mF : mg "Frame" = some (.ref (He.ga K "Frame")) := hd.glo _ (by decide +kernel)
  obtain ⟨fd, F, B, _⟩ := ok_fi (P := P) (w := w) (base := base) hd
  refine okf_of hd.f_d_law_framed scFramed (fun _ _ _ _ _ _ us hl => ?_) (fun vs H Q E h => ?_) (fun cdv A outer s H vs Q E hr h => ?_)
  · obtain ⟨a, rfl⟩ := us1 hl
    rfl
  · obtain ⟨x, p, rfl, _⟩ := h
    rfl
  · obtain ⟨a, ⟨g, ks⟩, rfl, ⟨t, h1, h2⟩, ok, k⟩ := h
    refine ⟨_, pss_one (ps_ret (pe_make (E := E00) (hd.mkr "Frame" (by decide +kernel)) F hr (by rfl) mF B .nil C8.pass0 (pa_cons (pe_ix ix_list (pv 0) pe_int (fun _ _ => rfl)) (pa_cons (pe_ix ix_list (pv 0) pe_int (fun _ _ => rfl)) pa_nil)))), ?_⟩
    refine ⟨_, rfl, a, _, _, _, rfl, rfl, .of h1, (show atI [V.int (g : Nat), V.ref t] 0 = some (.int (g : Nat)) from rfl), _, rfl, a, _, _, _, rfl, rfl, .of h1, (show atI [V.int (g : Nat), V.ref t] 1 = some (.ref t) from rfl), fun x dx hx hdx n => ?_⟩
    have x1 : Evl.Ex H (upd (upd H dx (.own x)) x (.ins (He.ga K "Frame") dx [])) := fun b o e => by
      rw [upd_ne (ne_of_none e hx), upd_ne (ne_of_none e hdx)]
      exact e
    refine ⟨x, dx, t, ⟨g, ks⟩, rfl, upd_same, h2.ex x1, ok, fun H' x2 fr => ⟨rfl, k x H' (fun b o e => x2 b o (ne_of_none e hx) (x1 _ _ e)) hx fr.f⟩⟩
theorem scSelf1 : FnScope ["self"] ["self"] (defScope st_p_Frame_degree) := ⟨rfl, rfl, rfl, by decide +kernel, rfl, by decide +kernel, by decide +kernel⟩
theorem ok_deg (hd : Hd K mg) : OkPr P w K mg base C8.CX0 1 (He.ga K "Frame") "degree" (spDeg K) := by
  obtain ⟨p, g, fd, pr, F⟩ := hd.f_p_Frame_degree
  refine ⟨p, g, pr, okf_of ⟨fd, F⟩ scSelf1 (fun _ _ _ _ _ _ us hl => ?_) (fun vs H Q E h => ?_) (fun cdv A outer s H vs Q E hr h => ?_)⟩
  · obtain ⟨a, rfl⟩ := us1 hl
    rfl
  · obtain ⟨x, p, rfl, _⟩ := h
    rfl
  · obtain ⟨a, ⟨g, ks⟩, rfl, ⟨dx, q, t, h1, h2, h3⟩, k⟩ := h
    refine ⟨_, pss_one (ps_ret (pe_ix ix_tup (pe_fld (pv 0) rfl) pe_int (fun _ _ => rfl))), ?_⟩
    exact ⟨_, rfl, a, _, dx, _, _, rfl, h1, hd.cls _ (by decide +kernel), hd.noat ("Frame", "parts") (by decide +kernel), rfl, q, _, _, _, rfl, rfl, .of h2, (show atI [V.int (g : Nat), V.ref t] 0 = some (.int (g : Nat)) from rfl), k⟩
theorem scSelf2 : FnScope ["self"] ["self"] (defScope st_p_Frame_knots) := ⟨rfl, rfl, rfl, by decide +kernel, rfl, by decide +kernel, by decide +kernel⟩
theorem ok_knots (hd : Hd K mg) : OkPr P w K mg base C8.CX0 1 (He.ga K "Frame") "knots" (spKnots K) := by
  obtain ⟨p, g, fd, pr, F⟩ := hd.f_p_Frame_knots
  refine ⟨p, g, pr, okf_of ⟨fd, F⟩ scSelf2 (fun _ _ _ _ _ _ us hl => ?_) (fun vs H Q E h => ?_) (fun cdv A outer s H vs Q E hr h => ?_)⟩
  · obtain ⟨a, rfl⟩ := us1 hl
    rfl
  · obtain ⟨x, t, p, rfl, _⟩ := h
    rfl
  · obtain ⟨a, t, ⟨g, ks⟩, rfl, ⟨dx, q, h1, h2, h3⟩, k⟩ := h
    refine ⟨_, pss_one (ps_ret (pe_ix ix_tup (pe_fld (pv 0) rfl) pe_int (fun _ _ => rfl))), ?_⟩
    exact ⟨_, rfl, a, _, dx, _, _, rfl, h1, hd.cls _ (by decide +kernel), hd.noat ("Frame", "parts") (by decide +kernel), rfl, q, _, _, _, rfl, rfl, .of h2, (show atI [V.int (g : Nat), V.ref t] 1 = some (.ref t) from rfl), k⟩
theorem scSelf3 : FnScope ["self"] ["self"] (defScope st_p_Frame_hills) := ⟨rfl, rfl, rfl, by decide +kernel, rfl, by decide +kernel, by decide +kernel⟩
theorem ok_hills (hd : Hd K mg) : OkPr P w K mg base C8.CX0 1 (He.ga K "Frame") "hills" (spHills K) := by
  have ml : mg "len" = none := hd.free _ (by decide +kernel)
  obtain ⟨p, g, fd, pr, F⟩ := hd.f_p_Frame_hills
  refine ⟨p, g, pr, okf_of ⟨fd, F⟩ scSelf3 (fun _ _ _ _ _ _ us hl => ?_) (fun vs H Q E h => ?_) (fun cdv A outer s H vs Q E hr h => ?_)⟩
  · obtain ⟨a, rfl⟩ := us1 hl
    rfl
  · obtain ⟨x, p, rfl, _⟩ := h
    rfl
  · obtain ⟨a, ⟨g, ks⟩, rfl, ⟨dx, q, t, h1, h2, h3⟩, ok, k⟩ := h
    have c := hd.cls "Frame" (by decide +kernel)
    have n := hd.noat ("Frame", "parts") (by decide +kernel)
    refine ⟨_, pss_one (ps_ret (pe_op op_sub (pe_op op_sub (pe_callB call_len_seq (by rfl) ml bo_len (pa_cons (pe_ix ix_tup (pe_fld (pv 0) rfl) pe_int (fun _ _ => rfl)) pa_nil)) (pe_ix ix_tup (pe_fld (pv 0) rfl) pe_int (fun _ _ => rfl))) pe_int)), ?_⟩
    refine ⟨_, rfl, a, _, dx, _, _, rfl, h1, c, n, rfl, q, _, _, _, rfl, rfl, .of h2, (show atI [V.int (g : Nat), V.ref t] 1 = some (.ref t) from rfl), t, _, rfl, .inr h3.sq, _, rfl, a, _, dx, _, _, rfl, h1, c, n, rfl, q, _, _, _, rfl, rfl, .of h2, (show atI [V.int (g : Nat), V.ref t] 0 = some (.int (g : Nat)) from rfl), _, _, rfl, rfl, _, _, rfl, rfl, ?_⟩
    have e : (((ks.map V.int).length : Nat) : Int) - (g : Nat) - 1 = ((Plan.hills (g, ks) : Nat) : Int) := by
      rw [ok.hills_eq, List.length_map]
    show Q (.int ((((ks.map V.int).length : Nat) : Int) - (g : Nat) - 1)) H
    rw [e]
    exact k
end
end Bt
set_option Elab.async false
set_option linter.all false
set_option maxRecDepth 100000
set_option maxHeartbeats 4000000
/-! Tuples of tuples that are equal; what else the head must give; Frame.__eq__, check_frame, within. -/
namespace Bt
open PySem PySem.Spec PyProof.Rows L2
/-- equal, of nesting below n: numbers, texts, tuples of them -/
def EqT (K : PySem.W.Frag) (H : Hp) : Nat → V → V → Prop
  | 0 => fun _ _ => False
  | n + 1 => fun x y => (x = y ∧ flatB x = true) ∨ ∃ a b xs ys, x = .ref a ∧ y = .ref b ∧ SqT K H a xs ∧ SqT K H b ys ∧ Paired (EqT K H n) xs ys
theorem itemsT_run {A : Around} {s : Shared} {F : V → V → Prop} (ih : ∀ x y v u, F x y → RelV x v → RelV y u → SeqAt.EqAt A s v u true) {xs ys : List V} (hp : Paired F xs ys) :
    ∀ {us ws : List Value}, Vals xs us → Vals ys ws → ∀ j (h1 : j < us.length) (h2 : j < ws.length), SeqAt.EqAt A s us[j] ws[j] true := by
  induction hp with
  | nil =>
    intro us ws r1 r2 j h1 h2
    cases r1
    exact absurd h1 (Nat.not_lt_zero j)
  | cons h _ k =>
    intro us ws r1 r2 j h1 h2
    cases r1 with
    | cons a1 b1 =>
      cases r2 with
      | cons a2 b2 =>
        cases j with
        | zero => exact ih _ _ _ _ h a1 a2
        | succ j => exact k b1 b2 j (Nat.lt_of_succ_lt_succ h1) (Nat.lt_of_succ_lt_succ h2)
theorem paired_len {α β : Type} {F : α → β → Prop} {xs : List α} {ys : List β} (h : Paired F xs ys) : xs.length = ys.length := by
  induction h with
  | nil => rfl
  | cons _ _ ih => simp [ih]
theorem all_true {n m : Nat} (e : n = m) : ((List.range (min n m)).all (fun _ => true) && n == m) = true := by
  subst e
  simp
section
variable {X : Cx} {pins : List (Addr × Obj)} {σ : L2.St} {H : Hp} {s : Shared}
theorem eqT_run (I : Inv X pins σ H s) : ∀ (n : Nat) (A : Around), A.units + n < cLine → ∀ (x y : V) (v u : Value), EqT X.K H n x y → RelV x v → RelV y u → SeqAt.EqAt A s v u true
  | 0, _, _, _, _, _, _, h, _, _ => (show False from h).elim
  | n + 1, A, hu, x, y, v, u, h, rx, ry => by
    rcases h with ⟨rfl, f⟩ | ⟨a, b, xs, ys, rfl, rfl, ha, hb, hp⟩
    · exact eqAt_same rx ry f
    · cases (show v = Value.ref a from rx)
      cases (show u = Value.ref b from ry)
      by_cases e : a = b
      · subst e
        exact SeqAt.EqAt.same _
      · obtain ⟨us, r1, p1, _⟩ := I.tuple ha
        obtain ⟨ws, r2, p2, _⟩ := I.tuple hb
        have hsz : us.toArray.size = ws.toArray.size := by
          rw [List.size_toArray, List.size_toArray, ← r1.length, ← r2.length]
          exact paired_len hp
        have := SeqAt.RcAt.tuples (A := A) (e := fun _ => true) p1 p2 (by omega) (fun j h1 h2 => by
          have k := itemsT_run (eqT_run I n A.in1 (by show A.units + 1 + n < cLine; omega)) hp r1 r2 j (by simpa using h1) (by simpa using h2)
          simpa using k)
        rw [all_true hsz] at this
        exact SeqAt.EqAt.of_refs e this
end
/-- two tuples that are equal -/
def rEqT1 (K : PySem.W.Frag) : R2 := fun x y H Q => ∃ a b xs ys, x = .ref a ∧ y = .ref b ∧ SqT K H a xs ∧ SqT K H b ys ∧ Paired (EqT K H 8) xs ys ∧ Q (.bl true) H
theorem op_eqT1 {X : Cx} (hu : X.A.units + 10 < cLine) : OpR X (compareOp .Eq) (rEqT1 X.K) := by
  intro pins s σ H x y v u Q I rx ry h
  obtain ⟨a, b, xs, ys, rfl, rfl, ha, hb, hp, q⟩ := h
  cases (show v = Value.ref a from rx)
  cases (show u = Value.ref b from ry)
  obtain ⟨us, r1, p1, _⟩ := I.tuple ha
  obtain ⟨ws, r2, p2, _⟩ := I.tuple hb
  have hsz : us.toArray.size = ws.toArray.size := by
    rw [List.size_toArray, List.size_toArray, ← r1.length, ← r2.length]
    exact paired_len hp
  refine SeqAt.eq_tupleAt (e := fun _ => true) p1 p2 (by omega) (fun j h1 h2 => ?_) ?_
  · have k := itemsT_run (eqT_run I 8 X.A.in1 (by show X.A.units + 1 + 8 < cLine; omega)) hp r1 r2 j (by simpa using h1) (by simpa using h2)
    simpa using k
  · rw [all_true hsz]
    exact fin_bl I q rfl
theorem eqt_ints {K : PySem.W.Frag} {H : Hp} (n : Nat) : ∀ ks : List Int, Paired (EqT K H (n + 1)) (ks.map V.int) (ks.map V.int)
  | [] => .nil
  | _ :: r => .cons (.inl ⟨rfl, rfl⟩) (eqt_ints n r)
/-- what else the top has left -/
structure Hx (K : PySem.W.Frag) (mg : Str → Option Value) : Prop extends Hd K mg where
  ins : ∀ x ∈ clsL, C8.InsC K (He.ga K x)
  eqF : EqC K (He.ga K "Frame") (He.ma K (He.ga K "Frame") "__eq__")
def spFeq (K : PySem.W.Frag) : Sp := fun vs H Q _ => ∃ (a b : Addr) (p : Plan), vs = [.ref a, .ref b] ∧ FrameAt K H a p ∧ FrameAt K H b p ∧ Q (.bl true) H
def spChkF (K : PySem.W.Frag) : Sp := fun vs H Q _ => ∃ (a : Addr) (p : Plan), vs = [.ref a] ∧ FrameAt K H a p ∧ Q .non H
section
variable {P : Program} {w : World} {K : PySem.W.Frag} {mg : Str → Option Value} {base : Heap}
theorem scFeq : FnScope ["self", "other"] ["self", "other"] (defScope st_m_Frame_eq) := ⟨rfl, rfl, rfl, by decide +kernel, rfl, by decide +kernel, by decide +kernel⟩
theorem ok_feq (hx : Hx K mg) : Okf P w K mg base C8.CX0 10 (He.fAd K m_Frame_eq.at_) ["self", "other"] (spFeq K) := by
  have hd := hx.toHd
  have ms : mg "isinstance" = none := hd.free _ (by decide +kernel)
  have mF : mg "Frame" = some (.ref (He.ga K "Frame")) := hd.glo _ (by decide +kernel)
  have IC := hx.ins "Frame" (by decide +kernel)
  refine okf_of hd.f_m_Frame_eq scFeq (fun _ _ _ _ _ _ us hl => ?_) (fun vs H Q E h => ?_) (fun cdv A outer s H vs Q E hr h => ?_)
  · obtain ⟨a, b, rfl⟩ := us2 hl
    rfl
  · obtain ⟨x, p, _, rfl, _⟩ := h
    rfl
  · obtain ⟨a, b, ⟨g, ks⟩, rfl, ⟨dx, q, t, h1, h2, h3⟩, ⟨dx', q', t', g1, g2, g3⟩, k⟩ := h
    have hu : (A.deeper (envOfC d_is_up.qual d_is_up.scope s.heap.objs.size (He.fAd K m_Frame_eq.at_) cdv)).units + 10 < cLine := by
      have := hr.units
      have e : (A.deeper (envOfC d_is_up.qual d_is_up.scope s.heap.objs.size (He.fAd K m_Frame_eq.at_) cdv)).units = (A.deeper (envOfC m_Frame_eq.qual m_Frame_eq.scope s.heap.objs.size (He.fAd K m_Frame_eq.at_) cdv)).units := rfl
      omega
    refine ⟨_, pss_one (ps_ret (pe_and (pe_callB (C8.call_isC IC) (by rfl) ms bo_isinstance (pa_cons (pv 1) (pa_cons (pe_glob (v := .ref (He.ga K "Frame")) (by rfl) mF rfl) pa_nil))) (pe_one (pe_cmpR (op_eqT1 hu) (pe_fld (pv 0) rfl) (pe_fld (pv 1) rfl) (nomark _))))), ?_⟩
    have c := hd.cls "Frame" (by decide +kernel)
    have n := hd.noat ("Frame", "parts") (by decide +kernel)
    exact ⟨_, rfl, b, dx', _, rfl, g1, true, rfl, iteT ⟨_, rfl, a, _, dx, _, _, rfl, h1, c, n, rfl, _, rfl, b, _, dx', _, _, rfl, g1, c, n, rfl, q, q', _, _, rfl, rfl, .of h2, .of g2, .cons (.inl ⟨rfl, rfl⟩) (.cons (.inr ⟨t, t', _, _, rfl, rfl, h3.sq, g3.sq, eqt_ints 6 ks⟩) .nil), k⟩⟩
theorem scChkF : FnScope ["value"] ["value"] (defScope st_d_check_frame) := ⟨rfl, rfl, rfl, by decide +kernel, rfl, by decide +kernel, by decide +kernel⟩
theorem ok_chkF (hx : Hx K mg) : Okf P w K mg base C8.CX0 1 (He.fAd K d_check_frame.at_) ["value"] (spChkF K) := by
  have hd := hx.toHd
  have ms : mg "isinstance" = none := hd.free _ (by decide +kernel)
  have mF : mg "Frame" = some (.ref (He.ga K "Frame")) := hd.glo _ (by decide +kernel)
  have IC := hx.ins "Frame" (by decide +kernel)
  refine okf_of hd.f_d_check_frame scChkF (fun _ _ _ _ _ _ us hl => ?_) (fun vs H Q E h => ?_) (fun cdv A outer s H vs Q E hr h => ?_)
  · obtain ⟨a, rfl⟩ := us1 hl
    rfl
  · obtain ⟨x, p, rfl, _⟩ := h
    rfl
  · obtain ⟨a, p, rfl, ⟨dx, q, t, h1, h2, h3⟩, k⟩ := h
    refine ⟨_, pss_one (ps_if (pt_not (pt_val (pe_callB (C8.call_isC IC) (by rfl) ms bo_isinstance (pa_cons (pv 0) (pa_cons (pe_glob (v := .ref (He.ga K "Frame")) (by rfl) mF rfl) pa_nil))))) (pss_one ps_dead) pss_nil), ?_⟩
    exact ⟨_, rfl, a, dx, _, rfl, h1, true, rfl, iteF k⟩
end
end Bt
set_option Elab.async false
set_option linter.all false
set_option maxRecDepth 100000
set_option maxHeartbeats 4000000
/-! within, the program's is_up. -/
namespace Bt
open PySem PySem.Spec PyProof.Rows L2
theorem vx_and {ta tb : TE} {σ : L2.St} {H : Hp} {b c : Bool} (h : Vx ta σ H (.bl b)) (k : b = true → Vx tb σ H (.bl c)) : Vx (tAndV ta tb) σ H (.bl (b && c)) := fun Q q => h _ ⟨b, rfl, by
  cases b with
  | false => exact iteF q
  | true => exact iteT (k rfl _ q)⟩
theorem vx_or {ta tb : TE} {σ : L2.St} {H : Hp} {b c : Bool} (h : Vx ta σ H (.bl b)) (k : b = false → Vx tb σ H (.bl c)) : Vx (tOrV ta tb) σ H (.bl (b || c)) := fun Q q => h _ ⟨b, rfl, by
  cases b with
  | true => exact iteT q
  | false => exact iteF (k rfl _ q)⟩
theorem vx_neg {ta : TE} {σ : L2.St} {H : Hp} {i : Int} (h : Vx ta σ H (.int i)) : Vx (tUn (rU fun i => .int (-i)) ta) σ H (.int (-i)) := fun _ q => h _ ⟨i, rfl, q⟩
theorem vx_not {ta : TE} {σ : L2.St} {H : Hp} {b : Bool} (h : Vx ta σ H (.bl b)) : Vx (tNotV ta) σ H (.bl (!b)) := fun _ q => h _ ⟨b, rfl, q⟩
theorem ev_vx {te : TE} {σ : L2.St} {H : Hp} {v : V} (h : ∀ H', Evl.Ex H H' → Vx te σ H' v) : Evl.Ev te σ H v := fun H1 e Q q => h H1 e Q (q H1 (.refl _))
theorem el_lcT {K : PySem.W.Frag} {σ : L2.St} {H : Hp} {t : TT} {te : TE} {a : Addr} {xs : List V} {tl : TE} {j : Nat} {vs : List Nat} (f : Nat → Bool) (v : Nat → V) (h : Evl.Ev tl σ H (.ref a)) (hx : SqT K H a xs) (hz : xs.length ≤ 40000) (hw : ∀ x, wipe ((wipe σ vs).set j (some x)) vs = wipe σ vs)
    (ht : ∀ (i : Nat) (x : V) H1, Evl.Ex H H1 → xs[i]? = some x → Evl.EvT t ((wipe σ vs).set j (some x)) H1 (f i)) (he : ∀ (i : Nat) (x : V) H1, Evl.Ex H H1 → xs[i]? = some x → f i = true → Evl.Ev te ((wipe σ vs).set j (some x)) H1 (v i)) :
    Evl.EvL (tLc (iTup K tl) (gName j) t te vs) σ H (Evl.given xs.length f v) := fun H0 e Q q => h H0 e _ fun H1 e1 => ⟨a, rfl, ⟨xs, Evl.ex_t (e.trans e1) hx⟩, fun Dl hD =>
  lc_tup (xs := xs) (Evl.Cw H1 f v Dl) ⟨hD, Evl.Ex.new hD, upd_same⟩ (fun i H' _ p => Evl.ex_t ((e.trans e1).trans p.2.1) hx) (fun i x H' hi p => ⟨hw x, Evl.cw_turn p (by have := (List.getElem?_eq_some_iff.mp hi).1; omega) (ht i x H1 (e.trans e1) hi) (fun hf => he i x H1 (e.trans e1) hi hf)⟩)
    (fun H' p => q Dl H' (Evl.fresh_back e1 p.1) (e1.trans p.2.1) p.2.2)⟩
theorem given_map (ks : List Int) (f : Int → V) : Evl.given ks.length (fun _ => true) (fun i => f (ks.getD i 0)) = ks.map f := by
  unfold Evl.given
  rw [List.filter_eq_self.mpr (fun _ _ => rfl)]
  apply List.ext_getElem
  · simp
  · intro i h1 h2
    simp at h1
    simp [List.getD, h1]
/-- whether p lies within q -/
def wth (p q : Plan) : Bool := decide (p.1 = q.1) && p.2.all fun k => decide (p.2.count k ≤ q.2.count k)
def spWth (K : PySem.W.Frag) : Sp := fun vs H Q _ => ∃ (a b : Addr) (p q : Plan), vs = [.ref a, .ref b] ∧ FrameAt K H a p ∧ FrameAt K H b q ∧ PlanOk p ∧ PlanOk q ∧ ∀ H', Evl.Ex H H' → Q (.bl (wth p q)) H'
def spUpP (K : PySem.W.Frag) : Sp := fun vs H Q _ => ∃ (a : Addr) (p : Plan) (h : Nat) (x : Int), vs = [.ref a, .int (h : Nat), .int x] ∧ FrameAt K H a p ∧ PlanOk p ∧ h < p.hills ∧ Q (.bl (p.up h x)) H
section
variable {K : PySem.W.Frag}
theorem vx_deg {ta : TE} {σ : L2.St} {H : Hp} {a : Addr} {p : Plan} {E : XK} (h : Vx ta σ H (.ref a)) (f : FrameAt K H a p) : Vx (tProp (He.ga K "Frame") (spDeg K) [] E ta) σ H (.int (p.1 : Nat)) := fun Q q => by
  obtain ⟨dx, c, t, h1, h2, h3⟩ := id f
  exact h _ ⟨a, dx, _, rfl, h1, a, p, rfl, f, q⟩
theorem vx_knots {ta : TE} {σ : L2.St} {H : Hp} {a t : Addr} {p : Plan} {E : XK} (h : Vx ta σ H (.ref a)) (f : FrT K H a p t) : Vx (tProp (He.ga K "Frame") (spKnots K) [] E ta) σ H (.ref t) := fun Q q => by
  obtain ⟨dx, c, h1, h2, h3⟩ := id f
  exact h _ ⟨a, dx, _, rfl, h1, a, t, p, rfl, f, q⟩
theorem vx_hills {ta : TE} {σ : L2.St} {H : Hp} {a : Addr} {p : Plan} {E : XK} (h : Vx ta σ H (.ref a)) (f : FrameAt K H a p) (ok : PlanOk p) : Vx (tProp (He.ga K "Frame") (spHills K) [] E ta) σ H (.int (p.hills : Nat)) := fun Q q => by
  obtain ⟨dx, c, t, h1, h2, h3⟩ := id f
  exact h _ ⟨a, dx, _, rfl, h1, a, p, rfl, f, ok, q⟩
theorem vx_tcount {to te : TE} {σ : L2.St} {H : Hp} {t : Addr} {ks : List Int} {k : Int} (h : Vx to σ H (.ref t)) (ht : KnT H t ks) (he : Vx te σ H (.int k)) : Vx (tBMT (rTCnt K) to (tCons te tNil)) σ H (.int (ks.count k : Nat)) := fun Q q =>
  h _ ⟨⟨t, _, rfl, ht⟩, he _ ⟨t, ks, k, rfl, rfl, ht.sq, q⟩⟩
end
section
variable {P : Program} {w : World} {K : PySem.W.Frag} {mg : Str → Option Value} {base : Heap}
theorem scWth : FnScope ["frame", "other", "knot"] ["frame", "other"] (defScope st_d_within) := ⟨rfl, rfl, rfl, by decide +kernel, rfl, by decide +kernel, by decide +kernel⟩
theorem ok_wth (hx : Hx K mg) : Okf P w K mg base C8.CX0 3 (He.fAd K d_within.at_) ["frame", "other"] (spWth K) := by
  have hd := hx.toHd
  have ma : mg "all" = none := hd.free _ (by decide +kernel)
  have mF : mg "check_frame" = some (.ref (He.fAd K d_check_frame.at_)) := hd.glo _ (by decide +kernel)
  have F := ok_chkF (P := P) (w := w) (base := base) hx
  have c := hd.cls "Frame" (by decide +kernel)
  have D := ok_deg (P := P) (w := w) (base := base) hd
  have N := ok_knots (P := P) (w := w) (base := base) hd
  refine okf_of hd.f_d_within scWth (fun _ _ _ _ _ _ us hl => ?_) (fun vs H Q E h => ?_) (fun cdv A outer s H vs Q E hr h => ?_)
  · obtain ⟨a, b, rfl⟩ := us2 hl
    rfl
  · obtain ⟨x, p, _, _, rfl, _⟩ := h
    rfl
  · obtain ⟨a, b, ⟨g, ks⟩, ⟨g', ls⟩, rfl, fa, fb, oa, ob, k⟩ := h
    obtain ⟨t, ft⟩ := fa.t
    obtain ⟨t', ft'⟩ := fb.t
    refine ⟨_, pss_cons (ps_expr (pe_callR (E := E00) (F.run (hr.mono (by decide)) C8.pass0) (by rfl) mF F.kp (pa_cons (pv 0) pa_nil)))
      (pss_cons (ps_expr (pe_callR (E := E00) (F.run (hr.mono (by decide)) C8.pass0) (by rfl) mF F.kp (pa_cons (pv 1) pa_nil)))
      (pss_cons (ps_if (pt_cmpR op_ne (pe_propR (E := E00) c D hr C8.pass0 rfl (pv 0)) (pe_propR (E := E00) c D hr C8.pass0 rfl (pv 1)) (nomark _)) (pss_one (ps_ret pe_bl)) pss_nil)
      (pss_one (ps_ret (pe_callB (cr_all rfl) (by rfl) ma bo_all (pa_cons (pe_lc (own := [("knot", 2)]) (g := gName 2) (tt := tYes) rfl scWth.nd (pi_tup (pe_propR (E := E00) c N hr C8.pass0 rfl (pv 0))) (blkOk_by (N := ["frame", "other", "knot"]) (sc := defScope st_d_within) (by decide +kernel))
          (fun _ _ _ _ _ => pg_name (i := 2) scWth.nd rfl (Or.inl rfl)) (fun _ _ _ _ _ => pts_nil) (fun _ _ _ _ _ => pe_cmpR op_le (pe_bmT (r := rTCnt K) PySem.F.slot_tuple_count PySem.F.type_tuple_count mt_tcount (pe_propR (E := E00) c N hr C8.pass0 rfl (pv 0)) (pa_cons (pv 2) pa_nil)) (pe_bmT (r := rTCnt K) PySem.F.slot_tuple_count PySem.F.type_tuple_count mt_tcount (pe_propR (E := E00) c N hr C8.pass0 rfl (pv 1)) (pa_cons (pv 2) pa_nil)) (nomark _))) pa_nil)))))), ?_⟩
    obtain ⟨dx, c1, h1, h2, h3⟩ := id ft
    obtain ⟨dx', c1', g1, g2, g3⟩ := id ft'
    refine ⟨_, rfl, a, _, rfl, fa, _, rfl, b, _, rfl, fb, ?_⟩
    dsimp only
    by_cases e : g = g'
    · subst e
      have f1 : Fx (tTest (tOp rNe (tProp (He.ga K "Frame") (spDeg K) [] E00 (tVar 0)) (tProp (He.ga K "Frame") (spDeg K) [] E00 (tVar 1)))) [some (V.ref a), some (V.ref b), none] H false := by
        have := fx_test (vx_ne (vx_deg (E := E00) (K := K) (vx_var (σ := [some (V.ref a), some (V.ref b), none]) (i := 0) rfl) fa) (vx_deg (E := E00) (K := K) (vx_var (σ := [some (V.ref a), some (V.ref b), none]) (i := 1) rfl) fb) rfl)
        simpa using this
      refine i_seq (if_f f1 ?_)
      dsimp only [tNext]
      have lc : Evl.EvL (tLc (iTup K (tProp (He.ga K "Frame") (spKnots K) [] E00 (tVar 0))) (gName 2) tYes (tOp (rI0 fun i j => .bl (decide (i ≤ j))) (tBMT (rTCnt K) (tProp (He.ga K "Frame") (spKnots K) [] E00 (tVar 0)) (tCons (tVar 2) tNil)) (tBMT (rTCnt K) (tProp (He.ga K "Frame") (spKnots K) [] E00 (tVar 1)) (tCons (tVar 2) tNil))) [2]) [some (V.ref a), some (V.ref b), none] H ((ks.map fun k => decide ((ks.count k : Int) ≤ (ls.count k : Int))).map V.bl) := by
        have eg := given_map ks (fun k => V.bl (decide ((ks.count k : Int) ≤ (ls.count k : Int))))
        rw [List.map_map]
        show Evl.EvL _ _ _ (ks.map fun k => V.bl (decide ((ks.count k : Int) ≤ (ls.count k : Int))))
        rw [← eg, ← List.length_map (f := V.int)]
        refine el_lcT (K := K) (a := t) (xs := ks.map V.int) _ _ (ev_vx fun H' x => vx_knots (vx_var rfl) (ft.ex x)) h3.sq (by rw [List.length_map]; have := oa.len; simp only at this; omega) (fun x => rfl) (fun i x H1 x1 hx => fun _ _ _ q => q _ (.refl _)) (fun i x H1 x1 hx _ => ?_)
        obtain ⟨y, hy, rfl⟩ := Option.map_eq_some_iff.mp (List.getElem?_map .. ▸ hx)
        have ey : ks.getD i 0 = y := by simp [List.getD, hy]
        rw [ey]
        refine ev_vx fun H' x => vx_op0 (g := fun i j => .bl (decide (i ≤ j))) (vx_tcount (vx_knots (vx_var rfl) (ft.ex (x1.trans x))) ((h3.ex x1).ex x) (vx_var rfl)) (vx_tcount (vx_knots (vx_var rfl) (ft'.ex (x1.trans x))) ((g3.ex x1).ex x) (vx_var rfl))
      refine i_ret (i_cb (i_cons ?_))
      refine lc H (.refl _) _ fun p H1 hp y1 e1 => ⟨p, _, rfl, .of e1, ?_⟩
      have ew : (ks.map fun k => decide ((ks.count k : Int) ≤ (ls.count k : Int))).all id = wth (g, ks) (g, ls) := by
        unfold wth
        rw [List.all_map]
        simp
      rw [ew]
      exact k H1 y1
    · have f1 : Fx (tTest (tOp rNe (tProp (He.ga K "Frame") (spDeg K) [] E00 (tVar 0)) (tProp (He.ga K "Frame") (spDeg K) [] E00 (tVar 1)))) [some (V.ref a), some (V.ref b), none] H true := by
        have := fx_test (vx_ne (vx_deg (E := E00) (K := K) (vx_var (σ := [some (V.ref a), some (V.ref b), none]) (i := 0) rfl) fa) (vx_deg (E := E00) (K := K) (vx_var (σ := [some (V.ref a), some (V.ref b), none]) (i := 1) rfl) fb) rfl)
        have e2 : ¬ ((g : Int) = (g' : Int)) := fun z => e (by omega)
        simpa [e2, e] using this
      refine i_seq (if_t f1 ?_)
      have := k H (.refl _)
      have ew : wth (g, ks) (g', ls) = false := by
        unfold wth
        rw [decide_eq_false e]
        rfl
      rw [ew] at this
      exact this
theorem scUpP : FnScope ["frame", "hill", "place", "knots", "degree"] ["frame", "hill", "place"] (defScope st_d_is_up) := ⟨rfl, rfl, rfl, by decide +kernel, rfl, by decide +kernel, by decide +kernel⟩
theorem ok_upP (hx : Hx K mg) : Okf P w K mg base C8.CX0 3 (He.fAd K d_is_up.at_) ["frame", "hill", "place"] (spUpP K) := by
  have hd := hx.toHd
  have c := hd.cls "Frame" (by decide +kernel)
  have D := ok_deg (P := P) (w := w) (base := base) hd
  have N := ok_knots (P := P) (w := w) (base := base) hd
  refine okf_of hd.f_d_is_up scUpP (fun _ _ _ _ _ _ us hl => ?_) (fun vs H Q E h => ?_) (fun cdv A outer s H vs Q E hr h => ?_)
  · obtain ⟨a, b, c, rfl⟩ := us3 hl
    rfl
  · obtain ⟨a, p, h, x, rfl, _⟩ := h
    rfl
  · obtain ⟨a, ⟨g, ks⟩, h, x, rfl, fa, ok, hh, k⟩ := h
    obtain ⟨t, ft⟩ := fa.t
    obtain ⟨dx, c1, h1, h2, h3⟩ := id ft
    refine ⟨_, pss_cons (ps_par (i := 3) (j := 4) rfl scUpP.nd rfl rfl (by decide) rfl rfl (pa_cons (pe_propR (E := E00) c N hr C8.pass0 rfl (pv 0)) (pa_cons (pe_propR (E := E00) c D hr C8.pass0 rfl (pv 0)) pa_nil)) (by rfl))
      (pss_cons (ps_if (pt_chain op_lt op_lt (pe_ix ix_tup (pv 3) (pv 1) (fun _ _ => rfl)) (pv 2) (pe_ix ix_tup (pv 3) (pe_op op_add (pe_op op_add (pv 1) (pv 4)) pe_int) (fun _ _ => rfl))) (pss_one (ps_ret pe_bl)) pss_nil)
      (pss_cons (ps_if (pw_and (pt_cmpR op_eq (pv 2) (pe_ix ix_tup (pv 3) (pv 1) (fun _ _ => rfl)) (nomark _)) (pw_and1 (pt_cmpR op_eq (pv 2) (pe_ix ix_tup (pv 3) (pe_op op_add (pv 1) (pv 4)) (fun _ _ => rfl)) (nomark _)))).pt (pss_one (ps_ret pe_bl)) pss_nil)
      (pss_one (ps_ret (pe_and (pe_cmpR op_eq (pv 2) (pe_ix ix_tup (pv 3) (pe_un un_neg pe_int) (fun _ _ => rfl)) (nomark _)) (pe_one (pe_cmpR op_eq (pv 2) (pe_ix ix_tup (pv 3) (pe_op op_add (pv 1) pe_int) (fun _ _ => rfl)) (nomark _)))))))), ?_⟩
    have lo := ok.lo
    have hh' : h < ks.length - g - 1 := hh
    simp only at lo
    have ne : ks ≠ [] := by
      intro z
      rw [z] at hh'
      simp at hh'
    have a0 := at_int (ks := ks) (i := h) (by omega)
    have a1 : atI (ks.map V.int) ((h : Int) + (g : Nat) + 1) = some (.int (ks.getD (h + g + 1) 0)) := at_int' (by omega) (by omega)
    have a2 : atI (ks.map V.int) ((h : Int) + (g : Nat)) = some (.int (ks.getD (h + g) 0)) := at_int' (by omega) (by omega)
    have a3 : atI (ks.map V.int) ((h : Int) + 1) = some (.int (ks.getD (h + 1) 0)) := at_int' (by omega) (by omega)
    have a4 := at_lastD ne
    have eup : Plan.up (g, ks) h x = ((decide (ks.getD h 0 < x) && decide (x < ks.getD (h + g + 1) 0)) || ((decide (x = ks.getD h 0) && decide (x = ks.getD (h + g) 0)) || (decide (x = ks.getD (ks.length - 1) 0) && decide (x = ks.getD (h + 1) 0)))) := rfl
    rw [eup] at k
    refine vx_knots (vx_var rfl) ft _ (vx_deg (vx_var rfl) fa _ ⟨_, _, rfl, ?_⟩)
    dsimp only
    have fA := fx_test (vx_chain (f := fun i j => decide (i < j)) (g := fun i j => decide (i < j)) (σ := [some (V.ref a), some (V.int (h : Nat)), some (V.int x), some (V.ref t), some (V.int (g : Nat))]) (H := H) (vx_ixT (K := K) (ta := tVar 3) (tb := tVar 1) (vx_var rfl) (vx_var rfl) h3.sq a0) (vx_var (i := 2) rfl) (vx_ixT (K := K) (ta := tVar 3) (tb := tOp (rI0 fun i j => .int (i + j)) (tOp (rI0 fun i j => .int (i + j)) (tVar 1) (tVar 4)) (tC (.int 1))) (vx_var rfl) (vx_op0 (g := fun i j => .int (i + j)) (vx_op0 (g := fun i j => .int (i + j)) (vx_var rfl) (vx_var rfl)) vx_c) h3.sq a1))
    cases eA : (decide (ks.getD h 0 < x) && decide (x < ks.getD (h + g + 1) 0)) with
    | true =>
      rw [eA] at k fA
      refine i_seq (if_t fA ?_)
      exact k
    | false =>
      rw [eA] at k fA
      refine i_seq (if_f fA ?_)
      dsimp only [tNext]
      have fB := fx_and (fx_test (vx_eqI (σ := [some (V.ref a), some (V.int (h : Nat)), some (V.int x), some (V.ref t), some (V.int (g : Nat))]) (H := H) (vx_var (i := 2) rfl) (vx_ixT (K := K) (ta := tVar 3) (tb := tVar 1) (vx_var rfl) (vx_var rfl) h3.sq a0))) fun _ => (fx_test (vx_eqI (σ := [some (V.ref a), some (V.int (h : Nat)), some (V.int x), some (V.ref t), some (V.int (g : Nat))]) (H := H) (vx_var (i := 2) rfl) (vx_ixT (K := K) (ta := tVar 3) (tb := tOp (rI0 fun i j => .int (i + j)) (tVar 1) (tVar 4)) (vx_var rfl) (vx_op0 (g := fun i j => .int (i + j)) (vx_var rfl) (vx_var rfl)) h3.sq a2)))
      cases eB : (decide (x = ks.getD h 0) && decide (x = ks.getD (h + g) 0)) with
      | true =>
        rw [eB] at k fB
        refine i_seq (if_t fB ?_)
        exact k
      | false =>
        rw [eB] at k fB
        refine i_seq (if_f fB ?_)
        dsimp only [tNext]
        refine i_ret (vx_and (vx_eqI (vx_var rfl) (vx_ixT (vx_var rfl) (vx_neg vx_c) h3.sq a4)) (fun _ => vx_eqI (vx_var rfl) (vx_ixT (vx_var rfl) (vx_op0 (g := fun i j => .int (i + j)) (vx_var rfl) vx_c) h3.sq a3)) _ k)
end
end Bt
set_option Elab.async false
set_option linter.all false
set_option maxRecDepth 100000
set_option maxHeartbeats 4000000
/-! The program's table of lengths. -/
namespace Bt
open PySem PySem.Spec PyProof.Rows L2
/-- the table's row j, found from i on -/
def rowB (p : Plan) (xs : List Int) (j i : Nat) : List Int := (List.range (xs.length + 1)).map fun k => if i ≤ k then (dB p xs j k : Int) else 0
theorem rowB_len (p : Plan) (xs : List Int) (j i : Nat) : (rowB p xs j i).length = xs.length + 1 := by simp [rowB]
theorem rowB_at (p : Plan) (xs : List Int) (j i : Nat) {k : Nat} (h : k ≤ xs.length) (hi : i ≤ k) : (rowB p xs j i).getD k 0 = (dB p xs j k : Int) := by
  have : k < xs.length + 1 := by omega
  simp [rowB, List.getD, this, hi]
theorem rowB_top (p : Plan) (xs : List Int) (i : Nat) : rowB p xs p.hills i = List.replicate (xs.length + 1) 0 := by
  apply List.ext_getElem
  · simp [rowB]
  · intro k h1 h2
    simp [rowB, dB_h]
theorem rowB_end (p : Plan) (xs : List Int) (j : Nat) : rowB p xs j xs.length = List.replicate (xs.length + 1) 0 := by
  apply List.ext_getElem
  · simp [rowB]
  · intro k h1 h2
    simp only [rowB, List.getElem_map, List.getElem_range, List.getElem_replicate]
    split
    · have : k = xs.length := by
        simp [rowB] at h1
        omega
      subst this
      rw [dB_x]
      rfl
    · rfl
theorem rowB_set (p : Plan) (xs : List Int) (j : Nat) {i : Nat} (hi : i < xs.length) : (rowB p xs j (i + 1)).set i (dB p xs j i : Int) = rowB p xs j i := by
  apply List.ext_getElem
  · simp [rowB]
  · intro k h1 h2
    rw [List.getElem_set]
    simp only [rowB, List.getElem_map, List.getElem_range]
    by_cases e : i = k
    · subst e
      rw [if_pos rfl, if_pos (Nat.le_refl _)]
    · rw [if_neg e]
      by_cases c : i + 1 ≤ k
      · rw [if_pos c, if_pos (by omega)]
      · rw [if_neg c, if_neg (by omega)]
/-- the list f of the rows rs, row k being F k -/
structure TabAt (H : Hp) (f : Addr) (rs : List Addr) (F : Nat → List Int) : Prop where
  top : H f = some (.lst (rs.map V.ref))
  nd : rs.Nodup
  nf : f ∉ rs
  row : ∀ (k : Nat) (r : Addr), rs[k]? = some r → H r = some (.lst ((F k).map V.int))
theorem TabAt.ex {H H' : Hp} {f : Addr} {rs : List Addr} {F : Nat → List Int} (h : TabAt H f rs F) (x : Evl.Ex H H') : TabAt H' f rs F := ⟨x _ _ h.top, h.nd, h.nf, fun k r e => x _ _ (h.row k r e)⟩
theorem TabAt.set {H : Hp} {f : Addr} {rs : List Addr} {F : Nat → List Int} (h : TabAt H f rs F) {j : Nat} {r : Addr} (hr : rs[j]? = some r) (L : List Int) : TabAt (upd H r (.lst (L.map V.int))) f rs (fun k => if k = j then L else F k) := by
  have rm : r ∈ rs := List.mem_of_getElem? hr
  refine ⟨?_, h.nd, h.nf, fun k r' e => ?_⟩
  · rw [upd_ne (fun z => h.nf (by rw [z]; exact rm))]
    exact h.top
  · by_cases c : k = j
    · subst c
      rw [hr] at e
      cases e
      rw [upd_same, if_pos rfl]
    · rw [if_neg c, upd_ne]
      · exact h.row k r' e
      · intro z
        subst z
        exact c (by
          obtain ⟨hk, ek⟩ := List.getElem?_eq_some_iff.mp e
          obtain ⟨hj, ej⟩ := List.getElem?_eq_some_iff.mp hr
          have pw := List.pairwise_iff_getElem.mp h.nd
          rcases Nat.lt_trichotomy k j with z | z | z
          · exact absurd (ek.trans ej.symm) (pw k j hk hj z)
          · exact z
          · exact absurd (ej.trans ek.symm) (pw j k hj hk z))
def spLen (K : PySem.W.Frag) : Sp := fun vs H Q _ => ∃ (a b : Addr) (p : Plan) (xs : List Int), vs = [.ref a, .ref b] ∧ FrameAt K H a p ∧ PlanOk p ∧ H b = some (.tup (xs.map V.int)) ∧ xs.length ≤ 12 ∧
  ∀ (f : Addr) (rs : List Addr) (H' : Hp), Evl.Ex H H' → rs.length = p.hills + 1 → TabAt H' f rs (fun k => rowB p xs k 0) → Q (.ref f) H'
theorem vx_max2 {ta tb : TE} {σ : L2.St} {H : Hp} {i j : Int} (ha : Vx ta σ H (.int i)) (hb : Vx tb σ H (.int j)) : Vx (tCB (fun xs H Q => ∃ i j, xs = [.int i, .int j] ∧ Q (.int (if j > i then j else i)) H) (tCons ta (tCons tb tNil))) σ H (.int (if j > i then j else i)) := fun _ q => ha _ (hb _ ⟨i, j, rfl, q⟩)
theorem yes_if {σ : L2.St} {H : Hp} {f g : Hp → Prop} (h : f H) : tYes σ H fun b H3 => if b = true then f H3 else g H3 := h
theorem at_ref {rs : List Addr} {k : Nat} {i : Int} {r : Addr} (e : i = (k : Int)) (h : rs[k]? = some r) : atI (rs.map V.ref) i = some (.ref r) := by
  rw [e, atI_nat (v := .ref r)]
  simp [h]
theorem get_row {rs : List Addr} {n k : Nat} (hl : rs.length = n) (h : k < n) : ∃ r, rs[k]? = some r := ⟨rs[k]'(by omega), List.getElem?_eq_getElem (by omega)⟩
theorem TabAt.cong {H : Hp} {f : Addr} {rs : List Addr} {F G : Nat → List Int} (h : TabAt H f rs F) (e : ∀ k, k < rs.length → F k = G k) : TabAt H f rs G := ⟨h.top, h.nd, h.nf, fun k r q => by rw [← e k (List.getElem?_eq_some_iff.mp q).1]; exact h.row k r q⟩
section
variable {P : Program} {w : World} {K : PySem.W.Frag} {mg : Str → Option Value} {base : Heap}
theorem scLen : FnScope ["frame", "places", "hills", "many", "found", "hill", "index", "best"] ["frame", "places"] (defScope st_d_lengths_from) := ⟨rfl, rfl, rfl, by decide +kernel, rfl, by decide +kernel, by decide +kernel⟩
theorem ok_len (hx : Hx K mg) : Okf P w K mg base C8.CX0 4 (He.fAd K d_lengths_from.at_) ["frame", "places"] (spLen K) := by
  have hd := hx.toHd
  have c := hd.cls "Frame" (by decide +kernel)
  have HI := ok_hills (P := P) (w := w) (base := base) hd
  have U := ok_upP (P := P) (w := w) (base := base) hx
  have ml : mg "len" = none := hd.free _ (by decide +kernel)
  have mr : mg "range" = none := hd.free _ (by decide +kernel)
  have mm : mg "max" = none := hd.free _ (by decide +kernel)
  have mU : mg "is_up" = some (.ref (He.fAd K d_is_up.at_)) := hd.glo _ (by decide +kernel)
  refine okf_of hd.f_d_lengths_from scLen (fun _ _ _ _ _ _ us hl => ?_) (fun vs H Q E h => ?_) (fun cdv A outer s H vs Q E hr h => ?_)
  · obtain ⟨a, b, rfl⟩ := us2 hl
    rfl
  · obtain ⟨a, b, p, xs, rfl, _⟩ := h
    rfl
  · obtain ⟨a, b, p, xs, rfl, fa, ok, hb, hz, k⟩ := h
    refine ⟨_, pss_cons (ps_asg (pe_tup (pa_cons (pe_propR (E := E00) c HI (hr.mono (by decide)) C8.pass0 rfl (pv 0)) (pa_cons (pe_callB call_len_seq (by rfl) ml bo_len (pa_cons (pv 1) pa_nil)) pa_nil))) (pg_tup rfl (pgs_cons (pg_name (i := 2) scLen.nd rfl (.inl rfl)) (pgs_cons (pg_name (i := 3) scLen.nd rfl (.inr rfl)) pgs_nil))))
      (pss_cons (ps_setLc (i := 4) (own := [("hill", 5)]) (g := gName 5) (tt := tYes) rfl scLen.nd rfl rfl rfl (pi_range1 (by rfl) mr (pa_cons (pe_op op_add (pv 2) pe_int) pa_nil)) (blkOk_by (N := ["frame", "places", "hills", "many", "found", "hill", "index", "best"]) (sc := defScope st_d_lengths_from) (by decide +kernel))
          (fun _ _ _ _ _ => pg_name (i := 5) scLen.nd rfl (Or.inl rfl)) (fun _ _ _ _ _ => pts_nil) (fun _ _ _ _ _ => pe_lc (own := [("index", 6)]) (g := gName 6) (tt := tYes) rfl scLen.nd (pi_range1 (by rfl) mr (pa_cons (pe_op op_add (pv 3) pe_int) pa_nil)) (blkOk_by (by rfl))
            (fun _ _ _ _ _ => pg_name (i := 6) scLen.nd rfl (Or.inl rfl)) (fun _ _ _ _ _ => pts_nil) (fun _ _ _ _ _ => pe_int)))
      (pss_cons (ps_for PassesOwn.leaving rfl (pi_range3 (by rfl) mr (pa_cons (pe_op op_sub (pv 2) pe_int) (pa_cons (pe_un un_neg pe_int) (pa_cons (pe_un un_neg pe_int) pa_nil)))) (pg_name (i := 5) scLen.nd rfl (.inl rfl))
        (pss_one (ps_for PassesOwn.leaving rfl (pi_range3 (by rfl) mr (pa_cons (pe_op op_sub (pv 3) pe_int) (pa_cons (pe_un un_neg pe_int) (pa_cons (pe_un un_neg pe_int) pa_nil)))) (pg_name (i := 6) scLen.nd rfl (.inl rfl))
          (pss_cons (ps_set (i := 7) scLen.nd rfl (.inl rfl) (pe_callB (call_max2 rfl) (by rfl) mm bo_max (pa_cons (pe_ix ix_list (pe_ix ix_list (pv 4) (pe_op op_add (pv 5) pe_int) (fun _ _ => rfl)) (pv 6) (fun _ _ => rfl)) (pa_cons (pe_ix ix_list (pe_ix ix_list (pv 4) (pv 5) (fun _ _ => rfl)) (pe_op op_add (pv 6) pe_int) (fun _ _ => rfl)) pa_nil))))
          (pss_cons (ps_if (pt_val (pe_callR (E := E00) (U.run hr C8.pass0) (by rfl) mU U.kp (pa_cons (pv 0) (pa_cons (pv 5) (pa_cons (pe_ix ix_tup (pv 1) (pv 6) (fun _ _ => rfl)) pa_nil)))))
            (pss_one (ps_set (i := 7) scLen.nd rfl (.inl rfl) (pe_callB (call_max2 rfl) (by rfl) mm bo_max (pa_cons (pv 7) (pa_cons (pe_op op_add (pe_ix ix_list (pe_ix ix_list (pv 4) (pe_op op_add (pv 5) pe_int) (fun _ _ => rfl)) (pe_op op_add (pv 6) pe_int) (fun _ _ => rfl)) pe_int) pa_nil))))) pss_nil)
          (pss_one (ps_asg (pv 7) (pg_sub (pe_ix ix_list (pv 4) (pv 5) (fun _ _ => rfl)) (pv 6) set_list))))))))
      (pss_one (ps_ret (pv 4))))), ?_⟩
    have ten := ok.ten
    have pos := ok.pos
    refine vx_hills (E := E00) (vx_var rfl) fa ok _ ⟨_, rfl, b, _, rfl, .inr (.of hb), szl (by simp), fun p3 hp3 => ⟨p3, _, rfl, .of upd_same, rfl, _, _, rfl, _, _, rfl, rfl, ?_⟩⟩
    have x1 : Evl.Ex H (upd H p3 (.tup [.int (p.hills : Nat), .int ((xs.map V.int).length : Nat)])) := .new hp3
    generalize (upd H p3 (.tup [.int (p.hills : Nat), .int ((xs.map V.int).length : Nat)])) = H1 at x1 ⊢
    rw [List.length_map]
    dsimp only
    refine i_seq (i_asg ⟨_, rfl, _, _, rfl, rfl, _, rfl, by omega, by omega, fun Dl hD => ?_⟩)
    have hDf := Evl.fresh_back x1 hD
    refine lc_range (lo := 0) (fun i H' => ∃ rs : List Addr, Evl.Ex H H' ∧ H' Dl = some (.lst (rs.map V.ref)) ∧ rs.length = i ∧ rs.Nodup ∧ Dl ∉ rs ∧ ∀ r ∈ rs, H r = none ∧ H' r = some (.lst ((List.replicate (xs.length + 1) (0 : Int)).map V.int))) ⟨[], x1.trans (.new hD), upd_same, rfl, by simp, by simp, by simp⟩ (fun i H' hi h => ⟨rfl, ?_⟩) (fun H' h => ?_)
    · obtain ⟨rs, x2, d2, len, nd, nf, row⟩ := h
      have lc : Evl.EvL (tLc (iRng1 (tCons (tOp (rI0 fun i j => .int (i + j)) (tVar 3) (tC (.int 1))) tNil)) (gName 6) tYes (tC (.int 0)) [6]) [some (V.ref a), some (V.ref b), some (V.int (p.hills : Nat)), some (V.int (xs.length : Nat)), none, some (V.int (0 + (i : Nat))), none, none] H' ((List.replicate (xs.length + 1) (0 : Int)).map V.int) := by
        have eg : Evl.given ((xs.length : Int) + 1).toNat (fun _ => true) (fun _ => V.int 0) = (List.replicate (xs.length + 1) (0 : Int)).map V.int := by
          unfold Evl.given
          rw [List.filter_eq_self.mpr (fun _ _ => rfl), show ((xs.length : Int) + 1).toNat = xs.length + 1 from by omega]
          apply List.ext_getElem
          · simp
          · intro i h1 h2
            simp
        rw [← eg]
        refine Evl.el_lcR1 _ _ (fun H1 e1 Q q => vx_op0 (g := fun i j => .int (i + j)) (vx_var rfl) vx_c _ (q _ (.refl _))) (by omega) (fun x => rfl) (fun i H1 x1 hi => fun _ _ _ q => q _ (.refl _)) (fun i H1 x1 hi _ => Evl.ev_c)
      refine yes_if ?_
      refine lc H' (.refl _) _ fun q H2 hq y1 e1 => ⟨rs.map V.ref, y1 _ _ d2, szlt (by simp; omega), rs ++ [q], ?_, ?_, by simp [len], ?_, ?_, fun r hr' => ?_⟩
      · exact (x2.trans y1).mut hDf
      · rw [upd_same, List.map_append]
        rfl
      · rw [List.nodup_append]
        refine ⟨nd, by simp, fun r hr' q' hq' z => ?_⟩
        rw [List.mem_singleton] at hq'
        subst hq' z
        rw [(row _ hr').2] at hq
        cases hq
      · intro hm
        rcases List.mem_append.mp hm with z | z
        · exact nf z
        · rw [List.mem_singleton] at z
          rw [← z, d2] at hq
          cases hq
      · rcases List.mem_append.mp hr' with z | z
        · refine ⟨(row r z).1, ?_⟩
          rw [upd_ne (fun e => nf (by rw [← e]; exact z))]
          exact y1 _ _ (row r z).2
        · rw [List.mem_singleton] at z
          subst z
          refine ⟨Evl.fresh_back x2 hq, ?_⟩
          rw [upd_ne (fun e => by rw [e, d2] at hq; cases hq)]
          exact e1
    · obtain ⟨rs, x2, d2, len, nd, nf, row⟩ := h
      have t0 : TabAt H' Dl rs (fun k => if p.hills ≤ k + 0 then rowB p xs k 0 else rowB p xs k xs.length) := by
        refine ⟨d2, nd, nf, fun k r e => ?_⟩
        have hk : k < rs.length := (List.getElem?_eq_some_iff.mp e).1
        rw [(row r (List.mem_of_getElem? e)).2]
        split
        · have : k = p.hills := by omega
          subst this
          rw [rowB_top]
        · rw [rowB_end]
      have fresh : ∀ r ∈ rs, H r = none := fun r hr' => (row r hr').1
      have len' : rs.length = p.hills + 1 := by omega
      dsimp only
      refine i_seq ⟨_, rfl, _, _, rfl, rfl, 1, rfl, 1, rfl, _, _, _, _, rfl, RgC.neg (by omega) (by omega) (by decide) (by decide), ?_⟩
      have en : ((p.hills : Int) - 1 - -1).toNat = p.hills := by omega
      rw [en]
      refine for_rangeC (fun i σ' H' => ∃ o5 o6 o7, σ' = [some (V.ref a), some (V.ref b), some (V.int (p.hills : Nat)), some (V.int (xs.length : Nat)), some (V.ref Dl), o5, o6, o7] ∧ Evl.Ex H H' ∧ TabAt H' Dl rs (fun k => if p.hills ≤ k + i then rowB p xs k 0 else rowB p xs k xs.length))
        ⟨none, none, none, rfl, x2, t0⟩ (fun i σ' H' hi h => ?_) (fun σ' H' h => ?_)
      · obtain ⟨o5, o6, o7, rfl, x3, tb⟩ := h
        obtain ⟨j, ej⟩ : ∃ j, j = p.hills - 1 - i := ⟨_, rfl⟩
        have eI : (p.hills : Int) - 1 + (i : Nat) * -1 = (j : Int) := by omega
        rw [eI]
        dsimp only
        refine ⟨_, rfl, _, _, rfl, rfl, 1, rfl, 1, rfl, _, _, _, _, rfl, RgC.neg (by omega) (by omega) (by decide) (by decide), ?_⟩
        have em : ((xs.length : Int) - 1 - -1).toNat = xs.length := by omega
        rw [em]
        refine for_rangeC (fun i2 σ' H' => ∃ o6 o7, σ' = [some (V.ref a), some (V.ref b), some (V.int (p.hills : Nat)), some (V.int (xs.length : Nat)), some (V.ref Dl), some (V.int (j : Nat)), o6, o7] ∧ Evl.Ex H H' ∧ TabAt H' Dl rs (fun k => if p.hills ≤ k + i then rowB p xs k 0 else if k = j then rowB p xs j (xs.length - i2) else rowB p xs k xs.length))
          ⟨o6, o7, rfl, x3, tb.cong fun k hk => ?_⟩ (fun i2 σ' H' hi2 h => ?_) (fun σ' H' h => ?_)
        · split
          · rfl
          · split
            · rename_i z
              rw [z]
              rfl
            · rfl
        · obtain ⟨o6, o7, rfl, x4, tb4⟩ := h
          obtain ⟨q, eq⟩ : ∃ q, q = xs.length - 1 - i2 := ⟨_, rfl⟩
          have eQ : (xs.length : Int) - 1 + (i2 : Nat) * -1 = (q : Int) := by omega
          have eL : xs.length - i2 = q + 1 := by omega
          rw [eQ]
          obtain ⟨r0, g0⟩ := get_row (k := j) len' (by omega)
          obtain ⟨r1, g1⟩ := get_row (k := j + 1) len' (by omega)
          have w1 := tb4.row _ _ g1
          have w0 := tb4.row _ _ g0
          rw [if_pos (show p.hills ≤ j + 1 + i by omega)] at w1
          rw [if_neg (show ¬ p.hills ≤ j + i by omega), if_pos rfl, eL] at w0
          have a10 : atI ((rowB p xs (j + 1) 0).map V.int) (q : Int) = some (.int (dB p xs (j + 1) q : Nat)) := by
            rw [at_int' (j := q) rfl (by rw [rowB_len]; omega), rowB_at p xs _ _ (by omega) (by omega)]
          have a01 : atI ((rowB p xs j (q + 1)).map V.int) ((q : Int) + 1) = some (.int (dB p xs j (q + 1) : Nat)) := by
            rw [at_int' (j := q + 1) (by omega) (by rw [rowB_len]; omega), rowB_at p xs _ _ (by omega) (by omega)]
          have a11 : atI ((rowB p xs (j + 1) 0).map V.int) ((q : Int) + 1) = some (.int (dB p xs (j + 1) (q + 1) : Nat)) := by
            rw [at_int' (j := q + 1) (by omega) (by rw [rowB_len]; omega), rowB_at p xs _ _ (by omega) (by omega)]
          have hq : q < xs.length := by omega
          have ax : atI (xs.map V.int) (q : Int) = some (.int xs[q]) := by
            rw [at_int' (j := q) rfl hq]
            simp [List.getD, hq]
          have ej0 : atI (rs.map V.ref) (j : Int) = some (.ref r0) := at_ref rfl g0
          have ej1 : atI (rs.map V.ref) ((j : Int) + 1) = some (.ref r1) := at_ref (by omega) g1
          have st := dB_step p xs (i := q) (j := j) (by omega) hq
          dsimp only
          refine i_seq (i_asg (vx_max2 (vx_ixL (K := K) (vx_ixL (K := K) (vx_var rfl) (vx_op0 (g := fun i j => .int (i + j)) (vx_var rfl) vx_c) tb4.top ej1) (vx_var rfl) w1 a10) (vx_ixL (K := K) (vx_ixL (K := K) (vx_var rfl) (vx_var rfl) tb4.top ej0) (vx_op0 (g := fun i j => .int (i + j)) (vx_var rfl) vx_c) w0 a01) _ ?_))
          generalize eb : (if ((dB p xs j (q + 1) : Nat) : Int) > ((dB p xs (j + 1) q : Nat) : Int) then ((dB p xs j (q + 1) : Nat) : Int) else ((dB p xs (j + 1) q : Nat) : Int)) = best
          have fin : ∀ (v : Int) (D : Ends), v = (dB p xs j q : Nat) → (∀ H'', Evl.Ex H H'' → TabAt H'' Dl rs (fun k => if p.hills ≤ k + i then rowB p xs k 0 else if k = j then rowB p xs j (xs.length - (i2 + 1)) else rowB p xs k xs.length) → D.nx [some (V.ref a), some (V.ref b), some (V.int (p.hills : Nat)), some (V.int (xs.length : Nat)), some (V.ref Dl), some (V.int (j : Nat)), some (V.int (q : Nat)), some (V.int v)] H'') →
              tAsg (tVar 7) (gSub (tOp (rIxL K) (tVar 4) (tVar 5)) (tVar 6) L2.rSetL) D [some (V.ref a), some (V.ref b), some (V.int (p.hills : Nat)), some (V.int (xs.length : Nat)), some (V.ref Dl), some (V.int (j : Nat)), some (V.int (q : Nat)), some (V.int v)] H' := fun v D ev kk => by
            refine ⟨_, rfl, vx_ixL (K := K) (ta := tVar 4) (tb := tVar 5) (vx_var rfl) (vx_var rfl) tb4.top ej0 _ ⟨_, rfl, r0, _, _, q, rfl, rfl, w0, ?_, ?_⟩⟩
            · unfold ixN
              rw [if_pos (by omega), List.length_map, rowB_len, if_pos (by omega)]
              rfl
            · have e1 : ((rowB p xs j (q + 1)).map V.int).set q (.int v) = ((rowB p xs j q).map V.int) := by
                rw [← rowB_set p xs j hq, List.map_set, ev]
              rw [e1]
              refine kk _ (x4.mut (fresh r0 (List.mem_of_getElem? g0))) ((tb4.set g0 (rowB p xs j q)).cong fun k hk => ?_)
              by_cases c2 : k = j
              · rw [if_pos c2, if_neg (by omega), if_pos c2, show xs.length - (i2 + 1) = q by omega]
              · rw [if_neg c2]
                by_cases c1 : p.hills ≤ k + i
                · rw [if_pos c1, if_pos c1]
                · rw [if_neg c1, if_neg c1, if_neg c2, if_neg c2]
          dsimp only
          refine i_seq ⟨_, rfl, _, rfl, vx_ixT (K := K) (ta := tVar 1) (tb := tVar 6) (vx_var rfl) (vx_var rfl) (.of (x4 _ _ hb)) ax _ ⟨a, p, j, xs[q], rfl, fa.ex x4, ok, by omega, _, rfl, ?_⟩⟩
          cases eu : p.up j xs[q] with
          | true =>
            rw [eu, if_pos rfl] at st
            refine iteT ?_
            dsimp only [tNext]
            refine i_asg (vx_max2 (vx_var rfl) (vx_op0 (g := fun i j => .int (i + j)) (vx_ixL (K := K) (vx_ixL (K := K) (vx_var rfl) (vx_op0 (g := fun i j => .int (i + j)) (vx_var rfl) vx_c) tb4.top ej1) (vx_op0 (g := fun i j => .int (i + j)) (vx_var rfl) vx_c) w1 a11) vx_c) _ ?_)
            refine fin _ _ ?_ fun H'' x5 tb5 => ⟨_, _, rfl, x5, tb5⟩
            rw [st, ← eb]
            split <;> split <;> omega
          | false =>
            rw [eu, if_neg (show ¬ (false = true) by decide)] at st
            refine iteF ?_
            dsimp only [tNext]
            refine fin _ _ ?_ fun H'' x5 tb5 => ⟨_, _, rfl, x5, tb5⟩
            rw [st, ← eb]
            split <;> omega
        · obtain ⟨o6, o7, rfl, x4, tb4⟩ := h
          refine ⟨_, _, _, rfl, x4, tb4.cong fun k hk => ?_⟩
          rw [Nat.sub_self]
          by_cases c1 : p.hills ≤ k + i
          · rw [if_pos c1, if_pos (by omega)]
          · rw [if_neg c1]
            by_cases c2 : k = j
            · rw [if_pos c2, if_pos (by omega), c2]
            · rw [if_neg c2, if_neg (by omega)]
      · obtain ⟨o5, o6, o7, rfl, x3, tb⟩ := h
        exact ⟨_, rfl, k Dl rs H' x3 len' (tb.cong fun k hk => if_pos (by omega))⟩
def spRk (K : PySem.W.Frag) : Sp := fun vs H Q _ => ∃ (a b : Addr) (p : Plan) (xs : List Int), vs = [.ref a, .ref b] ∧ FrameAt K H a p ∧ PlanOk p ∧ H b = some (.tup (xs.map V.int)) ∧ SpotsOk xs ∧ ∀ H', Evl.Ex H H' → Q (.int (rk p xs : Nat)) H'
def spBoth (K : PySem.W.Frag) : Sp := fun vs H Q _ => ∃ (a b : Addr) (p : Plan) (xs : List Int), vs = [.ref a, .ref b] ∧ FrameAt K H a p ∧ H b = some (.tup (xs.map V.int)) ∧ SpotsOk xs ∧ ∀ H', Evl.Ex H H' → Q .non H'
theorem scRk : FnScope ["frame", "places"] ["frame", "places"] (defScope st_d_rank_of) := ⟨rfl, rfl, rfl, by decide +kernel, rfl, by decide +kernel, by decide +kernel⟩
theorem ok_rkof (hx : Hx K mg) : Okf P w K mg base C8.CX0 5 (He.fAd K d_rank_of.at_) ["frame", "places"] (spRk K) := by
  have hd := hx.toHd
  have L := ok_len (P := P) (w := w) (base := base) hx
  have mL : mg "lengths_from" = some (.ref (He.fAd K d_lengths_from.at_)) := hd.glo _ (by decide +kernel)
  refine okf_of hd.f_d_rank_of scRk (fun _ _ _ _ _ _ us hl => ?_) (fun vs H Q E h => ?_) (fun cdv A outer s H vs Q E hr h => ?_)
  · obtain ⟨a, b, rfl⟩ := us2 hl
    rfl
  · obtain ⟨a, b, p, xs, rfl, _⟩ := h
    rfl
  · obtain ⟨a, b, p, xs, rfl, fa, ok, hb, so, k⟩ := h
    refine ⟨_, pss_one (ps_ret (pe_ix ix_list (pe_ix ix_list (pe_callR (E := E00) (L.run hr C8.pass0) (by rfl) mL L.kp (pa_cons (pv 0) (pa_cons (pv 1) pa_nil))) pe_int (fun _ _ => rfl)) pe_int (fun _ _ => rfl))), ?_⟩
    refine ⟨_, rfl, _, rfl, a, b, p, xs, rfl, fa, ok, hb, so.few, fun f rs H' x len tb => ?_⟩
    obtain ⟨r0, g0⟩ := get_row (k := 0) len (by omega)
    have w0 := tb.row _ _ g0
    have a0 : atI ((rowB p xs 0 0).map V.int) 0 = some (.int (rk p xs : Nat)) := by
      have := at_int' (ks := rowB p xs 0 0) (i := 0) (j := 0) rfl (by rw [rowB_len]; omega)
      rw [this, rowB_at p xs _ _ (by omega) (by omega), dB_all]
    exact ⟨f, _, _, _, rfl, rfl, .of tb.top, at_ref (k := 0) rfl g0, r0, _, _, _, rfl, rfl, .of w0, a0, k H' x⟩
theorem scBoth : FnScope ["frame", "places"] ["frame", "places"] (defScope st_d_check_both) := ⟨rfl, rfl, rfl, by decide +kernel, rfl, by decide +kernel, by decide +kernel⟩
theorem ok_both (hx : Hx K mg) : Okf P w K mg base C8.CX0 6 (He.fAd K d_check_both.at_) ["frame", "places"] (spBoth K) := by
  have hd := hx.toHd
  have F := ok_chkF (P := P) (w := w) (base := base) hx
  have C := ok_chk (P := P) (w := w) (base := base) hd
  have mF : mg "check_frame" = some (.ref (He.fAd K d_check_frame.at_)) := hd.glo _ (by decide +kernel)
  have mC : mg "check_places" = some (.ref (He.fAd K d_check_places.at_)) := hd.glo _ (by decide +kernel)
  refine okf_of hd.f_d_check_both scBoth (fun _ _ _ _ _ _ us hl => ?_) (fun vs H Q E h => ?_) (fun cdv A outer s H vs Q E hr h => ?_)
  · obtain ⟨a, b, rfl⟩ := us2 hl
    rfl
  · obtain ⟨a, b, p, xs, rfl, _⟩ := h
    rfl
  · obtain ⟨a, b, p, xs, rfl, fa, hb, so, k⟩ := h
    refine ⟨_, pss_cons (ps_expr (pe_callR (E := E00) (F.run (hr.mono (by decide)) C8.pass0) (by rfl) mF F.kp (pa_cons (pv 0) pa_nil)))
      (pss_one (ps_expr (pe_callR (E := E00) (C.run hr C8.pass0) (by rfl) mC C.kp (pa_cons (pv 1) pa_nil)))), ?_⟩
    exact ⟨_, rfl, a, p, rfl, fa, _, rfl, b, xs, rfl, hb, so, fun H' x => k H' x⟩
theorem scRank : FnScope ["frame", "places"] ["frame", "places"] (defScope st_d_rank) := ⟨rfl, rfl, rfl, by decide +kernel, rfl, by decide +kernel, by decide +kernel⟩
theorem ok_rank (hx : Hx K mg) : Okf P w K mg base C8.CX0 7 (He.fAd K d_rank.at_) ["frame", "places"] (spRk K) := by
  have hd := hx.toHd
  have B := ok_both (P := P) (w := w) (base := base) hx
  have R := ok_rkof (P := P) (w := w) (base := base) hx
  have mB : mg "check_both" = some (.ref (He.fAd K d_check_both.at_)) := hd.glo _ (by decide +kernel)
  have mR : mg "rank_of" = some (.ref (He.fAd K d_rank_of.at_)) := hd.glo _ (by decide +kernel)
  refine okf_of hd.f_d_rank scRank (fun _ _ _ _ _ _ us hl => ?_) (fun vs H Q E h => ?_) (fun cdv A outer s H vs Q E hr h => ?_)
  · obtain ⟨a, b, rfl⟩ := us2 hl
    rfl
  · obtain ⟨a, b, p, xs, rfl, _⟩ := h
    rfl
  · obtain ⟨a, b, p, xs, rfl, fa, ok, hb, so, k⟩ := h
    refine ⟨_, pss_cons (ps_expr (pe_callR (E := E00) (B.run hr C8.pass0) (by rfl) mB B.kp (pa_cons (pv 0) (pa_cons (pv 1) pa_nil))))
      (pss_one (ps_ret (pe_callR (E := E00) (R.run (hr.mono (by decide)) C8.pass0) (by rfl) mR R.kp (pa_cons (pv 0) (pa_cons (pv 1) pa_nil))))), ?_⟩
    exact ⟨_, rfl, _, rfl, a, b, p, xs, rfl, fa, hb, so, fun H1 x1 => ⟨_, rfl, _, rfl, a, b, p, xs, rfl, fa.ex x1, ok, x1 _ _ hb, so, fun H2 x2 => k H2 (x1.trans x2)⟩⟩
end
end Bt
set_option Elab.async false
set_option linter.all false
set_option maxRecDepth 100000
set_option maxHeartbeats 4000000
/-! Claims: what they are, how they are asked. -/
namespace Bt
open PySem PySem.Spec PyProof.Rows L2
/-- d.get(x, y), d a written dict that has x -/
def tKGet2 (K : PySem.W.Frag) (w : World) (td ty tx : TE) : TE := fun σ H Q => td σ H fun x H1 => ∃ p es n, x = .ref p ∧ K.lookup p = some ⟨.type "dict", none, .dict es n, #[]⟩ ∧ PySem.W.KeysLit w.params es.toList ∧ (p == sysModules) = false ∧
  ty σ H1 fun y H2 => tx σ H2 fun _ H3 => ∃ (z : Str) (v : V) (u : Value), y = .str z ∧ PySem.W.nsIn K p z = some (some u) ∧ RelV v u ∧ Q v H3
section
variable {X : Cx} {o e f : Expr} {td ty tx : TE} {apos cpos : Pos}
theorem pe_kget2 (ho : PE X o td) (he : PE X e ty) (hf : PE X f tx) (m : M2 X o "get" apos e f cpos) : PE X (.Call (.Attribute o "get" apos) [e, f] [] cpos) (tKGet2 X.K X.w td ty tx) := by
  refine ⟨fun pins s σ H Q I h => ?_⟩
  refine wpAny_Call_method m.base m.few m.line PySem.F.plainAttrs_dict PySem.F.slot_dict_get PySem.F.type_dict_get (thn (ho.run pins s σ H _ I h) fun u s1 ⟨x, H1, I1, rx, p, es, n, ex, hl, hk, hs, q1⟩ => ?_)
  subst ex
  obtain rfl : u = Value.ref p := rx
  have hg := I1.kIn p _ hl
  refine ⟨⟨_, hg, rfl⟩, fun a ea => by cases ea; exact ⟨_, hg, rfl⟩, ?_⟩
  rw [m.trees]
  refine Calls.callWith_builtin rfl (Calls.evalArgs_plain (Calls.spliced_cons (thn (he.run pins s1 σ H1 _ I1 q1) fun iv s2 ⟨y, H2, I2, ry, q2⟩ =>
    Calls.spliced_cons (thn (hf.run pins s2 σ H2 _ I2 q2) fun fv s3 ⟨z, H3, I3, rz, zs, v, u', ey, en, rv, q3⟩ => Calls.spliced_nil ?_))))
  subst ey
  obtain ⟨t, rfl⟩ := (show ∃ t, iv = Value.str zs t from ry)
  have hm := PySem.W.mapOf_K (prog := X.prog) (w := X.w) I3.kIn hl hk
  refine call_meetsIn PySem.F.slot_dict_get hm.typeIs PySem.F.entry_dict_get (PySem.F.args_dict_get_3 _ _ _) (meets_dict_get_default (strKind X.prog X.w) p (strKind_is X.prog X.w zs t) hs fv) ⟨_, hm, ?_⟩
  have e1 := PySem.W.find_K hl en
  show ∃ _ _, _
  rw [e1]
  exact ⟨v, H3, I3.tok _, rv, q3⟩
end
/-- what is wished of the shelf -/
inductive Wish where
  | within (t o : Str)
  | rank (t : Str) (xs : List Int) (k : Int)
  | kind (all : Bool) (t : Str) (xs : List Int)
def kindS (all : Bool) : Str := if all then "all" else "one"
def WishAt (H : Hp) (a : Addr) : Wish → Prop
  | .within t o => H a = some (.tup [.str "within", .str t, .str o])
  | .rank t xs k => ∃ s, H a = some (.tup [.str "rank", .str t, .ref s, .int k]) ∧ H s = some (.tup (xs.map V.int))
  | .kind all t xs => ∃ s, H a = some (.tup [.str (kindS all), .str t, .ref s]) ∧ H s = some (.tup (xs.map V.int))
theorem WishAt.ex {a : Addr} {H H' : Hp} : ∀ {w : Wish}, WishAt H a w → Evl.Ex H H' → WishAt H' a w
  | .within _ _, h, x => x _ _ h
  | .rank _ _ _, ⟨s, h1, h2⟩, x => ⟨s, x _ _ h1, x _ _ h2⟩
  | .kind _ _ _, ⟨s, h1, h2⟩, x => ⟨s, x _ _ h1, x _ _ h2⟩
def NameOk (t : Str) : Prop := t = "a" ∨ t = "side"
def WishOk : Wish → Prop
  | .within t o => NameOk t ∧ NameOk o
  | .rank t xs k => NameOk t ∧ SpotsOk xs ∧ 0 ≤ k ∧ k ≤ 12
  | .kind _ t xs => NameOk t ∧ SpotsOk xs
/-- the names of a wish -/
def Wish.names : Wish → List Str
  | .within t o => [t, o]
  | .rank t _ _ => [t]
  | .kind _ t _ => [t]
/-- what else the top has left: the sizes of the claims -/
structure Hy (w : World) (K : PySem.W.Frag) (mg : Str → Option Value) : Prop extends Hx K mg where
  sz : ∃ es n, K.lookup (He.ga K "SIZES") = some ⟨.type "dict", none, .dict es n, #[]⟩ ∧ PySem.W.KeysLit w.params es.toList
  szm : (He.ga K "SIZES" == sysModules) = false
  szv : ∀ p ∈ ([("all", 3), ("one", 3), ("rank", 4), ("within", 3)] : List (Str × Int)), ∃ u, PySem.W.nsIn K (He.ga K "SIZES") p.1 = some (some u) ∧ RelV (.int p.2) u
def Wish.head : Wish → Str
  | .within _ _ => "within"
  | .rank _ _ _ => "rank"
  | .kind all _ _ => kindS all
def Wish.size : Wish → Nat
  | .rank _ _ _ => 4
  | _ => 3
theorem WishAt.tup {H : Hp} {a : Addr} : ∀ {w : Wish}, WishAt H a w → ∃ ys, H a = some (.tup (.str w.head :: ys)) ∧ ys.length + 1 = w.size
  | .within _ _, h => ⟨_, h, rfl⟩
  | .rank _ _ _, ⟨_, h, _⟩ => ⟨_, h, rfl⟩
  | .kind _ _ _, ⟨_, h, _⟩ => ⟨_, h, rfl⟩
theorem Wish.szv {K : PySem.W.Frag} {mg : Str → Option Value} {w : World} (hy : Hy w K mg) : ∀ c : Wish, ∃ u, PySem.W.nsIn K (He.ga K "SIZES") c.head = some (some u) ∧ RelV (.int (c.size : Nat)) u
  | .within _ _ => hy.szv ("within", 3) (by decide +kernel)
  | .rank _ _ _ => hy.szv ("rank", 4) (by decide +kernel)
  | .kind true _ _ => hy.szv ("all", 3) (by decide +kernel)
  | .kind false _ _ => hy.szv ("one", 3) (by decide +kernel)
theorem vx_eqS {ta tb : TE} {σ : L2.St} {H : Hp} {x y : Str} {b : Bool} (ha : Vx ta σ H (.str x)) (hb : Vx tb σ H (.str y)) (e : decide (x = y) = b) : Vx (tOp rEq ta tb) σ H (.bl b) := fun Q q => by
  refine ha _ (hb _ ⟨rfl, ?_⟩)
  have e1 : decide (V.str x = V.str y) = b := by rw [← e]; simp
  rw [e1]
  exact q
theorem vx_neS {ta tb : TE} {σ : L2.St} {H : Hp} {x y : Str} {b : Bool} (ha : Vx ta σ H (.str x)) (hb : Vx tb σ H (.str y)) (e : (!decide (x = y)) = b) : Vx (tOp rNe ta tb) σ H (.bl b) := fun Q q => by
  refine ha _ (hb _ ⟨rfl, ?_⟩)
  have e1 : (!decide (V.str x = V.str y)) = b := by rw [← e]; simp
  rw [e1]
  exact q
theorem at_k {xs : List V} {i : Int} {v : V} (k : Nat) (e : i = (k : Int)) (h : xs[k]? = some v) : atI xs i = some v := by
  rw [e]
  exact atI_nat h
def spIsC : Sp := fun vs H Q _ => ∃ (a : Addr) (c : Wish), vs = [.ref a] ∧ WishAt H a c ∧ WishOk c ∧ ∀ H', Evl.Ex H H' → Q (.bl true) H'
section
variable {P : Program} {w : World} {K : PySem.W.Frag} {mg : Str → Option Value} {base : Heap}
theorem scIsC : FnScope ["value"] ["value"] (defScope st_d_is_claim) := ⟨rfl, rfl, rfl, by decide +kernel, rfl, by decide +kernel, by decide +kernel⟩
theorem ok_isC (hy : Hy w K mg) : Okf P w K mg base C8.CX0 6 (He.fAd K d_is_claim.at_) ["value"] spIsC := by
  have hd := hy.toHd
  have ms : mg "isinstance" = none := hd.free _ (by decide +kernel)
  have mt : mg "tuple" = none := hd.free _ (by decide +kernel)
  have mst : mg "str" = none := hd.free _ (by decide +kernel)
  have ml : mg "len" = none := hd.free _ (by decide +kernel)
  have mS : mg "SIZES" = some (.ref (He.ga K "SIZES")) := hd.glo _ (by decide +kernel)
  have mA : mg "are_places" = some (.ref (He.fAd K d_are_places.at_)) := hd.glo _ (by decide +kernel)
  have mB : mg "is_between" = some (.ref (He.fAd K d_is_between.at_)) := hd.glo _ (by decide +kernel)
  obtain ⟨t, mP⟩ := hd.int ("MOST_PLACES", 12) (by decide +kernel)
  have AR := ok_are (P := P) (w := w) (base := base) hd
  have BT := ok_btw (P := P) (w := w) (base := base) hd
  refine okf_of hd.f_d_is_claim scIsC (fun _ _ _ _ _ _ us hl => ?_) (fun vs H Q E h => ?_) (fun cdv A outer s H vs Q E hr h => ?_)
  · obtain ⟨a, rfl⟩ := us1 hl
    rfl
  · obtain ⟨a, c, rfl, _⟩ := h
    rfl
  · obtain ⟨a, c, rfl, wa, wo, k⟩ := h
    have hu := hu_of hr
    refine ⟨_, pss_cons (ps_if (pw_or (pt_not (pt_val (pe_callB call_isTup (by rfl) ms bo_isinstance (pa_cons (pv 0) (pa_cons (pe_bltn (v := .ty "tuple") (by rfl) mt bo_tuple rfl) pa_nil))))) (pw_or (pt_cmpR (op_eqTE (Nat.lt_of_succ_lt hu)) (pv 0) (pe_tup pa_nil) (nomark _)) (pw_or1 (pt_not (pt_val (pe_callB call_isi (by rfl) ms bo_isinstance (pa_cons (pe_ix ix_tup (pv 0) pe_int (fun _ _ => rfl)) (pa_cons (pe_bltn (v := .ty "str") (by rfl) mst bo_str rfl) pa_nil)))))))).pt (pss_one ps_dead) pss_nil)
      (pss_cons (ps_if (pt_cmpR op_ne (pe_kget2 (pe_glob (v := .ref (He.ga K "SIZES")) (by rfl) mS rfl) (pe_ix ix_tup (pv 0) pe_int (fun _ _ => rfl)) pe_int ⟨rfl, rfl, rfl, rfl⟩) (pe_callB call_len_seq (by rfl) ml bo_len (pa_cons (pv 0) pa_nil)) (nomark _)) (pss_one ps_dead) pss_nil)
      (pss_cons (ps_if (pt_cmpR op_eq (pe_ix ix_tup (pv 0) pe_int (fun _ _ => rfl)) pe_str (nomark _)) (pss_one (ps_ret pe_bl)) pss_nil)
      (pss_one (ps_ret (pe_and (pe_callR (E := E00) (AR.run hr C8.pass0) (by rfl) mA AR.kp (pa_cons (pe_ix ix_tup (pv 0) pe_int (fun _ _ => rfl)) pa_nil)) (pe_one (pe_or (pe_cmpR op_ne (pe_ix ix_tup (pv 0) pe_int (fun _ _ => rfl)) pe_str (nomark _)) (pe_one (pe_callR (E := E00) (BT.run (hr.mono (by decide)) C8.pass0) (by rfl) mB BT.kp (pa_cons (pe_ix ix_tup (pv 0) pe_int (fun _ _ => rfl)) (pa_cons pe_int (pa_cons (pe_glob (v := .int 12) (by rfl) mP ⟨_, rfl⟩) pa_nil)))))))))))), ?_⟩
    obtain ⟨ys, ha, hl⟩ := wa.tup
    refine ⟨_, rfl, a, _, rfl, .of ha, true, rfl, iteF ?_⟩
    refine ⟨_, rfl, szl (by simp), fun e he => ⟨a, e, _, _, rfl, rfl, .of (by rw [upd_ne (ne_of_none ha he)]; exact ha), .of upd_same, .inr rfl, false, by simp, iteF ?_⟩⟩
    have x1 : Evl.Ex H (upd H e (.tup [])) := .new he
    generalize (upd H e (.tup [])) = H1 at x1 ⊢
    have wa1 := wa.ex x1
    have ha1 := x1 _ _ ha
    have a0 : atI (.str c.head :: ys) 0 = some (V.str c.head) := at_k 0 rfl rfl
    refine ⟨_, rfl, a, _, _, _, rfl, rfl, .of ha1, a0, .str c.head, .ty "str", .type "str", .type "str", true, rfl, .ty _, .base (.str _), kit_ty (by decide +kernel), true, rfl, iteF ?_⟩
    obtain ⟨es, n, hlk, hks⟩ := hy.sz
    obtain ⟨u, en, ru⟩ := Wish.szv hy c
    refine ⟨_, es, n, rfl, hlk, hks, hy.szm, _, rfl, a, _, _, _, rfl, rfl, .of ha1, a0, c.head, .int (c.size : Nat), u, rfl, en, ru, _, rfl, a, _, rfl, .inr (.of ha1), rfl, false, ?_, iteF ?_⟩
    · have e1 : ((ys.length + 1 : Nat) : Int) = (c.size : Nat) := by rw [hl]
      show V.bl (!decide (V.int (c.size : Nat) = V.int (((V.str c.head :: ys).length : Nat) : Int))) = V.bl false
      rw [List.length_cons, e1]
      simp
    dsimp only [tNext]
    have vh : Vx (tOp (rIxT K) (tVar 0) (tC (.int 0))) [some (V.ref a)] H1 (.str c.head) := vx_ixT (vx_var rfl) vx_c (.of ha1) a0
    cases c with
    | within t o =>
      refine i_seq (if_t (fx_test (vx_eqS vh vx_c (show decide (("within" : Str) = "within") = true by decide +kernel))) ?_)
      exact k H1 x1
    | rank t xs n =>
      obtain ⟨s0, h1, h2⟩ := wa1
      refine i_seq (if_f (fx_test (vx_eqS vh vx_c (show decide (("rank" : Str) = "within") = false by decide +kernel))) ?_)
      dsimp only [tNext]
      refine i_ret ⟨_, rfl, a, _, _, _, rfl, rfl, .of h1, at_k 2 rfl rfl, s0, xs, rfl, h2, wo.2.1, fun H2 x2 => ⟨true, rfl, iteT ?_⟩⟩
      have h3 := x2 _ _ h1
      refine vx_or (vx_neS (vx_ixT (vx_var rfl) vx_c (.of h3) (at_k 0 rfl rfl)) vx_c (b := false) (by decide +kernel)) (c := true) (fun _ => ?_) _ (k H2 (x1.trans x2))
      refine fun Q q => ⟨_, rfl, a, _, _, _, rfl, rfl, .of h3, at_k 3 rfl rfl, n, 0, 12, rfl, ?_⟩
      rw [decide_eq_true wo.2.2.1, decide_eq_true wo.2.2.2]
      exact q
    | kind b t xs =>
      obtain ⟨s0, h1, h2⟩ := wa1
      refine i_seq (if_f (fx_test (vx_eqS vh vx_c (show decide (kindS b = "within") = false by cases b <;> decide +kernel))) ?_)
      dsimp only [tNext]
      refine i_ret ⟨_, rfl, a, _, _, _, rfl, rfl, .of h1, at_k 2 rfl rfl, s0, xs, rfl, h2, wo.2, fun H2 x2 => ⟨true, rfl, iteT ?_⟩⟩
      have h3 := x2 _ _ h1
      exact vx_or (vx_neS (vx_ixT (vx_var rfl) vx_c (.of h3) (at_k 0 rfl rfl)) vx_c (b := true) (by cases b <;> decide +kernel)) (c := true) (fun z => by cases z) _ (k H2 (x1.trans x2))
end
end Bt
set_option Elab.async false
set_option linter.all false
set_option maxRecDepth 100000
set_option maxHeartbeats 4000000
/-! Shelves: names to plans; the dicts that hold them. -/
namespace Bt
open PySem PySem.Spec PyProof.Rows L2
abbrev Shelf := List (Str × Plan)
def Shelf.has (S : Shelf) (t : Str) : Bool := S.any fun e => decide (e.1 = t)
def Shelf.at (S : Shelf) (t : Str) : Plan := ((S.find? fun e => decide (e.1 = t)).map (·.2)).getD (0, [])
def Shelf.put (S : Shelf) (t : Str) (p : Plan) : Shelf := if S.has t = true then S.map (fun e => if e.1 = t then (e.1, p) else e) else S ++ [(t, p)]
def Shelf.drop (S : Shelf) (t : Str) : Shelf := S.filter fun e => decide (e.1 ≠ t)
/-- with the address of each -/
abbrev ShT := List (Str × Plan × Addr)
def ShT.sh (T : ShT) : Shelf := T.map fun x => (x.1, x.2.1)
def ShT.kv (T : ShT) : List (Key × V) := T.map fun x => (.inr x.1, .ref x.2.2)
def ShT.put (T : ShT) (t : Str) (p : Plan) (a : Addr) : ShT := if (T.any fun x => decide (x.1 = t)) = true then T.map (fun x => if x.1 = t then (x.1, p, a) else x) else T ++ [(t, p, a)]
def ShT.drop (T : ShT) (t : Str) : ShT := T.filter fun e => decide (e.1 ≠ t)
theorem ShT.has_eq (T : ShT) (t : Str) : T.sh.has t = T.any fun x => decide (x.1 = t) := by
  unfold ShT.sh Shelf.has
  rw [List.any_map]
  rfl
theorem ShT.any_kv (T : ShT) (t : Str) : (T.kv.any fun kv => decide (kv.1 = .inr t)) = T.any fun x => decide (x.1 = t) := by
  unfold ShT.kv
  rw [List.any_map]
  congr 1
  funext x
  simp
theorem ShT.put_sh (T : ShT) (t : Str) (p : Plan) (a : Addr) : (T.put t p a).sh = T.sh.put t p := by
  unfold ShT.put Shelf.put
  rw [ShT.has_eq]
  by_cases c : (T.any fun x => decide (x.1 = t)) = true
  · rw [if_pos c, if_pos c]
    unfold ShT.sh
    rw [List.map_map, List.map_map]
    apply List.map_congr_left
    intro x _
    simp only [Function.comp]
    split <;> rfl
  · rw [if_neg c, if_neg c]
    simp [ShT.sh]
theorem ShT.put_kv (T : ShT) (t : Str) (p : Plan) (a : Addr) : (T.put t p a).kv = putK T.kv (.inr t) (.ref a) := by
  unfold ShT.put putK
  rw [ShT.any_kv]
  by_cases c : (T.any fun x => decide (x.1 = t)) = true
  · rw [if_pos c, if_pos c]
    unfold ShT.kv
    rw [List.map_map, List.map_map]
    apply List.map_congr_left
    intro x _
    simp only [Function.comp]
    by_cases e : x.1 = t
    · rw [if_pos e, if_pos (by rw [e])]
    · rw [if_neg e, if_neg (fun z => e (by injection z))]
  · rw [if_neg c, if_neg c]
    simp [ShT.kv]
theorem ShT.put_mem {T : ShT} {t : Str} {p : Plan} {a : Addr} {x : Str × Plan × Addr} (h : x ∈ T.put t p a) : x ∈ T ∨ x = (t, p, a) := by
  unfold ShT.put at h
  split at h
  · obtain ⟨y, hy, e⟩ := List.mem_map.mp h
    split at e
    · rename_i z
      right
      rw [← e, z]
    · left
      rw [← e]
      exact hy
  · rcases List.mem_append.mp h with z | z
    · exact .inl z
    · exact .inr (List.mem_singleton.mp z)
theorem ShT.drop_sh (T : ShT) (t : Str) : (T.drop t).sh = T.sh.drop t := by
  unfold ShT.drop Shelf.drop ShT.sh
  rw [List.filter_map]
  rfl
theorem ShT.drop_kv (T : ShT) (t : Str) : (T.drop t).kv = dropK T.kv (.inr t) := by
  unfold ShT.drop dropK ShT.kv
  rw [List.filter_map]
  congr 1
  apply List.filter_congr
  intro x _
  simp
theorem ShT.get {T : ShT} {t : Str} (h : T.sh.has t = true) : ∃ a, (t, T.sh.at t, a) ∈ T ∧ valV T.kv (.inr t) = some (.ref a) := by
  induction T with
  | nil => cases h
  | cons x r ih =>
    obtain ⟨y, p, a⟩ := x
    by_cases e : y = t
    · subst e
      exact ⟨a, by simp [ShT.sh, Shelf.at], by simp [ShT.kv, valV]⟩
    · have h' : (ShT.sh r).has t = true := by
        have h2 := h
        unfold ShT.sh Shelf.has at h2
        rw [List.map_cons, List.any_cons, decide_eq_false e, Bool.false_or] at h2
        exact h2
      obtain ⟨b, hm, hv⟩ := ih h'
      refine ⟨b, ?_, ?_⟩
      · have : (ShT.sh ((y, p, a) :: r)).at t = (ShT.sh r).at t := by
          simp [ShT.sh, Shelf.at, List.find?_cons, e]
        rw [this]
        exact List.mem_cons_of_mem _ hm
      · have : valV (ShT.kv ((y, p, a) :: r)) (.inr t) = valV (ShT.kv r) (.inr t) := valV_neg (fun z => e (by injection z))
        rw [this]
        exact hv
theorem ShT.none {T : ShT} {t : Str} (h : T.sh.has t = false) : valV T.kv (.inr t) = none := by
  have := valV_any (κ := Key) (.inr t) T.kv
  rw [ShT.any_kv, ← ShT.has_eq, h] at this
  cases e : valV T.kv (.inr t) with
  | none => rfl
  | some v => rw [e] at this; cases this
theorem ShT.isSome (T : ShT) (t : Str) : (valV T.kv (.inr t)).isSome = T.sh.has t := by
  rw [ShT.has_eq, ← ShT.any_kv, valV_any]
/-- the dict d holds the shelf S, each thing as R says -/
def DictAt (R : Addr → Plan → Prop) (H : Hp) (d : Addr) (S : Shelf) : Prop := ∃ T : ShT, T.sh = S ∧ H d = some (.dK T.kv) ∧ ∀ x ∈ T, R x.2.2 x.2.1
theorem DictAt.get {R : Addr → Plan → Prop} {H : Hp} {d : Addr} {S : Shelf} {t : Str} (h : DictAt R H d S) (e : S.has t = true) : ∃ a, DGet H d (.str t) (some (.ref a)) ∧ R a (S.at t) := by
  obtain ⟨T, rfl, hd, hr⟩ := h
  obtain ⟨a, hm, hv⟩ := ShT.get e
  exact ⟨a, .inl ⟨_, .inr t, .of hd, rfl, hv.symm⟩, hr _ hm⟩
theorem DictAt.asks {R : Addr → Plan → Prop} {H : Hp} {d : Addr} {S : Shelf} (h : DictAt R H d S) (t : Str) : ∃ o, DGet H d (.str t) o ∧ o.isSome = S.has t := by
  obtain ⟨T, rfl, hd, hr⟩ := h
  exact ⟨_, .inl ⟨_, .inr t, .of hd, rfl, rfl⟩, ShT.isSome T t⟩
theorem DictAt.mono {R R' : Addr → Plan → Prop} {H H' : Hp} {d : Addr} {S : Shelf} (h : DictAt R H d S) (k : ∀ o, H d = some o → H' d = some o) (r : ∀ a p, R a p → R' a p) : DictAt R' H' d S := by
  obtain ⟨T, e, hd, hr⟩ := h
  exact ⟨T, e, k _ hd, fun x hx => r _ _ (hr x hx)⟩
/-- the program's shelf | the law's -/
abbrev ShP (K : PySem.W.Frag) (H : Hp) (d : Addr) (S : Shelf) : Prop := DictAt (FrameAt K H) H d S
abbrev ShL (H : Hp) (d : Addr) (S : Shelf) : Prop := DictAt (PlanAt H) H d S
theorem ShP.ex {K : PySem.W.Frag} {H H' : Hp} {d : Addr} {S : Shelf} (h : ShP K H d S) (x : Evl.Ex H H') : ShP K H' d S := h.mono (fun o e => x _ _ e) fun a p f => f.ex x
theorem ShL.ex {H H' : Hp} {d : Addr} {S : Shelf} (h : ShL H d S) (x : Evl.Ex H H') : ShL H' d S := h.mono (fun o e => x _ _ e) fun a p f => f.ex x
/-- the plans of a shelf are right, its names are ours -/
structure ShOk (S : Shelf) : Prop where
  pl : ∀ e ∈ S, PlanOk e.2
  nm : ∀ e ∈ S, NameOk e.1
  nd : (S.map (·.1)).Nodup
theorem Shelf.at_mem {S : Shelf} {t : Str} (h : S.has t = true) : (t, S.at t) ∈ S := by
  induction S with
  | nil => cases h
  | cons x r ih =>
    obtain ⟨y, p⟩ := x
    by_cases e : y = t
    · subst e
      simp [Shelf.at]
    · have h' : Shelf.has r t = true := by
        have h2 := h
        unfold Shelf.has at h2
        rw [List.any_cons, decide_eq_false e, Bool.false_or] at h2
        exact h2
      have : Shelf.at ((y, p) :: r) t = Shelf.at r t := by simp [Shelf.at, List.find?_cons, e]
      rw [this]
      exact List.mem_cons_of_mem _ (ih h')
theorem ShOk.at {S : Shelf} {t : Str} (o : ShOk S) (h : S.has t = true) : PlanOk (S.at t) := o.pl _ (Shelf.at_mem h)
/-- the wish holds on the shelf; what is shown of it -/
def kept (S : Shelf) : Wish → Bool
  | .within t o => wth (S.at t) (S.at o)
  | .rank t xs k => decide (k ≤ (rk (S.at t) xs : Int))
  | .kind all t xs => decide (rk (S.at t) xs = xs.length) && (all || decide (rk (S.at t) xs = (S.at t).hills))
def shownV (S : Shelf) : Wish → V
  | .within _ _ => .non
  | .rank t xs _ => .int (rk (S.at t) xs : Nat)
  | .kind _ t xs => .int (rk (S.at t) xs : Nat)
/-- the wish speaks of things that are there -/
def Wish.on (c : Wish) (S : Shelf) : Prop := ∀ t ∈ c.names, S.has t = true
end Bt
set_option Elab.async false
set_option linter.all false
set_option maxRecDepth 100000
set_option maxHeartbeats 4000000
/-! names_in, is_kept, shown_by. -/
namespace Bt
open PySem PySem.Spec PyProof.Rows L2
def spNmsIn : Sp := fun vs H Q _ => ∃ (a : Addr) (c : Wish), vs = [.ref a] ∧ WishAt H a c ∧ ∀ q H', Evl.Ex H H' → H' q = some (.tup (c.names.map V.str)) → Q (.ref q) H'
def spKept (K : PySem.W.Frag) : Sp := fun vs H Q _ => ∃ (a d : Addr) (c : Wish) (S : Shelf), vs = [.ref a, .ref d] ∧ WishAt H a c ∧ WishOk c ∧ ShP K H d S ∧ ShOk S ∧ c.on S ∧ ∀ H', Evl.Ex H H' → Q (.bl (kept S c)) H'
def spShBy (K : PySem.W.Frag) : Sp := fun vs H Q _ => ∃ (a d : Addr) (c : Wish) (S : Shelf), vs = [.ref a, .ref d] ∧ WishAt H a c ∧ WishOk c ∧ ShP K H d S ∧ ShOk S ∧ c.on S ∧ ∀ H', Evl.Ex H H' → Q (shownV S c) H'
theorem vx_dget {td ty : TE} {σ : L2.St} {H : Hp} {d : Addr} {t : Str} {v : V} (h : Vx td σ H (.ref d)) (k : Vx ty σ H (.str t)) (g : DGet H d (.str t) (some v)) : Vx (tDGet td ty) σ H v := fun _ q => h _ (k _ ⟨d, v, rfl, g, q⟩)
theorem vx_len {K : PySem.W.Frag} {te : TE} {σ : L2.St} {H : Hp} {a : Addr} {xs : List V} {n : Nat} (h : Vx te σ H (.ref a)) (e : SqT K H a xs) (hn : xs.length = n) : Vx (tCB (fun vs H Q => ∃ a xs, vs = [.ref a] ∧ (SqL K H a xs ∨ SqT K H a xs) ∧ Q (.int (xs.length : Nat)) H) (tCons te tNil)) σ H (.int (n : Nat)) := fun _ q => h _ ⟨a, xs, rfl, .inr e, by rw [hn]; exact q⟩
theorem vx_eqN {ta tb : TE} {σ : L2.St} {H : Hp} {m n : Nat} (ha : Vx ta σ H (.int (m : Nat))) (hb : Vx tb σ H (.int (n : Nat))) : Vx (tOp rEq ta tb) σ H (.bl (decide (m = n))) := by
  have := vx_eqI ha hb
  have e : decide (((m : Nat) : Int) = (n : Nat)) = decide (m = n) := decide_eq_decide.mpr (by omega)
  rw [e] at this
  exact this
section
variable {P : Program} {w : World} {K : PySem.W.Frag} {mg : Str → Option Value} {base : Heap}
theorem scNmsIn : FnScope ["claim"] ["claim"] (defScope st_d_names_in) := ⟨rfl, rfl, rfl, by decide +kernel, rfl, by decide +kernel, by decide +kernel⟩
theorem ok_nmsIn (hd : Hd K mg) : Okf P w K mg base C8.CX0 1 (He.fAd K d_names_in.at_) ["claim"] spNmsIn := by
  refine okf_of hd.f_d_names_in scNmsIn (fun _ _ _ _ _ _ us hl => ?_) (fun vs H Q E h => ?_) (fun cdv A outer s H vs Q E hr h => ?_)
  · obtain ⟨a, rfl⟩ := us1 hl
    rfl
  · obtain ⟨a, c, rfl, _⟩ := h
    rfl
  · obtain ⟨a, c, rfl, wa, k⟩ := h
    refine ⟨_, pss_one (ps_ret (pe_ifExp (pt_cmpR op_eq (pe_ix ix_tup (pv 0) pe_int (fun _ _ => rfl)) pe_str (nomark _)) (pe_slice sl_tup (pv 0) (po_some pe_int) po_none) (pe_slice sl_tup (pv 0) (po_some pe_int) (po_some pe_int)))), ?_⟩
    obtain ⟨ys, ha, hl⟩ := wa.tup
    have vh : Vx (tOp (rIxT K) (tVar 0) (tC (.int 0))) [some (V.ref a)] H (.str c.head) := vx_ixT (vx_var rfl) vx_c (.of ha) (at_k 0 rfl rfl)
    cases c with
    | within t o =>
      refine i_ret (fx_test (vx_eqS vh vx_c (show decide (("within" : Str) = "within") = true by decide +kernel)) _ (iteT ?_))
      exact ⟨_, rfl, 1, rfl, a, _, rfl, .of wa, (show ¬ (HT.sIx 3 0 (some 1) = 0 ∧ HT.sIx 3 3 none = 3) by decide), fun p hp => k p _ (.new hp) upd_same⟩
    | rank t xs n =>
      obtain ⟨s0, h1, h2⟩ := wa
      refine i_ret (fx_test (vx_eqS vh vx_c (show decide (("rank" : Str) = "within") = false by decide +kernel)) _ (iteF ?_))
      exact ⟨_, rfl, 1, rfl, 2, rfl, a, _, rfl, .of h1, (show ¬ (HT.sIx 4 0 (some 1) = 0 ∧ HT.sIx 4 4 (some 2) = 4) by decide), fun p hp => k p _ (.new hp) upd_same⟩
    | kind b t xs =>
      obtain ⟨s0, h1, h2⟩ := wa
      refine i_ret (fx_test (vx_eqS vh vx_c (show decide (kindS b = "within") = false by cases b <;> decide +kernel)) _ (iteF ?_))
      exact ⟨_, rfl, 1, rfl, 2, rfl, a, _, rfl, .of h1, (show ¬ (HT.sIx 3 0 (some 1) = 0 ∧ HT.sIx 3 3 (some 2) = 3) by decide), fun p hp => k p _ (.new hp) upd_same⟩
theorem scKept : FnScope ["claim", "frames", "frame", "places", "many"] ["claim", "frames"] (defScope st_d_is_kept) := ⟨rfl, rfl, rfl, by decide +kernel, rfl, by decide +kernel, by decide +kernel⟩
theorem ok_kept (hy : Hy w K mg) : Okf P w K mg base C8.CX0 8 (He.fAd K d_is_kept.at_) ["claim", "frames"] (spKept K) := by
  have hx := hy.toHx
  have hd := hy.toHd
  have c0 := hd.cls "Frame" (by decide +kernel)
  have HI := ok_hills (P := P) (w := w) (base := base) hd
  have WI := ok_wth (P := P) (w := w) (base := base) hx
  have RA := ok_rank (P := P) (w := w) (base := base) hx
  have ml : mg "len" = none := hd.free _ (by decide +kernel)
  have mW : mg "within" = some (.ref (He.fAd K d_within.at_)) := hd.glo _ (by decide +kernel)
  have mR : mg "rank" = some (.ref (He.fAd K d_rank.at_)) := hd.glo _ (by decide +kernel)
  refine okf_of hd.f_d_is_kept scKept (fun _ _ _ _ _ _ us hl => ?_) (fun vs H Q E h => ?_) (fun cdv A outer s H vs Q E hr h => ?_)
  · obtain ⟨a, b, rfl⟩ := us2 hl
    rfl
  · obtain ⟨a, d, c, S, rfl, _⟩ := h
    rfl
  · obtain ⟨a, d, c, S, rfl, wa, wo, sh, so, on, k⟩ := h
    have hu := hu_of hr
    refine ⟨_, pss_cons (ps_if (pt_cmpR op_eq (pe_ix ix_tup (pv 0) pe_int (fun _ _ => rfl)) pe_str (nomark _)) (pss_one (ps_ret (pe_callR (E := E00) (WI.run (hr.mono (by decide)) C8.pass0) (by rfl) mW WI.kp (pa_cons (pe_dget hu (pv 1) (pe_ix ix_tup (pv 0) pe_int (fun _ _ => rfl)) (fun _ _ => rfl)) (pa_cons (pe_dget hu (pv 1) (pe_ix ix_tup (pv 0) pe_int (fun _ _ => rfl)) (fun _ _ => rfl)) pa_nil))))) pss_nil)
      (pss_cons (ps_par (i := 2) (j := 3) rfl scKept.nd rfl rfl (by decide) rfl rfl (pa_cons (pe_dget hu (pv 1) (pe_ix ix_tup (pv 0) pe_int (fun _ _ => rfl)) (fun _ _ => rfl)) (pa_cons (pe_ix ix_tup (pv 0) pe_int (fun _ _ => rfl)) pa_nil)) (by rfl))
      (pss_cons (ps_set (i := 4) scKept.nd rfl (.inl rfl) (pe_callR (E := E00) (RA.run hr C8.pass0) (by rfl) mR RA.kp (pa_cons (pv 2) (pa_cons (pv 3) pa_nil))))
      (pss_cons (ps_if (pt_cmpR op_eq (pe_ix ix_tup (pv 0) pe_int (fun _ _ => rfl)) pe_str (nomark _)) (pss_one (ps_ret (pe_cmpR op_ge (pv 4) (pe_ix ix_tup (pv 0) pe_int (fun _ _ => rfl)) (nomark _)))) pss_nil)
      (pss_one (ps_ret (pe_and (pe_cmpR op_eq (pv 4) (pe_callB call_len_seq (by rfl) ml bo_len (pa_cons (pv 3) pa_nil)) (nomark _)) (pe_one (pe_or (pe_cmpR op_eq (pe_ix ix_tup (pv 0) pe_int (fun _ _ => rfl)) pe_str (nomark _)) (pe_one (pe_cmpR op_eq (pv 4) (pe_propR (E := E00) c0 HI (hr.mono (by decide)) C8.pass0 rfl (pv 2)) (nomark _))))))))))), ?_⟩
    obtain ⟨ys, ha, hl⟩ := wa.tup
    have vh : Vx (tOp (rIxT K) (tVar 0) (tC (.int 0))) [some (V.ref a), some (V.ref d), none, none, none] H (.str c.head) := vx_ixT (vx_var rfl) vx_c (.of ha) (at_k 0 rfl rfl)
    cases c with
    | within t o =>
      obtain ⟨f1, g1, r1⟩ := sh.get (on t (by simp [Wish.names]))
      obtain ⟨f2, g2, r2⟩ := sh.get (on o (by simp [Wish.names]))
      refine i_seq (if_t (fx_test (vx_eqS vh vx_c (show decide (("within" : Str) = "within") = true by decide +kernel))) ?_)
      refine i_ret (vx_dget (vx_var rfl) (vx_ixT (vx_var rfl) vx_c (.of wa) (at_k 1 rfl rfl)) g1 _ (vx_dget (vx_var rfl) (vx_ixT (vx_var rfl) vx_c (.of wa) (at_k 2 rfl rfl)) g2 _ ?_))
      exact ⟨f1, f2, _, _, rfl, r1, r2, so.at (on t (by simp [Wish.names])), so.at (on o (by simp [Wish.names])), k⟩
    | rank t xs n =>
      obtain ⟨s0, h1, h2⟩ := wa
      obtain ⟨f1, g1, r1⟩ := sh.get (on t (by simp [Wish.names]))
      refine i_seq (if_f (fx_test (vx_eqS vh vx_c (show decide (("rank" : Str) = "within") = false by decide +kernel))) ?_)
      dsimp only [tNext]
      refine i_seq (vx_dget (vx_var rfl) (vx_ixT (vx_var rfl) vx_c (.of h1) (at_k 1 rfl rfl)) g1 _ (vx_ixT (vx_var rfl) vx_c (.of h1) (at_k 2 rfl rfl) _ ⟨_, _, rfl, ?_⟩))
      dsimp only
      refine i_seq ⟨_, rfl, _, rfl, f1, s0, _, xs, rfl, r1, so.at (on t (by simp [Wish.names])), h2, wo.2.1, fun H2 x2 => ?_⟩
      have h3 := x2 _ _ h1
      dsimp only
      refine i_seq (if_t (fx_test (vx_eqS (vx_ixT (vx_var rfl) vx_c (.of h3) (at_k 0 rfl rfl)) vx_c (show decide (("rank" : Str) = "rank") = true by decide +kernel))) ?_)
      refine i_ret (vx_op0 (g := fun i j => .bl (decide (j ≤ i))) (vx_var rfl) (vx_ixT (vx_var rfl) vx_c (.of h3) (at_k 3 rfl rfl)) _ (k H2 x2))
    | kind b t xs =>
      obtain ⟨s0, h1, h2⟩ := wa
      obtain ⟨f1, g1, r1⟩ := sh.get (on t (by simp [Wish.names]))
      refine i_seq (if_f (fx_test (vx_eqS vh vx_c (show decide (kindS b = "within") = false by cases b <;> decide +kernel))) ?_)
      dsimp only [tNext]
      refine i_seq (vx_dget (vx_var rfl) (vx_ixT (vx_var rfl) vx_c (.of h1) (at_k 1 rfl rfl)) g1 _ (vx_ixT (vx_var rfl) vx_c (.of h1) (at_k 2 rfl rfl) _ ⟨_, _, rfl, ?_⟩))
      dsimp only
      refine i_seq ⟨_, rfl, _, rfl, f1, s0, _, xs, rfl, r1, so.at (on t (by simp [Wish.names])), h2, wo.2, fun H2 x2 => ?_⟩
      have h3 := x2 _ _ h1
      have h4 := x2 _ _ h2
      dsimp only
      refine i_seq (if_f (fx_test (vx_eqS (vx_ixT (vx_var rfl) vx_c (.of h3) (at_k 0 rfl rfl)) vx_c (show decide (kindS b = "rank") = false by cases b <;> decide +kernel))) ?_)
      dsimp only [tNext]
      have k2 := k H2 x2
      refine i_ret (vx_and (b := decide (rk (S.at t) xs = xs.length)) (c := b || decide (rk (S.at t) xs = (S.at t).hills)) ?_ (fun _ => vx_or (b := b) ?_ fun _ => ?_) _ k2)
      · exact vx_eqN (vx_var rfl) (vx_len (K := K) (te := tVar 3) (vx_var rfl) (.of h4) (by simp))
      · exact vx_eqS (vx_ixT (vx_var rfl) vx_c (.of h3) (at_k 0 rfl rfl)) vx_c (by cases b <;> decide +kernel)
      · exact vx_eqN (vx_var rfl) (vx_hills (E := E00) (ta := tVar 2) (vx_var rfl) (r1.ex x2) (so.at (on t (by simp [Wish.names]))))
theorem scShBy : FnScope ["claim", "frames"] ["claim", "frames"] (defScope st_d_shown_by) := ⟨rfl, rfl, rfl, by decide +kernel, rfl, by decide +kernel, by decide +kernel⟩
theorem ok_shBy (hy : Hy w K mg) : Okf P w K mg base C8.CX0 8 (He.fAd K d_shown_by.at_) ["claim", "frames"] (spShBy K) := by
  have hx := hy.toHx
  have hd := hy.toHd
  have RA := ok_rank (P := P) (w := w) (base := base) hx
  have mR : mg "rank" = some (.ref (He.fAd K d_rank.at_)) := hd.glo _ (by decide +kernel)
  refine okf_of hd.f_d_shown_by scShBy (fun _ _ _ _ _ _ us hl => ?_) (fun vs H Q E h => ?_) (fun cdv A outer s H vs Q E hr h => ?_)
  · obtain ⟨a, b, rfl⟩ := us2 hl
    rfl
  · obtain ⟨a, d, c, S, rfl, _⟩ := h
    rfl
  · obtain ⟨a, d, c, S, rfl, wa, wo, sh, so, on, k⟩ := h
    have hu := hu_of hr
    refine ⟨_, pss_one (ps_ret (pe_ifExp (pt_cmpR op_eq (pe_ix ix_tup (pv 0) pe_int (fun _ _ => rfl)) pe_str (nomark _)) pe_non (pe_callR (E := E00) (RA.run hr C8.pass0) (by rfl) mR RA.kp (pa_cons (pe_dget hu (pv 1) (pe_ix ix_tup (pv 0) pe_int (fun _ _ => rfl)) (fun _ _ => rfl)) (pa_cons (pe_ix ix_tup (pv 0) pe_int (fun _ _ => rfl)) pa_nil))))), ?_⟩
    obtain ⟨ys, ha, hl⟩ := wa.tup
    have vh : Vx (tOp (rIxT K) (tVar 0) (tC (.int 0))) [some (V.ref a), some (V.ref d)] H (.str c.head) := vx_ixT (vx_var rfl) vx_c (.of ha) (at_k 0 rfl rfl)
    cases c with
    | within t o => exact i_ret (fx_test (vx_eqS vh vx_c (show decide (("within" : Str) = "within") = true by decide +kernel)) _ (iteT (k H (.refl _))))
    | rank t xs n =>
      obtain ⟨s0, h1, h2⟩ := wa
      obtain ⟨f1, g1, r1⟩ := sh.get (on t (by simp [Wish.names]))
      refine i_ret (fx_test (vx_eqS vh vx_c (show decide (("rank" : Str) = "within") = false by decide +kernel)) _ (iteF ?_))
      refine vx_dget (vx_var rfl) (vx_ixT (vx_var rfl) vx_c (.of h1) (at_k 1 rfl rfl)) g1 _ (vx_ixT (vx_var rfl) vx_c (.of h1) (at_k 2 rfl rfl) _ ?_)
      exact ⟨f1, s0, _, xs, rfl, r1, so.at (on t (by simp [Wish.names])), h2, wo.2.1, k⟩
    | kind b t xs =>
      obtain ⟨s0, h1, h2⟩ := wa
      obtain ⟨f1, g1, r1⟩ := sh.get (on t (by simp [Wish.names]))
      refine i_ret (fx_test (vx_eqS vh vx_c (show decide (kindS b = "within") = false by cases b <;> decide +kernel)) _ (iteF ?_))
      refine vx_dget (vx_var rfl) (vx_ixT (vx_var rfl) vx_c (.of h1) (at_k 1 rfl rfl)) g1 _ (vx_ixT (vx_var rfl) vx_c (.of h1) (at_k 2 rfl rfl) _ ?_)
      exact ⟨f1, s0, _, xs, rfl, r1, so.at (on t (by simp [Wish.names])), h2, wo.2, k⟩
end
end Bt
set_option Elab.async false
set_option linter.all false
set_option maxRecDepth 100000
set_option maxHeartbeats 4000000
/-! Pages: made. -/
namespace Bt
open PySem PySem.Spec PyProof.Rows L2
/-- o.f as one of several targets -/
def gFld (K : PySem.W.Frag) (to : TE) (f : Str) : TG := fun v σ H Q => to σ H fun x H2 => ∃ a C dx fs, x = .ref a ∧ H2 a = some (.ins C dx fs) ∧ Cls K C ∧ NoAttr K C f ∧ fs.length < 1000 ∧ Q σ (upd H2 a (.ins C dx (putF f v fs)))
theorem pg_fld {X : Cx} {o : Expr} {f : Str} {pos : Pos} {to : TE} (ho : PE X o to) : PG X (.Attribute o f pos) (gFld X.K to f) := by
  refine ⟨fun pins s σ H v u Q I r h => ?_⟩
  rw [assign_Attribute]
  refine wpAny_bind (wpAny_holding (thn (ho.run pins s σ H _ I h) fun ov s1 ⟨x, H1, I1, r1, q1⟩ => ?_))
  obtain ⟨a, C, dx, fs, rfl, ea, c, n, l, q⟩ := q1
  obtain rfl : ov = Value.ref a := r1
  refine wpAny_bind (wpAny_standAt (wpAny_bind (wpAny_holding (setattr_ok I1 ea c n l r fun s3 I3 => ?_))))
  exact wpAny_release ⟨σ, _, I3, q⟩
theorem putF_n {f : Str} {v : V} : putF f v [] = [(f, v)] := rfl
theorem putF_ne {f g : Str} {v x : V} {r : List (Str × V)} (h : g ≠ f) : putF f v ((g, x) :: r) = (g, x) :: putF f v r := if_neg h
theorem putF_eq {f : Str} {v x : V} {r : List (Str × V)} : putF f v ((f, x) :: r) = (f, v) :: r := if_pos rfl
theorem putF_len (f : Str) (v : V) : ∀ fs : List (Str × V), (putF f v fs).length ≤ fs.length + 1
  | [] => by simp [putF]
  | (g, x) :: r => by
    unfold putF
    split
    · simp
    · simp only [List.length_cons]
      have := putF_len f v r
      omega
theorem page2 {d w : V} : putF "wanted" w [("shelf", d)] = ([("shelf", d), ("wanted", w)] : List (Str × V)) := by rw [putF_ne (by decide +kernel)]; rfl
theorem page3 {d w a : V} : putF "ahead" a [("shelf", d), ("wanted", w)] = ([("shelf", d), ("wanted", w), ("ahead", a)] : List (Str × V)) := by rw [putF_ne (by decide +kernel), putF_ne (by decide +kernel)]; rfl
theorem page4 {d w a n : V} : putF "depth" n [("shelf", d), ("wanted", w), ("ahead", a)] = ([("shelf", d), ("wanted", w), ("ahead", a), ("depth", n)] : List (Str × V)) := by rw [putF_ne (by decide +kernel), putF_ne (by decide +kernel), putF_ne (by decide +kernel)]; rfl
theorem mark2 {a b : V} : putF "before" b [("page", a)] = ([("page", a), ("before", b)] : List (Str × V)) := by rw [putF_ne (by decide +kernel)]; rfl
theorem trial2 {a b : V} : putF "mark" b [("owner", a)] = ([("owner", a), ("mark", b)] : List (Str × V)) := by rw [putF_ne (by decide +kernel)]; rfl
theorem trial2' {a b c : V} : putF "mark" b [("owner", a), ("mark", c)] = ([("owner", a), ("mark", b)] : List (Str × V)) := by rw [putF_ne (by decide +kernel), putF_eq]
theorem desk1 {a b : V} : putF "page" b [("page", a)] = ([("page", b)] : List (Str × V)) := putF_eq
def spPageI (K : PySem.W.Frag) : Sp := fun vs H Q _ => ∃ (x dx d w : Addr) (prev : V) (n : Int), vs = [.ref x, .ref d, .ref w, prev] ∧ H x = some (.ins (He.ga K "Page") dx []) ∧
  ((prev = .non ∧ n = 0) ∨ ∃ b dxb fs m, prev = .ref b ∧ b ≠ x ∧ H b = some (.ins (He.ga K "Page") dxb fs) ∧ fs.lookup ("depth" : Str) = some (V.int m) ∧ n = m + 1) ∧
  ∀ H', ExBut x H H' → H' x = some (.ins (He.ga K "Page") dx [("shelf", .ref d), ("wanted", .ref w), ("ahead", prev), ("depth", .int n)]) → Q .non H'
def spMarkI (K : PySem.W.Frag) : Sp := fun vs H Q _ => ∃ (x dx : Addr) (a b : V), vs = [.ref x, a, b] ∧ H x = some (.ins (He.ga K "PageMark") dx []) ∧
  ∀ H', ExBut x H H' → H' x = some (.ins (He.ga K "PageMark") dx [("page", a), ("before", b)]) → Q .non H'
def spTrialI (K : PySem.W.Frag) : Sp := fun vs H Q _ => ∃ (x dx : Addr) (a : V), vs = [.ref x, a] ∧ H x = some (.ins (He.ga K "DeskTrial") dx []) ∧
  ∀ H', ExBut x H H' → H' x = some (.ins (He.ga K "DeskTrial") dx [("owner", a), ("mark", .non)]) → Q .non H'
section
variable {P : Program} {w : World} {K : PySem.W.Frag} {mg : Str → Option Value} {base : Heap}
theorem scPageI : FnScope ["self", "shelf", "wanted", "ahead"] ["self", "shelf", "wanted", "ahead"] (defScope st_m_Page_init) := ⟨rfl, rfl, rfl, by decide +kernel, rfl, by decide +kernel, by decide +kernel⟩
theorem ok_pageI (hd : Hd K mg) : Okf P w K mg base C8.CX0 1 (He.fAd K m_Page_init.at_) ["self", "shelf", "wanted", "ahead"] (spPageI K) := by
  have c := hd.cls "Page" (by decide +kernel)
  have n1 := hd.noat ("Page", "shelf") (by decide +kernel)
  have n2 := hd.noat ("Page", "wanted") (by decide +kernel)
  have n3 := hd.noat ("Page", "ahead") (by decide +kernel)
  have n4 := hd.noat ("Page", "depth") (by decide +kernel)
  refine okf_of hd.f_m_Page_init scPageI (fun _ _ _ _ _ _ us hl => ?_) (fun vs H Q E h => ?_) (fun cdv A outer s H vs Q E hr h => ?_)
  · obtain ⟨a, b, c, d, rfl⟩ := us4 hl
    rfl
  · obtain ⟨x, dx, d, w, pr, n, rfl, _⟩ := h
    rfl
  · obtain ⟨x, dx, d, w, prev, n, rfl, hx, hp, k⟩ := h
    refine ⟨_, pss_cons (ps_asg (pe_tup (pa_cons (pv 1) (pa_cons (pv 2) (pa_cons (pv 3) pa_nil)))) (pg_tup rfl (pgs_cons (pg_fld (pv 0)) (pgs_cons (pg_fld (pv 0)) (pgs_cons (pg_fld (pv 0)) pgs_nil)))))
      (pss_one (ps_fld (pv 0) (pe_ifExp (pt_cmpR op_isN1 (pv 3) pe_non (nomark _)) pe_int (pe_op op_add (pe_fld (pv 3) rfl) pe_int)) rfl)), ?_⟩
    refine ⟨_, rfl, _, rfl, _, rfl, szl (by simp), fun q hq => ⟨q, _, rfl, .of upd_same, rfl, ?_⟩⟩
    have xq : x ≠ q := ne_of_none hx hq
    refine ⟨_, _, rfl, _, rfl, x, _, dx, _, rfl, by rw [upd_ne xq]; exact hx, c, n1, by decide, ?_⟩
    rw [putF_n]
    refine ⟨_, _, rfl, _, rfl, x, _, dx, _, rfl, upd_same, c, n2, by simp, ?_⟩
    rw [page2]
    refine ⟨_, _, rfl, _, rfl, x, _, dx, _, rfl, upd_same, c, n3, by simp, ?_⟩
    rw [page3, upd_upd, upd_upd]
    have ex : ExBut x H (upd (upd H q (.tup [.ref d, .ref w, prev])) x (.ins (He.ga K "Page") dx [("shelf", .ref d), ("wanted", .ref w), ("ahead", prev)])) := fun b o n e => by
      rw [upd_ne n, upd_ne (ne_of_none e hq)]
      exact e
    have hx2 : (upd (upd H q (.tup [.ref d, .ref w, prev])) x (.ins (He.ga K "Page") dx [("shelf", .ref d), ("wanted", .ref w), ("ahead", prev)])) x = some (.ins (He.ga K "Page") dx [("shelf", .ref d), ("wanted", .ref w), ("ahead", prev)]) := upd_same
    generalize (upd (upd H q (.tup [.ref d, .ref w, prev])) x (.ins (He.ga K "Page") dx [("shelf", .ref d), ("wanted", .ref w), ("ahead", prev)])) = H1 at ex hx2 ⊢
    have fin : ∀ v : V, v = .int n → (∃ a C dx fs, V.ref x = .ref a ∧ H1 a = some (.ins C dx fs) ∧ Cls K C ∧ NoAttr K C "depth" ∧ fs.length < 1000 ∧ Q .non (upd H1 a (.ins C dx (putF "depth" v fs)))) := fun v e => by
      refine ⟨x, _, dx, _, rfl, hx2, c, n4, by simp, ?_⟩
      rw [page4, e]
      exact k _ (fun b o n e => by rw [upd_ne n]; exact ex b o n e) upd_same
    rcases hp with ⟨rfl, rfl⟩ | ⟨b, dxb, fs, m, rfl, bx, hb, hm, rfl⟩
    · exact ⟨rfl, _, rfl, rfl, true, rfl, iteT ⟨_, rfl, fin _ rfl⟩⟩
    · exact ⟨rfl, _, rfl, rfl, false, rfl, iteF ⟨_, rfl, b, _, dxb, fs, _, rfl, ex b _ bx hb, c, n4, hm, _, _, rfl, rfl, _, rfl, fin _ rfl⟩⟩
theorem scMarkI : FnScope ["self", "page", "before"] ["self", "page", "before"] (defScope st_m_PageMark_init) := ⟨rfl, rfl, rfl, by decide +kernel, rfl, by decide +kernel, by decide +kernel⟩
theorem ok_markI (hd : Hd K mg) : Okf P w K mg base C8.CX0 1 (He.fAd K m_PageMark_init.at_) ["self", "page", "before"] (spMarkI K) := by
  have c := hd.cls "PageMark" (by decide +kernel)
  have n1 := hd.noat ("PageMark", "page") (by decide +kernel)
  have n2 := hd.noat ("PageMark", "before") (by decide +kernel)
  refine okf_of hd.f_m_PageMark_init scMarkI (fun _ _ _ _ _ _ us hl => ?_) (fun vs H Q E h => ?_) (fun cdv A outer s H vs Q E hr h => ?_)
  · obtain ⟨a, b, c, rfl⟩ := us3 hl
    rfl
  · obtain ⟨x, dx, a, b, rfl, _⟩ := h
    rfl
  · obtain ⟨x, dx, a, b, rfl, hx, k⟩ := h
    refine ⟨_, pss_one (ps_asg (pe_tup (pa_cons (pv 1) (pa_cons (pv 2) pa_nil))) (pg_tup rfl (pgs_cons (pg_fld (pv 0)) (pgs_cons (pg_fld (pv 0)) pgs_nil)))), ?_⟩
    refine ⟨_, rfl, _, rfl, szl (by simp), fun q hq => ⟨q, _, rfl, .of upd_same, rfl, ?_⟩⟩
    have xq : x ≠ q := ne_of_none hx hq
    refine ⟨_, _, rfl, _, rfl, x, _, dx, _, rfl, by rw [upd_ne xq]; exact hx, c, n1, by decide, ?_⟩
    rw [putF_n]
    refine ⟨_, _, rfl, _, rfl, x, _, dx, _, rfl, upd_same, c, n2, by simp, ?_⟩
    rw [mark2, upd_upd]
    exact ⟨rfl, k _ (fun b o n e => by rw [upd_ne n, upd_ne (ne_of_none e hq)]; exact e) upd_same⟩
theorem scTrialI : FnScope ["self", "owner"] ["self", "owner"] (defScope st_m_DeskTrial_init) := ⟨rfl, rfl, rfl, by decide +kernel, rfl, by decide +kernel, by decide +kernel⟩
theorem ok_trialI (hd : Hd K mg) : Okf P w K mg base C8.CX0 1 (He.fAd K m_DeskTrial_init.at_) ["self", "owner"] (spTrialI K) := by
  have c := hd.cls "DeskTrial" (by decide +kernel)
  have n1 := hd.noat ("DeskTrial", "owner") (by decide +kernel)
  have n2 := hd.noat ("DeskTrial", "mark") (by decide +kernel)
  refine okf_of hd.f_m_DeskTrial_init scTrialI (fun _ _ _ _ _ _ us hl => ?_) (fun vs H Q E h => ?_) (fun cdv A outer s H vs Q E hr h => ?_)
  · obtain ⟨a, b, rfl⟩ := us2 hl
    rfl
  · obtain ⟨x, dx, a, rfl, _⟩ := h
    rfl
  · obtain ⟨x, dx, a, rfl, hx, k⟩ := h
    refine ⟨_, pss_one (ps_asg (pe_tup (pa_cons (pv 1) (pa_cons pe_non pa_nil))) (pg_tup rfl (pgs_cons (pg_fld (pv 0)) (pgs_cons (pg_fld (pv 0)) pgs_nil)))), ?_⟩
    refine ⟨_, rfl, szl (by simp), fun q hq => ⟨q, _, rfl, .of upd_same, rfl, ?_⟩⟩
    have xq : x ≠ q := ne_of_none hx hq
    refine ⟨_, _, rfl, _, rfl, x, _, dx, _, rfl, by rw [upd_ne xq]; exact hx, c, n1, by decide, ?_⟩
    rw [putF_n]
    refine ⟨_, _, rfl, _, rfl, x, _, dx, _, rfl, upd_same, c, n2, by simp, ?_⟩
    rw [trial2, upd_upd]
    exact ⟨rfl, k _ (fun b o n e => by rw [upd_ne n, upd_ne (ne_of_none e hq)]; exact e) upd_same⟩
end
end Bt
set_option Elab.async false
set_option linter.all false
set_option maxRecDepth 100000
set_option maxHeartbeats 4000000
/-! Trials: entered, left. -/
namespace Bt
open PySem PySem.Spec PyProof.Rows L2 L2H
theorem vx_fld {K : PySem.W.Frag} {ta : TE} {σ : L2.St} {H : Hp} {a C dx : Addr} {fs : List (Str × V)} {f : Str} {v : V} (h : Vx ta σ H (.ref a)) (e : H a = some (.ins C dx fs)) (c : Cls K C) (n : NoAttr K C f) (l : fs.lookup f = some v) : Vx (tFld K ta f) σ H v := fun _ q => h _ ⟨a, C, dx, fs, v, rfl, e, c, n, l, q⟩
theorem fld_set {K : PySem.W.Frag} {ta tv : TE} {σ : L2.St} {H : Hp} {D : Ends} {a C dx : Addr} {fs : List (Str × V)} {f : Str} {v : V} (hv : Vx tv σ H v) (h : Vx ta σ H (.ref a)) (e : H a = some (.ins C dx fs)) (c : Cls K C) (n : NoAttr K C f) (l : fs.length < 1000) (k : D.nx σ (upd H a (.ins C dx (putF f v fs)))) : sFld K ta tv f D σ H := hv _ (h _ ⟨a, C, dx, fs, rfl, e, c, n, l, k⟩)
theorem i_fld {K : PySem.W.Frag} {ta tv : TE} {σ : L2.St} {H : Hp} {D : Ends} {f : Str} (h : tv σ H fun y H1 => ta σ H1 fun x H2 => ∃ a C dx fs, x = .ref a ∧ H2 a = some (.ins C dx fs) ∧ Cls K C ∧ NoAttr K C f ∧ fs.length < 1000 ∧ D.nx σ (upd H2 a (.ins C dx (putF f y fs)))) : sFld K ta tv f D σ H := h
theorem i_make {C : Addr} {sp : Sp} {dvs : List V} {E : XK} {t : TA} {σ : L2.St} {H : Hp} {Q : VK} (h : t σ H fun vs H1 => ∀ x dx, H1 x = none → H1 dx = none → dx ≠ x → sp (.ref x :: (vs ++ dvs)) (upd (upd H1 dx (.own x)) x (.ins C dx [])) (fun v H2 => v = .non ∧ Q (.ref x) H2) E) : tMake C sp dvs E t σ H Q := h
theorem lk_hd {f : Str} {v : V} {r : List (Str × V)} : List.lookup f ((f, v) :: r) = some v := by simp [List.lookup]
theorem lk_tl {f g : Str} {v : V} {r : List (Str × V)} (h : (g == f) = false) : List.lookup g ((f, v) :: r) = List.lookup g r := by simp [List.lookup, h]
theorem lk_mark {a b : V} : List.lookup ("mark" : Str) [(("owner" : Str), a), ("mark", b)] = some b := by rw [lk_tl (by decide +kernel), lk_hd]
theorem lk_before {a b : V} : List.lookup ("before" : Str) [(("page" : Str), a), ("before", b)] = some b := by rw [lk_tl (by decide +kernel), lk_hd]
theorem lk_wanted {a b c d : V} : List.lookup ("wanted" : Str) [(("shelf" : Str), a), ("wanted", b), ("ahead", c), ("depth", d)] = some b := by rw [lk_tl (by decide +kernel), lk_hd]
theorem lk_ahead {a b c d : V} : List.lookup ("ahead" : Str) [(("shelf" : Str), a), ("wanted", b), ("ahead", c), ("depth", d)] = some c := by rw [lk_tl (by decide +kernel), lk_tl (by decide +kernel), lk_hd]
theorem lk_depth {a b c d : V} : List.lookup ("depth" : Str) [(("shelf" : Str), a), ("wanted", b), ("ahead", c), ("depth", d)] = some d := by rw [lk_tl (by decide +kernel), lk_tl (by decide +kernel), lk_tl (by decide +kernel), lk_hd]
/-- an instance of a class of ours -/
abbrev InsAt (K : PySem.W.Frag) (H : Hp) (x : Addr) (C : Str) (fs : List (Str × V)) : Prop := ∃ dx, H x = some (.ins (He.ga K C) dx fs)
def spEnter (K : PySem.W.Frag) : Sp := fun vs H Q _ => ∃ (x k a : Addr), vs = [.ref x] ∧ x ≠ k ∧ InsAt K H x "DeskTrial" [("owner", .ref k), ("mark", .non)] ∧ InsAt K H k "Desk" [("page", .ref a)] ∧
  ∀ (m : Addr) (H' : Hp), ExBut x H H' → InsAt K H' x "DeskTrial" [("owner", .ref k), ("mark", .ref m)] → InsAt K H' m "PageMark" [("page", .ref a), ("before", .non)] → Q (.ref k) H'
def spExitN (K : PySem.W.Frag) : Sp := fun vs H Q _ => ∃ (x m a : Addr) (o : V), vs = [.ref x, .non, .non, .non] ∧ InsAt K H x "DeskTrial" [("owner", o), ("mark", .ref m)] ∧ InsAt K H m "PageMark" [("page", .ref a), ("before", .non)] ∧
  ∀ (H' : Hp), ExBut x H H' → Q .non H'
def spExitX (K : PySem.W.Frag) : Addr × Obj → Sp := fun _ vs H Q _ => ∃ (x k m a b : Addr) (kv e t : V), vs = [.ref x, kv, e, t] ∧ kv ≠ .non ∧ x ≠ k ∧ InsAt K H x "DeskTrial" [("owner", .ref k), ("mark", .ref m)] ∧ InsAt K H m "PageMark" [("page", .ref a), ("before", .non)] ∧ InsAt K H k "Desk" [("page", .ref b)] ∧
  ∀ (H' : Hp), (∀ c o, c ≠ x → c ≠ k → H c = some o → H' c = some o) → InsAt K H' k "Desk" [("page", .ref a)] → Q .non H'
def Okh (P : Program) (w : World) (K : PySem.W.Frag) (mg : Str → Option Value) (base : Heap) (k : Nat) (f : Addr) (ps : List Str) (sp : Addr × Obj → Sp) : Prop :=
  ∃ fd, FnHP P w K mg base k f fd ps sp ∧ Binds K fd ps [] ∧ PySem.W.keepIn K (.ref f) = true
section
variable {P : Program} {w : World} {K : PySem.W.Frag} {mg : Str → Option Value} {base : Heap}
theorem okh_of {x qual : Str} {params : Arguments} {body : List Stmt} {scope : Scope} {f : Addr} {N ps : List Str} {k : Nat} {sp : Addr × Obj → Sp} (F : ∃ fd, FunD K x qual params body scope [] [] f fd) (S : FnScope N ps scope)
    (hb : ∀ (kV doc pm : Value) (an : Option Addr) (cdv ct : Value) (us : List Value), us.length = ps.length → bindArgs (PySem.W.fnOf x qual params body scope .none kV doc pm an cdv ct) ⟨us, []⟩ = pure (ps.zip us))
    (len : ∀ p vs H Q E, sp p vs H Q E → vs.length = ps.length)
    (hbody : ∀ (cdv : Value) (A : Around) (outer : List Env) (s : Shared) (H : Hp) (vs : List V) (Q : VK) (E : XK) (p : Addr × Obj), Hot1 A p → RoomH k (A.deeper (envOfC qual scope s.heap.objs.size f cdv)) → sp p vs H Q E →
      ∃ t, PSs (cxH C8.CX0 P w K mg base N qual scope f cdv A outer s H E p) body t ∧ t { nx := fun _ H' => Q .non H', rt := Q } (L2.start N vs) H) : Okh P w K mg base (k + 1) f ps sp := by
  obtain ⟨fd, F⟩ := F
  refine ⟨fd, ?_, F.bindsN hb, F.kp⟩
  obtain ⟨oc, od, dV, kV, doc, pm, an, cdv, ct, osl, rfl, lk, hcd, _, _⟩ := F.ex
  exact fn_ofHP lk hcd S len fun A outer s H vs Q E p hg hr hsp => hbody cdv A outer s H vs Q E p hg hr hsp
theorem scEnter : FnScope ["self"] ["self"] (defScope st_m_DeskTrial_enter) := ⟨rfl, rfl, rfl, by decide +kernel, rfl, by decide +kernel, by decide +kernel⟩
theorem ok_enter (hd : Hd K mg) : Okf P w K mg base C8.CX0 3 (He.fAd K m_DeskTrial_enter.at_) ["self"] (spEnter K) := by
  have cD := hd.cls "Desk" (by decide +kernel)
  have cT := hd.cls "DeskTrial" (by decide +kernel)
  have n1 := hd.noat ("DeskTrial", "owner") (by decide +kernel)
  have n2 := hd.noat ("DeskTrial", "mark") (by decide +kernel)
  have n3 := hd.noat ("Desk", "page") (by decide +kernel)
  have mM : mg "PageMark" = some (.ref (He.ga K "PageMark")) := hd.glo _ (by decide +kernel)
  obtain ⟨fd, F, B, _⟩ := ok_markI (P := P) (w := w) (base := base) hd
  refine okf_of hd.f_m_DeskTrial_enter scEnter (fun _ _ _ _ _ _ us hl => ?_) (fun vs H Q E h => ?_) (fun cdv A outer s H vs Q E hr h => ?_)
  · obtain ⟨a, rfl⟩ := us1 hl
    rfl
  · obtain ⟨x, k, a, rfl, _⟩ := h
    rfl
  · obtain ⟨x, k, a, rfl, nx, ⟨dx, hx⟩, ⟨dk, hk⟩, q⟩ := h
    refine ⟨_, pss_cons (ps_fld (pv 0) (pe_make (E := E00) (hd.mkr "PageMark" (by decide +kernel)) F hr (by rfl) mM B .nil C8.pass0 (pa_cons (pe_fld (pe_fld (pv 0) rfl) rfl) (pa_cons (pe_fld (pv 0) rfl) pa_nil))) rfl)
      (pss_one (ps_ret (pe_fld (pv 0) rfl))), ?_⟩
    refine i_seq (i_fld (i_make (i_cons (vx_fld (vx_fld (vx_var rfl) hx cT n1 lk_hd) hk cD n3 lk_hd _ (i_cons (vx_fld (vx_var rfl) hx cT n2 lk_mark _ (i_nil fun m dm hm hdm ne => ?_)))))))
    have x1 : Evl.Ex H (upd (upd H dm (.own m)) m (.ins (He.ga K "PageMark") dm [])) := fun b o e => by
      rw [upd_ne (ne_of_none e hm), upd_ne (ne_of_none e hdm)]
      exact e
    refine ⟨m, dm, _, _, rfl, upd_same, fun H2 x2 h2 => ⟨rfl, ?_⟩⟩
    have hx2 := x2 _ _ (ne_of_none hx hm) (x1 _ _ hx)
    refine ⟨_, rfl, x, _, dx, _, rfl, hx2, cT, n2, by simp, ?_⟩
    rw [trial2']
    refine vx_fld (vx_var rfl) upd_same cT n1 lk_hd _ (q m _ (fun b o n e => ?_) ⟨dx, upd_same⟩ ⟨dm, ?_⟩)
    · rw [upd_ne n]
      exact x2 _ _ (ne_of_none e hm) (x1 _ _ e)
    · rw [upd_ne (Ne.symm (ne_of_none hx hm))]
      exact h2
theorem scExit : FnScope ["self", "kind", "error", "trace"] ["self", "kind", "error", "trace"] (defScope st_m_DeskTrial_exit) := ⟨rfl, rfl, rfl, by decide +kernel, rfl, by decide +kernel, by decide +kernel⟩
theorem ok_exitN (hd : Hd K mg) : Okf P w K mg base C8.CX0 1 (He.fAd K m_DeskTrial_exit.at_) ["self", "kind", "error", "trace"] (spExitN K) := by
  have cM := hd.cls "PageMark" (by decide +kernel)
  have cT := hd.cls "DeskTrial" (by decide +kernel)
  have n2 := hd.noat ("DeskTrial", "mark") (by decide +kernel)
  have n4 := hd.noat ("PageMark", "before") (by decide +kernel)
  refine okf_of hd.f_m_DeskTrial_exit scExit (fun _ _ _ _ _ _ us hl => ?_) (fun vs H Q E h => ?_) (fun cdv A outer s H vs Q E hr h => ?_)
  · obtain ⟨a, b, c, d, rfl⟩ := us4 hl
    rfl
  · obtain ⟨x, m, a, o, rfl, _⟩ := h
    rfl
  · obtain ⟨x, m, a, o, rfl, ⟨dx, hx⟩, ⟨dm, hm⟩, q⟩ := h
    refine ⟨_, pss_cons (ps_if (pt_cmpR op_notN1 (pv 1) pe_non (nomark _)) (pss_one (ps_fld (pe_fld (pv 0) rfl) (pe_fld (pe_fld (pv 0) rfl) rfl) rfl)) pss_nil)
      (pss_one (ps_fld (pv 0) (pe_fld (pe_fld (pv 0) rfl) rfl) rfl)), ?_⟩
    refine i_seq (if_f (fun Q q => ⟨_, rfl, rfl, false, rfl, q⟩) ?_)
    dsimp only [tNext]
    refine fld_set (vx_fld (vx_fld (vx_var rfl) hx cT n2 lk_mark) hm cM n4 lk_before) (vx_var rfl) hx cT n2 (by simp) (q _ fun b o n e => by rw [upd_ne n]; exact e)
theorem ok_exitX (hd : Hd K mg) : Okh P w K mg base 1 (He.fAd K m_DeskTrial_exit.at_) ["self", "kind", "error", "trace"] (spExitX K) := by
  have cD := hd.cls "Desk" (by decide +kernel)
  have cM := hd.cls "PageMark" (by decide +kernel)
  have cT := hd.cls "DeskTrial" (by decide +kernel)
  have n1 := hd.noat ("DeskTrial", "owner") (by decide +kernel)
  have n2 := hd.noat ("DeskTrial", "mark") (by decide +kernel)
  have n3 := hd.noat ("Desk", "page") (by decide +kernel)
  have n4 := hd.noat ("PageMark", "before") (by decide +kernel)
  have n5 := hd.noat ("PageMark", "page") (by decide +kernel)
  refine okh_of hd.f_m_DeskTrial_exit scExit (fun _ _ _ _ _ _ us hl => ?_) (fun p vs H Q E h => ?_) (fun cdv A outer s H vs Q E p hot hr h => ?_)
  · obtain ⟨a, b, c, d, rfl⟩ := us4 hl
    rfl
  · obtain ⟨x, k, m, a, b, kv, e, t, rfl, _⟩ := h
    rfl
  · obtain ⟨x, k, m, a, b, kv, e, t, rfl, nn, nx, ⟨dx, hx⟩, ⟨dm, hm⟩, ⟨dk, hk⟩, q⟩ := h
    refine ⟨_, pss_cons (ps_if (pt_cmpR op_notN1 (pv 1) pe_non (nomark _)) (pss_one (ps_fld (pe_fld (pv 0) rfl) (pe_fld (pe_fld (pv 0) rfl) rfl) rfl)) pss_nil)
      (pss_one (ps_fld (pv 0) (pe_fld (pe_fld (pv 0) rfl) rfl) rfl)), ?_⟩
    have mk : m ≠ k := fun z => by
      rw [z, hk] at hm
      injection hm with hm
      injection hm with _ _ hm
      have := congrArg List.length hm
      simp at this
    refine i_seq (if_t (fun Q q => ⟨_, rfl, rfl, true, by rw [decide_eq_false nn]; rfl, q⟩) ?_)
    dsimp only [tNext]
    refine fld_set (vx_fld (vx_fld (vx_var rfl) hx cT n2 lk_mark) hm cM n5 lk_hd) (vx_fld (vx_var rfl) hx cT n1 lk_hd) hk cD n3 (by simp) ?_
    rw [desk1]
    have hx2 : (upd H k (.ins (He.ga K "Desk") dk [("page", .ref a)])) x = some (.ins (He.ga K "DeskTrial") dx [("owner", .ref k), ("mark", .ref m)]) := by
      rw [upd_ne nx]
      exact hx
    have hm2 : (upd H k (.ins (He.ga K "Desk") dk [("page", .ref a)])) m = some (.ins (He.ga K "PageMark") dm [("page", .ref a), ("before", .non)]) := by
      rw [upd_ne mk]
      exact hm
    refine fld_set (vx_fld (vx_fld (vx_var rfl) hx2 cT n2 lk_mark) hm2 cM n4 lk_before) (vx_var rfl) hx2 cT n2 (by simp) (q _ (fun c o n1 n2 e => by rw [upd_ne n1, upd_ne n2]; exact e) ⟨dk, by rw [upd_ne (Ne.symm nx), upd_same]⟩)
end
end Bt
set_option Elab.async false
set_option linter.all false
set_option maxRecDepth 100000
set_option maxHeartbeats 4000000
/-! Own exceptions made where nothing is handled: their context is known. -/
namespace Bt
open PySem PySem.Spec PyProof.Rows L2
section
variable {X : Cx}
theorem mk_endN {pins : List (Addr × Obj)} {σ : L2.St} {H1 H2 : Hp} {Q : XK} {hp hp2 h2 : Heap} {g1 g2 : Array GenState} {d1 d2 : Drawn} {t1 t2 : Nat} {os1 os2 : OsState} {a C d : Addr} {fs : List (Str × V)} (T : Raises X (.ref C)) (I1 : Inv X pins σ H1 ⟨hp, g1, d1, t1, os1⟩)
    (ha : hp.objs.size ≤ a) (k : ∀ b o, hp.get? b = some o → hp2.get? b = some o) (un : Un (frs X.stack) [] (upd H1 a (exo a C none)) H2 hp2 h2) (hok : HOk X.prog X.w H2 h2) (ho : os2 = os1) (hb : AllBare g2)
    (ea : H2 a = some (exo a C (some d))) (ed : H2 d = some (exd d fs)) (hd1 : H1 d = none) (q : Q (.ref C) (some d) (upd (del H2 a) d (.xd fs))) : L2N.MkP X pins σ Q (.ref a) ⟨h2, g2, d2, t2, os2⟩ := by
  obtain ⟨t0, G, J, kG, ge, hoe, na⟩ := mk_end0 (d2 := d2) (t2 := t2) I1 ha k un hok ho hb ea ed hd1
  exact ⟨a, _, _, ⟨G, g2, d2, t2, os2⟩, _, .ref C, some d, rfl, J, kG, ge, hoe, ⟨rfl, rfl, fun vs e => by cases e; rfl⟩, rfl, rfl, na, rfl, hb, T, q⟩
end
section
variable {X : Cx} {o e : Expr} {es : List Expr} {to te : TE} {ta : TA} {f : Str} {p p' p1 p2 pos : Pos}
theorem pmk_oetN {CX : CXT} {x : Str} {C fI : Addr} {k : Nat} {fd : FuncData} {ps : List Str} {sp : Sp} (T : OexT X.K C) (iC : PySem.W.findIn X.K (.ref C) "__init__" = some (some (.ref fI))) (tI : PySem.W.typeIn X.K (.ref fI) = some (.type "function"))
    (F1 : FnOk X.prog X.w X.K X.mg X.base CX k fI fd ps sp) (hr : Room (k + 1) X.A) (hb : Binds X.K fd ps []) (hx : Passes CX X (fun _ _ _ => False)) (hg : Gl X x) (hm : X.mg x = some (.ref C)) (ha : PA X (e :: es) ta)
    (hdb : (x == ("__debug__" : Str)) = false := by decide) (he : starEach (e :: es) X.env = (false, eval e X.env) :: starEach es X.env := by rfl) (hpl : (backTo pos (starEach es X.env)).any (·.1) = false := by rfl) :
    L2N.PMk X (.Call (.Name x p) (e :: es) [] pos) (tMkT C sp ta) := by
  intro pins s σ H Q I h
  obtain ⟨B, newId, initId, tl, BB, nm, q, N, bs, bm, sn, sub, ab, col, dd, k0, k1, k2, k3, k5, hC, hbm⟩ := T.cls
  refine wpAny_Call_Name_kw (ld_glob I hg hm ?_ hdb)
  refine PySem.W.callWith_K (h₀ := X.base) I.ok.mod.kin T.kC (thn (ha.run pos pins s σ H _ I h) fun us s1 hh => ?_) he hpl
  obtain ⟨vs, H1, I1, r1, hz, q1⟩ := hh
  refine ⟨I1.kIn, ?_⟩
  show wpAny _ _ (call (.ref C) us) _ _ _
  obtain ⟨hp, g, dr, tk, os⟩ := s1
  have sz : hp.objs.size ≤ hp.objs.size + 1 := Nat.le_succ _
  have hn : H1 (hp.objs.size + 1) = none := I1.hok.fresh sz
  have hq := q1 (hp.objs.size + 1) hn
  have kk : ∀ b o, hp.get? b = some o → ((hp.push (PySem.W.kdv_tup us)).push (PySem.HandSPX.excO C hp.objs.size)).get? b = some o := fun b o e =>
    Heap.get?_push_of_some _ (Heap.get?_push_of_some _ e)
  have gnew : ((hp.push (PySem.W.kdv_tup us)).push (PySem.HandSPX.excO C hp.objs.size)).get? (hp.objs.size + 1) = some (PySem.HandSPX.excO C hp.objs.size) := by heap_get
  have I2 : Inv X pins σ (upd H1 (hp.objs.size + 1) (exo (hp.objs.size + 1) C none)) ⟨(hp.push (PySem.W.kdv_tup us)).push (PySem.HandSPX.excO C hp.objs.size), g, dr, tk, os⟩ :=
    I1.laid (t' := tk) (a := hp.objs.size + 1) (o := exo (hp.objs.size + 1) C none) kk sz (exo_ok gnew)
  have r2 : Vals (V.ref (hp.objs.size + 1) :: vs) (Value.ref (hp.objs.size + 1) :: us) := .cons rfl r1
  have hl : (Value.ref (hp.objs.size + 1) :: us).length = ps.length := by
    have e := r2.length
    rw [F1.len _ _ _ _ hq] at e
    exact e.symm
  have hus : us.length ≤ sizeLine := by
    rw [← Paired.length r1, sizeLine_eq]
    omega
  have hb2 := hb _ (Value.ref (hp.objs.size + 1) :: us) I2.kIn (by rw [List.append_nil]; exact hl)
  rw [List.append_nil] at hb2
  refine wpAny_call (PySem.HandSPX.call_own BB.fb (fun Y => tailB_has Y bm hbm) (I1.kIn _ _ hC) (PySem.W.looks_findIn I1.kIn iC) (fun self => PySem.W.bind_fn I1.kIn self tI) hus
    (codeAny_mono (F1.run _ X.stack _ _ ⟨Value.ref (hp.objs.size + 1) :: us, []⟩ (Value.ref (hp.objs.size + 1) :: us) _ _ (fun _ _ _ => False) (hr.make C us []) (I2.env0.make C us []) hb2 r2 hq) fun r s' hq' => ?_))
  cases r with
  | error er => exact hx pins σ _ _ er s' I2 hq'
  | ok fl =>
    cases fl with
    | ret u =>
      obtain ⟨v, H2, os2, bare2, un2, hok2, rv, ev, d, fs, ea, ed, hd1, q2⟩ := hq'
      subst ev
      obtain ⟨h2, g2, d2, t2, os'⟩ := s'
      exact ⟨rv, mk_endN (raises_own T.exC T.tyC) I1 sz kk un2 hok2 os2 bare2 ea ed hd1 q2⟩
    | next => exact False.elim hq'
    | brk => exact False.elim hq'
    | cont => exact False.elim hq'
/-- C() -/
theorem pmk_own0N {C : Addr} {bmB : List Value} {B newId initId : String} {x : Str} (F : ExcBaseFacts B newId initId bmB) (q : PySem.W.excIn X.K C bmB newId = true) (gC : X.mg x = some (.ref C)) (kC : PySem.W.keepIn X.K (.ref C) = true) (r : Raises X (.ref C)) (hg : Gl X x)
    (hdb : (x == ("__debug__" : Str)) = false := by decide) : L2N.PMk X (.Call (.Name x p) [] [] pos) (fun _ H Q => Q (.ref C) none H) := by
  intro pins s σ H Q I h
  refine wpAny_Call_Name_kw (ld_glob I hg gC ?_ hdb)
  refine PySem.W.callWith_K0 I.kIn kC ?_
  show wpAny _ _ (call (.ref C) []) _ _ _
  obtain ⟨bm, N, nm, qn, bs, hdct, sn, sub, ab, col, dd, k0, k1, k2, k3, k5, mN, hC, hN, hni, T⟩ := exc_obj I.kIn q
  refine wpAny_call_exc_subT F T hC hN hni (fun h' e hm => ?_) (by show 0 ≤ sizeLine; omega)
  exact L2N.mk_of I hm r h (I.hok.gone hm.new)
end
end Bt
set_option Elab.async false
set_option linter.all false
set_option maxRecDepth 100000
set_option maxHeartbeats 4000000
/-! The program's exceptions: made, raised. -/
namespace Bt
open PySem PySem.Spec PyProof.Rows L2
/-- what a deed may end with -/
inductive Err where
  | unknown (t : Str)
  | inUse (i : Nat)
  | index (i : Int)
  | nothing
  | broken (i : Nat) (v : V)
/-- it is raised from H -/
def Raised (K : PySem.W.Frag) (E : XK) (H : Hp) : Err → Prop
  | .unknown t => ∀ d, H d = none → E (.ref (He.ga K "UnknownName")) (some d) (upd H d (.xd [("given", .str t)]))
  | .inUse i => ∀ d, H d = none → E (.ref (He.ga K "InUse")) (some d) (upd H d (.xd [("index", .int (i : Nat))]))
  | .index i => ∀ d, H d = none → E (.ref (He.ga K "InvalidIndex")) (some d) (upd H d (.xd [("given", .int i)]))
  | .nothing => E (.ref (He.ga K "NothingToUndo")) none H
  | .broken i v => ∀ d, H d = none → E (.ref (He.ga K "Broken")) (some d) (upd H d (.xd [("shown", v), ("index", .int (i : Nat))]))
def spEx1 (C : Addr) (f : Str) : Sp := fun vs H Q _ => ∃ (a : Addr) (y : V), vs = [.ref a, y] ∧ H a = some (exo a C none) ∧ ∀ dx, H dx = none → dx ≠ a → Q .non (upd (upd H dx (exd dx [(f, y)])) a (exo a C (some dx)))
def spEx2 (C : Addr) (f g : Str) : Sp := fun vs H Q _ => ∃ (a : Addr) (y z : V), vs = [.ref a, y, z] ∧ H a = some (exo a C none) ∧ ∀ dx, H dx = none → dx ≠ a → Q .non (upd (upd H dx (exd dx [(g, z), (f, y)])) a (exo a C (some dx)))
theorem xd_end {H : Hp} {a dx C : Addr} {fs : List (Str × V)} (h : H a = none) (ne : dx ≠ a) : upd (del (upd (upd (upd H a (exo a C none)) dx (exd dx fs)) a (exo a C (some dx))) a) dx (.xd fs) = upd H dx (.xd fs) := by
  funext b
  by_cases e1 : b = dx
  · rw [e1, upd_same, upd_same]
  · rw [upd_ne e1, upd_ne e1]
    by_cases e2 : b = a
    · subst e2
      rw [h]
      unfold del
      rw [if_pos rfl]
    · unfold del
      rw [if_neg e2, upd_ne e2, upd_ne e1, upd_ne e2]
theorem mk_ex1 {C : Addr} {f : Str} {ta : TA} {σ : L2.St} {H H1 : Hp} {y : V} {Q : XK} (hta : ∀ R : List V → Hp → Prop, R [y] H1 → ta σ H R) (k : ∀ d, H1 d = none → Q (.ref C) (some d) (upd H1 d (.xd [(f, y)]))) : tMkT C (spEx1 C f) ta σ H Q := by
  refine hta _ ⟨by simp, fun a ha => ⟨a, y, rfl, upd_same, fun dx hdx ne => ⟨rfl, dx, [(f, y)], upd_same, ?_, ?_, ?_⟩⟩⟩
  · rw [upd_ne ne, upd_same]
  · rw [upd_ne ne] at hdx
    exact hdx
  · rw [xd_end ha ne]
    rw [upd_ne ne] at hdx
    exact k dx hdx
theorem mk_ex2 {C : Addr} {f g : Str} {ta : TA} {σ : L2.St} {H H1 : Hp} {y z : V} {Q : XK} (hta : ∀ R : List V → Hp → Prop, R [y, z] H1 → ta σ H R) (k : ∀ d, H1 d = none → Q (.ref C) (some d) (upd H1 d (.xd [(g, z), (f, y)]))) : tMkT C (spEx2 C f g) ta σ H Q := by
  refine hta _ ⟨by simp, fun a ha => ⟨a, y, z, rfl, upd_same, fun dx hdx ne => ⟨rfl, dx, [(g, z), (f, y)], upd_same, ?_, ?_, ?_⟩⟩⟩
  · rw [upd_ne ne, upd_same]
  · rw [upd_ne ne] at hdx
    exact hdx
  · rw [xd_end ha ne]
    rw [upd_ne ne] at hdx
    exact k dx hdx
section
variable {P : Program} {w : World} {K : PySem.W.Frag} {mg : Str → Option Value} {base : Heap}
theorem scUN : FnScope ["self", "given"] ["self", "given"] (defScope st_m_UnknownName_init) := ⟨rfl, rfl, rfl, by decide +kernel, rfl, by decide +kernel, by decide +kernel⟩
theorem ok_UN (hd : Hd K mg) : Okf P w K mg base C8.CX0 1 (He.fAd K m_UnknownName_init.at_) ["self", "given"] (spEx1 (He.ga K "UnknownName") "given") := by
  have T := (hd.oex "UnknownName" (by decide +kernel)).1
  have n := hd.ef ("UnknownName", "given") (by decide +kernel)
  refine okf_of hd.f_m_UnknownName_init scUN (fun _ _ _ _ _ _ us hl => ?_) (fun vs H Q E h => ?_) (fun cdv A outer s H vs Q E hr h => ?_)
  · obtain ⟨a, b, rfl⟩ := us2 hl
    rfl
  · obtain ⟨a, y, rfl, _⟩ := h
    rfl
  · obtain ⟨a, y, rfl, ha, k⟩ := h
    exact ⟨_, pss_one (ps_stn (pv 0) (pv 1)), _, rfl, _, rfl, a, _, rfl, T, n, .inl ⟨ha, fun dx h1 h2 => k dx h1 h2⟩⟩
theorem scIU : FnScope ["self", "index"] ["self", "index"] (defScope st_m_InUse_init) := ⟨rfl, rfl, rfl, by decide +kernel, rfl, by decide +kernel, by decide +kernel⟩
theorem ok_IU (hd : Hd K mg) : Okf P w K mg base C8.CX0 1 (He.fAd K m_InUse_init.at_) ["self", "index"] (spEx1 (He.ga K "InUse") "index") := by
  have T := (hd.oex "InUse" (by decide +kernel)).1
  have n := hd.ef ("InUse", "index") (by decide +kernel)
  refine okf_of hd.f_m_InUse_init scIU (fun _ _ _ _ _ _ us hl => ?_) (fun vs H Q E h => ?_) (fun cdv A outer s H vs Q E hr h => ?_)
  · obtain ⟨a, b, rfl⟩ := us2 hl
    rfl
  · obtain ⟨a, y, rfl, _⟩ := h
    rfl
  · obtain ⟨a, y, rfl, ha, k⟩ := h
    exact ⟨_, pss_one (ps_stn (pv 0) (pv 1)), _, rfl, _, rfl, a, _, rfl, T, n, .inl ⟨ha, fun dx h1 h2 => k dx h1 h2⟩⟩
theorem scII : FnScope ["self", "given"] ["self", "given"] (defScope st_m_InvalidIndex_init) := ⟨rfl, rfl, rfl, by decide +kernel, rfl, by decide +kernel, by decide +kernel⟩
theorem ok_II (hd : Hd K mg) : Okf P w K mg base C8.CX0 1 (He.fAd K m_InvalidIndex_init.at_) ["self", "given"] (spEx1 (He.ga K "InvalidIndex") "given") := by
  have T := (hd.oex "InvalidIndex" (by decide +kernel)).1
  have n := hd.ef ("InvalidIndex", "given") (by decide +kernel)
  refine okf_of hd.f_m_InvalidIndex_init scII (fun _ _ _ _ _ _ us hl => ?_) (fun vs H Q E h => ?_) (fun cdv A outer s H vs Q E hr h => ?_)
  · obtain ⟨a, b, rfl⟩ := us2 hl
    rfl
  · obtain ⟨a, y, rfl, _⟩ := h
    rfl
  · obtain ⟨a, y, rfl, ha, k⟩ := h
    exact ⟨_, pss_one (ps_stn (pv 0) (pv 1)), _, rfl, _, rfl, a, _, rfl, T, n, .inl ⟨ha, fun dx h1 h2 => k dx h1 h2⟩⟩
theorem scBK : FnScope ["self", "index", "shown"] ["self", "index", "shown"] (defScope st_m_Broken_init) := ⟨rfl, rfl, rfl, by decide +kernel, rfl, by decide +kernel, by decide +kernel⟩
theorem ok_BK (hd : Hd K mg) : Okf P w K mg base C8.CX0 1 (He.fAd K m_Broken_init.at_) ["self", "index", "shown"] (spEx2 (He.ga K "Broken") "index" "shown") := by
  have T := (hd.oex "Broken" (by decide +kernel)).1
  have n1 := hd.ef ("Broken", "index") (by decide +kernel)
  have n2 := hd.ef ("Broken", "shown") (by decide +kernel)
  refine okf_of hd.f_m_Broken_init scBK (fun _ _ _ _ _ _ us hl => ?_) (fun vs H Q E h => ?_) (fun cdv A outer s H vs Q E hr h => ?_)
  · obtain ⟨a, b, c, rfl⟩ := us3 hl
    rfl
  · obtain ⟨a, y, z, rfl, _⟩ := h
    rfl
  · obtain ⟨a, y, z, rfl, ha, k⟩ := h
    refine ⟨_, pss_cons (ps_stn (pv 0) (pv 1)) (pss_one (ps_stn (pv 0) (pv 2))), _, rfl, _, rfl, a, _, rfl, T, n1, .inl ⟨ha, fun dx h1 h2 => ?_⟩⟩
    refine ⟨_, rfl, _, rfl, a, _, rfl, T, n2, .inr ⟨dx, _, upd_same, by rw [upd_ne h2, upd_same], by simp, ?_⟩⟩
    have e : upd (upd (upd H dx (exd dx [("index", y)])) a (exo a (He.ga K "Broken") (some dx))) dx (exd dx [("shown", z), ("index", y)]) = upd (upd H dx (exd dx [("shown", z), ("index", y)])) a (exo a (He.ga K "Broken") (some dx)) := by
      funext b
      by_cases e1 : b = dx
      · rw [e1, upd_same, upd_ne h2, upd_same]
      · rw [upd_ne e1]
        by_cases e2 : b = a
        · rw [e2, upd_same, upd_same]
        · rw [upd_ne e2, upd_ne e2, upd_ne e1, upd_ne e1]
    rw [e]
    exact k dx h1 h2
end
end Bt
set_option Elab.async false
set_option linter.all false
set_option maxRecDepth 100000
set_option maxHeartbeats 4000000
/-! The desk and its pages. -/
namespace Bt
open PySem PySem.Spec PyProof.Rows L2
abbrev Leaf := Shelf × List Wish
/-- a tuple of wishes -/
def WsAt (H : Hp) (w : Addr) (Ws : List Wish) : Prop := ∃ as : List Addr, H w = some (.tup (as.map V.ref)) ∧ Paired (WishAt H) as Ws
/-- a chain of pages, the top first -/
def PageAt (K : PySem.W.Frag) (H : Hp) : Addr → List Leaf → Prop
  | _, [] => False
  | a, t :: rest => ∃ d w prev, InsAt K H a "Page" [("shelf", .ref d), ("wanted", .ref w), ("ahead", prev), ("depth", .int (rest.length : Nat))] ∧ ShP K H d t.1 ∧ WsAt H w t.2 ∧ ((rest = [] ∧ prev = .non) ∨ ∃ b, prev = .ref b ∧ PageAt K H b rest)
def DeskAt (K : PySem.W.Frag) (H : Hp) (k : Addr) (L : List Leaf) : Prop := ∃ a, InsAt K H k "Desk" [("page", .ref a)] ∧ PageAt K H a L
/-- an object that no step of ours changes: not a list, not a table, not of one field (a Frame apart) -/
def Firm (o : HO) : Prop := (∃ xs, o = .tup xs) ∨ (∃ ob xs, o = .frz ob (.tup xs)) ∨ (∃ kvs, o = .dK kvs) ∨ (∃ C dx v, o = .ins C dx [("parts", v)]) ∨ ∃ C dx a b c d, o = .ins C dx [("shelf", a), ("wanted", b), ("ahead", c), ("depth", d)]
def Firms (H H' : Hp) : Prop := ∀ b o, Firm o → H b = some o → H' b = some o
theorem Firms.ex {H H' : Hp} (x : Evl.Ex H H') : Firms H H' := fun b o _ e => x b o e
theorem Firms.trans {H H1 H2 : Hp} (a : Firms H H1) (b : Firms H1 H2) : Firms H H2 := fun c o f e => b c o f (a c o f e)
theorem frameAt_firm {K : PySem.W.Frag} {H H' : Hp} {a : Addr} {p : Plan} (h : FrameAt K H a p) (x : Firms H H') : FrameAt K H' a p := by
  obtain ⟨dx, q, t, h1, h2, o, od, h3⟩ := h
  exact ⟨dx, q, t, x _ _ (.inr (.inr (.inr (.inl ⟨_, _, _, rfl⟩)))) h1, x _ _ (.inl ⟨_, rfl⟩) h2, o, od, x _ _ (.inr (.inl ⟨_, _, rfl⟩)) h3⟩
theorem wishAt_firm {a : Addr} {H H' : Hp} : ∀ {w : Wish}, WishAt H a w → Firms H H' → WishAt H' a w
  | .within _ _, h, x => x _ _ (.inl ⟨_, rfl⟩) h
  | .rank _ _ _, ⟨s, h1, h2⟩, x => ⟨s, x _ _ (.inl ⟨_, rfl⟩) h1, x _ _ (.inl ⟨_, rfl⟩) h2⟩
  | .kind _ _ _, ⟨s, h1, h2⟩, x => ⟨s, x _ _ (.inl ⟨_, rfl⟩) h1, x _ _ (.inl ⟨_, rfl⟩) h2⟩
theorem paired_mono {α β : Type} {F G : α → β → Prop} {xs : List α} {ys : List β} (h : Paired F xs ys) (k : ∀ a b, F a b → G a b) : Paired G xs ys := by
  induction h with
  | nil => exact .nil
  | cons a _ ih => exact .cons (k _ _ a) ih
theorem wsAt_firm {H H' : Hp} {w : Addr} {Ws : List Wish} (h : WsAt H w Ws) (x : Firms H H') : WsAt H' w Ws := by
  obtain ⟨as, h1, h2⟩ := h
  exact ⟨as, x _ _ (.inl ⟨_, rfl⟩) h1, paired_mono h2 fun _ _ f => wishAt_firm f x⟩
theorem shP_firm {K : PySem.W.Frag} {H H' : Hp} {d : Addr} {S : Shelf} (h : ShP K H d S) (x : Firms H H') : ShP K H' d S := h.mono (fun o e => by
  obtain ⟨T, _, h2, _⟩ := h
  rw [h2] at e
  cases e
  exact x _ _ (.inr (.inr (.inl ⟨_, rfl⟩))) h2) fun a p f => frameAt_firm f x
theorem pageAt_firm {K : PySem.W.Frag} {H H' : Hp} (x : Firms H H') : ∀ {L : List Leaf} {a : Addr}, PageAt K H a L → PageAt K H' a L
  | t :: rest, a, ⟨d, w, prev, ⟨dx, h1⟩, h2, h3, h4⟩ => ⟨d, w, prev, ⟨dx, x _ _ (.inr (.inr (.inr (.inr ⟨_, _, _, _, _, _, rfl⟩)))) h1⟩, shP_firm h2 x, wsAt_firm h3 x, by
    rcases h4 with h4 | ⟨b, e, h4⟩
    · exact .inl h4
    · exact .inr ⟨b, e, pageAt_firm x h4⟩⟩
/-- all but a desk stays: what is firm stays -/
theorem firms_desk {K : PySem.W.Frag} {H H' : Hp} {k : Addr} {v : V} (h : InsAt K H k "Desk" [("page", v)]) (x : ExBut k H H') : Firms H H' := fun b o f e => by
  refine x b o (fun z => ?_) e
  obtain ⟨dx, h⟩ := h
  rw [z, h] at e
  cases e
  rcases f with ⟨_, q⟩ | ⟨_, _, q⟩ | ⟨_, q⟩ | ⟨C, dx', v', q⟩ | ⟨_, _, _, _, _, _, q⟩
  · cases q
  · cases q
  · cases q
  · injection q with _ _ q
    injection q with q
    injection q with q
    revert q
    decide +kernel
  · injection q with _ _ q
    have := congrArg List.length q
    simp at this
/-- all but a list stays -/
theorem firms_list {H H' : Hp} {k : Addr} {xs : List V} (h : H k = some (.lst xs)) (x : ExBut k H H') : Firms H H' := fun b o f e => by
  refine x b o (fun z => ?_) e
  rw [z, h] at e
  cases e
  rcases f with ⟨_, q⟩ | ⟨_, _, q⟩ | ⟨_, q⟩ | ⟨_, _, _, q⟩ | ⟨_, _, _, _, _, _, q⟩ <;> cases q
/-- what the top page says -/
theorem PageAt.top {K : PySem.W.Frag} {H : Hp} {a : Addr} {L : List Leaf} (h : PageAt K H a L) : ∃ t rest, L = t :: rest ∧ PageAt K H a (t :: rest) := by
  cases L with
  | nil => exact h.elim
  | cons t rest => exact ⟨t, rest, rfl, h⟩
/-- a new page on the chain -/
theorem PageAt.cons {K : PySem.W.Frag} {H : Hp} {x a d w : Addr} {S : Shelf} {Ws : List Wish} {L : List Leaf} {n : Int} (h : PageAt K H a L) (hx : InsAt K H x "Page" [("shelf", .ref d), ("wanted", .ref w), ("ahead", .ref a), ("depth", .int n)]) (hn : n = (L.length : Nat)) (hd : ShP K H d S) (hw : WsAt H w Ws) : PageAt K H x ((S, Ws) :: L) := by
  subst hn
  exact ⟨d, w, .ref a, hx, hd, hw, .inr ⟨a, rfl, h⟩⟩
end Bt
set_option Elab.async false
set_option linter.all false
set_option maxRecDepth 100000
set_option maxHeartbeats 4000000
/-! The desk: made, asked, undone. -/
namespace Bt
open PySem PySem.Spec PyProof.Rows L2 L2H
abbrev lkpTl : List Value := [.type "LookupError", .type "Exception", .type "BaseException", .type "object"]
/-- what else the top has left: special methods, an exception without __init__ -/
structure Hz (w : World) (K : PySem.W.Frag) (mg : Str → Option Value) : Prop extends Hy w K mg where
  cont : PySem.W.findIn K (.ref (He.ga K "Desk")) "__contains__" = some (some (.ref (He.fAd K m_Desk_contains.at_))) ∧ PySem.W.isFn K (.ref (He.fAd K m_Desk_contains.at_)) = true
  ent : PySem.W.findIn K (.ref (He.ga K "DeskTrial")) "__enter__" = some (some (.ref (He.fAd K m_DeskTrial_enter.at_))) ∧ PySem.W.isFn K (.ref (He.fAd K m_DeskTrial_enter.at_)) = true
  exi : PySem.W.findIn K (.ref (He.ga K "DeskTrial")) "__exit__" = some (some (.ref (He.fAd K m_DeskTrial_exit.at_))) ∧ PySem.W.isFn K (.ref (He.fAd K m_DeskTrial_exit.at_)) = true
  ntu : PySem.W.excIn K (He.ga K "NothingToUndo") lkpTl "LookupError.__new__" = true ∧ PySem.W.keepIn K (.ref (He.ga K "NothingToUndo")) = true ∧ PySem.W.subIn K (.ref (He.ga K "NothingToUndo")) (.type "BaseException") = some true ∧ PySem.W.typeIn K (.ref (He.ga K "NothingToUndo")) = some (.type "type")
  dsk : PySem.W.findIn K (.ref (He.ga K "Desk")) "__eq__" = some (some (.builtin "object.__eq__"))
def spDeskI (K : PySem.W.Frag) : Sp := fun vs H Q _ => ∃ (x dx : Addr), vs = [.ref x] ∧ H x = some (.ins (He.ga K "Desk") dx []) ∧ ∀ H', ExBut x H H' → DeskAt K H' x [([], [])] → Q .non H'
def spCont (K : PySem.W.Frag) : Sp := fun vs H Q _ => ∃ (k : Addr) (t : Str) (S : Shelf) (Ws : List Wish) (L : List Leaf), vs = [.ref k, .str t] ∧ DeskAt K H k ((S, Ws) :: L) ∧ Q (.bl (S.has t)) H
def spNeed (K : PySem.W.Frag) : Sp := fun vs H Q E => ∃ (k : Addr) (t : Str) (S : Shelf) (Ws : List Wish) (L : List Leaf), vs = [.ref k, .str t] ∧ DeskAt K H k ((S, Ws) :: L) ∧ (S.has t = true → Q .non H) ∧ (S.has t = false → Raised K E H (.unknown t))
def spUndo (K : PySem.W.Frag) : Sp := fun vs H Q E => ∃ (k : Addr) (t : Leaf) (L : List Leaf), vs = [.ref k] ∧ DeskAt K H k (t :: L) ∧ (L = [] → Raised K E H .nothing) ∧ (L ≠ [] → ∀ H', ExBut k H H' → DeskAt K H' k L → Q .non H')
def spTrial (K : PySem.W.Frag) : Sp := fun vs H Q _ => ∃ (k : Addr), vs = [.ref k] ∧ ∀ x H', Evl.Ex H H' → H x = none → InsAt K H' x "DeskTrial" [("owner", .ref k), ("mark", .non)] → Q (.ref x) H'
def spThing (K : PySem.W.Frag) : Sp := fun vs H Q _ => ∃ (k : Addr) (t : Str) (S : Shelf) (Ws : List Wish) (L : List Leaf), vs = [.ref k, .str t] ∧ DeskAt K H k ((S, Ws) :: L) ∧ S.has t = true ∧ ∀ f, FrameAt K H f (S.at t) → Q (.ref f) H
section
variable {P : Program} {w : World} {K : PySem.W.Frag} {mg : Str → Option Value} {base : Heap}
theorem takes_none {X : Cx} : L2N.Takes X (fun _ _ _ _ => False) := fun u s' ⟨_, _, _, _, _, _, _, _, _, _, _, _, _, _, _, _, w⟩ => w.elim
theorem passN {X : Cx} : Passes (CXN X.prog X.w) X E00 := L2N.passes_call takes_none fun _ _ _ _ h => h
theorem vx_din {td ty : TE} {σ : L2.St} {H : Hp} {d : Addr} {t : Str} {R : Addr → Plan → Prop} {S : Shelf} (h : Vx td σ H (.ref d)) (k : Vx ty σ H (.str t)) (g : DictAt R H d S) : Vx (tDIn ty td) σ H (.bl (S.has t)) := fun Q q => by
  obtain ⟨o, g1, g2⟩ := g.asks t
  rw [← g2] at q
  exact k _ (h _ ⟨d, o, rfl, g1, q⟩)
theorem scDeskI : FnScope ["self"] ["self"] (defScope st_m_Desk_init) := ⟨rfl, rfl, rfl, by decide +kernel, rfl, by decide +kernel, by decide +kernel⟩
theorem ok_deskI (hd : Hd K mg) : Okf P w K mg base C8.CX0 3 (He.fAd K m_Desk_init.at_) ["self"] (spDeskI K) := by
  have cD := hd.cls "Desk" (by decide +kernel)
  have n1 := hd.noat ("Desk", "page") (by decide +kernel)
  have mP : mg "Page" = some (.ref (He.ga K "Page")) := hd.glo _ (by decide +kernel)
  obtain ⟨fd, F, B, _⟩ := ok_pageI (P := P) (w := w) (base := base) hd
  refine okf_of hd.f_m_Desk_init scDeskI (fun _ _ _ _ _ _ us hl => ?_) (fun vs H Q E h => ?_) (fun cdv A outer s H vs Q E hr h => ?_)
  · obtain ⟨a, rfl⟩ := us1 hl
    rfl
  · obtain ⟨x, dx, rfl, _⟩ := h
    rfl
  · obtain ⟨x, dx, rfl, hx, q⟩ := h
    refine ⟨_, pss_one (ps_fld (pv 0) (pe_make (E := E00) (hd.mkr "Page" (by decide +kernel)) F hr (by rfl) mP B .nil C8.pass0 (pa_cons pe_dnewK (pa_cons (pe_tup pa_nil) (pa_cons pe_non pa_nil)))) rfl), ?_⟩
    refine i_fld (i_make (i_cons fun d hd1 => i_cons ⟨szl (by simp), fun e he => i_cons (vx_c _ (i_nil fun y dy hy hdy ne => ?_))⟩))
    have x1 : Evl.Ex H (upd H d (.dK [])) := .new hd1
    have x2 : Evl.Ex H (upd (upd H d (.dK [])) e (.tup [])) := x1.trans (.new he)
    have x3 : Evl.Ex H (upd (upd (upd (upd H d (.dK [])) e (.tup [])) dy (.own y)) y (.ins (He.ga K "Page") dy [])) := x2.trans fun b o e => by
      rw [upd_ne (ne_of_none e hy), upd_ne (ne_of_none e hdy)]
      exact e
    have d2 : (upd (upd H d (.dK [])) e (.tup [])) d = some (.dK []) := by
      rw [upd_ne (ne_of_none upd_same he), upd_same]
    have e2 : (upd (upd H d (.dK [])) e (.tup [])) e = some (.tup []) := upd_same
    generalize (upd (upd H d (.dK [])) e (.tup [])) = H2 at d2 e2 x2 x3 hy hdy ⊢
    have k3 : ∀ b o, H2 b = some o → (upd (upd H2 dy (.own y)) y (.ins (He.ga K "Page") dy [])) b = some o := fun b o e => by
      rw [upd_ne (ne_of_none e hy), upd_ne (ne_of_none e hdy)]
      exact e
    refine ⟨y, dy, d, e, .non, 0, rfl, upd_same, .inl ⟨rfl, rfl⟩, fun H4 x4 h4 => ⟨rfl, ?_⟩⟩
    have k4 : ∀ b o, H2 b = some o → H4 b = some o := fun b o e => x4 b o (ne_of_none e hy) (k3 b o e)
    refine ⟨_, rfl, x, _, dx, _, rfl, k4 _ _ (x2 _ _ hx), cD, n1, by simp, ?_⟩
    rw [putF_n]
    have kx : ∀ b o, b ≠ x → H4 b = some o → (upd H4 x (.ins (He.ga K "Desk") dx [("page", .ref y)])) b = some o := fun b o n e => by
      rw [upd_ne n]
      exact e
    have dx' : d ≠ x := fun z => by rw [z, x2 _ _ hx] at d2; cases d2
    have ex' : e ≠ x := fun z => by rw [z, x2 _ _ hx] at e2; cases e2
    have yx' : y ≠ x := fun z => by rw [z, x2 _ _ hx] at hy; cases hy
    refine q _ (fun b o n e => kx b o n (k4 _ _ (x2 _ _ e))) ⟨y, ⟨dx, upd_same⟩, d, e, .non, ⟨dy, kx _ _ yx' h4⟩, ⟨[], rfl, kx _ _ dx' (k4 _ _ d2), by simp⟩, ⟨[], kx _ _ ex' (k4 _ _ e2), .nil⟩, .inl ⟨rfl, rfl⟩⟩
theorem scCont : FnScope ["self", "value"] ["self", "value"] (defScope st_m_Desk_contains) := ⟨rfl, rfl, rfl, by decide +kernel, rfl, by decide +kernel, by decide +kernel⟩
theorem ok_cont (hd : Hd K mg) : Okf P w K mg base C8.CX0 1 (He.fAd K m_Desk_contains.at_) ["self", "value"] (spCont K) := by
  have cD := hd.cls "Desk" (by decide +kernel)
  have cP := hd.cls "Page" (by decide +kernel)
  have n1 := hd.noat ("Desk", "page") (by decide +kernel)
  have n2 := hd.noat ("Page", "shelf") (by decide +kernel)
  have ms : mg "isinstance" = none := hd.free _ (by decide +kernel)
  have mst : mg "str" = none := hd.free _ (by decide +kernel)
  refine okf_of hd.f_m_Desk_contains scCont (fun _ _ _ _ _ _ us hl => ?_) (fun vs H Q E h => ?_) (fun cdv A outer s H vs Q E hr h => ?_)
  · obtain ⟨a, b, rfl⟩ := us2 hl
    rfl
  · obtain ⟨k, t, _, _, _, rfl, _⟩ := h
    rfl
  · obtain ⟨k, t, S, Ws, L, rfl, ⟨a, ⟨dk, hk⟩, d, w, prev, ⟨da, ha⟩, hs, _⟩, q⟩ := h
    have hu := hu_of hr
    refine ⟨_, pss_one (ps_ret (pe_and (pe_callB call_isi (by rfl) ms bo_isinstance (pa_cons (pv 1) (pa_cons (pe_bltn (v := .ty "str") (by rfl) mst bo_str rfl) pa_nil))) (pe_one (pe_cmp (pc_din hu (pv 1) (pe_fld (pe_fld (pv 0) rfl) rfl)))))), ?_⟩
    refine i_ret (vx_and (b := true) (c := S.has t) (fun Q q => ⟨_, rfl, .str t, .ty "str", .type "str", .type "str", true, rfl, .ty _, .base (.str _), kit_ty (by decide +kernel), q⟩) (fun _ => vx_din (vx_fld (vx_fld (vx_var rfl) hk cD n1 lk_hd) ha cP n2 lk_hd) (vx_var rfl) hs) _ q)
theorem scNeed : FnScope ["self", "name"] ["self", "name"] (defScope st_m_Desk_need) := ⟨rfl, rfl, rfl, by decide +kernel, rfl, by decide +kernel, by decide +kernel⟩
theorem ok_need (hz : Hz w K mg) : Okf P w K mg base (CXN P w) 3 (He.fAd K m_Desk_need.at_) ["self", "name"] (spNeed K) := by
  have hd := hz.toHd
  have mU : mg "UnknownName" = some (.ref (He.ga K "UnknownName")) := hd.glo _ (by decide +kernel)
  obtain ⟨fd, F, B, _⟩ := ok_cont (P := P) (w := w) (base := base) hd
  obtain ⟨fd1, F1, B1, _⟩ := ok_UN (P := P) (w := w) (base := base) hd
  obtain ⟨T, iC, tI⟩ := hd.oex "UnknownName" (by decide +kernel)
  refine okf_of hd.f_m_Desk_need scNeed (fun _ _ _ _ _ _ us hl => ?_) (fun vs H Q E h => ?_) (fun cdv A outer s H vs Q E hr h => ?_)
  · obtain ⟨a, b, rfl⟩ := us2 hl
    rfl
  · obtain ⟨k, t, _, _, _, rfl, _⟩ := h
    rfl
  · obtain ⟨k, t, S, Ws, L, rfl, dk, q1, q2⟩ := h
    refine ⟨_, pss_one (ps_if (pt_cmpR (op_notInOwn (E := E00) F (hr.mono (by decide)) hz.cont.1 hz.cont.2 B C8.pass0) (pv 1) (pv 0) rfl) (pss_one (L2N.ps_raise rfl (L2N.takes_of (E := E) rfl rfl rfl rfl) (pmk_oetN T iC tI F1 hr B1 C8.pass0 (by rfl) mU (pa_cons (pv 1) pa_nil)))) pss_nil), ?_⟩
    obtain ⟨a, ⟨dk', hk⟩, _⟩ := id dk
    refine ⟨_, rfl, _, rfl, k, dk', _, rfl, hk, k, t, S, Ws, L, rfl, dk, S.has t, rfl, !S.has t, rfl, ?_⟩
    cases e : S.has t with
    | true => exact iteF (q1 e)
    | false => exact iteT (mk_ex1 (fun R r => ⟨_, rfl, r⟩) (q2 e))
end
end Bt
set_option Elab.async false
set_option linter.all false
set_option maxRecDepth 100000
set_option maxHeartbeats 4000000
/-! The desk: undo, trial, thing, names, claims, changes. -/
namespace Bt
open PySem PySem.Spec PyProof.Rows L2 L2H
def spNames (K : PySem.W.Frag) : Sp := fun vs H Q _ => ∃ (k : Addr) (S : Shelf) (Ws : List Wish) (L : List Leaf), vs = [.ref k] ∧ DeskAt K H k ((S, Ws) :: L) ∧ S.length < 64 ∧ ∀ (p : Addr) (ys : List Str) (H' : Hp), Evl.Ex H H' → ys.Perm (S.map (·.1)) → sortedS ys = true → H' p = some (.tup (ys.map V.str)) → Q (.ref p) H'
def spClaims (K : PySem.W.Frag) : Sp := fun vs H Q _ => ∃ (k : Addr) (S : Shelf) (Ws : List Wish) (L : List Leaf), vs = [.ref k] ∧ DeskAt K H k ((S, Ws) :: L) ∧ ∀ p, WsAt H p Ws → Q (.ref p) H
def spChanges (K : PySem.W.Frag) : Sp := fun vs H Q _ => ∃ (k : Addr) (t : Leaf) (L : List Leaf), vs = [.ref k] ∧ DeskAt K H k (t :: L) ∧ Q (.int (L.length : Nat)) H
theorem lk_no {f g : Str} {v : V} (h : (g == f) = false) : List.lookup g [(f, v)] = none := by simp [List.lookup, h]
theorem ShT.keys (T : ShT) : T.kv.map (·.1) = (T.sh.map (·.1)).map Sum.inr := by
  simp [ShT.kv, ShT.sh]
section
variable {P : Program} {w : World} {K : PySem.W.Frag} {mg : Str → Option Value} {base : Heap}
theorem scUndo : FnScope ["self"] ["self"] (defScope st_m_Desk_undo) := ⟨rfl, rfl, rfl, by decide +kernel, rfl, by decide +kernel, by decide +kernel⟩
theorem ok_undo (hz : Hz w K mg) : Okf P w K mg base (CXN P w) 1 (He.fAd K m_Desk_undo.at_) ["self"] (spUndo K) := by
  have hd := hz.toHd
  have cD := hd.cls "Desk" (by decide +kernel)
  have cP := hd.cls "Page" (by decide +kernel)
  have n1 := hd.noat ("Desk", "page") (by decide +kernel)
  have n3 := hd.noat ("Page", "ahead") (by decide +kernel)
  have mN : mg "NothingToUndo" = some (.ref (He.ga K "NothingToUndo")) := hd.glo _ (by decide +kernel)
  obtain ⟨q1, q2, q3, q4⟩ := hz.ntu
  refine okf_of hd.f_m_Desk_undo scUndo (fun _ _ _ _ _ _ us hl => ?_) (fun vs H Q E h => ?_) (fun cdv A outer s H vs Q E hr h => ?_)
  · obtain ⟨a, rfl⟩ := us1 hl
    rfl
  · obtain ⟨k, t, L, rfl, _⟩ := h
    rfl
  · obtain ⟨k, t, L, rfl, ⟨a, ⟨dk, hk⟩, d, w', prev, ⟨da, ha⟩, hs, hw, hp⟩, k1, k2⟩ := h
    refine ⟨_, pss_cons (ps_if (pt_cmpR op_isN1 (pe_fld (pe_fld (pv 0) rfl) rfl) pe_non (nomark _)) (pss_one (L2N.ps_raise rfl (L2N.takes_of (E := E) rfl rfl rfl rfl) (pmk_own0N bt_lookup.fb q1 mN q2 (raises_own q3 q4) (by rfl)))) pss_nil)
      (pss_one (ps_fld (pv 0) (pe_fld (pe_fld (pv 0) rfl) rfl) rfl)), ?_⟩
    have va : Vx (tFld K (tFld K (tVar 0) "page") "ahead") [some (V.ref k)] H prev := vx_fld (vx_fld (vx_var rfl) hk cD n1 lk_hd) ha cP n3 lk_ahead
    rcases hp with ⟨rfl, rfl⟩ | ⟨b, rfl, hb⟩
    · refine i_seq (if_t (fun Q q => va _ ⟨rfl, true, rfl, q⟩) ?_)
      exact k1 rfl
    · refine i_seq (if_f (fun Q q => va _ ⟨rfl, false, rfl, q⟩) ?_)
      dsimp only [tNext]
      refine fld_set va (vx_var rfl) hk cD n1 (by simp) ?_
      rw [desk1]
      have nl : L ≠ [] := by
        obtain ⟨_, _, e, _⟩ := hb.top
        rw [e]
        simp
      have x1 : ExBut k H (upd H k (.ins (He.ga K "Desk") dk [("page", .ref b)])) := fun b o n e => by
        rw [upd_ne n]
        exact e
      exact k2 nl _ x1 ⟨b, ⟨dk, upd_same⟩, pageAt_firm (firms_desk ⟨dk, hk⟩ x1) hb⟩
theorem scTrial : FnScope ["self"] ["self"] (defScope st_m_Desk_trial) := ⟨rfl, rfl, rfl, by decide +kernel, rfl, by decide +kernel, by decide +kernel⟩
theorem ok_trial (hd : Hd K mg) : Okf P w K mg base C8.CX0 3 (He.fAd K m_Desk_trial.at_) ["self"] (spTrial K) := by
  have mT : mg "DeskTrial" = some (.ref (He.ga K "DeskTrial")) := hd.glo _ (by decide +kernel)
  obtain ⟨fd, F, B, _⟩ := ok_trialI (P := P) (w := w) (base := base) hd
  refine okf_of hd.f_m_Desk_trial scTrial (fun _ _ _ _ _ _ us hl => ?_) (fun vs H Q E h => ?_) (fun cdv A outer s H vs Q E hr h => ?_)
  · obtain ⟨a, rfl⟩ := us1 hl
    rfl
  · obtain ⟨k, rfl, _⟩ := h
    rfl
  · obtain ⟨k, rfl, q⟩ := h
    refine ⟨_, pss_one (ps_ret (pe_make (E := E00) (hd.mkr "DeskTrial" (by decide +kernel)) F hr (by rfl) mT B .nil C8.pass0 (pa_cons (pv 0) pa_nil))), ?_⟩
    refine i_ret (i_make (i_cons (vx_var rfl _ (i_nil fun x dx hx hdx ne => ?_))))
    have x1 : Evl.Ex H (upd (upd H dx (.own x)) x (.ins (He.ga K "DeskTrial") dx [])) := fun b o e => by
      rw [upd_ne (ne_of_none e hx), upd_ne (ne_of_none e hdx)]
      exact e
    exact ⟨x, dx, .ref k, rfl, upd_same, fun H2 x2 h2 => ⟨rfl, q x H2 (fun b o e => x2 b o (ne_of_none e hx) (x1 b o e)) hx ⟨dx, h2⟩⟩⟩
theorem scThing : FnScope ["self", "name"] ["self", "name"] (defScope st_m_Desk_thing) := ⟨rfl, rfl, rfl, by decide +kernel, rfl, by decide +kernel, by decide +kernel⟩
theorem ok_thing (hz : Hz w K mg) : Okf P w K mg base C8.CX0 4 (He.fAd K m_Desk_thing.at_) ["self", "name"] (spThing K) := by
  have hd := hz.toHd
  have cD := hd.cls "Desk" (by decide +kernel)
  have cP := hd.cls "Page" (by decide +kernel)
  have n1 := hd.noat ("Desk", "page") (by decide +kernel)
  have n2 := hd.noat ("Page", "shelf") (by decide +kernel)
  have N := ok_need (P := P) (base := base) hz
  have mN := hd.meth ("Desk", "need") (by decide +kernel)
  refine okf_of hd.f_m_Desk_thing scThing (fun _ _ _ _ _ _ us hl => ?_) (fun vs H Q E h => ?_) (fun cdv A outer s H vs Q E hr h => ?_)
  · obtain ⟨a, b, rfl⟩ := us2 hl
    rfl
  · obtain ⟨k, t, _, _, _, rfl, _⟩ := h
    rfl
  · obtain ⟨k, t, S, Ws, L, rfl, dk, ht, q⟩ := h
    have hu := hu_of hr
    refine ⟨_, pss_cons (ps_expr (pe_methR (E := E00) (pv 0) cD mN (N.run hr passN) (pa_cons (pv 1) pa_nil)))
      (pss_one (ps_ret (pe_dget hu (pe_fld (pe_fld (pv 0) rfl) rfl) (pv 1) (fun _ _ => rfl)))), ?_⟩
    obtain ⟨a, ⟨dk', hk⟩, d, w', prev, ⟨da, ha⟩, hs, hw, hp⟩ := id dk
    obtain ⟨f, g, r⟩ := hs.get ht
    refine ⟨_, rfl, k, dk', _, rfl, hk, lk_no (by decide +kernel), _, rfl, k, t, S, Ws, L, rfl, dk, fun _ => ?_, fun z => by rw [ht] at z; cases z⟩
    exact vx_dget (vx_fld (vx_fld (vx_var rfl) hk cD n1 lk_hd) ha cP n2 lk_hd) (vx_var rfl) g _ (q f r)
theorem scNames : FnScope ["self"] ["self"] (defScope st_p_Desk_names) := ⟨rfl, rfl, rfl, by decide +kernel, rfl, by decide +kernel, by decide +kernel⟩
theorem ok_names (hd : Hd K mg) : OkPr P w K mg base C8.CX0 1 (He.ga K "Desk") "names" (spNames K) := by
  have cD := hd.cls "Desk" (by decide +kernel)
  have cP := hd.cls "Page" (by decide +kernel)
  have n1 := hd.noat ("Desk", "page") (by decide +kernel)
  have n2 := hd.noat ("Page", "shelf") (by decide +kernel)
  have mt : mg "tuple" = none := hd.free _ (by decide +kernel)
  have ms : mg "sorted" = none := hd.free _ (by decide +kernel)
  obtain ⟨p, g, fd, pr, F⟩ := hd.f_p_Desk_names
  refine ⟨p, g, pr, okf_of ⟨fd, F⟩ scNames (fun _ _ _ _ _ _ us hl => ?_) (fun vs H Q E h => ?_) (fun cdv A outer s H vs Q E hr h => ?_)⟩
  · obtain ⟨a, rfl⟩ := us1 hl
    rfl
  · obtain ⟨x, _, _, _, rfl, _⟩ := h
    rfl
  · obtain ⟨k, S, Ws, L, rfl, ⟨a, ⟨dk, hk⟩, d, w', prev, ⟨da, ha⟩, ⟨T, hT, hd', hr'⟩, hw, hp⟩, l64, q⟩ := h
    refine ⟨_, pss_one (ps_ret (pe_callTy call_tuple_of (by rfl) mt bo_tuple (pa_cons (pe_callB (call_sortedD rfl) (by rfl) ms bo_sorted (pa_cons (pe_fld (pe_fld (pv 0) rfl) rfl) pa_nil)) pa_nil))), ?_⟩
    have hT' : T.sh = S := hT
    refine i_ret (i_cb (i_cons (i_cb (i_cons (vx_fld (vx_fld (vx_var rfl) hk cD n1 lk_hd) ha cP n2 lk_hd _ (i_nil ⟨d, _, S.map (·.1), rfl, .of hd', by rw [ShT.keys, hT'], by rw [List.length_map]; exact l64, fun ys p hpm hso hpn => ?_⟩))))))
    refine i_nil ⟨p, _, rfl, .inl ⟨.of upd_same, fun l hl => q l ys _ ((Evl.Ex.new hpn).trans (.new hl)) hpm hso upd_same⟩⟩
theorem scClaims : FnScope ["self"] ["self"] (defScope st_p_Desk_claims) := ⟨rfl, rfl, rfl, by decide +kernel, rfl, by decide +kernel, by decide +kernel⟩
theorem ok_claims (hd : Hd K mg) : OkPr P w K mg base C8.CX0 1 (He.ga K "Desk") "claims" (spClaims K) := by
  have cD := hd.cls "Desk" (by decide +kernel)
  have cP := hd.cls "Page" (by decide +kernel)
  have n1 := hd.noat ("Desk", "page") (by decide +kernel)
  have n2 := hd.noat ("Page", "wanted") (by decide +kernel)
  obtain ⟨p, g, fd, pr, F⟩ := hd.f_p_Desk_claims
  refine ⟨p, g, pr, okf_of ⟨fd, F⟩ scClaims (fun _ _ _ _ _ _ us hl => ?_) (fun vs H Q E h => ?_) (fun cdv A outer s H vs Q E hr h => ?_)⟩
  · obtain ⟨a, rfl⟩ := us1 hl
    rfl
  · obtain ⟨x, _, _, _, rfl, _⟩ := h
    rfl
  · obtain ⟨k, S, Ws, L, rfl, ⟨a, ⟨dk, hk⟩, d, w', prev, ⟨da, ha⟩, hs, hw, hp⟩, q⟩ := h
    exact ⟨_, pss_one (ps_ret (pe_fld (pe_fld (pv 0) rfl) rfl)), i_ret (vx_fld (vx_fld (vx_var rfl) hk cD n1 lk_hd) ha cP n2 lk_wanted _ (q w' hw))⟩
theorem scChanges : FnScope ["self"] ["self"] (defScope st_p_Desk_changes) := ⟨rfl, rfl, rfl, by decide +kernel, rfl, by decide +kernel, by decide +kernel⟩
theorem ok_changes (hd : Hd K mg) : OkPr P w K mg base C8.CX0 1 (He.ga K "Desk") "changes" (spChanges K) := by
  have cD := hd.cls "Desk" (by decide +kernel)
  have cP := hd.cls "Page" (by decide +kernel)
  have n1 := hd.noat ("Desk", "page") (by decide +kernel)
  have n2 := hd.noat ("Page", "depth") (by decide +kernel)
  obtain ⟨p, g, fd, pr, F⟩ := hd.f_p_Desk_changes
  refine ⟨p, g, pr, okf_of ⟨fd, F⟩ scChanges (fun _ _ _ _ _ _ us hl => ?_) (fun vs H Q E h => ?_) (fun cdv A outer s H vs Q E hr h => ?_)⟩
  · obtain ⟨a, rfl⟩ := us1 hl
    rfl
  · obtain ⟨x, _, _, rfl, _⟩ := h
    rfl
  · obtain ⟨k, t, L, rfl, ⟨a, ⟨dk, hk⟩, d, w', prev, ⟨da, ha⟩, hs, hw, hp⟩, q⟩ := h
    exact ⟨_, pss_one (ps_ret (pe_fld (pe_fld (pv 0) rfl) rfl)), i_ret (vx_fld (vx_fld (vx_var rfl) hk cD n1 lk_hd) ha cP n2 lk_depth _ q)⟩
end
end Bt
set_option Elab.async false
set_option linter.all false
set_option maxRecDepth 100000
set_option maxHeartbeats 4000000
/-! check_kept. -/
namespace Bt
open PySem PySem.Spec PyProof.Rows L2 L2H
/-- the first wish, from the i-th on, that the shelf does not keep; what is shown of it -/
def broke (S : Shelf) : Nat → List Wish → Option (Nat × V)
  | _, [] => none
  | i, c :: r => if kept S c = true then broke S (i + 1) r else some (i, shownV S c)
/-- wishes that are right, and speak of what is there -/
def WsOk (S : Shelf) (Ws : List Wish) : Prop := ∀ c ∈ Ws, WishOk c ∧ c.on S
theorem paired_get {α β : Type} {F : α → β → Prop} {xs : List α} {ys : List β} (h : Paired F xs ys) : ∀ {i : Nat} {x : α}, xs[i]? = some x → ∃ y, ys[i]? = some y ∧ F x y := by
  induction h with
  | nil => intro i x e; simp at e
  | cons a _ ih =>
    intro i x e
    cases i with
    | zero =>
      simp at e
      subst e
      exact ⟨_, rfl, a⟩
    | succ i => exact ih (by simpa using e)
theorem drop_at {α : Type} {xs : List α} {i : Nat} {x : α} (h : xs[i]? = some x) : xs.drop i = x :: xs.drop (i + 1) := by
  obtain ⟨hi, e⟩ := List.getElem?_eq_some_iff.mp h
  rw [List.drop_eq_getElem_cons hi, e]
def spChkK (K : PySem.W.Frag) : Sp := fun vs H Q E => ∃ (a d : Addr) (S : Shelf) (Ws : List Wish), vs = [.ref a, .ref d] ∧ WsAt H a Ws ∧ ShP K H d S ∧ ShOk S ∧ WsOk S Ws ∧
  ∀ H', Evl.Ex H H' → (broke S 0 Ws = none → Q .non H') ∧ ∀ i v, broke S 0 Ws = some (i, v) → Raised K E H' (.broken i v)
section
variable {P : Program} {w : World} {K : PySem.W.Frag} {mg : Str → Option Value} {base : Heap}
theorem scChkK : FnScope ["told", "frames", "index", "claim"] ["told", "frames"] (defScope st_d_check_kept) := ⟨rfl, rfl, rfl, by decide +kernel, rfl, by decide +kernel, by decide +kernel⟩
theorem ok_chkK (hy : Hy w K mg) : Okf P w K mg base (CXN P w) 9 (He.fAd K d_check_kept.at_) ["told", "frames"] (spChkK K) := by
  have hd := hy.toHd
  have me : mg "enumerate" = none := hd.free _ (by decide +kernel)
  have mB : mg "Broken" = some (.ref (He.ga K "Broken")) := hd.glo _ (by decide +kernel)
  have mK : mg "is_kept" = some (.ref (He.fAd K d_is_kept.at_)) := hd.glo _ (by decide +kernel)
  have mS : mg "shown_by" = some (.ref (He.fAd K d_shown_by.at_)) := hd.glo _ (by decide +kernel)
  have IK := ok_kept (P := P) (base := base) hy
  have SB := ok_shBy (P := P) (base := base) hy
  obtain ⟨fd1, F1, B1, _⟩ := ok_BK (P := P) (w := w) (base := base) hd
  obtain ⟨T, iC, tI⟩ := hd.oex "Broken" (by decide +kernel)
  refine okf_of hd.f_d_check_kept scChkK (fun _ _ _ _ _ _ us hl => ?_) (fun vs H Q E h => ?_) (fun cdv A outer s H vs Q E hr h => ?_)
  · obtain ⟨a, b, rfl⟩ := us2 hl
    rfl
  · obtain ⟨a, d, _, _, rfl, _⟩ := h
    rfl
  · obtain ⟨a, d, S, Ws, rfl, ⟨as, ha, hp⟩, hs, so, wo, k⟩ := h
    refine ⟨_, pss_one (ps_for PassesOwn.leaving rfl (pi_enum2 (by rfl) me (pa_cons (pv 0) pa_nil)) (pg_tup rfl (pgs_cons (pg_name (i := 2) scChkK.nd rfl (.inl rfl)) (pgs_cons (pg_name (i := 3) scChkK.nd rfl (.inl rfl)) pgs_nil)))
      (pss_one (ps_if (pt_not (pt_val (pe_callR (E := E00) (IK.run hr C8.pass0) (by rfl) mK IK.kp (pa_cons (pv 3) (pa_cons (pv 1) pa_nil)))))
        (pss_one (L2N.ps_raise rfl (L2N.takes_of (E := E) rfl rfl rfl rfl) (pmk_oetN T iC tI F1 (hr.mono (by decide)) B1 C8.pass0 (by rfl) mB (pa_cons (pv 2) (pa_cons (pe_callR (E := E00) (SB.run hr C8.pass0) (by rfl) mS SB.kp (pa_cons (pv 3) (pa_cons (pv 1) pa_nil))) pa_nil))))) pss_nil))), ?_⟩
    refine ⟨_, rfl, a, _, rfl, .of ha, for_enum2 (K := K) (xs := as.map V.ref) (fun i σ' H' => ∃ o1 o2, σ' = [some (V.ref a), some (V.ref d), o1, o2] ∧ Evl.Ex H H' ∧ broke S 0 Ws = broke S i (Ws.drop i)) ⟨_, _, rfl, .refl _, rfl⟩ (fun i σ' H' _ h => ?_) (fun i x σ' H' T hx h hT => ?_) (fun σ' H' h => ?_)⟩
    · obtain ⟨_, _, _, x2, _⟩ := h
      exact .of (x2 _ _ ha)
    · obtain ⟨o1, o2, rfl, x2, eb⟩ := h
      obtain ⟨y, hy, rfl⟩ := Option.map_eq_some_iff.mp (List.getElem?_map .. ▸ hx)
      obtain ⟨c, hc, wc⟩ := paired_get hp hy
      have cm := wo c (List.mem_of_getElem? hc)
      have x3 := x2.trans (.new (o := .tup [.int (i : Nat), .ref y]) hT)
      refine ⟨T, _, rfl, .of upd_same, rfl, _, _, rfl, _, _, rfl, rfl, ?_⟩
      generalize (upd H' T (.tup [.int (i : Nat), .ref y])) = H2 at x3 ⊢
      rw [drop_at hc] at eb
      refine ⟨_, rfl, _, rfl, y, d, c, S, rfl, wc.ex x3, cm.1, hs.ex x3, so, cm.2, fun H3 x4 => ⟨kept S c, rfl, ?_⟩⟩
      have x5 := x3.trans x4
      cases ek : kept S c with
      | true =>
        rw [broke, if_pos ek] at eb
        exact iteF ⟨_, _, rfl, x5, eb⟩
      | false =>
        rw [broke, if_neg (by rw [ek]; decide)] at eb
        refine iteT ⟨_, rfl, _, rfl, _, rfl, y, d, c, S, rfl, wc.ex x5, cm.1, hs.ex x5, so, cm.2, fun H4 x6 => ?_⟩
        exact mk_ex2 (ta := fun _ H R => R [.int (i : Nat), shownV S c] H) (σ := []) (H := H4) (fun R r => r) ((k H4 (x5.trans x6)).2 i _ eb)
    · obtain ⟨o1, o2, rfl, x2, eb⟩ := h
      refine (k H' x2).1 ?_
      rw [eb, List.length_map, paired_len hp, List.drop_length]
      rfl
end
end Bt
set_option Elab.async false
set_option linter.all false
set_option maxRecDepth 100000
set_option maxHeartbeats 4000000
/-! lift. -/
namespace Bt
open PySem PySem.Spec PyProof.Rows L2 L2H
theorem cut_to (xs : List V) {i : Nat} (h : i ≤ xs.length) : cutV xs none (some (i : Int)) = xs.take i := by
  unfold cutV
  rw [HT.sIx_none, HT.sIx_nat, Nat.min_eq_left h]
  simp
theorem cut_from (xs : List V) {i : Nat} (h : i ≤ xs.length) : cutV xs (some (i : Int)) none = xs.drop i := by
  unfold cutV
  rw [HT.sIx_none, HT.sIx_nat, Nat.min_eq_left h]
  rw [List.take_of_length_le]
  simp
theorem paired_take {α β : Type} {F : α → β → Prop} {xs : List α} {ys : List β} (h : Paired F xs ys) : ∀ i, Paired F (xs.take i) (ys.take i) := by
  induction h with
  | nil => intro i; simp; exact .nil
  | cons a _ ih =>
    intro i
    cases i with
    | zero => exact .nil
    | succ i => exact .cons a (ih i)
theorem paired_drop {α β : Type} {F : α → β → Prop} {xs : List α} {ys : List β} (h : Paired F xs ys) : ∀ i, Paired F (xs.drop i) (ys.drop i) := by
  induction h with
  | nil => intro i; simp; exact .nil
  | cons a r ih =>
    intro i
    cases i with
    | zero => exact .cons a r
    | succ i => exact ih i
theorem paired_app {α β : Type} {F : α → β → Prop} {xs xs' : List α} {ys ys' : List β} (h : Paired F xs ys) (h' : Paired F xs' ys') : Paired F (xs ++ xs') (ys ++ ys') := by
  induction h with
  | nil => exact h'
  | cons a _ ih => exact .cons a ih
/-- the wishes without the i-th -/
def lifted (Ws : List Wish) (i : Nat) : List Wish := Ws.take i ++ Ws.drop (i + 1)
def spLift (K : PySem.W.Frag) : Sp := fun vs H Q E => ∃ (k : Addr) (i : Nat) (S : Shelf) (Ws : List Wish) (L : List Leaf), vs = [.ref k, .int (i : Nat)] ∧ DeskAt K H k ((S, Ws) :: L) ∧ Ws.length ≤ 1000 ∧
  (i < Ws.length → ∀ H', ExBut k H H' → DeskAt K H' k ((S, lifted Ws i) :: (S, Ws) :: L) → Q .non H') ∧ (¬ i < Ws.length → Raised K E H (.index i))
section
variable {P : Program} {w : World} {K : PySem.W.Frag} {mg : Str → Option Value} {base : Heap}
/-- self.page = Page(d, w, self.page): the new page on the chain -/
theorem page_new {H H3 : Hp} {k a y dk dy d w' : Addr} {S : Shelf} {Ws : List Wish} {L : List Leaf} {n : Int} (hk : H k = some (.ins (He.ga K "Desk") dk [("page", .ref a)])) (hp : PageAt K H a L) (x : Evl.Ex H H3) (hy : H3 y = some (.ins (He.ga K "Page") dy [("shelf", .ref d), ("wanted", .ref w'), ("ahead", .ref a), ("depth", .int n)])) (hn : n = (L.length : Nat))
    (hs : ShP K H3 d S) (hw : WsAt H3 w' Ws) : ExBut k H (upd H3 k (.ins (He.ga K "Desk") dk [("page", .ref y)])) ∧ DeskAt K (upd H3 k (.ins (He.ga K "Desk") dk [("page", .ref y)])) k ((S, Ws) :: L) := by
  have x1 : ExBut k H3 (upd H3 k (.ins (He.ga K "Desk") dk [("page", .ref y)])) := fun b o n e => by
    rw [upd_ne n]
    exact e
  refine ⟨fun b o n e => x1 b o n (x _ _ e), y, ⟨dk, upd_same⟩, ?_⟩
  have f := firms_desk (K := K) ⟨dk, x _ _ hk⟩ x1
  exact pageAt_firm f (PageAt.cons (pageAt_firm (.ex x) hp) ⟨dy, hy⟩ hn hs hw)
theorem scLift : FnScope ["self", "index", "told"] ["self", "index"] (defScope st_m_Desk_lift) := ⟨rfl, rfl, rfl, by decide +kernel, rfl, by decide +kernel, by decide +kernel⟩
theorem ok_lift (hz : Hz w K mg) : Okf P w K mg base (CXN P w) 4 (He.fAd K m_Desk_lift.at_) ["self", "index"] (spLift K) := by
  have hd := hz.toHd
  have cD := hd.cls "Desk" (by decide +kernel)
  have cP := hd.cls "Page" (by decide +kernel)
  have n1 := hd.noat ("Desk", "page") (by decide +kernel)
  have n2 := hd.noat ("Page", "shelf") (by decide +kernel)
  have n3 := hd.noat ("Page", "wanted") (by decide +kernel)
  have ml : mg "len" = none := hd.free _ (by decide +kernel)
  have mB : mg "is_between" = some (.ref (He.fAd K d_is_between.at_)) := hd.glo _ (by decide +kernel)
  have mI : mg "InvalidIndex" = some (.ref (He.ga K "InvalidIndex")) := hd.glo _ (by decide +kernel)
  have mP : mg "Page" = some (.ref (He.ga K "Page")) := hd.glo _ (by decide +kernel)
  have BT := ok_btw (P := P) (w := w) (base := base) hd
  obtain ⟨fd, F, B, _⟩ := ok_pageI (P := P) (w := w) (base := base) hd
  obtain ⟨fd1, F1, B1, _⟩ := ok_II (P := P) (w := w) (base := base) hd
  obtain ⟨T, iC, tI⟩ := hd.oex "InvalidIndex" (by decide +kernel)
  refine okf_of hd.f_m_Desk_lift scLift (fun _ _ _ _ _ _ us hl => ?_) (fun vs H Q E h => ?_) (fun cdv A outer s H vs Q E hr h => ?_)
  · obtain ⟨a, b, rfl⟩ := us2 hl
    rfl
  · obtain ⟨k, i, _, _, _, rfl, _⟩ := h
    rfl
  · obtain ⟨k, i, S, Ws, L, rfl, dk, l1000, q1, q2⟩ := h
    refine ⟨_, pss_cons (ps_set (i := 2) scLift.nd rfl (.inl rfl) (pe_fld (pe_fld (pv 0) rfl) rfl))
      (pss_cons (ps_if (pt_not (pt_val (pe_callR (E := E00) (BT.run (hr.mono (by decide)) C8.pass0) (by rfl) mB BT.kp (pa_cons (pv 1) (pa_cons pe_int (pa_cons (pe_op op_sub (pe_callB call_len_seq (by rfl) ml bo_len (pa_cons (pv 2) pa_nil)) pe_int) pa_nil))))))
        (pss_one (L2N.ps_raise rfl (L2N.takes_of (E := E) rfl rfl rfl rfl) (pmk_oetN T iC tI F1 (hr.mono (by decide)) B1 C8.pass0 (by rfl) mI (pa_cons (pv 1) pa_nil)))) pss_nil)
      (pss_one (ps_fld (pv 0) (pe_make (E := E00) (hd.mkr "Page" (by decide +kernel)) F (hr.mono (by decide)) (by rfl) mP B .nil C8.pass0 (pa_cons (pe_fld (pe_fld (pv 0) rfl) rfl) (pa_cons (pe_op op_catA (pe_slice sl_tup (pv 2) po_none (po_some (pv 1))) (pe_slice sl_tup (pv 2) (po_some (pe_op op_add (pv 1) pe_int)) po_none)) (pa_cons (pe_fld (pv 0) rfl) pa_nil)))) rfl))), ?_⟩
    obtain ⟨a, ⟨dk', hk⟩, pg⟩ := id dk
    obtain ⟨d, w', prev, ⟨da, ha⟩, hs, ⟨as, hw, hp⟩, hpr⟩ := id pg
    have hlen : as.length = Ws.length := paired_len hp
    refine i_seq (i_asg (vx_fld (vx_fld (vx_var rfl) hk cD n1 lk_hd) ha cP n3 lk_wanted _ ?_))
    dsimp only
    have eb : (decide ((0 : Int) ≤ (i : Nat)) && decide (((i : Nat) : Int) ≤ (((as.map V.ref).length : Nat) : Int) - 1)) = decide (i < Ws.length) := by
      rw [Bool.eq_iff_iff]
      simp only [Bool.and_eq_true, decide_eq_true_eq, List.length_map]
      omega
    refine i_seq ⟨_, rfl, _, rfl, w', _, rfl, .inr (.of hw), _, _, rfl, rfl, (i : Nat), 0, _, rfl, decide (i < Ws.length), by rw [eb], ?_⟩
    by_cases hi : i < Ws.length
    · rw [decide_eq_true hi]
      refine iteF ?_
      dsimp only [tNext]
      have ia : i < as.length := by omega
      have lm : (as.map V.ref).length = as.length := by simp
      refine i_fld (i_make (i_cons (vx_fld (vx_fld (vx_var rfl) hk cD n1 lk_hd) ha cP n2 lk_hd _ (i_cons ?_))))
      -- told[:index] + told[index + 1:]
      refine ⟨_, rfl, _, rfl, i, rfl, w', _, rfl, .of hw, ?_, fun p1 hp1 => ?_⟩
      · rw [lm, HT.sIx_nat, Nat.min_eq_left (by omega)]
        omega
      have x1 : Evl.Ex H (upd H p1 (.tup (cutV (as.map V.ref) none (some (i : Int))))) := .new hp1
      refine ⟨_, rfl, _, rfl, _, _, rfl, rfl, _, rfl, w', _, rfl, .of (x1 _ _ hw), ?_, fun p2 hp2 => ?_⟩
      · rw [show ((i : Int) + 1) = ((i + 1 : Nat) : Int) from by omega, lm, HT.sIx_nat]
        omega
      have x2 := x1.trans (.new (o := .tup (cutV (as.map V.ref) (some ((i : Int) + 1)) none)) hp2)
      have c1 : cutV (as.map V.ref) none (some (i : Int)) = (as.take i).map V.ref := by rw [cut_to _ (by omega), List.map_take]
      have c2 : cutV (as.map V.ref) (some ((i : Int) + 1)) none = (as.drop (i + 1)).map V.ref := by rw [show ((i : Int) + 1) = ((i + 1 : Nat) : Int) from by omega, cut_from _ (by omega), List.map_drop]
      have e1 : (upd (upd H p1 (.tup (cutV (as.map V.ref) none (some (i : Int))))) p2 (.tup (cutV (as.map V.ref) (some ((i : Int) + 1)) none))) p1 = some (.tup ((as.take i).map V.ref)) := by
        rw [upd_ne (ne_of_none upd_same hp2), upd_same, c1]
      have e2 : (upd (upd H p1 (.tup (cutV (as.map V.ref) none (some (i : Int))))) p2 (.tup (cutV (as.map V.ref) (some ((i : Int) + 1)) none))) p2 = some (.tup ((as.drop (i + 1)).map V.ref)) := by
        rw [upd_same, c2]
      generalize (upd (upd H p1 (.tup (cutV (as.map V.ref) none (some (i : Int))))) p2 (.tup (cutV (as.map V.ref) (some ((i : Int) + 1)) none))) = H2 at x2 e1 e2 ⊢
      -- what the sum is
      have go : ∀ (q : Addr) (H3 : Hp), Evl.Ex H H3 → H3 q = some (.tup ((as.take i ++ as.drop (i + 1)).map V.ref)) → (tFld K (tVar 0) "page" [some (V.ref k), some (V.int (i : Nat)), some (V.ref w')] H3 fun x H4 => tNil [some (V.ref k), some (V.int (i : Nat)), some (V.ref w')] H4 fun xs H5 => ∀ y dy, H5 y = none → H5 dy = none → dy ≠ y → spPageI K (.ref y :: ((.ref d :: .ref q :: x :: xs) ++ [])) (upd (upd H5 dy (.own y)) y (.ins (He.ga K "Page") dy [])) (fun v H6 => v = .non ∧ tVar 0 [some (V.ref k), some (V.int (i : Nat)), some (V.ref w')] H6 fun x H2 => ∃ a C dx fs, x = .ref a ∧ H2 a = some (.ins C dx fs) ∧ Cls K C ∧ NoAttr K C "page" ∧ fs.length < 1000 ∧ Q .non (upd H2 a (.ins C dx (putF "page" (.ref y) fs)))) E00) := fun q H3 x3 hq => by
        refine vx_fld (vx_var rfl) (x3 _ _ hk) cD n1 lk_hd _ (i_nil fun y dy hy hdy ne => ?_)
        have x4 : Evl.Ex H3 (upd (upd H3 dy (.own y)) y (.ins (He.ga K "Page") dy [])) := fun b o e => by
          rw [upd_ne (ne_of_none e hy), upd_ne (ne_of_none e hdy)]
          exact e
        refine ⟨y, dy, d, q, .ref a, _, rfl, upd_same, .inr ⟨a, da, _, _, rfl, ne_of_none (x3 _ _ ha) hy, x4 _ _ (x3 _ _ ha), lk_depth, rfl⟩, fun H5 x5 h5 => ⟨rfl, _, rfl, k, _, dk', [("page", .ref a)], rfl, ?_, cD, n1, (by show 1 < 1000; decide), ?_⟩⟩
        · exact x5 _ _ (ne_of_none (x3 _ _ hk) hy) (x4 _ _ (x3 _ _ hk))
        · rw [desk1]
          have x6 : Evl.Ex H H5 := fun b o e => x5 _ _ (ne_of_none (x3 _ _ e) hy) (x4 _ _ (x3 _ _ e))
          have hq5 : H5 q = some (.tup ((as.take i ++ as.drop (i + 1)).map V.ref)) := x5 _ _ (ne_of_none hq hy) (x4 _ _ hq)
          obtain ⟨r1, r2⟩ := page_new (Ws := lifted Ws i) (S := S) hk pg x6 h5 (by rw [List.length_cons]; omega) (hs.ex x6) ⟨_, hq5, paired_mono (paired_app (paired_take hp i) (paired_drop hp (i + 1))) fun _ _ f => f.ex x6⟩
          exact q1 hi _ r1 r2
      refine ⟨p1, p2, _, _, rfl, rfl, .of e1, .of e2, szl (by simp; omega), fun z => ?_, fun z1 z2 => ?_, fun z1 z2 p hp' => ?_⟩
      · have z' : as.take i = [] := List.map_eq_nil_iff.mp z
        exact go p2 H2 x2 (by rw [z', List.nil_append]; exact e2)
      · have z' : as.drop (i + 1) = [] := List.map_eq_nil_iff.mp z2
        exact go p1 H2 x2 (by rw [z', List.append_nil]; exact e1)
      · exact go p _ (x2.trans (.new hp')) (by rw [upd_same, List.map_append])
    · rw [decide_eq_false hi]
      exact iteT (mk_ex1 (fun R r => ⟨_, rfl, r⟩) (q2 hi))
end
end Bt
set_option Elab.async false
set_option linter.all false
set_option maxRecDepth 100000
set_option maxHeartbeats 4000000
/-! claim. -/
namespace Bt
open PySem PySem.Spec PyProof.Rows L2 L2H
def spClaim (K : PySem.W.Frag) : Sp := fun vs H Q E => ∃ (k c : Addr) (wi : Wish) (S : Shelf) (Ws : List Wish) (L : List Leaf), vs = [.ref k, .ref c] ∧ WishAt H c wi ∧ WishOk wi ∧ wi.on S ∧ DeskAt K H k ((S, Ws) :: L) ∧ ShOk S ∧ WsOk S Ws ∧ Ws.length ≤ 900 ∧
  (broke S 0 (Ws ++ [wi]) = none → ∀ H', ExBut k H H' → DeskAt K H' k ((S, Ws ++ [wi]) :: (S, Ws) :: L) → Q .non H') ∧ (∀ i v, broke S 0 (Ws ++ [wi]) = some (i, v) → ∀ H', Evl.Ex H H' → Raised K E H' (.broken i v))
section
variable {P : Program} {w : World} {K : PySem.W.Frag} {mg : Str → Option Value} {base : Heap}
theorem scClaim : FnScope ["self", "claim", "name", "told"] ["self", "claim"] (defScope st_m_Desk_claim) := ⟨rfl, rfl, rfl, by decide +kernel, rfl, by decide +kernel, by decide +kernel⟩
/-- self.page = Page(.., .., self.page), behind the two -/
theorem page_set {H H3 : Hp} {k a da dk d q : Addr} {fa : List (Str × V)} {S : Shelf} {Ws : List Wish} {t : Leaf} {L : List Leaf} {σ : L2.St} {D : Ends} {n : Int} (hd : Hd K mg) (h0 : σ[0]? = some (some (.ref k))) (hk : H k = some (.ins (He.ga K "Desk") dk [("page", .ref a)])) (pg : PageAt K H a (t :: L)) (x3 : Evl.Ex H H3)
    (hs : ShP K H3 d S) (hw : WsAt H3 q Ws) (fin : ∀ H', ExBut k H H' → DeskAt K H' k ((S, Ws) :: t :: L) → D.nx σ H') :
    tFld K (tVar 0) "page" σ H3 fun x H4 => tNil σ H4 fun xs H5 => ∀ y dy, H5 y = none → H5 dy = none → dy ≠ y → spPageI K (.ref y :: ((.ref d :: .ref q :: x :: xs) ++ [])) (upd (upd H5 dy (.own y)) y (.ins (He.ga K "Page") dy [])) (fun v H6 => v = .non ∧ tVar 0 σ H6 fun x H2 => ∃ a C dx fs, x = .ref a ∧ H2 a = some (.ins C dx fs) ∧ Cls K C ∧ NoAttr K C "page" ∧ fs.length < 1000 ∧ D.nx σ (upd H2 a (.ins C dx (putF "page" (.ref y) fs)))) E00 := by
  have cD := hd.cls "Desk" (by decide +kernel)
  have n1 := hd.noat ("Desk", "page") (by decide +kernel)
  obtain ⟨d0, w0, prev, ⟨da, ha⟩, _, _, _⟩ := id pg
  refine vx_fld (vx_var h0) (x3 _ _ hk) cD n1 lk_hd _ (i_nil fun y dy hy hdy ne => ?_)
  have x4 : Evl.Ex H3 (upd (upd H3 dy (.own y)) y (.ins (He.ga K "Page") dy [])) := fun b o e => by
    rw [upd_ne (ne_of_none e hy), upd_ne (ne_of_none e hdy)]
    exact e
  refine ⟨y, dy, d, q, .ref a, _, rfl, upd_same, .inr ⟨a, da, _, _, rfl, ne_of_none (x3 _ _ ha) hy, x4 _ _ (x3 _ _ ha), lk_depth, rfl⟩, fun H5 x5 h5 => ⟨rfl, _, h0, k, _, dk, [("page", .ref a)], rfl, ?_, cD, n1, (by show 1 < 1000; decide), ?_⟩⟩
  · exact x5 _ _ (ne_of_none (x3 _ _ hk) hy) (x4 _ _ (x3 _ _ hk))
  · rw [desk1]
    have x7 : Firms H3 H5 := fun b o f e => x5 _ _ (ne_of_none e hy) (x4 _ _ e)
    have x6 : Evl.Ex H H5 := fun b o e => x5 _ _ (ne_of_none (x3 _ _ e) hy) (x4 _ _ (x3 _ _ e))
    obtain ⟨r1, r2⟩ := page_new (Ws := Ws) (S := S) hk pg x6 h5 (by rw [List.length_cons]; omega) (shP_firm hs x7) (wsAt_firm hw x7)
    exact fin _ r1 r2
theorem ok_claim (hz : Hz w K mg) : Okf P w K mg base (CXN P w) 10 (He.fAd K m_Desk_claim.at_) ["self", "claim"] (spClaim K) := by
  have hd := hz.toHd
  have cD := hd.cls "Desk" (by decide +kernel)
  have cP := hd.cls "Page" (by decide +kernel)
  have n1 := hd.noat ("Desk", "page") (by decide +kernel)
  have n2 := hd.noat ("Page", "shelf") (by decide +kernel)
  have n3 := hd.noat ("Page", "wanted") (by decide +kernel)
  have mC : mg "is_claim" = some (.ref (He.fAd K d_is_claim.at_)) := hd.glo _ (by decide +kernel)
  have mN : mg "names_in" = some (.ref (He.fAd K d_names_in.at_)) := hd.glo _ (by decide +kernel)
  have mK : mg "check_kept" = some (.ref (He.fAd K d_check_kept.at_)) := hd.glo _ (by decide +kernel)
  have mP : mg "Page" = some (.ref (He.ga K "Page")) := hd.glo _ (by decide +kernel)
  have IC := ok_isC (P := P) (base := base) hz.toHy
  have NI := ok_nmsIn (P := P) (w := w) (base := base) hd
  have ND := ok_need (P := P) (base := base) hz
  have mtN := hd.meth ("Desk", "need") (by decide +kernel)
  have CK := ok_chkK (P := P) (base := base) hz.toHy
  obtain ⟨fd, F, B, _⟩ := ok_pageI (P := P) (w := w) (base := base) hd
  refine okf_of hd.f_m_Desk_claim scClaim (fun _ _ _ _ _ _ us hl => ?_) (fun vs H Q E h => ?_) (fun cdv A outer s H vs Q E hr h => ?_)
  · obtain ⟨a, b, rfl⟩ := us2 hl
    rfl
  · obtain ⟨k, c, _, _, _, _, rfl, _⟩ := h
    rfl
  · obtain ⟨k, c, wi, S, Ws, L, rfl, wc, wok, won, dk, so, wo, l900, q1, q2⟩ := h
    refine ⟨_, pss_cons (ps_if (pt_not (pt_val (pe_callR (E := E00) (IC.run (hr.mono (by decide)) C8.pass0) (by rfl) mC IC.kp (pa_cons (pv 1) pa_nil)))) (pss_one ps_dead) pss_nil)
      (pss_cons (ps_for PassesOwn.leaving rfl (pi_tup (pe_callR (E := E00) (NI.run (hr.mono (by decide)) C8.pass0) (by rfl) mN NI.kp (pa_cons (pv 1) pa_nil))) (pg_name (i := 2) scClaim.nd rfl (.inl rfl))
        (pss_one (ps_expr (pe_methR (E := E00) (pv 0) cD mtN (ND.run (hr.mono (by decide)) passN) (pa_cons (pv 2) pa_nil)))))
      (pss_cons (ps_set (i := 3) scClaim.nd rfl (.inl rfl) (pe_tup (StX.pa_star (pe_fld (pe_fld (pv 0) rfl) rfl) (pa_cons (pv 1) pa_nil))))
      (pss_cons (ps_expr (pe_callR (E := E) (CK.run hr (L2N.passes_call (L2N.takes_of (E := E) rfl rfl rfl rfl) fun _ _ _ _ h => h)) (by rfl) mK CK.kp (pa_cons (pv 3) (pa_cons (pe_fld (pe_fld (pv 0) rfl) rfl) pa_nil))))
      (pss_one (ps_fld (pv 0) (pe_make (E := E00) (hd.mkr "Page" (by decide +kernel)) F (hr.mono (by decide)) (by rfl) mP B .nil C8.pass0 (pa_cons (pe_fld (pe_fld (pv 0) rfl) rfl) (pa_cons (pv 3) (pa_cons (pe_fld (pv 0) rfl) pa_nil)))) rfl))))), ?_⟩
    obtain ⟨a, ⟨dk', hk⟩, pg⟩ := id dk
    obtain ⟨d, w', prev, ⟨da, ha⟩, hs, ⟨as, hw, hp⟩, hpr⟩ := id pg
    have hlen : as.length = Ws.length := paired_len hp
    refine i_seq ⟨_, rfl, c, wi, rfl, wc, wok, fun H1 x1 => ⟨true, rfl, iteF ?_⟩⟩
    dsimp only [tNext]
    refine i_seq ⟨_, rfl, c, wi, rfl, wc.ex x1, fun q H2 x2 hq => ⟨q, rfl, ⟨_, .of hq⟩, for_tup (K := K) (xs := wi.names.map V.str) (fun i σ' H' => ∃ o, σ' = [some (V.ref k), some (V.ref c), o, none] ∧ H' = H2) ⟨_, rfl, rfl⟩ (fun i σ' H' _ h => ?_) (fun i x σ' H' hx h => ?_) (fun σ' H' h => ?_)⟩⟩
    · obtain ⟨_, _, rfl⟩ := h
      exact .of hq
    · obtain ⟨o, rfl, rfl⟩ := h
      obtain ⟨y, hy, rfl⟩ := Option.map_eq_some_iff.mp (List.getElem?_map .. ▸ hx)
      have ht := won y (List.mem_of_getElem? hy)
      have x12 := x1.trans x2
      refine ⟨_, rfl, k, dk', _, rfl, x12 _ _ hk, lk_no (by decide +kernel), _, rfl, k, y, S, Ws, L, rfl, ⟨a, ⟨dk', x12 _ _ hk⟩, pageAt_firm (.ex x12) pg⟩, fun _ => ⟨_, rfl, rfl⟩, fun z => by rw [ht] at z; cases z⟩
    · obtain ⟨o, rfl, rfl⟩ := h
      have x12 := x1.trans x2
      dsimp only
      refine i_seq (i_asg (i_tup (vx_fld (vx_fld (vx_var rfl) (x12 _ _ hk) cD n1 lk_hd) (x12 _ _ ha) cP n3 lk_wanted _ ⟨w', _, rfl, .inl (.of (x12 _ _ hw)), _, rfl, ?_, fun p hp' => ?_⟩)))
      · exact szl (by rw [List.length_append, List.length_map, hlen]; simp; omega)
      have x13 := x12.trans (.new (o := .tup (as.map V.ref ++ [.ref c])) hp')
      have hp3 : (upd H' p (.tup (as.map V.ref ++ [.ref c]))) p = some (.tup ((as ++ [c]).map V.ref)) := by
        rw [upd_same, List.map_append]
        rfl
      generalize (upd H' p (.tup (as.map V.ref ++ [.ref c]))) = H3 at x13 hp3 ⊢
      dsimp only
      have w3 : WsAt H3 p (Ws ++ [wi]) := ⟨as ++ [c], hp3, paired_app (paired_mono hp fun _ _ f => f.ex x13) (.cons (wc.ex x13) .nil)⟩
      have wo' : WsOk S (Ws ++ [wi]) := fun c hc => by
        rcases List.mem_append.mp hc with z | z
        · exact wo c z
        · rw [List.mem_singleton] at z
          rw [z]
          exact ⟨wok, won⟩
      refine i_seq ⟨_, rfl, vx_fld (vx_fld (vx_var rfl) (x13 _ _ hk) cD n1 lk_hd) (x13 _ _ ha) cP n2 lk_hd _ ⟨p, d, S, Ws ++ [wi], rfl, w3, hs.ex x13, so, wo', fun H4 x4 => ⟨fun eb => ?_, fun i v eb => q2 i v eb H4 (x13.trans x4)⟩⟩⟩
      have x14 := x13.trans x4
      dsimp only
      refine i_fld (i_make (i_cons (vx_fld (vx_fld (vx_var rfl) (x14 _ _ hk) cD n1 lk_hd) (x14 _ _ ha) cP n2 lk_hd _ (i_cons (vx_var rfl _ (i_cons ?_))))))
      exact page_set (fa := []) (n := 0) (da := 0) hd rfl hk pg x14 (hs.ex x14) (wsAt_firm w3 (.ex x4)) fun H' r1 r2 => q1 eb H' r1 r2
end
end Bt
set_option Elab.async false
set_option linter.all false
set_option maxRecDepth 100000
set_option maxHeartbeats 4000000
/-! is_name. -/
namespace Bt
open PySem PySem.Spec PyProof.Rows L2 L2H
abbrev lettersS : Str := "abcdefghijklmnopqrstuvwxyz"
theorem name_letters {t : Str} (h : NameOk t) : (t.cps.toList.all fun c => decide (c ∈ lettersS.cps.toList)) = true ∧ (1 ≤ t.length ∧ t.length ≤ 8) := by
  rcases h with rfl | rfl
  · exact ⟨by decide +kernel, by decide +kernel⟩
  · exact ⟨by decide +kernel, by decide +kernel⟩
theorem lc_strI {x : Str} {g : TG} {tt : TT} {te : TE} {vs : List Nat} {σ : L2.St} {H1 : Hp} {D : Addr} {Qd : Hp → Prop} (Pv : Nat → Hp → Prop) (h0 : Pv 0 (upd H1 D (.lst [])))
    (hs : ∀ i c H, x.cps[i]? = some c → Pv i H → g (.str ⟨#[c]⟩) (wipe σ vs) H fun σ2 H2 => wipe σ2 vs = wipe σ vs ∧ tt σ2 H2 fun b H3 =>
      if b = true then te σ2 H3 fun y H4 => ∃ acc, H4 D = some (.lst acc) ∧ acc.length < sizeLine ∧ Pv (i + 1) (upd H4 D (.lst (acc ++ [y]))) else Pv (i + 1) H3) (hd : ∀ H, Pv x.cps.size H → Qd H) :
    ∃ W : Nat → Nat → Hp → Prop, (∃ m, W 0 m (upd H1 D (.lst []))) ∧ ∀ i m H, W i m H →
      ((Its x).stop i H ∧ Qd H) ∨ ((Its x).go i H ∧ ∃ Nx : Hp → Prop, (∀ H', Nx H' → ∃ m', m' < m ∧ W (i + 1) m' H') ∧ ∀ v H', (Its x).yld i H v H' → g v (wipe σ vs) H' fun σ2 H2 => wipe σ2 vs = wipe σ vs ∧ tt σ2 H2 fun b H3 =>
        if b = true then te σ2 H3 fun y H4 => ∃ acc, H4 D = some (.lst acc) ∧ acc.length < sizeLine ∧ Nx (upd H4 D (.lst (acc ++ [y]))) else Nx H3) := by
  refine ⟨fun i m H => m = x.cps.size - i ∧ i ≤ x.cps.size ∧ Pv i H, ⟨x.cps.size, by simp, Nat.zero_le _, h0⟩, ?_⟩
  rintro i m H ⟨rfl, hi, p⟩
  by_cases hlt : i < x.cps.size
  · refine .inr ⟨hlt, Pv (i + 1), fun H' p' => ⟨x.cps.size - (i + 1), by omega, rfl, hlt, p'⟩, fun v H' y => ?_⟩
    obtain ⟨rfl, c, hc, rfl⟩ := y
    exact hs i c H' hc p
  · have : i = x.cps.size := by omega
    subst this
    exact .inl ⟨Nat.le_refl _, hd H p⟩
def spIsN : Sp := fun vs H Q _ => ∃ t : Str, vs = [.str t] ∧ NameOk t ∧ ∀ H', Evl.Ex H H' → Q (.bl true) H'
section
variable {P : Program} {w : World} {K : PySem.W.Frag} {mg : Str → Option Value} {base : Heap}
theorem scIsN : FnScope ["value", "sign"] ["value"] (defScope st_d_is_name) := ⟨rfl, rfl, rfl, by decide +kernel, rfl, by decide +kernel, by decide +kernel⟩
theorem ok_isN (hd : Hd K mg) : Okf P w K mg base C8.CX0 1 (He.fAd K d_is_name.at_) ["value"] spIsN := by
  have ms : mg "isinstance" = none := hd.free _ (by decide +kernel)
  have mst : mg "str" = none := hd.free _ (by decide +kernel)
  have ml : mg "len" = none := hd.free _ (by decide +kernel)
  have ma : mg "all" = none := hd.free _ (by decide +kernel)
  obtain ⟨t1, mL⟩ := hd.int ("MOST_LETTERS", 8) (by decide +kernel)
  obtain ⟨t2, mA⟩ := hd.str ("LETTERS", "abcdefghijklmnopqrstuvwxyz") (by decide +kernel)
  refine okf_of hd.f_d_is_name scIsN (fun _ _ _ _ _ _ us hl => ?_) (fun vs H Q E h => ?_) (fun cdv A outer s H vs Q E hr h => ?_)
  · obtain ⟨a, rfl⟩ := us1 hl
    rfl
  · obtain ⟨t, rfl, _⟩ := h
    rfl
  · obtain ⟨t, rfl, no, k⟩ := h
    obtain ⟨lt, l1, l8⟩ := name_letters no
    refine ⟨_, pss_cons (ps_if (pw_or (pt_not (pt_val (pe_callB call_isi (by rfl) ms bo_isinstance (pa_cons (pv 0) (pa_cons (pe_bltn (v := .ty "str") (by rfl) mst bo_str rfl) pa_nil))))) (pw_or1 (pt_not (pt_chain op_le op_le pe_int (pe_callB call_len_str (by rfl) ml bo_len (pa_cons (pv 0) pa_nil)) (pe_glob (v := .int 8) (by rfl) mL ⟨_, rfl⟩))))).pt (pss_one ps_dead) pss_nil)
      (pss_one (ps_ret (pe_callB (cr_all rfl) (by rfl) ma bo_all (pa_cons (pe_lc (own := [("sign", 1)]) (g := gName 1) (tt := tYes) rfl scIsN.nd (pi_str (pv 0)) (blkOk_by (N := ["value", "sign"]) (sc := defScope st_d_is_name) (by decide +kernel))
          (fun _ _ _ _ _ => pg_name (i := 1) scIsN.nd rfl (Or.inl rfl)) (fun _ _ _ _ _ => pts_nil) (fun _ _ _ _ _ => pe_cmpR op_inS (pv 1) (pe_glob (v := .str lettersS) (by rfl) mA ⟨_, rfl⟩) rfl)) pa_nil)))), ?_⟩
    refine i_seq ⟨_, rfl, .str t, .ty "str", .type "str", .type "str", true, rfl, .ty _, .base (.str _), kit_ty (by decide +kernel), true, rfl, iteF ?_⟩
    have fc := vx_chain (f := fun i j => decide (i ≤ j)) (g := fun i j => decide (i ≤ j)) (ta := tC (.int 1)) (tb := tCB (fun xs H Q => ∃ z : Str, xs = [.str z] ∧ z.length ≤ sizeLine ∧ Q (.int z.length) H) (tCons (tVar 0) tNil)) (tc := tC (.int 8)) (σ := [some (V.str t), none]) (H := H) (a := 1) (b := (t.length : Nat)) (c := 8) vx_c (fun Q q => ⟨_, rfl, t, rfl, szl (by omega), q⟩) vx_c
    rw [decide_eq_true (show (1 : Int) ≤ (t.length : Nat) by omega), decide_eq_true (show ((t.length : Nat) : Int) ≤ 8 by omega)] at fc
    refine fc _ ⟨true, rfl, iteF ?_⟩
    dsimp only [tNext]
    refine i_ret (i_cb (i_cons ⟨_, rfl, t, rfl, fun Dl hD => ?_⟩))
    refine lc_strI (fun i H' => Evl.Ex H H' ∧ H' Dl = some (.lst ((List.replicate i true).map V.bl))) ⟨.new hD, upd_same⟩ (fun i c H' hc h => ⟨rfl, ?_⟩) (fun H' h => ?_)
    · obtain ⟨x1, e1⟩ := h
      have hi : i < t.cps.size := (Array.getElem?_eq_some_iff.mp hc).1
      have cm : decide (c ∈ lettersS.cps.toList) = true := (List.all_eq_true.mp lt) c (by
        have := (Array.getElem?_eq_some_iff.mp hc).2
        rw [← this]
        simp)
      have l8' : t.cps.size ≤ 8 := l8
      refine yes_if ⟨_, rfl, c, lettersS, rfl, rfl, _, e1, szlt (by simp; omega), x1.mut hD, ?_⟩
      rw [upd_same, cm, List.replicate_succ']
      simp
    · obtain ⟨x1, e1⟩ := h
      refine i_nil ⟨Dl, _, rfl, .of e1, ?_⟩
      have : (List.replicate t.cps.size true).all id = true := by simp
      rw [this]
      exact k H' x1
end
end Bt
set_option Elab.async false
set_option linter.all false
set_option maxRecDepth 100000
set_option maxHeartbeats 4000000
/-! {**d, k: v}. -/
namespace Bt
open PySem PySem.Spec PyProof.Rows L2
open PySem (Heap)
section
variable {prog : Program} {w : World} {κ : Type} [DecidableEq κ] {knd : KeyKind prog w κ} {A : Around} {E : Value → Shared → Prop} {s : Shared}
theorem dictPut_pairs {d : Addr} {kvs : List (κ × Value)} {k : κ} {key v : Value} {Q : Unit → Shared → Prop} (hkey : knd.is k key = true) (hm : s.heap.DictOf knd d kvs)
    (hQ : ∀ h', h'.DictOf knd d (stored kvs k v) → Heap.SameBut d s.heap h' → Q () { s with heap := h' })
    (hsz : kvs.length ≤ sizeLine) :
    wpAny (model prog w) A (dictPut d (knd.hash k) key v) Q E s := by
  obtain ⟨o, es, ep, ho, hc, hd, hk, hp, hn⟩ := hm
  have hes : es.size ≤ sizeLine := by
    have e1 := hp.length
    have e2 : es.toList.length = es.size := by simp
    omega
  unfold dictPut
  refine wpAny_bind (wpAny_dictFind_of hkey ho hd hk ?_)
  have hidx : (es.findIdx? fun e => knd.is k e.key) = kvs.findIdx? fun kv => decide (kv.1 = k) := by
    rw [← hp.findIdx k]; obtain ⟨l⟩ := es; simp
  cases hi : es.findIdx? fun e => knd.is k e.key with
  | some i =>
    refine wpAny_updateDict ho hd (hQ _ ⟨_, _, ep, Heap.get?_update_self _ ho (Obj.isFreed_of_dict (Obj.data_mapDict hd _)), hc.mapDict _, Obj.data_mapDict hd _, hk.modify _ _, ?_, ?_⟩ (Heap.SameBut.update ..))
    · rw [stored, if_pos (any_of_findIdx_some (hidx ▸ hi))]
      have hl : (es.toList.findIdx? fun e => knd.is k e.key) = some i := by rw [← hi]; obtain ⟨l⟩ := es; simp
      have := hp.modify hn hl v
      obtain ⟨l⟩ := es
      simpa using this
    · rw [stored, if_pos (any_of_findIdx_some (hidx ▸ hi)), keys_map_store]; exact hn
  | none =>
    have hnot : k ∉ kvs.map (·.1) := not_mem_of_findIdx_none (hidx ▸ hi)
    have hany : ¬ (kvs.any fun kv => decide (kv.1 = k)) = true := by
      rw [List.any_eq_true]; rintro ⟨kv, hkv, he⟩
      exact hnot (List.mem_map.mpr ⟨kv, hkv, of_decide_eq_true he⟩)
    refine wpAny_updateDictKeys (hz := hes) ho hd (hQ _ ⟨_, _, ep + 1, Heap.get?_update_self _ ho (Obj.isFreed_of_dict (Obj.data_mapDictKeys hd _)),
      hc.mapDictKeys _, Obj.data_mapDictKeys hd _, hk.push hkey _, ?_, ?_⟩ (Heap.SameBut.update ..))
    · rw [stored, if_neg hany]
      have := hp.append hkey (knd.hash k) v
      obtain ⟨l⟩ := es
      simpa using this
    · rw [stored, if_neg hany, List.map_append, List.nodup_append]
      refine ⟨hn, by simp, ?_⟩
      intro a ha b hb
      simp only [List.map_cons, List.map_nil, List.mem_singleton] at hb
      subst hb
      exact fun e => hnot (e ▸ ha)
theorem mergeMap {d o : Addr} {kvs more : List (κ × Value)} {Q : Unit → Shared → Prop} (hdo : d ≠ o) (hoS : (o == sysModules) = false) (hnr : ∀ k r, knd.is k (.ref r) = false)
    (hd : s.heap.DictOf knd d kvs) (ho : s.heap.DictOf knd o more)
    (hQ : ∀ h', h'.DictOf knd d (merged kvs more) → Heap.SameBut d s.heap h' → Q () { s with heap := h' })
    (hsz : kvs.length + more.length ≤ sizeLine) :
    wpAny (model prog w) A (mergeMapping d (.ref o) false) Q E s := by
  obtain ⟨od, esd, epd, hod, hcd, hdd, hkd, hpd, hnd⟩ := id hd
  obtain ⟨oo, eso, epo, hoo, hco, hdo', hko, hpo, hno⟩ := id ho
  have hlen : more.length = eso.size := by rw [← hpo.length]; simp
  have tO : s.TypeIs (.ref o) "dict" := ⟨oo, hoo, hco.1⟩
  unfold mergeMapping
  refine wpAny_bind (wpAny_bind (wpAny_typeOf tO (wpAny_of_eq isSubtype_dict_dict ?_)))
  rw [if_pos rfl]
  refine wpAny_bind (wpAny_specialOf tO PySem.F.slot_dict_iter.lookup ?_)
  refine wpAny_bind (wpAny_pure ?_)
  have eT : ((some (Value.builtin "dict.__iter__") : Option Value) == some (.builtin "dict.__iter__")) = true := by decide +kernel
  rw [eT]
  dsimp only
  rw [if_neg (by rw [hoS]; exact Bool.false_ne_true)]
  refine wpAny_bind (wpAny_dictEntries hod hdd ?_)
  have loop : wpAny (model prog w) A (do
      let a ← dictEntries o
      let epoch ← dictEpoch o
      forIn (List.range a.size) PUnit.unit fun i (_ : PUnit) => (do
        let l' ← dictEntries o
        match l'[i]? with
          | some e => do
            holding [e.key, e.val] (dictPut d e.hash e.key e.val)
            let ep' ← dictEpoch o
            if (ep' != epoch) = true then do
                (unsupported "dict.changed-during-merge" : Sem PUnit)
                pure (ForInStep.yield PUnit.unit)
              else pure (ForInStep.yield PUnit.unit)
          | _ => do
            (unsupported "dict.changed-during-merge" : Sem PUnit)
            pure (ForInStep.yield PUnit.unit) : Sem (ForInStep PUnit))
      pure ()) Q E s := by
    refine wpAny_bind (wpAny_dictEntries hoo hdo' ?_)
    refine wpAny_bind (wpAny_dictEpoch hoo hdo' ?_)
    refine wpAny_bind ?_
    refine wpAny_forIn_list _
      (fun rest _ s' => ∃ h' i, s' = { s with heap := h' } ∧ rest = (List.range eso.size).drop i ∧ i ≤ eso.size ∧ h'.DictOf knd d (merged kvs (more.take i)) ∧ h'.get? o = some oo ∧ Heap.SameBut d s.heap h')
      _ ?_ ?_ _ _ ⟨s.heap, 0, rfl, by simp, Nat.zero_le _, by simpa [merged] using hd, hoo, Heap.SameBut.refl _ _⟩
    · rintro x rest b s' ⟨h', i, rfl, hr, hi, hd', hoo', hs'⟩
      have hlt : i < eso.size := by
        rcases Nat.lt_or_ge i eso.size with h | h
        · exact h
        · rw [List.drop_of_length_le (by simpa using h)] at hr
          cases hr
      rw [List.drop_eq_getElem_cons (by simpa using hlt)] at hr
      obtain ⟨hx, hrest⟩ : x = i ∧ rest = (List.range eso.size).drop (i + 1) := by
        injection hr with h1 h2
        exact ⟨by rw [h1]; simp, h2⟩
      subst hx
      refine wpAny_bind (wpAny_dictEntries hoo' hdo' ?_)
      rw [Array.getElem?_eq_getElem hlt]
      obtain ⟨kv, hkv⟩ : ∃ kv, more[x]? = some kv := ⟨more[x]'(by rw [hlen]; exact hlt), List.getElem?_eq_getElem _⟩
      obtain ⟨k, v⟩ := kv
      obtain ⟨hkey, hval⟩ := hpo.get? (e := eso[x]) (by simp [hlt]) hkv
      obtain ⟨k', hkey', hhash⟩ := hko eso[x] (Array.getElem_mem hlt)
      obtain rfl : k' = k := knd.inj _ _ _ hkey' hkey
      show wpAny _ _ (holding [eso[x].key, eso[x].val] (dictPut d eso[x].hash eso[x].key eso[x].val) >>= _) _ _ _
      rw [hhash, hval]
      have hmx : (merged kvs (more.take x)).length ≤ sizeLine := by
        have e1 := merged_length_le kvs (more.take x)
        have e2 : (more.take x).length ≤ more.length := by rw [List.length_take]; omega
        omega
      refine wpAny_bind (wpAny_holding (dictPut_pairs hkey hd' (fun h'' hd'' hs'' => ?_) hmx))
      have hoo'' : h''.get? o = some oo := (hs''.2 o (Ne.symm hdo)).trans hoo'
      refine wpAny_bind (wpAny_dictEpoch hoo'' hdo' ?_)
      rw [if_neg (by simp)]
      exact wpAny_pure ⟨h'', x + 1, rfl, hrest, hlt, by rw [merged_take_succ kvs more x (k', v) hkv]; exact hd'', hoo'', hs'.trans hs''⟩
    · rintro b s' ⟨h', i, rfl, hr, hi, hd', hoo', hs'⟩
      have hin : i = eso.size := by
        rcases Nat.lt_or_ge i eso.size with h | h
        · rw [List.drop_eq_getElem_cons (by simpa using h)] at hr
          cases hr
        · exact Nat.le_antisymm hi h
      refine wpAny_pure (hQ h' ?_ hs')
      rw [hin, ← hlen, List.take_length] at hd'
      exact hd'
  split
  · refine wpAny_bind (wpAny_dictEntries hoo hdo' ?_)
    refine wpAny_bind (wpAny_forIn_array' _ (fun l _ s' => s' = s ∧ ∀ e ∈ l, e ∈ eso) _ (fun e rest b s1 hI => ?_) (fun b s1 hI => ?_) _ _ ⟨rfl, fun e he => Array.mem_toList_iff.mp he⟩)
    · obtain ⟨rfl, hl⟩ := hI
      obtain ⟨k', hkey', _⟩ := hko e (hl e List.mem_cons_self)
      cases ek : e.key with
      | ref r =>
        rw [ek, hnr] at hkey'
        cases hkey'
      | _ => exact wpAny_pure ⟨rfl, fun e he => hl e (List.mem_cons_of_mem _ he)⟩
    · obtain ⟨rfl, _⟩ := hI
      exact loop
  · exact loop
end
end Bt
set_option Elab.async false
set_option linter.all false
set_option maxRecDepth 100000
set_option maxHeartbeats 4000000
/-! {**d, k: v}. -/
namespace Bt
open PySem PySem.Spec PyProof.Rows L2
theorem display2 (m k v : Sem Value) : dictDisplay [(none, m), (some k, v)] = (do
    let d ← alloc { cls := .type "dict", data := .dict #[] }
    let mv ← holding [.ref d] m
    (((holding [.ref d, mv] (mergeMapping d mv false)).onRaise fun x => do let _ ← holding [.ref d, mv, x] (runValue (.builtin "proto.let_go" {}))).tryCatch fun e => do
        if ← isInstance e (.type "AttributeError") then
          rule "dict.display.not-a-mapping"; raiseError "TypeError" s!"'{← typeNameOf mv}' object is not a mapping"
        throw e).onRaise fun x => do let _ ← holding [.ref d, x] (runValue (.builtin "proto.let_go" {}))
    let sub ← holding [.ref d] (subDict [(k, v)])
    (holding [.ref d, .ref sub] (mergeMapping d (.ref sub) false)).onRaise fun x => do let _ ← holding [.ref d, x] (runValue (.builtin "proto.let_go" {}))
    pure (.ref d)) := by
  unfold dictDisplay
  simp only [List.forIn_cons, List.forIn_nil]
  simp
theorem mix_noref {P : Program} {w : World} : ∀ (k : Key) (r : Addr), (mixKind P w).is k (.ref r) = false := fun k r => by
  cases k <;> rfl
def tDStar (td tk tv : TE) : TE := fun σ H Q => ∀ p, H p = none → td σ (upd H p (.dK [])) fun x H1 => ∃ a kvs, x = .ref a ∧ H1 p = some (.dK []) ∧ a ≠ p ∧ Rd H1 a (.dK kvs) ∧ kvs.length ≤ 900 ∧
  ∀ q, (upd H1 p (.dK (mergeK [] kvs))) q = none → tPairs [(tk, tv)] σ (upd (upd H1 p (.dK (mergeK [] kvs))) q (.dK [])) fun ps H3 => ∃ (k : Key) (z : V), ps = [(kV k, z)] ∧ p ≠ q ∧ H3 q = some (.dK []) ∧ H3 p = some (.dK (mergeK [] kvs)) ∧
    Q (.ref p) (upd (upd H3 q (.dK (mergeK [] [(k, z)]))) p (.dK (mergeK (mergeK [] kvs) (mergeK [] [(k, z)]))))
theorem mergeK_len (a b : List (Key × V)) : (mergeK a b).length ≤ a.length + b.length := length_mergeK b a |> fun h => by omega
theorem pe_dstar {X : Cx} {e kx vx : Expr} {pos : Pos} {td tk tv : TE} (he : PE X e td) (hk : PE X kx tk) (hv : PE X vx tv) : PE X (.Dict [none, some kx] [e, vx] pos) (tDStar td tk tv) := by
  refine ⟨fun pins s σ H Q I q => ?_⟩
  rw [arm_eval_Dict]
  refine wpAny_bind (wpAny_standAt ?_)
  show wpAny _ _ (dictDisplay [(none, do let x ← eval e X.env; standAt pos; pure x), (some (eval kx X.env), do let x ← eval vx X.env; standAt pos; pure x)]) _ _ _
  rw [display2]
  have hn := I.hok.fresh (Nat.le_refl s.heap.objs.size)
  have I1 := I.laid (a := s.heap.objs.size) (o := .dK []) (h' := s.heap.push { cls := .type "dict", data := .dict #[] }) (t' := s.toks) (fun _ _ q => Heap.get?_push_of_some _ q) (Nat.le_refl _) (dk_empty s.heap I.big)
  have q0 := q _ hn
  refine wpAny_bind (wpAny_alloc ?_)
  refine wpAny_bind (wpAny_holding (wpAny_bind (thn (he.run pins _ σ _ _ I1 q0) fun u s1 hh => ?_)))
  obtain ⟨x, H1, J1, rx, a, kvs, rfl, hp, ne, hd, hl, q1⟩ := hh
  obtain rfl : u = Value.ref a := rx
  refine wpAny_bind (wpAny_standAt (wpAny_pure ?_))
  generalize s.heap.objs.size = p at *
  obtain ⟨_, hsp, vs0, r0, dp⟩ := dk_of J1.hok hp
  cases r0
  obtain ⟨z, hsa, vs, rel, da⟩ := dk_rd J1.hok hd
  have lv : vs.length = kvs.length := (Paired.length rel).symm
  have ml := length_mergeK kvs []
  rw [List.length_nil] at ml
  refine wpAny_bind (wpAny_onRaise (wpAny_tryCatch (wpAny_onRaise (wpAny_holding (mergeMap (Ne.symm ne) hsa mix_noref dp da (fun h' hd' sb => ?_) (by rw [sizeLine_eq, List.length_nil]; omega))))))
  have J2 : Inv X pins σ (upd H1 p (.dK (mergeK [] kvs))) { s1 with heap := h' } := d_write (t' := s1.toks) J1 (by rw [hp]; exact True.intro) sb (let ⟨q, _, _, hq, _⟩ := hd'; ⟨q, hq⟩) (dk_new (by rw [sizeLine_eq]; omega) hsp (rel.merge .nil) hd')
  -- the one pair
  have hq0 := J2.hok.fresh (Nat.le_refl h'.objs.size)
  have J3 := J2.laid (a := h'.objs.size) (o := .dK []) (h' := h'.push { cls := .type "dict", data := .dict #[] }) (t' := s1.toks) (fun _ _ q => Heap.get?_push_of_some _ q) (Nat.le_refl _) (dk_empty h' J2.big)
  have q2 := q1 _ hq0
  refine wpAny_bind (wpAny_holding (wpAny_subDict (knd := mixKind X.prog X.w) (pairs := pairTrees [some kx] [vx] X.env pos) (by show 1 ≤ 15; decide) (thn ((pps_cons hk hv pps_nil).run pins _ σ _ _ J3 q2) fun ws s3 hh => ?_)))
  obtain ⟨ps, H3, J4, rps, k, zv, rfl, npq, hq3, hp3, q3⟩ := hh
  obtain ⟨rs, c, rk⟩ := carries_of (P := X.prog) (w := X.w) (kvs := [(k, zv)]) rps
  obtain ⟨zq, hsq, vq, rq, dq⟩ := dk_of J4.hok hq3
  cases rq
  refine ⟨rs, c, dq, fun h5 hd5 sb5 => ?_⟩
  have l1 : (mergeK [] [(k, zv)]).length ≤ 1 := length_mergeK [(k, zv)] []
  have J5 : Inv X pins σ (upd H3 h'.objs.size (.dK (mergeK [] [(k, zv)]))) { s3 with heap := h5, toks := s3.toks + ws.length } := d_write (t' := s3.toks + ws.length) J4 (by rw [hq3]; exact True.intro) sb5 (let ⟨q, _, _, hq, _⟩ := hd5; ⟨q, hq⟩) (dk_new (by rw [sizeLine_eq]; omega) hsq (rk.merge .nil) hd5)
  have hp5 : (upd H3 h'.objs.size (.dK (mergeK [] [(k, zv)]))) p = some (.dK (mergeK [] kvs)) := by
    rw [upd_ne npq]
    exact hp3
  obtain ⟨zp, _, vp, rp, dp5⟩ := dk_of J5.hok hp5
  obtain ⟨_, _, vq5, rq5, dq5⟩ := dk_of J5.hok (upd_same (H := H3) (a := h'.objs.size) (o := .dK (mergeK [] [(k, zv)])))
  have lp : vp.length = (mergeK [] kvs).length := (Paired.length rp).symm
  have lq : vq5.length = (mergeK [] [(k, zv)]).length := (Paired.length rq5).symm
  refine wpAny_bind (wpAny_onRaise (wpAny_holding (mergeMap npq hsq mix_noref dp5 dq5 (fun h6 hd6 sb6 => ?_) (by rw [sizeLine_eq]; omega))))
  refine wpAny_pure ⟨.ref p, _, ?_, rfl, q3⟩
  have ml6 := length_mergeK (mergeK [] [(k, zv)]) (mergeK [] kvs)
  exact d_write (t' := s3.toks + ws.length) J5 (by rw [hp5]; exact True.intro) sb6 (let ⟨q, _, _, hq, _⟩ := hd6; ⟨q, hq⟩) (dk_new (by rw [sizeLine_eq]; omega) hsp (rq5.merge rp) hd6)
end Bt
set_option Elab.async false
set_option linter.all false
set_option maxRecDepth 100000
set_option maxHeartbeats 4000000
/-! put. -/
namespace Bt
open PySem PySem.Spec PyProof.Rows L2 L2H
theorem mergeK_fresh (acc more : List (Key × V)) (hn : ((acc ++ more).map (·.1)).Nodup) : mergeK acc more = acc ++ more := by
  induction more generalizing acc with
  | nil => simp [mergeK]
  | cons kv rest ih =>
    have hfresh : ¬ (acc.any fun x => decide (x.1 = kv.1)) = true := by
      rw [List.any_eq_true]
      rintro ⟨x, hx, he⟩
      rw [List.map_append, List.map_cons, List.nodup_append] at hn
      exact hn.2.2 x.1 (List.mem_map.mpr ⟨x, hx, rfl⟩) kv.1 List.mem_cons_self (of_decide_eq_true he)
    have : mergeK acc (kv :: rest) = mergeK (acc ++ [kv]) rest := by
      simp only [mergeK, List.foldl_cons, putK, if_neg hfresh]
    rw [this, ih (acc ++ [kv]) (by simpa using hn)]
    simp
theorem mergeK_nil {kvs : List (Key × V)} (hn : (kvs.map (·.1)).Nodup) : mergeK [] kvs = kvs := by
  have := mergeK_fresh [] kvs (by simpa using hn)
  simpa using this
theorem mergeK_one (kvs : List (Key × V)) (k : Key) (z : V) : mergeK kvs (mergeK [] [(k, z)]) = putK kvs k z := rfl
theorem ShT.kv_nodup {T : ShT} (h : (T.sh.map (·.1)).Nodup) : (T.kv.map (·.1)).Nodup := by
  rw [ShT.keys]
  exact List.pairwise_map.mpr (List.Pairwise.imp (fun {a b} n e => n (by injection e)) h)
theorem ShP.put {K : PySem.W.Frag} {H H' : Hp} {d p : Addr} {S : Shelf} {t : Str} {f : Addr} {pl : Plan} (T : ShT) (hT : T.sh = S) (hr : ∀ x ∈ T, FrameAt K H' x.2.2 x.2.1) (hf : FrameAt K H' f pl) (h : H' p = some (.dK (putK T.kv (.inr t) (.ref f)))) : ShP K H' p (S.put t pl) := by
  refine ⟨T.put t pl f, by rw [ShT.put_sh, hT], by rw [ShT.put_kv]; exact h, fun x hx => ?_⟩
  rcases ShT.put_mem hx with z | z
  · exact hr x z
  · rw [z]
    exact hf
theorem Shelf.put_has {S : Shelf} {t u : Str} {p : Plan} (h : S.has u = true) : (S.put t p).has u = true := by
  unfold Shelf.put
  split
  · unfold Shelf.has at h ⊢
    rw [List.any_map]
    obtain ⟨e, he, hu⟩ := List.any_eq_true.mp h
    refine List.any_eq_true.mpr ⟨e, he, ?_⟩
    simp only [Function.comp]
    split <;> exact hu
  · unfold Shelf.has at h ⊢
    rw [List.any_append, h]
    rfl
theorem WsOk.put {S : Shelf} {Ws : List Wish} {t : Str} {p : Plan} (h : WsOk S Ws) : WsOk (S.put t p) Ws := fun c hc => ⟨(h c hc).1, fun u hu => Shelf.put_has ((h c hc).2 u hu)⟩
theorem ShOk.put {S : Shelf} {t : Str} {p : Plan} (h : ShOk S) (ht : NameOk t) (hp : PlanOk p) : ShOk (S.put t p) := by
  unfold Shelf.put
  split
  · refine ⟨fun e he => ?_, fun e he => ?_, ?_⟩
    · obtain ⟨y, hy, rfl⟩ := List.mem_map.mp he
      split
      · exact hp
      · exact h.pl y hy
    · obtain ⟨y, hy, rfl⟩ := List.mem_map.mp he
      split
      · exact h.nm y hy
      · exact h.nm y hy
    · rw [List.map_map]
      have e : ((fun e : Str × Plan => e.1) ∘ fun e => if e.1 = t then (e.1, p) else e) = fun e => e.1 := by
        funext e
        simp only [Function.comp]
        split <;> rfl
      show (List.map ((fun e : Str × Plan => e.1) ∘ fun e => if e.1 = t then (e.1, p) else e) S).Nodup
      rw [e]
      exact h.nd
  · rename_i hn
    refine ⟨fun e he => ?_, fun e he => ?_, ?_⟩
    · rcases List.mem_append.mp he with z | z
      · exact h.pl e z
      · rw [List.mem_singleton] at z
        rw [z]
        exact hp
    · rcases List.mem_append.mp he with z | z
      · exact h.nm e z
      · rw [List.mem_singleton] at z
        rw [z]
        exact ht
    · rw [List.map_append, List.nodup_append]
      refine ⟨h.nd, by simp, fun a ha b hb e => hn ?_⟩
      simp only [List.map_cons, List.map_nil, List.mem_singleton] at hb
      obtain ⟨y, hy, ey⟩ := List.mem_map.mp ha
      exact List.any_eq_true.mpr ⟨y, hy, by rw [ey, e, hb]; simp⟩
end Bt
set_option Elab.async false
set_option linter.all false
set_option maxRecDepth 100000
set_option maxHeartbeats 4000000
/-! Desk.put. -/
namespace Bt
open PySem PySem.Spec PyProof.Rows L2 L2H
def spPut (K : PySem.W.Frag) : Sp := fun vs H Q E => ∃ (k f : Addr) (t : Str) (p : Plan) (S : Shelf) (Ws : List Wish) (L : List Leaf), vs = [.ref k, .str t, .ref f] ∧ NameOk t ∧ FrameAt K H f p ∧ PlanOk p ∧ DeskAt K H k ((S, Ws) :: L) ∧ ShOk S ∧ WsOk S Ws ∧ S.length ≤ 900 ∧
  (broke (S.put t p) 0 Ws = none → ∀ H', ExBut k H H' → DeskAt K H' k ((S.put t p, Ws) :: (S, Ws) :: L) → Q .non H') ∧ (∀ i v, broke (S.put t p) 0 Ws = some (i, v) → ∀ H', Evl.Ex H H' → Raised K E H' (.broken i v))
theorem i_drop {te : TE} {D : Ends} {σ : L2.St} {H : Hp} (h : te σ H fun _ H1 => D.nx σ H1) : tDrop te D σ H := h
theorem i_callE {sp : Sp} {dvs : List V} {E : XK} {t : TA} {σ : L2.St} {H : Hp} {Q : VK} (h : t σ H fun vs H1 => sp (vs ++ dvs) H1 Q E) : tCall sp dvs E t σ H Q := h
section
variable {P : Program} {w : World} {K : PySem.W.Frag} {mg : Str → Option Value} {base : Heap}
theorem scPut : FnScope ["self", "name", "frame", "frames"] ["self", "name", "frame"] (defScope st_m_Desk_put) := ⟨rfl, rfl, rfl, by decide +kernel, rfl, by decide +kernel, by decide +kernel⟩
theorem ok_put (hz : Hz w K mg) : Okf P w K mg base (CXN P w) 10 (He.fAd K m_Desk_put.at_) ["self", "name", "frame"] (spPut K) := by
  have hd := hz.toHd
  have cD := hd.cls "Desk" (by decide +kernel)
  have cP := hd.cls "Page" (by decide +kernel)
  have n1 := hd.noat ("Desk", "page") (by decide +kernel)
  have n2 := hd.noat ("Page", "shelf") (by decide +kernel)
  have n3 := hd.noat ("Page", "wanted") (by decide +kernel)
  have mI : mg "is_name" = some (.ref (He.fAd K d_is_name.at_)) := hd.glo _ (by decide +kernel)
  have mF : mg "check_frame" = some (.ref (He.fAd K d_check_frame.at_)) := hd.glo _ (by decide +kernel)
  have mK : mg "check_kept" = some (.ref (He.fAd K d_check_kept.at_)) := hd.glo _ (by decide +kernel)
  have mP : mg "Page" = some (.ref (He.ga K "Page")) := hd.glo _ (by decide +kernel)
  have IN := ok_isN (P := P) (w := w) (base := base) hd
  have CF := ok_chkF (P := P) (w := w) (base := base) hz.toHx
  have CK := ok_chkK (P := P) (base := base) hz.toHy
  obtain ⟨fd, F, B, _⟩ := ok_pageI (P := P) (w := w) (base := base) hd
  refine okf_of hd.f_m_Desk_put scPut (fun _ _ _ _ _ _ us hl => ?_) (fun vs H Q E h => ?_) (fun cdv A outer s H vs Q E hr h => ?_)
  · obtain ⟨a, b, c, rfl⟩ := us3 hl
    rfl
  · obtain ⟨k, c, _, _, _, _, _, rfl, _⟩ := h
    rfl
  · obtain ⟨k, f, t, p, S, Ws, L, rfl, no, fa, po, dk, so, wo, l900, q1, q2⟩ := h
    refine ⟨_, pss_cons (ps_if (pt_not (pt_val (pe_callR (E := E00) (IN.run (hr.mono (by decide)) C8.pass0) (by rfl) mI IN.kp (pa_cons (pv 1) pa_nil)))) (pss_one ps_dead) pss_nil)
      (pss_cons (ps_expr (pe_callR (E := E00) (CF.run (hr.mono (by decide)) C8.pass0) (by rfl) mF CF.kp (pa_cons (pv 2) pa_nil)))
      (pss_cons (ps_set (i := 3) scPut.nd rfl (.inl rfl) (pe_dstar (pe_fld (pe_fld (pv 0) rfl) rfl) (pv 1) (pv 2)))
      (pss_cons (ps_expr (pe_callR (E := E) (CK.run hr (L2N.passes_call (L2N.takes_of (E := E) rfl rfl rfl rfl) fun _ _ _ _ h => h)) (by rfl) mK CK.kp (pa_cons (pe_fld (pe_fld (pv 0) rfl) rfl) (pa_cons (pv 3) pa_nil))))
      (pss_one (ps_fld (pv 0) (pe_make (E := E00) (hd.mkr "Page" (by decide +kernel)) F (hr.mono (by decide)) (by rfl) mP B .nil C8.pass0 (pa_cons (pv 3) (pa_cons (pe_fld (pe_fld (pv 0) rfl) rfl) (pa_cons (pe_fld (pv 0) rfl) pa_nil)))) rfl))))), ?_⟩
    obtain ⟨a, ⟨dk', hk⟩, pg⟩ := id dk
    obtain ⟨d, w', prev, ⟨da, ha⟩, ⟨T, hT, hd0, hr0⟩, hw, hpr⟩ := id pg
    refine i_seq ⟨_, rfl, t, rfl, no, fun H1 x1 => ⟨true, rfl, iteF ?_⟩⟩
    dsimp only [tNext]
    refine i_seq ⟨_, rfl, f, p, rfl, fa.ex x1, ?_⟩
    dsimp only
    have hT' : T.sh = S := hT
    have mk0 : mergeK [] T.kv = T.kv := mergeK_nil (ShT.kv_nodup (by rw [hT']; exact so.nd))
    refine i_seq (i_asg fun pp hpp => ?_)
    have x2 := x1.trans (.new (o := .dK []) hpp)
    have dp : d ≠ pp := ne_of_none (x1 _ _ hd0) hpp
    refine vx_fld (vx_fld (vx_var rfl) (x2 _ _ hk) cD n1 lk_hd) (x2 _ _ ha) cP n2 lk_hd _ ⟨d, T.kv, rfl, upd_same, dp, .of (x2 _ _ hd0), ?_, fun q hq => ?_⟩
    · have : T.kv.length = S.length := by rw [← hT']; simp [ShT.kv, ShT.sh]
      omega
    rw [mk0, upd_upd] at hq ⊢
    have ppn : H pp = none := Evl.fresh_back x1 hpp
    have x3 : Evl.Ex H (upd H1 pp (.dK T.kv)) := x1.trans (.new hpp)
    have pq : pp ≠ q := ne_of_none upd_same hq
    refine ⟨_, rfl, _, rfl, .inr t, .ref f, rfl, pq, upd_same, by rw [upd_ne pq, upd_same], ?_⟩
    rw [mergeK_one]
    have qn : H q = none := Evl.fresh_back x3 hq
    generalize eH : (upd (upd (upd (upd H1 pp (.dK T.kv)) q (.dK [])) q (.dK (mergeK [] [(.inr t, .ref f)]))) pp (.dK (putK T.kv (.inr t) (.ref f)))) = H4
    have x4 : Evl.Ex H H4 := fun b o e => by
      rw [← eH, upd_ne (ne_of_none e ppn), upd_ne (ne_of_none e qn), upd_ne (ne_of_none e qn), upd_ne (ne_of_none e ppn)]
      exact x1 _ _ e
    have p4 : H4 pp = some (.dK (putK T.kv (.inr t) (.ref f))) := by
      rw [← eH, upd_same]
    have s4 : ShP K H4 pp (S.put t p) := ShP.put (H := H) (d := d) T hT' (fun x hx => (hr0 x hx).ex x4) (fa.ex x4) p4
    have o4 : ShOk (S.put t p) := so.put no po
    dsimp only
    refine i_seq (i_drop (i_callE (i_cons (vx_fld (vx_fld (vx_var rfl) (x4 _ _ hk) cD n1 lk_hd) (x4 _ _ ha) cP n3 lk_wanted _ ⟨_, rfl, w', pp, S.put t p, Ws, rfl, wsAt_firm hw (.ex x4), s4, o4, wo.put, fun H5 x5 => ⟨fun eb => ?_, fun i v eb => q2 i v eb H5 (x4.trans x5)⟩⟩))))
    have x45 := x4.trans x5
    dsimp only
    refine i_fld (i_make (i_cons (vx_var rfl _ (i_cons (vx_fld (vx_fld (vx_var rfl) (x45 _ _ hk) cD n1 lk_hd) (x45 _ _ ha) cP n3 lk_wanted _ (i_cons ?_))))))
    exact page_set (fa := []) (n := 0) (da := 0) hd rfl hk pg x45 (s4.ex x5) (wsAt_firm hw (.ex x45)) fun H' r1 r2 => q1 eb H' r1 r2
end
end Bt
set_option Elab.async false
set_option linter.all false
set_option maxRecDepth 100000
set_option maxHeartbeats 4000000
/-! x = {k: v for .. in d.items() if ..}, on one line. -/
namespace Bt
open PySem PySem.Spec PyProof.Rows L2
section
variable {X : Cx}
theorem ps_setDc {i : Nat} {y : Str} {py : Pos} {kx vx tg iter : Expr} {ifs : List Expr} {scope : Scope} {own : List (Str × Nat)} {pos spos : Pos} {wi : TI} {g : TG} {tt : TT} {tk tv : TE} (hc : X.calm = true) (hN : X.N.Nodup) (hy : X.N[i]? = some y) (hyl : X.env.scope.names.lookup y = some .local)
    (hsw : swapsWith (.DictComp kx vx [⟨tg, iter, ifs, 0⟩] scope pos) (some (.Name y py)) spos.line X.env = pure true) (hi : PI X tg iter wi) (ok : BlkOk X.N X.env.scope scope own)
    (hg : ∀ (s : Shared) (H : Hp) (C : Addr) (cl : List (Str × Addr)) (fp : List Addr), PG (X.blk s H scope (compEnvC scope cl C X.env) fp) tg g) (ht : ∀ (s : Shared) (H : Hp) (C : Addr) (cl : List (Str × Addr)) (fp : List Addr), PTs (X.blk s H scope (compEnvC scope cl C X.env) fp) ifs tt)
    (hk : ∀ (s : Shared) (H : Hp) (C : Addr) (cl : List (Str × Addr)) (fp : List Addr), PE (X.blk s H scope (compEnvC scope cl C X.env) fp) kx tk)
    (he : ∀ (s : Shared) (H : Hp) (C : Addr) (cl : List (Str × Addr)) (fp : List Addr), PE (X.blk s H scope (compEnvC scope cl C X.env) fp) vx tv) (hs : ∀ x, foldedSetIterable iter X.env x = pure x := by intro _; rfl) :
    PS X (.Assign [.Name y py] (.DictComp kx vx [⟨tg, iter, ifs, 0⟩] scope pos) spos) (tAsg (tDc wi g tt tk tv (own.map (·.2))) (gName i)) := by
  refine ⟨fun pins s σ H D I h => ?_⟩
  rw [exec_Assign_Name_used _ _ _ _ hsw]
  refine wpAny_bind (wpAny_standAt (wpAny_bind ?_))
  show wpAny _ X.A (do let _ ← comprehension (.DictComp kx vx [⟨tg, iter, ifs, 0⟩] scope pos) scope X.env (firstIterPos [⟨tg, iter, ifs, 0⟩] pos) newDict false (eval iter X.env) (some (assign (.Name y py) X.env))) _ _ s
  have h : tDc wi g tt tk tv (own.map (·.2)) σ H (fun x H1 => gName i x σ H1 D.nx) := h
  refine wpAny_bind (thn (dc_core (Qf := fun _ s' => SP X pins D .next s') hc hN I hi ok hg ht hk he hs h fun L C s' m H' I' q hn f => ?_) fun _ s' hq => wpAny_pure (wpAny_pure hq))
  show wpAny _ _ (assign (.Name y py) X.env (.ref L)) _ _ _
  refine wpAny_assign_Name (store_ok2 (v := V.ref L) I' hN hy (.inl hyl) rfl (fun s2 I2 ⟨a, sb, ha⟩ => ?_) (.inr hyl))
  obtain ⟨f0, f1, f2, f3, f4, f5⟩ := f
  have haC : C ≠ a := by
    rcases ha with z | z
    · rw [z]; exact f1
    · exact fun e => f4 y a z e.symm
  refine ⟨m, hn.sameBut sb haC, fun h3 sb3 => ?_⟩
  exact ⟨_, H', I2.turned (t' := s2.toks) (fun b o hb e => (sb3.2 b hb).trans e) f0 f1 f3 f4 f5, q⟩
theorem swD_true {kx vx : Expr} {gs : List Comprehension} {scope : Scope} {pos py : Pos} {y : Str} {l : Nat} {env : Env} (hk : env.scope.kind = .function) (hy : env.scope.names.lookup y = some .local) (hl : (py.line == pos.line) = true)
    (ha : (scope.names.any fun (n, k) => n == y && (k == .local || k == .cell)) = false) : swapsWith (.DictComp kx vx gs scope pos) (some (.Name y py)) l env = pure true := by
  have ky : env.kindOf y = some .local := hy
  have hb : env.blockKind = .function := by unfold Env.blockKind; rw [hk]; rfl
  unfold swapsWith
  simp only [hb, ky, ha, Expr.pos, hl]
  rfl
/-- a dict comprehension over a walk -/
theorem dc_it {J : It} {n : Nat} {G : Hp → Prop} {Y : Nat → Hp → V → Hp → Prop} (w : Walk J n G Y) {g : TG} {tt : TT} {tk tv : TE} {vs : List Nat} {σ : L2.St} {H1 : Hp} {D : Addr} {Qd : Hp → Prop} (Pv : Nat → Hp → Prop) (h0 : Pv 0 (upd H1 D (.dK []))) (hG : ∀ i H, i ≤ n → Pv i H → G H)
    (hs : ∀ i x H H', i < n → Pv i H → Y i H x H' → g x (wipe σ vs) H' fun σ2 H2 => wipe σ2 vs = wipe σ vs ∧ tt σ2 H2 fun b H3 =>
      if b = true then tk σ2 H3 fun y H4 => tv σ2 H4 fun z H5 => ∃ kvs k, y = kV k ∧ H5 D = some (.dK kvs) ∧ kvs.length < sizeLine ∧ Pv (i + 1) (upd H5 D (.dK (putK kvs k z))) else Pv (i + 1) H3) (hd : ∀ H, Pv n H → Qd H) :
    ∃ W : Nat → Nat → Hp → Prop, (∃ m, W 0 m (upd H1 D (.dK []))) ∧ ∀ i m H, W i m H →
      (J.stop i H ∧ Qd H) ∨ (J.go i H ∧ ∃ Nx : Hp → Prop, (∀ H', Nx H' → ∃ m', m' < m ∧ W (i + 1) m' H') ∧ ∀ x H', J.yld i H x H' → g x (wipe σ vs) H' fun σ2 H2 => wipe σ2 vs = wipe σ vs ∧ tt σ2 H2 fun b H3 =>
        if b = true then tk σ2 H3 fun y H4 => tv σ2 H4 fun z H5 => ∃ kvs k, y = kV k ∧ H5 D = some (.dK kvs) ∧ kvs.length < sizeLine ∧ Nx (upd H5 D (.dK (putK kvs k z))) else Nx H3) := by
  refine ⟨fun i m H => m = n - i ∧ i ≤ n ∧ Pv i H, ⟨n, by simp, Nat.zero_le _, h0⟩, ?_⟩
  rintro i m H ⟨rfl, hi, p⟩
  have q := hG i H hi p
  by_cases hlt : i < n
  · refine .inr ⟨w.goes i H hlt q, Pv (i + 1), fun H' p' => ⟨n - (i + 1), by omega, rfl, hlt, p'⟩, fun x H' y => hs i x H H' hlt p (w.yields i H x H' hlt q y)⟩
  · have e : i = n := by omega
    subst e
    exact .inl ⟨w.stops H q, hd H p⟩
end
end Bt
set_option Elab.async false
set_option linter.all false
set_option maxRecDepth 100000
set_option maxHeartbeats 4000000
/-! Desk.drop. -/
namespace Bt
open PySem PySem.Spec PyProof.Rows L2 L2H
/-- the first wish, from the i-th on, that names t -/
def usedBy (t : Str) : Nat → List Wish → Option Nat
  | _, [] => none
  | i, c :: r => if decide (t ∈ c.names) = true then some i else usedBy t (i + 1) r
def spDrop (K : PySem.W.Frag) : Sp := fun vs H Q E => ∃ (k : Addr) (t : Str) (S : Shelf) (Ws : List Wish) (L : List Leaf), vs = [.ref k, .str t] ∧ DeskAt K H k ((S, Ws) :: L) ∧ ShOk S ∧ S.length ≤ 900 ∧
  (S.has t = false → Raised K E H (.unknown t)) ∧ (S.has t = true → ∀ i, usedBy t 0 Ws = some i → ∀ H', Evl.Ex H H' → Raised K E H' (.inUse i)) ∧
  (S.has t = true → usedBy t 0 Ws = none → ∀ H', ExBut k H H' → DeskAt K H' k ((S.drop t, Ws) :: (S, Ws) :: L) → Q .non H')
section
variable {P : Program} {w : World} {K : PySem.W.Frag} {mg : Str → Option Value} {base : Heap}
theorem scDrop : FnScope ["self", "name", "index", "claim", "frames", "title", "frame"] ["self", "name"] (defScope st_m_Desk_drop) := ⟨rfl, rfl, rfl, by decide +kernel, rfl, by decide +kernel, by decide +kernel⟩
theorem ok_drop (hz : Hz w K mg) : Okf P w K mg base (CXN P w) 5 (He.fAd K m_Desk_drop.at_) ["self", "name"] (spDrop K) := by
  have hd := hz.toHd
  have cD := hd.cls "Desk" (by decide +kernel)
  have cP := hd.cls "Page" (by decide +kernel)
  have n1 := hd.noat ("Desk", "page") (by decide +kernel)
  have n2 := hd.noat ("Page", "shelf") (by decide +kernel)
  have n3 := hd.noat ("Page", "wanted") (by decide +kernel)
  have me : mg "enumerate" = none := hd.free _ (by decide +kernel)
  have mN : mg "names_in" = some (.ref (He.fAd K d_names_in.at_)) := hd.glo _ (by decide +kernel)
  have mU : mg "InUse" = some (.ref (He.ga K "InUse")) := hd.glo _ (by decide +kernel)
  have mP : mg "Page" = some (.ref (He.ga K "Page")) := hd.glo _ (by decide +kernel)
  have NI := ok_nmsIn (P := P) (w := w) (base := base) hd
  have ND := ok_need (P := P) (base := base) hz
  have mtN := hd.meth ("Desk", "need") (by decide +kernel)
  obtain ⟨fd, F, B, _⟩ := ok_pageI (P := P) (w := w) (base := base) hd
  obtain ⟨fd1, F1, B1, _⟩ := ok_IU (P := P) (w := w) (base := base) hd
  obtain ⟨T, iC, tI⟩ := hd.oex "InUse" (by decide +kernel)
  refine okf_of hd.f_m_Desk_drop scDrop (fun _ _ _ _ _ _ us hl => ?_) (fun vs H Q E h => ?_) (fun cdv A outer s H vs Q E hr h => ?_)
  · obtain ⟨a, b, rfl⟩ := us2 hl
    rfl
  · obtain ⟨k, c, _, _, _, rfl, _⟩ := h
    rfl
  · obtain ⟨k, t, S, Ws, L, rfl, dk, so, l900, q1, q2, q3⟩ := h
    have hu := hu_of hr
    refine ⟨_, pss_cons (ps_expr (pe_methR (E := E) (pv 0) cD mtN (ND.run (hr.mono (by decide)) (L2N.passes_call (L2N.takes_of (E := E) rfl rfl rfl rfl) fun _ _ _ _ h => h)) (pa_cons (pv 1) pa_nil)))
      (pss_cons (ps_for PassesOwn.leaving rfl (pi_enum2 (by rfl) me (pa_cons (pe_fld (pe_fld (pv 0) rfl) rfl) pa_nil)) (pg_tup rfl (pgs_cons (pg_name (i := 2) scDrop.nd rfl (.inl rfl)) (pgs_cons (pg_name (i := 3) scDrop.nd rfl (.inl rfl)) pgs_nil)))
        (pss_one (ps_if (pt_cmpR (op_inT hu) (pv 1) (pe_callR (E := E00) (NI.run (hr.mono (by decide)) C8.pass0) (by rfl) mN NI.kp (pa_cons (pv 3) pa_nil)) rfl)
          (pss_one (L2N.ps_raise rfl (L2N.takes_of (E := E) rfl rfl rfl rfl) (pmk_oetN T iC tI F1 (hr.mono (by decide)) B1 C8.pass0 (by rfl) mU (pa_cons (pv 2) pa_nil)))) pss_nil)))
      (pss_cons (ps_lock (ps_setDc (i := 4) (own := [("title", 5), ("frame", 6)]) (g := gTup K 2 (gCons (gName 5) (gCons (gName 6) gNil))) rfl scDrop.nd rfl rfl (swD_true rfl rfl rfl (by decide +kernel)) (pi_items (pe_fld (pe_fld (pv 0) rfl) rfl)) (blkOk_by (N := ["self", "name", "index", "claim", "frames", "title", "frame"]) (sc := defScope st_m_Desk_drop) (by decide +kernel))
          (fun _ _ _ _ _ => pg_tup rfl (pgs_cons (pg_name (i := 5) scDrop.nd rfl (Or.inl rfl)) (pgs_cons (pg_name (i := 6) scDrop.nd rfl (Or.inl rfl)) pgs_nil))) (fun _ _ _ _ _ => pts_one (pt_cmpR op_ne (pv 5) (pv 1) (nomark _))) (fun _ _ _ _ _ => pv 5) (fun _ _ _ _ _ => pv 6)))
      (pss_one (ps_fld (pv 0) (pe_make (E := E00) (hd.mkr "Page" (by decide +kernel)) F (hr.mono (by decide)) (by rfl) mP B .nil C8.pass0 (pa_cons (pv 4) (pa_cons (pe_fld (pe_fld (pv 0) rfl) rfl) (pa_cons (pe_fld (pv 0) rfl) pa_nil)))) rfl)))), ?_⟩
    obtain ⟨a, ⟨dk', hk⟩, pg⟩ := id dk
    obtain ⟨d, w', prev, ⟨da, ha⟩, ⟨T0, hT, hd0, hr0⟩, ⟨as, hw, hp⟩, hpr⟩ := id pg
    refine i_seq (i_drop ⟨_, rfl, k, dk', _, rfl, hk, lk_no (by decide +kernel), _, rfl, k, t, S, Ws, L, rfl, dk, fun ht => ?_, fun ht => q1 ht⟩)
    dsimp only
    refine i_seq ⟨_, rfl, k, _, dk', _, _, rfl, hk, cD, n1, lk_hd, a, _, da, _, _, rfl, ha, cP, n3, lk_wanted, w', _, rfl, .of hw, for_enum2 (K := K) (xs := as.map V.ref) (fun i σ' H' => ∃ o1 o2, σ' = [some (V.ref k), some (V.str t), o1, o2, none, none, none] ∧ Evl.Ex H H' ∧ usedBy t 0 Ws = usedBy t i (Ws.drop i)) ⟨_, _, rfl, .refl _, rfl⟩ (fun i σ' H' _ h => ?_) (fun i x σ' H' Tp hx h hTp => ?_) (fun σ' H' h => ?_)⟩
    · obtain ⟨_, _, _, x2, _⟩ := h
      exact .of (x2 _ _ hw)
    · obtain ⟨o1, o2, rfl, x2, eb⟩ := h
      obtain ⟨y, hy, rfl⟩ := Option.map_eq_some_iff.mp (List.getElem?_map .. ▸ hx)
      obtain ⟨c, hc, wc⟩ := paired_get hp hy
      have x3 := x2.trans (.new (o := .tup [.int (i : Nat), .ref y]) hTp)
      refine ⟨Tp, _, rfl, .of upd_same, rfl, _, _, rfl, _, _, rfl, rfl, ?_⟩
      generalize (upd H' Tp (.tup [.int (i : Nat), .ref y])) = H2 at x3 ⊢
      rw [drop_at hc] at eb
      refine ⟨_, rfl, _, rfl, y, c, rfl, wc.ex x3, fun q H3 x4 hq => ⟨t, q, _, rfl, rfl, .of hq, fun w hw => ?_, decide (t ∈ c.names), ?_, ?_⟩⟩
      · obtain ⟨z, _, rfl⟩ := List.mem_map.mp hw
        exact .inl ⟨z, rfl⟩
      · congr 1
        simp
      have x5 := x3.trans x4
      by_cases et : t ∈ c.names
      · rw [decide_eq_true et]
        rw [usedBy, if_pos (decide_eq_true et)] at eb
        exact iteT (mk_ex1 (fun R r => ⟨_, rfl, r⟩) (q2 ht i eb H3 x5))
      · rw [decide_eq_false et]
        rw [usedBy, if_neg (by rw [decide_eq_false et]; decide)] at eb
        exact iteF ⟨_, _, rfl, x5, eb⟩
    · obtain ⟨o1, o2, rfl, x2, eb⟩ := h
      rw [List.length_map, paired_len hp, List.drop_length] at eb
      have eb : usedBy t 0 Ws = none := eb
      have hd2 := x2 _ _ hd0
      have da' : a ≠ d := fun z => by rw [z, hd0] at ha; cases ha
      have dk2 : k ≠ d := fun z => by rw [z, hd0] at hk; cases hk
      refine i_seq ⟨d, .dK T0.kv, hd2, trivial, fun od => ?_⟩
      have ka := (upd_ne (H := H') (o := .frz od (.dK T0.kv)) da').trans (x2 _ _ ha)
      have kk := (upd_ne (H := H') (o := .frz od (.dK T0.kv)) dk2).trans (x2 _ _ hk)
      have kd : (upd H' d (.frz od (.dK T0.kv))) d = some (.frz od (.dK T0.kv)) := upd_same
      have back : ∀ H2, Evl.Ex (upd H' d (.frz od (.dK T0.kv))) H2 → Evl.Ex H' (upd H2 d (.dK T0.kv)) := fun H2 x b o e => by
        by_cases z : b = d
        · rw [z] at e ⊢
          rw [hd2] at e
          rw [upd_same]
          exact e
        · rw [upd_ne z]
          exact x b o (by rw [upd_ne z]; exact e)
      generalize (upd H' d (.frz od (.dK T0.kv))) = HL at ka kk kd back ⊢
      have hk2 := kk
      refine i_asg (vx_fld (vx_fld (vx_var rfl) kk cD n1 lk_hd) ka cP n2 lk_hd _ ⟨d, od, T0.kv, rfl, kd, fun D hD => ?_⟩)
      refine dc_it (walk_items (d := d) (o := od) (kvs := T0.kv)) (fun i H2 => Evl.Ex HL H2 ∧ H2 D = some (.dK (ShT.drop (T0.take i) t).kv)) ⟨.new hD, upd_same⟩ (fun i H2 _ h => h.1 _ _ kd) (fun i x H2 H3 hi h hy => ?_) (fun H2 h => ?_)
      · obtain ⟨x3, eD⟩ := h
        obtain ⟨Tp, kx, vx, rfl, hTp, rfl, e1, e2⟩ := hy
        have hiT : i < T0.length := by simpa [ShT.kv] using hi
        obtain ⟨⟨u, p, f⟩, hx⟩ : ∃ x, T0[i]? = some x := ⟨T0[i], List.getElem?_eq_getElem hiT⟩
        have ekv : T0.kv[i]? = some (.inr u, .ref f) := by simp [ShT.kv, hx]
        dsimp only at e1 e2
        rw [ekv] at e1 e2
        cases e1
        cases e2
        have x4 := x3.trans (.new (o := .tup [kV (.inr u), .ref f]) hTp)
        have tD : D ≠ Tp := ne_of_none eD hTp
        have eD4 : (upd H2 Tp (.tup [kV (.inr u), .ref f])) D = some (.dK (ShT.drop (T0.take i) t).kv) := by rw [upd_ne tD]; exact eD
        refine ⟨Tp, _, rfl, .of upd_same, rfl, _, _, rfl, _, _, rfl, rfl, rfl, ?_⟩
        generalize (upd H2 Tp (.tup [kV (.inr u), .ref f])) = H4 at x4 eD4 ⊢
        have tk : T0.take (i + 1) = T0.take i ++ [(u, p, f)] := by rw [List.take_succ, hx]; rfl
        have lz : (ShT.drop (T0.take i) t).kv.length ≤ 900 := by
          have h1 : (ShT.drop (T0.take i) t).kv.length ≤ (T0.take i).length := by
            unfold ShT.kv ShT.drop
            rw [List.length_map]
            exact List.length_filter_le _ _
          have h2 : T0.length = S.length := by
            have hT' : T0.sh = S := hT
            rw [← hT']
            simp [ShT.sh]
          rw [List.length_take] at h1
          omega
        refine fx_test (vx_neS (x := u) (y := t) (vx_var rfl) (vx_var rfl) rfl) _ ?_
        by_cases e : u = t
        · rw [show (!decide (u = t)) = false by simp [e]]
          refine iteF ⟨x4, ?_⟩
          have ed : ShT.drop (T0.take (i + 1)) t = ShT.drop (T0.take i) t := by
            rw [tk]
            unfold ShT.drop
            rw [List.filter_append, List.filter_cons, if_neg (by simp [e])]
            simp
          rw [ed]
          exact eD4
        · rw [show (!decide (u = t)) = true by simp [e]]
          refine iteT ⟨_, rfl, _, rfl, _, .inr u, rfl, eD4, szlt (by omega), x4.mut hD, ?_⟩
          have ed : ShT.drop (T0.take (i + 1)) t = ShT.drop (T0.take i) t ++ [(u, p, f)] := by
            rw [tk]
            unfold ShT.drop
            rw [List.filter_append, List.filter_cons, if_pos (by simp [e])]
            rfl
          have fresh : ¬ ((ShT.drop (T0.take i) t).kv.any fun x => decide (x.1 = .inr u)) = true := by
            rw [ShT.any_kv, List.any_eq_true]
            rintro ⟨z, hz, ez⟩
            have hz := (List.mem_filter.mp hz).1
            obtain ⟨j, hj, rfl⟩ := List.getElem_of_mem hz
            have hj' : j < i := by
              rw [List.length_take] at hj
              omega
            have nd := so.nd
            have hT' : T0.sh = S := hT
            rw [← hT'] at nd
            have nd2 : (T0.map (·.1)).Nodup := by
              unfold ShT.sh at nd
              rw [List.map_map] at nd
              exact nd
            have := List.pairwise_iff_getElem.mp nd2 j i (by simp; omega) (by simp; omega) hj'
            refine this ?_
            have ei : T0[i] = (u, p, f) := (List.getElem?_eq_some_iff.mp hx).2
            have ez := of_decide_eq_true ez
            rw [List.getElem_take] at ez
            rw [List.getElem_map, List.getElem_map, ei]
            exact ez
          rw [upd_same, ed]
          unfold putK
          rw [if_neg fresh]
          simp [ShT.kv]
      · obtain ⟨x3, eD⟩ := h
        have el : (T0.kv.length) = T0.length := by simp [ShT.kv]
        rw [el, List.take_length] at eD
        refine ⟨x3 _ _ kd, ?_⟩
        have x4 := x2.trans (back _ x3)
        have Dd : D ≠ d := fun z => by rw [z, kd] at hD; cases hD
        have eD2 : (upd H2 d (.dK T0.kv)) D = some (.dK (T0.drop t).kv) := by rw [upd_ne Dd]; exact eD
        generalize (upd H2 d (.dK T0.kv)) = H5 at x4 eD2 ⊢
        have sd : ShP K H5 D (S.drop t) := ⟨T0.drop t, by rw [ShT.drop_sh, hT], eD2, fun x hx => (hr0 x (List.mem_filter.mp hx).1).ex x4⟩
        dsimp only
        refine i_fld (i_make (i_cons (vx_var rfl _ (i_cons (vx_fld (vx_fld (vx_var rfl) (x4 _ _ hk) cD n1 lk_hd) (x4 _ _ ha) cP n3 lk_wanted _ (i_cons ?_))))))
        exact page_set (fa := []) (n := 0) (da := 0) hd rfl hk pg x4 sd (wsAt_firm ⟨as, hw, hp⟩ (.ex x4)) fun H' r1 r2 => q3 ht eb H' r1 r2
end
end Bt
set_option Elab.async false
set_option linter.all false
set_option maxRecDepth 100000
set_option maxHeartbeats 4000000
/-! The law's shown. -/
namespace Bt
open PySem PySem.Spec PyProof.Rows L2
def spShown : Sp := fun vs H Q _ => ∃ (d a : Addr) (S : Shelf) (c : Wish), vs = [.ref d, .ref a] ∧ ShL H d S ∧ ShOk S ∧ WishAt H a c ∧ WishOk c ∧ c.on S ∧ ∀ q H', Evl.Ex H H' → H' q = some (.tup [.bl (kept S c), shownV S c]) → Q (.ref q) H'
theorem vx_many {te : TE} {σ : L2.St} {H : Hp} {a : Addr} {p : Plan} (h : Vx te σ H (.ref a)) (f : PlanAt H a p) (o : PlanOk p) : Vx (tCall spMany [] E00 (tCons te tNil)) σ H (.int (p.hills : Nat)) := fun Q q => h _ ⟨a, p, rfl, f, o, q⟩
theorem tup2 {ta tb : TE} {σ : L2.St} {H : Hp} {x y : V} {Q : VK} (ha : Vx ta σ H x) (hb : Vx tb σ H y) (k : ∀ p, H p = none → Q (.ref p) (upd H p (.tup [x, y]))) : tTup (tCons ta (tCons tb tNil)) σ H Q :=
  i_tup (i_cons (ha _ (i_cons (hb _ (i_nil ⟨szl (by simp), k⟩)))))
theorem evt_fx {t : TT} {σ : L2.St} {H : Hp} {b : Bool} (h : ∀ H', Evl.Ex H H' → Fx t σ H' b) : Evl.EvT t σ H b := fun H1 e Q q => h H1 e Q (q H1 (.refl _))
theorem given_none (ks ls : List Int) : decide ((Evl.given ks.length (fun i => decide ((ls.count (ks.getD i 0) : Int) < (ks.count (ks.getD i 0) : Int))) (fun i => V.int (ks.getD i 0))).length = ([] : List V).length) = ks.all fun k => decide (ks.count k ≤ ls.count k) := by
  rw [Bool.eq_iff_iff, decide_eq_true_eq, List.all_eq_true]
  unfold Evl.given
  rw [List.length_map, List.length_nil, List.length_eq_zero_iff, List.filter_eq_nil_iff]
  constructor
  · intro h k hk
    obtain ⟨i, hi, rfl⟩ := List.getElem_of_mem hk
    have := h i (List.mem_range.mpr hi)
    simp [List.getD, hi] at this
    exact decide_eq_true (by omega)
  · intro h i hi
    have hi := List.mem_range.mp hi
    have := of_decide_eq_true (h _ (List.getElem_mem hi))
    simp [List.getD, hi]
    omega
section
variable {P : Program} {w : World} {K : PySem.W.Frag} {mg : Str → Option Value} {base : Heap}
theorem scShown : FnScope ["_law_shelf", "_law_wish", "_law_plan", "_law_other", "_law_lacking", "_law_free_here", "_law_knot_here"] ["_law_shelf", "_law_wish"] (defScope st_d_law_shown) := ⟨rfl, rfl, rfl, by decide +kernel, rfl, by decide +kernel, by decide +kernel⟩
theorem ok_shown (hd : Hd K mg) : Okf P w K mg base C8.CX0 3 (He.fAd K d_law_shown.at_) ["_law_shelf", "_law_wish"] spShown := by
  have ml : mg "len" = none := hd.free _ (by decide +kernel)
  have mF : mg "_law_free" = some (.ref (He.fAd K d_law_free.at_)) := hd.glo _ (by decide +kernel)
  have mM : mg "_law_many" = some (.ref (He.fAd K d_law_many.at_)) := hd.glo _ (by decide +kernel)
  have FR := ok_free (P := P) (w := w) (base := base) hd
  have M := ok_many (P := P) (w := w) (base := base) hd
  refine okf_of hd.f_d_law_shown scShown (fun _ _ _ _ _ _ us hl => ?_) (fun vs H Q E h => ?_) (fun cdv A outer s H vs Q E hr h => ?_)
  · obtain ⟨a, b, rfl⟩ := us2 hl
    rfl
  · obtain ⟨d, a, _, _, rfl, _⟩ := h
    rfl
  · obtain ⟨d, a, S, c, rfl, sh, so, wa, wo, on, k⟩ := h
    have hu := hu_of hr
    refine ⟨_, pss_cons (ps_set (i := 2) scShown.nd rfl (.inr rfl) (pe_dget hu (pv 0) (pe_ix ix_tup (pv 1) pe_int (fun _ _ => rfl)) (fun _ _ => rfl)))
      (pss_cons (ps_if (pt_cmpR op_eq (pe_ix ix_tup (pv 1) pe_int (fun _ _ => rfl)) pe_str (nomark _))
        (pss_cons (ps_set (i := 3) scShown.nd rfl (.inr rfl) (pe_dget hu (pv 0) (pe_ix ix_tup (pv 1) pe_int (fun _ _ => rfl)) (fun _ _ => rfl)))
        (pss_cons (ps_setLc (i := 4) (own := [("_law_knot_here", 6)]) (g := gName 6) rfl scShown.nd rfl rfl (sw_true rfl rfl rfl (by decide +kernel)) (pi_tup (pe_ix ix_list (pv 2) pe_int (fun _ _ => rfl))) (blkOk_by (N := ["_law_shelf", "_law_wish", "_law_plan", "_law_other", "_law_lacking", "_law_free_here", "_law_knot_here"]) (sc := defScope st_d_law_shown) (by decide +kernel))
          (fun _ _ _ _ _ => pg_name (i := 6) scShown.nd rfl (Or.inl rfl)) (fun _ _ _ _ _ => pts_one (pt_cmpR op_gt (pe_bmT (r := rTCnt K) PySem.F.slot_tuple_count PySem.F.type_tuple_count mt_tcount (pe_ix (r := rIxL K) ix_list (pv 2) pe_int (fun _ _ => rfl)) (pa_cons (pv 6) pa_nil)) (pe_bmT (r := rTCnt K) PySem.F.slot_tuple_count PySem.F.type_tuple_count mt_tcount (pe_ix (r := rIxL K) ix_list (pv 3) pe_int (fun _ _ => rfl)) (pa_cons (pv 6) pa_nil)) (nomark _))) (fun _ _ _ _ _ => pv 6))
        (pss_one (ps_ret (pe_tup (pa_cons (pe_and (pe_cmpR op_eq (pe_ix ix_list (pv 2) pe_int (fun _ _ => rfl)) (pe_ix ix_list (pv 3) pe_int (fun _ _ => rfl)) (nomark _)) (pe_one (pe_cmpR (op_eqE (Nat.lt_of_succ_lt hu)) (pv 4) (pe_lst pa_nil) (nomark _)))) (pa_cons pe_non pa_nil))))))) pss_nil)
      (pss_cons (ps_set (i := 5) scShown.nd rfl (.inl rfl) (pe_callR (E := E00) (FR.run hr C8.pass0) (by rfl) mF FR.kp (pa_cons (pv 2) (pa_cons (pe_ix ix_tup (pv 1) pe_int (fun _ _ => rfl)) pa_nil))))
      (pss_cons (ps_if (pt_cmpR op_eq (pe_ix ix_tup (pv 1) pe_int (fun _ _ => rfl)) pe_str (nomark _)) (pss_one (ps_ret (pe_tup (pa_cons (pe_cmpR op_ge (pv 5) (pe_ix ix_tup (pv 1) pe_int (fun _ _ => rfl)) (nomark _)) (pa_cons (pv 5) pa_nil))))) pss_nil)
      (pss_one (ps_ret (pe_tup (pa_cons (pe_and (pe_cmpR op_eq (pv 5) (pe_callB call_len_seq (by rfl) ml bo_len (pa_cons (pe_ix ix_tup (pv 1) pe_int (fun _ _ => rfl)) pa_nil)) (nomark _)) (pe_one (pe_or (pe_cmpR op_eq (pe_ix ix_tup (pv 1) pe_int (fun _ _ => rfl)) pe_str (nomark _)) (pe_one (pe_cmpR op_eq (pv 5) (pe_callR (E := E00) (M.run (hr.mono (by decide)) C8.pass0) (by rfl) mM M.kp (pa_cons (pv 2) pa_nil)) (nomark _)))))) (pa_cons (pv 5) pa_nil)))))))), ?_⟩
    cases c with
    | within t o =>
      obtain ⟨f1, g1, r1⟩ := sh.get (on t (by simp [Wish.names]))
      obtain ⟨f2, g2, r2⟩ := sh.get (on o (by simp [Wish.names]))
      have o1 := so.at (on t (by simp [Wish.names]))
      have o2 := so.at (on o (by simp [Wish.names]))
      refine i_seq (i_asg (vx_dget (vx_var rfl) (vx_ixT (K := K) (vx_var rfl) vx_c (.of wa) (at_k 1 rfl rfl)) g1 _ ?_))
      dsimp only
      refine i_seq (if_t (fx_test (vx_eqS (vx_ixT (K := K) (vx_var rfl) vx_c (.of wa) (at_k 0 rfl rfl)) vx_c (show decide (("within" : Str) = "within") = true by decide +kernel))) ?_)
      refine i_seq (i_asg (vx_dget (vx_var rfl) (vx_ixT (K := K) (vx_var rfl) vx_c (.of wa) (at_k 2 rfl rfl)) g2 _ ?_))
      dsimp only
      obtain ⟨t1, p1, kn1⟩ := r1
      obtain ⟨t2, p2, kn2⟩ := r2
      have l15 := o1.len
      refine i_seq (i_asg (el_lcT (K := K) (a := t1) (xs := (S.at t).2.map V.int) (fun i => decide (((S.at o).2.count ((S.at t).2.getD i 0) : Int) < ((S.at t).2.count ((S.at t).2.getD i 0) : Int))) (fun i => .int ((S.at t).2.getD i 0))
        (ev_vx fun H' x => vx_ixL (K := K) (vx_var rfl) vx_c (x _ _ p1) (at_k 1 rfl rfl)) kn1.sq (by rw [List.length_map]; omega) (fun x => rfl) (fun i x H1 x1 hx => evt_fx fun H' x2 => ?_) (fun i x H1 x1 hx _ => ?_) H (.refl _) _ fun lp H1 hlp x1 e1 => ?_))
      · obtain ⟨y, hy, rfl⟩ := Option.map_eq_some_iff.mp (List.getElem?_map .. ▸ hx)
        have ey : (S.at t).2.getD i 0 = y := by simp [List.getD, hy]
        rw [ey]
        have x3 := x1.trans x2
        exact fx_test (vx_op0 (g := fun i j => .bl (decide (j < i))) (vx_tcount (vx_ixL (K := K) (vx_var rfl) vx_c (x3 _ _ p1) (at_k 1 rfl rfl)) (kn1.ex x3) (vx_var rfl)) (vx_tcount (vx_ixL (K := K) (vx_var rfl) vx_c (x3 _ _ p2) (at_k 1 rfl rfl)) (kn2.ex x3) (vx_var rfl)))
      · obtain ⟨y, hy, rfl⟩ := Option.map_eq_some_iff.mp (List.getElem?_map .. ▸ hx)
        have ey : (S.at t).2.getD i 0 = y := by simp [List.getD, hy]
        rw [ey]
        exact ev_vx fun H' x => vx_var rfl
      · dsimp only
        have ve : Vx (tOp rEq (tOp (rIxL K) (tVar 2) (tC (.int 0))) (tOp (rIxL K) (tVar 3) (tC (.int 0)))) [some (V.ref d), some (V.ref a), some (V.ref f1), some (V.ref f2), some (V.ref lp), none, none] H1 (.bl (decide (((S.at t).1 : Int) = ((S.at o).1 : Int)))) :=
          vx_eqI (vx_ixL (K := K) (vx_var rfl) vx_c (x1 _ _ p1) (at_k 0 rfl rfl)) (vx_ixL (K := K) (vx_var rfl) vx_c (x1 _ _ p2) (at_k 0 rfl rfl))
        refine i_ret (i_tup (i_cons (ve _ ⟨_, rfl, ?_⟩)))
        by_cases e : (S.at t).1 = (S.at o).1
        · rw [decide_eq_true (show ((S.at t).1 : Int) = ((S.at o).1 : Int) by omega)]
          refine iteT ⟨_, rfl, szl (by simp), fun el hel => ⟨lp, el, _, _, rfl, rfl, .of (by rw [upd_ne (ne_of_none e1 hel)]; exact e1), .of upd_same, .inr rfl, ?_⟩⟩
          refine i_cons (vx_c _ (i_nil ⟨szl (by simp), fun q hq => k q _ ((x1.trans (.new hel)).trans (.new hq)) ?_⟩))
          rw [upd_same]
          have ek : decide ((Evl.given ((S.at t).2.map V.int).length (fun i => decide (((S.at o).2.count ((S.at t).2.getD i 0) : Int) < ((S.at t).2.count ((S.at t).2.getD i 0) : Int))) (fun i => .int ((S.at t).2.getD i 0))).length = ([] : List V).length) = kept S (.within t o) := by
            show _ = wth (S.at t) (S.at o)
            unfold wth
            rw [decide_eq_true e, Bool.true_and, List.length_map]
            exact given_none _ _
          rw [ek]
          rfl
        · rw [decide_eq_false (show ¬ ((S.at t).1 : Int) = ((S.at o).1 : Int) by omega)]
          refine iteF (i_cons (vx_c _ (i_nil ⟨szl (by simp), fun q hq => k q _ (x1.trans (.new hq)) ?_⟩)))
          rw [upd_same]
          have ek : kept S (.within t o) = false := by
            show wth (S.at t) (S.at o) = false
            unfold wth
            rw [decide_eq_false e]
            rfl
          rw [ek]
          rfl
    | rank t xs n =>
      obtain ⟨f1, g1, r1⟩ := sh.get (on t (by simp [Wish.names]))
      have o1 := so.at (on t (by simp [Wish.names]))
      obtain ⟨s0, w1, w2⟩ := wa
      refine i_seq (i_asg (vx_dget (vx_var rfl) (vx_ixT (K := K) (vx_var rfl) vx_c (.of w1) (at_k 1 rfl rfl)) g1 _ ?_))
      dsimp only
      refine i_seq (if_f (fx_test (vx_eqS (vx_ixT (K := K) (vx_var rfl) vx_c (.of w1) (at_k 0 rfl rfl)) vx_c (show decide (("rank" : Str) = "within") = false by decide +kernel))) ?_)
      dsimp only [tNext]
      refine i_seq (i_asg (i_call (i_cons (vx_var rfl _ (i_cons (vx_ixT (K := K) (vx_var rfl) vx_c (.of w1) (at_k 2 rfl rfl) _ (i_nil ⟨f1, s0, S.at t, xs, rfl, r1, o1, w2, wo.2.1.few, fun H1 x1 => ?_⟩)))))))
      dsimp only
      refine i_seq (if_t (fx_test (vx_eqS (vx_ixT (K := K) (vx_var rfl) vx_c (.of (x1 _ _ w1)) (at_k 0 rfl rfl)) vx_c (show decide (("rank" : Str) = "rank") = true by decide +kernel))) ?_)
      refine i_ret (tup2 (vx_op0 (g := fun i j => .bl (decide (j ≤ i))) (vx_var rfl) (vx_ixT (K := K) (vx_var rfl) vx_c (.of (x1 _ _ w1)) (at_k 3 rfl rfl))) (vx_var rfl) fun q hq => k q _ (x1.trans (.new hq)) ?_)
      rw [upd_same]
      rfl
    | kind b t xs =>
      obtain ⟨f1, g1, r1⟩ := sh.get (on t (by simp [Wish.names]))
      have o1 := so.at (on t (by simp [Wish.names]))
      obtain ⟨s0, w1, w2⟩ := wa
      refine i_seq (i_asg (vx_dget (vx_var rfl) (vx_ixT (K := K) (vx_var rfl) vx_c (.of w1) (at_k 1 rfl rfl)) g1 _ ?_))
      dsimp only
      refine i_seq (if_f (fx_test (vx_eqS (vx_ixT (K := K) (vx_var rfl) vx_c (.of w1) (at_k 0 rfl rfl)) vx_c (show decide (kindS b = "within") = false by cases b <;> decide +kernel))) ?_)
      dsimp only [tNext]
      refine i_seq (i_asg (i_call (i_cons (vx_var rfl _ (i_cons (vx_ixT (K := K) (vx_var rfl) vx_c (.of w1) (at_k 2 rfl rfl) _ (i_nil ⟨f1, s0, S.at t, xs, rfl, r1, o1, w2, wo.2.few, fun H1 x1 => ?_⟩)))))))
      dsimp only
      refine i_seq (if_f (fx_test (vx_eqS (vx_ixT (K := K) (vx_var rfl) vx_c (.of (x1 _ _ w1)) (at_k 0 rfl rfl)) vx_c (show decide (kindS b = "rank") = false by cases b <;> decide +kernel))) ?_)
      dsimp only [tNext]
      refine i_ret (tup2 (vx_and (b := decide (rk (S.at t) xs = xs.length)) (c := b || decide (rk (S.at t) xs = (S.at t).hills)) ?_ fun _ => vx_or (b := b) ?_ fun _ => ?_) (vx_var rfl) fun q hq => k q _ (x1.trans (.new hq)) ?_)
      · exact vx_eqN (vx_var rfl) (vx_len (K := K) (vx_ixT (K := K) (vx_var rfl) vx_c (.of (x1 _ _ w1)) (at_k 2 rfl rfl)) (.of (x1 _ _ w2)) (by simp))
      · exact vx_eqS (vx_ixT (K := K) (vx_var rfl) vx_c (.of (x1 _ _ w1)) (at_k 0 rfl rfl)) vx_c (by cases b <;> decide +kernel)
      · exact vx_eqN (vx_var rfl) (vx_many (vx_var rfl) (r1.ex x1) o1)
      · rw [upd_same]
        rfl
end
end Bt
set_option Elab.async false
set_option linter.all false
set_option maxRecDepth 100000
set_option maxHeartbeats 4000000
/-! What is made is locked; errors as texts; the law's broken. -/
namespace Bt
open PySem PySem.Spec PyProof.Rows L2
/-- what was made is locked for good -/
def tFrz (t : TE) : TE := fun σ H Q => t σ H fun v H1 => ∃ d u, v = .ref d ∧ H1 d = some u ∧ Mut (some u) ∧ ∀ od, Q v (upd H1 d (.frz od u))
theorem pe_frz {X : Cx} {e : Expr} {t : TE} (h : PE X e t) : PE X e (tFrz t) := by
  refine ⟨fun pins s σ H Q I hw => ?_⟩
  refine thn (h.run pins s σ _ _ I hw) fun v s1 ⟨x, H1, I1, r, d, u, ex, hd, mu, q⟩ => ?_
  obtain ⟨od, I2⟩ := I1.lock hd mu
  exact ⟨x, _, I2, r, q od⟩
/-- a list of wishes that stays -/
def WlF (H : Hp) (w : Addr) (Ws : List Wish) : Prop := ∃ (od : Obj) (as : List Addr), H w = some (.frz od (.lst (as.map V.ref))) ∧ Paired (WishAt H) as Ws
/-- a list of wishes, to be read -/
def WlR (K : PySem.W.Frag) (H : Hp) (w : Addr) (Ws : List Wish) : Prop := ∃ (as : List Addr), SqL K H w (as.map V.ref) ∧ Paired (WishAt H) as Ws
theorem WlF.r {K : PySem.W.Frag} {H : Hp} {w : Addr} {Ws : List Wish} (h : WlF H w Ws) : WlR K H w Ws := by
  obtain ⟨od, as, h, p⟩ := h
  exact ⟨as, .inl (.inr ⟨od, h⟩), p⟩
theorem WlR.ex {K : PySem.W.Frag} {H H' : Hp} {w : Addr} {Ws : List Wish} (h : WlR K H w Ws) (x : Evl.Ex H H') : WlR K H' w Ws := by
  obtain ⟨as, h, p⟩ := h
  exact ⟨as, Evl.ex_l x h, paired_mono p fun _ _ f => f.ex x⟩
theorem WlF.ex {H H' : Hp} {w : Addr} {Ws : List Wish} (h : WlF H w Ws) (x : Evl.Ex H H') : WlF H' w Ws := by
  obtain ⟨od, as, h, p⟩ := h
  exact ⟨od, as, x _ _ h, paired_mono p fun _ _ f => f.ex x⟩
/-- data of a value -/
def dV : V → PyData
  | .int i => .int i
  | .str z => .str z
  | _ => .none
/-- an error as the law writes it -/
def errL : Err → List Str
  | .unknown t => ["UnknownName", (PyData.str t).shown]
  | .inUse i => ["InUse", (PyData.int (i : Nat)).shown]
  | .index i => ["InvalidIndex", (PyData.int i).shown]
  | .nothing => ["NothingToUndo"]
  | .broken i v => ["Broken", (PyData.int (i : Nat)).shown, (dV v).shown]
def errV (e : Option Err) : List V := match e with
  | none => []
  | some e => (errL e).map V.str
theorem shown_int {i : Int} (h : i.natAbs.log2 < 1920) : (PyData.int i).shown.length ≤ sizeLine := by
  have := int_text_fits h
  simpa only [PyData.shown] using this
theorem log_small {n : Nat} (h : n < 2 ^ 64) : n.log2 < 1920 := by
  by_cases z : n = 0
  · subst z; decide
  · have : n.log2 < 64 := (Nat.log2_lt z).mpr h
    omega
def BrokeV (S : Shelf) (Ws : List Wish) : Option Err := (broke S 0 Ws).map fun p => .broken p.1 p.2
def spBroken (K : PySem.W.Frag) : Sp := fun vs H Q _ => ∃ (d w : Addr) (S : Shelf) (Ws : List Wish), vs = [.ref d, .ref w] ∧ ShL H d S ∧ ShOk S ∧ WlR K H w Ws ∧ WsOk S Ws ∧ Ws.length ≤ 1000 ∧
  ∀ p H', Evl.Ex H H' → H' p = some (.lst (errV (BrokeV S Ws))) → Q (.ref p) H'
theorem shownV_fit (S : Shelf) {c : Wish} (ok : WishOk c) : flatD (dV (shownV S c)) = true ∧ (dV (shownV S c)).showable = true ∧ (dV (shownV S c)).shown.length ≤ sizeLine := by
  have key : ∀ n : Nat, n ≤ 12 → flatD (dV (.int (n : Nat))) = true ∧ (dV (.int (n : Nat))).showable = true ∧ (dV (.int (n : Nat))).shown.length ≤ sizeLine := fun n hn => by
    have l : ((n : Nat) : Int).natAbs.log2 < 1920 := log_small (by omega)
    exact ⟨rfl, by simp only [dV, PyData.showable, decide_eq_true_eq]; exact l, shown_int l⟩
  cases c with
  | within t o => exact ⟨rfl, rfl, by show (PyData.none).shown.length ≤ sizeLine; rw [sizeLine_eq]; simp only [PyData.shown]; decide⟩
  | rank t xs k => exact key _ (Nat.le_trans (rk_le _ _) ok.2.1.few)
  | kind b t xs => exact key _ (Nat.le_trans (rk_le _ _) ok.2.few)
theorem shownV_dp (K : PySem.W.Frag) (H : Hp) (S : Shelf) (c : Wish) : Dp K H (shownV S c) (dV (shownV S c)) := by
  cases c with
  | within t o => exact .non
  | rank t xs k => exact .int _
  | kind b t xs => exact .int _
theorem vx_repr {K : PySem.W.Frag} {te : TE} {σ : L2.St} {H : Hp} {v : V} (h : Vx te σ H v) (d : Dp K H v (dV v)) (f : flatD (dV v) = true ∧ (dV v).showable = true ∧ (dV v).shown.length ≤ sizeLine) : Vx (tCB (rReprF K) (tCons te tNil)) σ H (.str (dV v).shown) := fun Q q =>
  i_cb (i_cons (h _ (i_nil ⟨v, dV v, rfl, d, f.1, f.2.1, f.2.2, q⟩)))
theorem int_fit {i : Int} (l : i.natAbs.log2 < 1920) : flatD (dV (.int i)) = true ∧ (dV (.int i)).showable = true ∧ (dV (.int i)).shown.length ≤ sizeLine := ⟨rfl, by simp [dV, PyData.showable, l], shown_int l⟩
section
variable {P : Program} {w : World} {K : PySem.W.Frag} {mg : Str → Option Value} {base : Heap}
theorem scBroken : FnScope ["_law_shelf", "_law_wishes", "_law_k", "_law_fine", "_law_shown_here"] ["_law_shelf", "_law_wishes"] (defScope st_d_law_broken) := ⟨rfl, rfl, rfl, by decide +kernel, rfl, by decide +kernel, by decide +kernel⟩
theorem ok_broken (hd : Hd K mg) : Okf P w K mg base C8.CX0 4 (He.fAd K d_law_broken.at_) ["_law_shelf", "_law_wishes"] (spBroken K) := by
  have ml : mg "len" = none := hd.free _ (by decide +kernel)
  have mr : mg "range" = none := hd.free _ (by decide +kernel)
  have mp : mg "repr" = none := hd.free _ (by decide +kernel)
  have mS : mg "_law_shown" = some (.ref (He.fAd K d_law_shown.at_)) := hd.glo _ (by decide +kernel)
  have SH := ok_shown (P := P) (w := w) (base := base) hd
  refine okf_of hd.f_d_law_broken scBroken (fun _ _ _ _ _ _ us hl => ?_) (fun vs H Q E h => ?_) (fun cdv A outer s H vs Q E hr h => ?_)
  · obtain ⟨a, b, rfl⟩ := us2 hl
    rfl
  · obtain ⟨d, a, _, _, rfl, _⟩ := h
    rfl
  · obtain ⟨d, w', S, Ws, rfl, sh, so, ⟨as, hw, hp⟩, wo, l1000, k⟩ := h
    have hu := hu_of hr
    refine ⟨_, pss_cons (ps_for PassesOwn.leaving rfl (pi_range1 (by rfl) mr (pa_cons (pe_callB call_len_seq (by rfl) ml bo_len (pa_cons (pv 1) pa_nil)) pa_nil)) (pg_name (i := 2) scBroken.nd rfl (.inl rfl))
        (pss_cons (ps_asg (pe_callR (E := E00) (SH.run hr C8.pass0) (by rfl) mS SH.kp (pa_cons (pv 0) (pa_cons (pe_ix ix_list (pv 1) (pv 2) (fun _ _ => rfl)) pa_nil))) (pg_tup rfl (pgs_cons (pg_name (i := 3) scBroken.nd rfl (.inl rfl)) (pgs_cons (pg_name (i := 4) scBroken.nd rfl (.inl rfl)) pgs_nil))))
        (pss_one (ps_if (pt_not (pt_val (pv 3))) (pss_one (ps_ret (pe_lst (pa_cons pe_str (pa_cons (pe_callB cr_reprF (by rfl) mp bo_repr (pa_cons (pv 2) pa_nil)) (pa_cons (pe_callB cr_reprF (by rfl) mp bo_repr (pa_cons (pv 4) pa_nil)) pa_nil)))))) pss_nil))))
      (pss_one (ps_ret (pe_lst pa_nil))), ?_⟩
    have hlen : as.length = Ws.length := paired_len hp
    refine ⟨_, rfl, w', _, rfl, .inl hw, _, rfl, by omega, by rw [List.length_map]; omega, for_range (fun i σ' H' => ∃ o2 o3 o4, σ' = [some (V.ref d), some (V.ref w'), o2, o3, o4] ∧ Evl.Ex H H' ∧ broke S 0 Ws = broke S i (Ws.drop i))
      ⟨_, _, _, rfl, .refl _, rfl⟩ (fun i σ' H' hi h => ?_) (fun σ' H' h => ?_)⟩
    · obtain ⟨o2, o3, o4, rfl, x1, eb⟩ := h
      have hi : i < as.length := by simpa using hi
      obtain ⟨c, hc, wc⟩ := paired_get hp (List.getElem?_eq_getElem hi)
      have cm := wo c (List.mem_of_getElem? hc)
      have ga : atI (as.map V.ref) (0 + (i : Int)) = some (.ref as[i]) := at_k i (by omega) (by simp [hi])
      refine ⟨_, rfl, _, rfl, _, rfl, w', _, _, _, rfl, rfl, Evl.ex_l x1 hw, ga, d, as[i], S, c, rfl, sh.ex x1, so, wc.ex x1, cm.1, cm.2, fun q H2 x2 hq => ⟨q, _, rfl, .of hq, rfl, _, _, rfl, _, _, rfl, rfl, ?_⟩⟩
      have x3 := x1.trans x2
      rw [drop_at hc] at eb
      refine ⟨_, rfl, kept S c, rfl, ?_⟩
      cases ek : kept S c with
      | true =>
        rw [broke, if_pos ek] at eb
        exact iteF ⟨_, _, _, rfl, x3, eb⟩
      | false =>
        rw [broke, if_neg (by rw [ek]; decide)] at eb
        have li : (0 + (i : Int)).natAbs.log2 < 1920 := log_small (by omega)
        refine iteT (i_ret (i_lst (i_cons (vx_c _ (i_cons (vx_repr (K := K) (vx_var rfl) (.int _) (int_fit li) _ (i_cons (vx_repr (K := K) (vx_var rfl) (shownV_dp K _ S c) (shownV_fit S cm.1) _ (i_nil ⟨szl (by simp), fun p hp' => k p _ (x3.trans (.new hp')) ?_⟩)))))))))
        rw [upd_same]
        unfold BrokeV
        rw [eb]
        show _ = some (HO.lst ([Str.ofString "Broken", (PyData.int (i : Nat)).shown, (dV (shownV S c)).shown].map V.str))
        rw [show (0 + (i : Int)) = (i : Int) from by omega]
        rfl
    · obtain ⟨o2, o3, o4, rfl, x1, eb⟩ := h
      refine ⟨szl (by simp), fun p hp' => k p _ (x1.trans (.new hp')) ?_⟩
      rw [upd_same]
      unfold BrokeV
      rw [eb]
      have : ((((as.map V.ref).length : Nat) : Int)).toNat = Ws.length := by rw [List.length_map]; omega
      rw [this, List.drop_length]
      rfl
end
end Bt
set_option Elab.async false
set_option linter.all false
set_option maxRecDepth 100000
set_option maxHeartbeats 4000000
/-! Deeds upon a page of the law; lists of pairs of a shelf. -/
namespace Bt
open PySem PySem.Spec PyProof.Rows L2
inductive Deed where
  | put (t : Str) (p : Plan)
  | claim (c : Wish)
  | lift (i : Nat)
  | drop (t : Str)
def DeedAt (H : Hp) (a : Addr) : Deed → Prop
  | .put t p => ∃ q, H a = some (.lst [.str "put", .str t, .ref q]) ∧ PlanAt H q p
  | .claim c => ∃ q, H a = some (.lst [.str "claim", .ref q]) ∧ WishAt H q c
  | .lift i => H a = some (.lst [.str "lift", .int (i : Nat)])
  | .drop t => H a = some (.lst [.str "drop", .str t])
def DeedOk (l : Leaf) : Deed → Prop
  | .put t p => NameOk t ∧ PlanOk p
  | .claim c => WishOk c ∧ c.on l.1
  | .lift i => i ≤ l.2.length
  | .drop t => NameOk t
def deedErr (l : Leaf) : Deed → Option Err
  | .put t p => BrokeV (l.1.put t p) l.2
  | .claim c => BrokeV l.1 (l.2 ++ [c])
  | .lift i => if i < l.2.length then none else some (.index i)
  | .drop t => if l.1.has t = true then (usedBy t 0 l.2).map .inUse else some (.unknown t)
def deedTo (l : Leaf) : Deed → Leaf
  | .put t p => (l.1.put t p, l.2)
  | .claim c => (l.1, l.2 ++ [c])
  | .lift i => (l.1, lifted l.2 i)
  | .drop t => (l.1.drop t, l.2)
/-- a page of the law -/
def LeafAt (H : Hp) (p : Addr) (l : Leaf) : Prop := ∃ d w, H p = some (.tup [.ref d, .ref w]) ∧ ShL H d l.1 ∧ WlF H w l.2
theorem LeafAt.ex {H H' : Hp} {p : Addr} {l : Leaf} (h : LeafAt H p l) (x : Evl.Ex H H') : LeafAt H' p l := by
  obtain ⟨d, w, h1, h2, h3⟩ := h
  exact ⟨d, w, x _ _ h1, h2.ex x, h3.ex x⟩
theorem DeedAt.ex {H H' : Hp} {a : Addr} : ∀ {d : Deed}, DeedAt H a d → Evl.Ex H H' → DeedAt H' a d
  | .put _ _, ⟨q, h1, h2⟩, x => ⟨q, x _ _ h1, h2.ex x⟩
  | .claim _, ⟨q, h1, h2⟩, x => ⟨q, x _ _ h1, h2.ex x⟩
  | .lift _, h, x => x _ _ h
  | .drop _, h, x => x _ _ h
def spBehind (K : PySem.W.Frag) : Sp := fun vs H Q _ => ∃ (p a : Addr) (l : Leaf) (dd : Deed), vs = [.ref p, .ref a] ∧ LeafAt H p l ∧ ShOk l.1 ∧ WsOk l.1 l.2 ∧ l.2.length ≤ 900 ∧ l.1.length ≤ 900 ∧ DeedAt H a dd ∧ DeedOk l dd ∧
  ∀ r e q H', Evl.Ex H H' → H' r = some (.tup [.ref e, .ref q]) → H' e = some (.lst (errV (deedErr l dd))) → (deedErr l dd = none → LeafAt H' q (deedTo l dd)) → Q (.ref r) H'
/-! ### list + list, of what is locked -/
def rCatF : R2 := fun x y H Q => ∃ l b xs zs, x = .ref l ∧ y = .ref b ∧ Rd H l (.lst xs) ∧ Rd H b (.lst zs) ∧ xs.length + zs.length ≤ sizeLine ∧ ∀ p, H p = none → Q (.ref p) (upd H p (.lst (xs ++ zs)))
theorem op_catF {X : Cx} : OpR X (binaryOp .Add) rCatF := by
  intro pins s σ H x y v u Q I rx ry h
  obtain ⟨l, b, xs, zs, rfl, rfl, hH, hB, hz, q⟩ := h
  cases rx
  cases ry
  obtain ⟨z, its, n, r, e⟩ := hH.ok I.hok
  obtain ⟨z2, its2, n2, r2, e2⟩ := hB.ok I.hok
  have hl := r.length
  have hl2 := r2.length
  refine PySem.P.add_list e e2 ?_ (by rw [List.size_toArray, List.size_toArray]; omega)
  have ea : its.toArray ++ its2.toArray = (its ++ its2).toArray := by simp
  rw [ea]
  exact ⟨.ref _, _, I.lnew (t' := s.toks) (r.append r2) (by rw [List.length_append]; omega), rfl, q _ I.fresh⟩
theorem mergeK_app (acc a b : List (Key × V)) : mergeK acc (a ++ b) = mergeK (mergeK acc a) b := by
  unfold mergeK
  rw [List.foldl_append]
theorem valV_mem_nodup : ∀ {kvs : List (Key × V)} {k : Key} {v : V}, (kvs.map (·.1)).Nodup → (k, v) ∈ kvs → valV kvs k = some v
  | [], _, _, _, h => by cases h
  | (k0, v0) :: r, k, v, nd, h => by
    rw [List.map_cons, List.nodup_cons] at nd
    rcases List.mem_cons.mp h with e | e
    · cases e
      exact valV_pos rfl
    · refine (valV_neg (fun z => nd.1 ?_)).trans (valV_mem_nodup nd.2 e)
      exact List.mem_map.mpr ⟨(k, v), e, z.symm⟩
/-! ### [(t, d[t]) for t in d if ..] -/
theorem lc_pairs {K : PySem.W.Frag} {σ : L2.St} {H : Hp} {Q : VK} {i j : Nat} {d : Addr} {T : ShT} {tt : TT} (f : Str → Bool) (h0 : σ[i]? = some (some (.ref d))) (hd : H d = some (.dK T.kv)) (nd : (T.map (·.1)).Nodup) (l900 : T.length ≤ 900)
    (hw : ∀ x, wipe ((wipe σ [j]).set j (some x)) [j] = wipe σ [j]) (h1 : ∀ x, ((wipe σ [j]).set j (some x))[i]? = some (some (.ref d))) (h2 : ∀ x, ((wipe σ [j]).set j (some x))[j]? = some (some x))
    (ht : ∀ u H', (∀ b o, b ≠ d → H b = some o → H' b = some o) → Fx tt ((wipe σ [j]).set j (some (.str u))) H' (f u))
    (k : ∀ (D : Addr) (H' : Hp) (ps : List Addr), Evl.Ex H H' → H' D = some (.lst (ps.map V.ref)) → Paired (fun p kv => SqT K H' p [kV kv.1, kv.2]) ps (ShT.kv (T.filter fun e => f e.1)) → Q (.ref D) H') :
    tLockE (tLc (iKeys (tVar i)) (gName j) tt (tTup (tCons (tVar j) (tCons (tDGet (tVar i) (tVar j)) tNil))) [j]) σ H Q := by
  refine ⟨d, .dK T.kv, hd, trivial, fun od => ?_⟩
  have kd : (upd H d (.frz od (.dK T.kv))) d = some (.frz od (.dK T.kv)) := upd_same
  have kb : ∀ b o, b ≠ d → H b = some o → (upd H d (.frz od (.dK T.kv))) b = some o := fun b o n e => by rw [upd_ne n]; exact e
  have back : ∀ H2, Evl.Ex (upd H d (.frz od (.dK T.kv))) H2 → Evl.Ex H (upd H2 d (.dK T.kv)) := fun H2 x b o e => by
    by_cases z : b = d
    · rw [z] at e ⊢
      rw [hd] at e
      rw [upd_same]
      exact e
    · rw [upd_ne z]
      exact x b o (kb b o z e)
  generalize (upd H d (.frz od (.dK T.kv))) = HL at kd kb back ⊢
  refine ⟨_, h0, d, od, rfl, .inl ⟨T.kv, kd, fun D hD => ?_⟩⟩
  refine lc_it (walk_keys (d := d) (o := od) (kvs := T.kv)) (fun n H2 => Evl.Ex HL H2 ∧ ∃ ps : List Addr, H2 D = some (.lst (ps.map V.ref)) ∧ Paired (fun p kv => H2 p = some (.tup [kV kv.1, kv.2])) ps (ShT.kv ((T.take n).filter fun e => f e.1))) ⟨.new hD, [], by rw [upd_same]; rfl, .nil⟩ (fun n H2 _ h => h.1 _ _ kd) (fun n x H2 H3 hi h hy => ?_) (fun H2 h => ?_)
  · obtain ⟨x3, ps, eD, pp⟩ := h
    obtain ⟨rfl, key, v, ekv, rfl⟩ := hy
    have hiT : n < T.length := by simpa [ShT.kv] using hi
    obtain ⟨⟨u, p, a⟩, hx⟩ : ∃ x, T[n]? = some x := ⟨T[n], List.getElem?_eq_getElem hiT⟩
    have ekv2 : T.kv[n]? = some (.inr u, .ref a) := by simp [ShT.kv, hx]
    rw [ekv2] at ekv
    cases ekv
    refine ⟨hw _, ?_⟩
    have tk : T.take (n + 1) = T.take n ++ [(u, p, a)] := by rw [List.take_succ, hx]; rfl
    refine ht u _ (fun b o nb e => x3 _ _ (kb b o nb e)) _ ?_
    cases e : f u with
    | false =>
      refine iteF ⟨x3, ps, eD, ?_⟩
      rw [tk, List.filter_append, List.filter_cons, if_neg (by simp [e])]
      simpa using pp
    | true =>
      have gv : valV T.kv (.inr u) = some (.ref a) := by
        have nk : (T.kv.map (·.1)).Nodup := ShT.kv_nodup (by
          unfold ShT.sh
          rw [List.map_map]
          exact nd)
        exact valV_mem_nodup nk (List.mem_of_getElem? ekv2)
      refine iteT (i_tup (i_cons ⟨_, h2 _, i_cons ⟨_, h1 _, _, h2 _, d, _, rfl, .inl ⟨T.kv, .inr u, .inr ⟨od, x3 _ _ kd⟩, rfl, gv.symm⟩, i_nil ⟨szl (by simp), fun q hq => ?_⟩⟩⟩))
      have Dq : D ≠ q := ne_of_none eD hq
      have lps : ps.length ≤ 900 := by
        rw [paired_len pp]
        unfold ShT.kv
        rw [List.length_map]
        have h1 := List.length_filter_le (fun e : Str × Plan × Addr => f e.1) (T.take n)
        rw [List.length_take] at h1
        omega
      refine ⟨_, by rw [upd_ne Dq]; exact eD, szlt (by rw [List.length_map]; omega), ?_, ps ++ [q], by rw [upd_same]; simp, ?_⟩
      · exact (x3.trans (.new hq)).mut hD
      · rw [tk, List.filter_append, List.filter_cons, if_pos (by simp [e])]
        unfold ShT.kv
        rw [List.map_append]
        refine paired_app (paired_mono pp fun b kv hb => ?_) (.cons ?_ .nil)
        · rw [upd_ne (fun z => by rw [z, eD] at hb; cases hb), upd_ne (ne_of_none hb hq)]
          exact hb
        · rw [upd_ne (Ne.symm Dq), upd_same]
  · obtain ⟨x3, ps, eD, pp⟩ := h
    have el : (T.kv.length) = T.length := by simp [ShT.kv]
    rw [el, List.take_length] at pp
    refine ⟨x3 _ _ kd, ?_⟩
    have Dd : D ≠ d := fun z => by rw [z, kd] at hD; cases hD
    refine k D _ ps (back _ x3) (by rw [upd_ne Dd]; exact eD) (paired_mono pp fun b kv hb => .inl (.inl ?_))
    rw [upd_ne (fun z => by rw [z, x3 _ _ kd] at hb; cases hb)]
    exact hb
end Bt
set_option Elab.async false
set_option linter.all false
set_option maxRecDepth 100000
set_option maxHeartbeats 4000000
/-! The law's behind. -/
namespace Bt
open PySem PySem.Spec PyProof.Rows L2
theorem DeedAt.head {H : Hp} {a : Addr} : ∀ {d : Deed}, DeedAt H a d → ∃ (h : Str) (ys : List V), H a = some (.lst (.str h :: ys)) ∧ h = (match d with | .put _ _ => "put" | .claim _ => "claim" | .lift _ => "lift" | .drop _ => "drop")
  | .put _ _, ⟨q, h1, _⟩ => ⟨_, _, h1, rfl⟩
  | .claim _, ⟨q, h1, _⟩ => ⟨_, _, h1, rfl⟩
  | .lift _, h => ⟨_, _, h, rfl⟩
  | .drop _, h => ⟨_, _, h, rfl⟩
theorem DictAt.putR {R' : Addr → Plan → Prop} {H' : Hp} {p : Addr} {S : Shelf} {t : Str} {f : Addr} {pl : Plan} (T : ShT) (hT : T.sh = S) (hr : ∀ x ∈ T, R' x.2.2 x.2.1) (hf : R' f pl) (h : H' p = some (.dK (putK T.kv (.inr t) (.ref f)))) : DictAt R' H' p (S.put t pl) := by
  refine ⟨T.put t pl f, by rw [ShT.put_sh, hT], by rw [ShT.put_kv]; exact h, fun x hx => ?_⟩
  rcases ShT.put_mem hx with z | z
  · exact hr x z
  · rw [z]
    exact hf
theorem used_none_or {t : Str} {Ws : List Wish} {i : Nat} {c : Wish} (hc : Ws[i]? = some c) : usedBy t i (Ws.drop i) = if decide (t ∈ c.names) = true then some i else usedBy t (i + 1) (Ws.drop (i + 1)) := by
  rw [drop_at hc]
  rfl
/-- the wish's tuple, behind its first -/
theorem WishAt.rest {K : PySem.W.Frag} {H : Hp} {a : Addr} {c : Wish} (h : WishAt H a c) : ∃ ys, H a = some (.tup (.str c.head :: ys)) ∧ 1 ≤ ys.length ∧ (∀ w ∈ ys, (∃ t, w = .str t) ∨ (∃ i, w = .int i) ∨ ∃ b xs, w = .ref b ∧ SqT K H b xs) ∧ ∀ t : Str, decide (V.str t ∈ ys) = decide (t ∈ c.names) := by
  cases c with
  | within t o =>
    refine ⟨_, h, by simp, fun w hw => ?_, fun u => ?_⟩
    · simp only [List.mem_cons, List.not_mem_nil, or_false] at hw
      rcases hw with rfl | rfl
      · exact .inl ⟨_, rfl⟩
      · exact .inl ⟨_, rfl⟩
    · congr 1
      simp [Wish.names]
  | rank t xs k =>
    obtain ⟨s, h1, h2⟩ := h
    refine ⟨_, h1, by simp, fun w hw => ?_, fun u => ?_⟩
    · simp only [List.mem_cons, List.not_mem_nil, or_false] at hw
      rcases hw with rfl | rfl | rfl
      · exact .inl ⟨_, rfl⟩
      · exact .inr (.inr ⟨s, _, rfl, .of h2⟩)
      · exact .inr (.inl ⟨_, rfl⟩)
    · congr 1
      simp [Wish.names]
  | kind b t xs =>
    obtain ⟨s, h1, h2⟩ := h
    refine ⟨_, h1, by simp, fun w hw => ?_, fun u => ?_⟩
    · simp only [List.mem_cons, List.not_mem_nil, or_false] at hw
      rcases hw with rfl | rfl
      · exact .inl ⟨_, rfl⟩
      · exact .inr (.inr ⟨s, _, rfl, .of h2⟩)
    · congr 1
      simp [Wish.names]
theorem fx_not {t : TT} {σ : L2.St} {H : Hp} {b : Bool} (h : Fx t σ H b) : Fx (tNot t) σ H (!b) := fun Q q => h _ q
theorem i_frz {t : TE} {σ : L2.St} {H : Hp} {Q : VK} (h : t σ H fun v H1 => ∃ d u, v = .ref d ∧ H1 d = some u ∧ Mut (some u) ∧ ∀ od, Q v (upd H1 d (.frz od u))) : tFrz t σ H Q := h
theorem vx_lenL {K : PySem.W.Frag} {te : TE} {σ : L2.St} {H : Hp} {a : Addr} {xs : List V} {n : Nat} (h : Vx te σ H (.ref a)) (e : SqL K H a xs) (hn : xs.length = n) : Vx (tCB (fun vs H Q => ∃ a xs, vs = [.ref a] ∧ (SqL K H a xs ∨ SqT K H a xs) ∧ Q (.int (xs.length : Nat)) H) (tCons te tNil)) σ H (.int (n : Nat)) := fun _ q => h _ ⟨a, xs, rfl, .inl e, by rw [hn]; exact q⟩
theorem vx_ixQ {K : PySem.W.Frag} {ta tb : TE} {σ : L2.St} {H : Hp} {a : Addr} {xs : List V} {i : Int} {v : V} (ha : Vx ta σ H (.ref a)) (hb : Vx tb σ H (.int i)) (h : SqL K H a xs) (e : atI xs i = some v) : Vx (tOp (rIxL K) ta tb) σ H v := fun _ q => ha _ (hb _ ⟨a, xs, i, v, rfl, rfl, h, e, q⟩)
/-- [] == a list of texts -/
theorem errV_len (e : Option Err) : decide ((errV e).length = ([] : List V).length) = e.isNone := by
  cases e with
  | none => rfl
  | some e => cases e <;> rfl
abbrev nBeh : List Str := ["_law_page", "_law_deed", "_law_shelf", "_law_wishes", "_law_later", "_law_broken_here", "_law_uses", "_law_title", "_law_k"]
section
variable {P : Program} {w : World} {K : PySem.W.Frag} {mg : Str → Option Value} {base : Heap}
theorem scBeh : FnScope nBeh ["_law_page", "_law_deed"] (defScope st_d_law_behind) := ⟨rfl, rfl, rfl, by decide +kernel, rfl, by decide +kernel, by decide +kernel⟩
theorem ok_behind (hd : Hd K mg) : Okf P w K mg base C8.CX0 5 (He.fAd K d_law_behind.at_) ["_law_page", "_law_deed"] (spBehind K) := by
  have ml : mg "len" = none := hd.free _ (by decide +kernel)
  have mr : mg "range" = none := hd.free _ (by decide +kernel)
  have mp : mg "repr" = none := hd.free _ (by decide +kernel)
  have md : mg "dict" = none := hd.free _ (by decide +kernel)
  have mB : mg "_law_broken" = some (.ref (He.fAd K d_law_broken.at_)) := hd.glo _ (by decide +kernel)
  have BR := ok_broken (P := P) (w := w) (base := base) hd
  refine okf_of hd.f_d_law_behind scBeh (fun _ _ _ _ _ _ us hl => ?_) (fun vs H Q E h => ?_) (fun cdv A outer s H vs Q E hr h => ?_)
  · obtain ⟨a, b, rfl⟩ := us2 hl
    rfl
  · obtain ⟨d, a, _, _, rfl, _⟩ := h
    rfl
  · obtain ⟨p, a, ⟨S, Ws⟩, dd, rfl, ⟨d, w', hp, hs, hw⟩, so, wo, l900, s900, da, dok, k⟩ := h
    have hu := hu_of hr
    have hu1 := Nat.lt_of_succ_lt hu
    have s900 : S.length ≤ 900 := s900
    have l900 : Ws.length ≤ 900 := l900
    have hs : ShL H d S := hs
    have hw : WlF H w' Ws := hw
    have wo : WsOk S Ws := wo
    have so : ShOk S := so
    refine ⟨_, pss_cons (ps_asg (pv 0) (pg_tup rfl (pgs_cons (pg_name (i := 2) scBeh.nd rfl (.inr rfl)) (pgs_cons (pg_name (i := 3) scBeh.nd rfl (.inr rfl)) pgs_nil))))
      (pss_cons (ps_if (pt_cmpR op_eq (pe_ix ix_list (pv 1) pe_int (fun _ _ => rfl)) pe_str (nomark _))
        (pss_cons (ps_set (i := 4) scBeh.nd rfl (.inl rfl) (pe_callTy (call_dictP rfl) (by rfl) md bo_dict (pa_cons (pe_op op_catF (pe_lock (pe_lc (own := [("_law_title", 7)]) (g := gName 7) (tt := tYes) (te := tTup (tCons (tVar 7) (tCons (tDGet (tVar 2) (tVar 7)) tNil))) rfl scBeh.nd (pi_keys (pv 2)) (blkOk_by (N := nBeh) (sc := defScope st_d_law_behind) (by decide +kernel))
            (fun _ _ _ _ _ => pg_name (i := 7) scBeh.nd rfl (Or.inl rfl)) (fun _ _ _ _ _ => pts_nil) (fun _ _ _ _ _ => pe_tup (pa_cons (pv 7) (pa_cons (pe_dget hu (pv 2) (pv 7) (fun _ _ => rfl)) pa_nil)))))
          (pe_lst (pa_cons (pe_tup (pa_cons (pe_ix ix_list (pv 1) pe_int (fun _ _ => rfl)) (pa_cons (pe_ix ix_list (pv 1) pe_int (fun _ _ => rfl)) pa_nil))) pa_nil))) pa_nil)))
        (pss_cons (ps_set (i := 5) scBeh.nd rfl (.inl rfl) (pe_callR (E := E00) (BR.run hr C8.pass0) (by rfl) mB BR.kp (pa_cons (pv 4) (pa_cons (pv 3) pa_nil))))
        (pss_one (ps_ret (pe_tup (pa_cons (pv 5) (pa_cons (pe_ifExp (pt_cmpR (op_eqE hu1) (pv 5) (pe_lst pa_nil) (nomark _)) (pe_tup (pa_cons (pv 4) (pa_cons (pv 3) pa_nil))) (pv 0)) pa_nil))))))) pss_nil)
      (pss_cons (ps_if (pt_cmpR op_eq (pe_ix ix_list (pv 1) pe_int (fun _ _ => rfl)) pe_str (nomark _))
        (pss_cons (ps_set (i := 5) scBeh.nd rfl (.inl rfl) (pe_callR (E := E00) (BR.run hr C8.pass0) (by rfl) mB BR.kp (pa_cons (pv 2) (pa_cons (pe_op op_catF (pv 3) (pe_lst (pa_cons (pe_ix ix_list (pv 1) pe_int (fun _ _ => rfl)) pa_nil))) pa_nil))))
        (pss_one (ps_ret (pe_tup (pa_cons (pv 5) (pa_cons (pe_ifExp (pt_cmpR (op_eqE hu1) (pv 5) (pe_lst pa_nil) (nomark _)) (pe_tup (pa_cons (pv 2) (pa_cons (pe_frz (pe_op op_catF (pv 3) (pe_lst (pa_cons (pe_ix ix_list (pv 1) pe_int (fun _ _ => rfl)) pa_nil)))) pa_nil))) (pv 0)) pa_nil)))))) pss_nil)
      (pss_cons (ps_if (pt_cmpR op_eq (pe_ix ix_list (pv 1) pe_int (fun _ _ => rfl)) pe_str (nomark _))
        (pss_cons (ps_if (pt_not (pt_chain op_le op_lt pe_int (pe_ix ix_list (pv 1) pe_int (fun _ _ => rfl)) (pe_callB call_len_seq (by rfl) ml bo_len (pa_cons (pv 3) pa_nil))))
          (pss_one (ps_ret (pe_tup (pa_cons (pe_lst (pa_cons pe_str (pa_cons (pe_callB cr_reprF (by rfl) mp bo_repr (pa_cons (pe_ix ix_list (pv 1) pe_int (fun _ _ => rfl)) pa_nil)) pa_nil))) (pa_cons (pv 0) pa_nil))))) pss_nil)
        (pss_one (ps_ret (pe_tup (pa_cons (pe_lst pa_nil) (pa_cons (pe_tup (pa_cons (pv 2) (pa_cons (pe_frz (pe_op op_cat (pe_slice sl_list (pv 3) po_none (po_some (pe_ix ix_list (pv 1) pe_int (fun _ _ => rfl)))) (pe_slice sl_list (pv 3) (po_some (pe_op op_add (pe_ix ix_list (pv 1) pe_int (fun _ _ => rfl)) pe_int)) po_none))) pa_nil))) pa_nil)))))) pss_nil)
      (pss_cons (ps_if (pt_cmp (pc_dnotin hu (pe_ix ix_list (pv 1) pe_int (fun _ _ => rfl)) (pv 2)))
        (pss_one (ps_ret (pe_tup (pa_cons (pe_lst (pa_cons pe_str (pa_cons (pe_callB cr_reprF (by rfl) mp bo_repr (pa_cons (pe_ix ix_list (pv 1) pe_int (fun _ _ => rfl)) pa_nil)) pa_nil))) (pa_cons (pv 0) pa_nil))))) pss_nil)
      (pss_cons (ps_setLc (i := 6) (own := [("_law_k", 8)]) (g := gName 8) rfl scBeh.nd rfl rfl (sw_true rfl rfl rfl (by decide +kernel)) (pi_range1 (by rfl) mr (pa_cons (pe_callB call_len_seq (by rfl) ml bo_len (pa_cons (pv 3) pa_nil)) pa_nil)) (blkOk_by (N := nBeh) (sc := defScope st_d_law_behind) (by decide +kernel))
          (fun _ _ _ _ _ => pg_name (i := 8) scBeh.nd rfl (Or.inl rfl)) (fun _ _ _ _ _ => pts_one (pt_cmpR (r := rInT K) (op_inT hu) (pe_ix (r := rIxL K) ix_list (pv 1) pe_int (fun _ _ => rfl)) (pe_slice (r := rSlT K) sl_tup (pe_ix (r := rIxL K) ix_list (pv 3) (pv 8) (fun _ _ => rfl)) (po_some pe_int) po_none) rfl)) (fun _ _ _ _ _ => pv 8))
      (pss_cons (ps_if (pt_cmpR (op_neE hu1) (pv 6) (pe_lst pa_nil) (nomark _))
        (pss_one (ps_ret (pe_tup (pa_cons (pe_lst (pa_cons pe_str (pa_cons (pe_callB cr_reprF (by rfl) mp bo_repr (pa_cons (pe_ix ix_list (pv 6) pe_int (fun _ _ => rfl)) pa_nil)) pa_nil))) (pa_cons (pv 0) pa_nil))))) pss_nil)
      (pss_one (ps_ret (pe_tup (pa_cons (pe_lst pa_nil) (pa_cons (pe_tup (pa_cons (pe_callTy (call_dictP rfl) (by rfl) md bo_dict (pa_cons (pe_lock (pe_lc (own := [("_law_title", 7)]) (g := gName 7) (te := tTup (tCons (tVar 7) (tCons (tDGet (tVar 2) (tVar 7)) tNil))) rfl scBeh.nd (pi_keys (pv 2)) (blkOk_by (N := nBeh) (sc := defScope st_d_law_behind) (by decide +kernel))
            (fun _ _ _ _ _ => pg_name (i := 7) scBeh.nd rfl (Or.inl rfl)) (fun _ _ _ _ _ => pts_one (pt_cmpR op_ne (pv 7) (pe_ix (r := rIxL K) ix_list (pv 1) pe_int (fun _ _ => rfl)) (nomark _))) (fun _ _ _ _ _ => pe_tup (pa_cons (pv 7) (pa_cons (pe_dget hu (pv 2) (pv 7) (fun _ _ => rfl)) pa_nil))))) pa_nil)) (pa_cons (pv 3) pa_nil))) pa_nil))))))))))), ?_⟩
    refine i_seq ⟨_, rfl, p, _, rfl, .of hp, rfl, _, _, rfl, _, _, rfl, rfl, ?_⟩
    dsimp only
    -- the test [] == .., then one of two
    have tst : ∀ {σ : L2.St} {H1 : Hp} {e : Addr} {o : Option Err} {Q2 : Bool → Hp → Prop}, σ[5]? = some (some (.ref e)) → H1 e = some (.lst (errV o)) → (∀ H2, Evl.Ex H1 H2 → Q2 o.isNone H2) → tTest (tOp (rEqE K) (tVar 5) (tLst tNil)) σ H1 Q2 := fun {σ H1 e o Q2} h5 he kk => by
      refine ⟨_, h5, szl (by simp), fun el hel => ⟨e, el, _, _, rfl, rfl, .of (by rw [upd_ne (ne_of_none he hel)]; exact he), .of upd_same, .inr rfl, o.isNone, by rw [errV_len], kk _ (.new hel)⟩⟩
    cases dd with
    | put t pl =>
      obtain ⟨q, ha, hq⟩ := da
      obtain ⟨T, hT, hd0, hr0⟩ := id hs
      have hT' : T.sh = S := hT
      have nd : (T.map (·.1)).Nodup := by
        have := so.nd
        rw [← hT'] at this
        unfold ShT.sh at this
        rw [List.map_map] at this
        exact this
      have lT : T.length ≤ 900 := by
        have : T.length = S.length := by rw [← hT']; simp [ShT.sh]
        omega
      refine i_seq (if_t (fx_test (vx_eqS (vx_ixL (K := K) (vx_var rfl) vx_c ha (at_k 0 rfl rfl)) vx_c (show decide (("put" : Str) = "put") = true by decide +kernel))) ?_)
      refine i_seq (i_asg (i_cb (i_cons (i_op (lc_pairs (K := K) (T := T) (fun _ => true) rfl hd0 nd lT (fun _ => rfl) (fun _ => rfl) (fun _ => rfl) (fun u H' _ => fun Q q => q) fun D H1 ps x1 hD hps => ?_)))))
      rw [List.filter_eq_self.mpr (fun _ _ => rfl)] at hps
      refine i_lst (i_cons (tup2 (vx_ixL (K := K) (vx_var rfl) vx_c (x1 _ _ ha) (at_k 1 rfl rfl)) (vx_ixL (K := K) (vx_var rfl) vx_c (x1 _ _ ha) (at_k 2 rfl rfl)) fun tp htp => i_nil ⟨szl (by simp), fun l2 hl2 => ?_⟩))
      have x2 : Evl.Ex H1 (upd (upd H1 tp (.tup [.str t, .ref q])) l2 (.lst [.ref tp])) := (Evl.Ex.new htp).trans (.new hl2)
      have e1 : (upd (upd H1 tp (.tup [.str t, .ref q])) l2 (.lst [.ref tp])) l2 = some (.lst [.ref tp]) := upd_same
      have e2 : (upd (upd H1 tp (.tup [.str t, .ref q])) l2 (.lst [.ref tp])) tp = some (.tup [.str t, .ref q]) := by rw [upd_ne (ne_of_none upd_same hl2), upd_same]
      generalize (upd (upd H1 tp (.tup [.str t, .ref q])) l2 (.lst [.ref tp])) = H2 at x2 e1 e2 ⊢
      have lps : ps.length ≤ 900 := by
        rw [paired_len hps]
        simpa [ShT.kv] using lT
      refine ⟨D, l2, _, _, rfl, rfl, .inl (x2 _ _ hD), .inl e1, szl (by simp; omega), fun r hr' => i_nil ⟨r, ps ++ [tp], T.kv ++ [(.inr t, .ref q)], rfl, .of (by rw [upd_same]; simp), paired_app (paired_mono hps fun b kv hb => Evl.ex_t (x2.trans (.new hr')) hb) (.cons (.of (by rw [upd_ne (ne_of_none e2 hr')]; exact e2)) .nil), fun dp hdp => ?_⟩⟩
      have x3 := ((x1.trans x2).trans (.new (o := .lst (ps.map V.ref ++ [.ref tp])) hr')).trans (.new (o := .dK (mergeK [] (T.kv ++ [(.inr t, .ref q)]))) hdp)
      have em : mergeK [] (T.kv ++ [(.inr t, .ref q)]) = putK T.kv (.inr t) (.ref q) := by
        rw [mergeK_app, mergeK_nil (ShT.kv_nodup (by rw [hT']; exact so.nd))]
        rfl
      have e3 : (upd (upd H2 r (.lst (ps.map V.ref ++ [.ref tp]))) dp (.dK (mergeK [] (T.kv ++ [(.inr t, .ref q)])))) dp = some (.dK (putK T.kv (.inr t) (.ref q))) := by rw [upd_same, em]
      generalize (upd (upd H2 r (.lst (ps.map V.ref ++ [.ref tp]))) dp (.dK (mergeK [] (T.kv ++ [(.inr t, .ref q)])))) = H3 at x3 e3 ⊢
      have sh3 : ShL H3 dp (S.put t pl) := DictAt.putR T hT' (fun x hx => (hr0 x hx).ex x3) (hq.ex x3) e3
      have so3 := so.put dok.1 dok.2
      dsimp only
      refine i_seq (i_asg (i_call (i_cons (vx_var rfl _ (i_cons (vx_var rfl _ (i_nil ⟨dp, w', S.put t pl, Ws, rfl, sh3, so3, (hw.r).ex x3, wo.put, by omega, fun e H4 x4 he => ?_⟩)))))))
      have x5 := x3.trans x4
      dsimp only
      refine i_ret (i_tup (i_cons (vx_var rfl _ (i_cons (tst (σ := _) rfl he fun H5 x6 => ?_)))))
      cases eb : BrokeV (S.put t pl) Ws with
      | none =>
        refine iteT (tup2 (vx_var rfl) (vx_var rfl) fun pp hpp => i_nil ⟨szl (by simp), fun r2 hr2 => ?_⟩)
        have x7 := (x6.trans (.new (o := .tup [.ref dp, .ref w']) hpp)).trans (.new (o := .tup [.ref e, .ref pp]) hr2)
        refine k r2 e pp _ (x5.trans x7) upd_same (by show _ = some (HO.lst (errV (BrokeV (S.put t pl) Ws))); exact x7 _ _ he) fun _ => ⟨dp, w', by rw [upd_ne (ne_of_none upd_same hr2), upd_same], (sh3.ex x4).ex x7, hw.ex (x5.trans x7)⟩
      | some er =>
        refine iteF (vx_var rfl _ (i_nil ⟨szl (by simp), fun r2 hr2 => ?_⟩))
        have x7 := x6.trans (.new (o := .tup [.ref e, .ref p]) hr2)
        refine k r2 e p _ (x5.trans x7) upd_same (by show _ = some (HO.lst (errV (BrokeV (S.put t pl) Ws))); exact x7 _ _ he) fun z => ?_
        have z : BrokeV (S.put t pl) Ws = none := z
        rw [eb] at z
        cases z
    | claim c =>
      obtain ⟨q, ha, hq⟩ := da
      obtain ⟨od, as, hwF, hpa⟩ := id hw
      have las : as.length = Ws.length := paired_len hpa
      refine i_seq (if_f (fx_test (vx_eqS (vx_ixL (K := K) (vx_var rfl) vx_c ha (at_k 0 rfl rfl)) vx_c (show decide (("claim" : Str) = "put") = false by decide +kernel))) ?_)
      dsimp only [tNext]
      refine i_seq (if_t (fx_test (vx_eqS (vx_ixL (K := K) (vx_var rfl) vx_c ha (at_k 0 rfl rfl)) vx_c (show decide (("claim" : Str) = "claim") = true by decide +kernel))) ?_)
      refine i_seq (i_asg (i_call (i_cons (vx_var rfl _ (i_cons (i_op (vx_var rfl _ (i_lst (i_cons (vx_ixL (K := K) (vx_var rfl) vx_c ha (at_k 1 rfl rfl) _ (i_nil ⟨szl (by simp), fun l2 hl2 => ?_⟩)))))))))))
      have y1 : Evl.Ex H (upd H l2 (HO.lst [V.ref q])) := .new hl2
      refine ⟨w', l2, _, _, rfl, rfl, .inr ⟨od, y1 _ _ hwF⟩, .inl upd_same, szl (by simp; omega), fun r hr' => i_nil ?_⟩
      have x1 := y1.trans (.new (o := .lst (as.map V.ref ++ [.ref q])) hr')
      have er : (upd (upd H l2 (.lst [.ref q])) r (.lst (as.map V.ref ++ [.ref q]))) r = some (.lst ((as ++ [q]).map V.ref)) := by rw [upd_same]; simp
      generalize (upd (upd H l2 (.lst [.ref q])) r (.lst (as.map V.ref ++ [.ref q]))) = H1 at x1 er ⊢
      have pw : ∀ {H2}, Evl.Ex H H2 → Paired (WishAt H2) (as ++ [q]) (Ws ++ [c]) := fun x => paired_app (paired_mono hpa fun _ _ f => f.ex x) (.cons (hq.ex x) .nil)
      have wo2 : WsOk S (Ws ++ [c]) := fun z hz => by
        rcases List.mem_append.mp hz with h | h
        · exact wo z h
        · rw [List.mem_singleton] at h
          rw [h]
          exact dok
      refine ⟨d, r, S, Ws ++ [c], rfl, hs.ex x1, so, ⟨as ++ [q], .of er, pw x1⟩, wo2, by simp; omega, fun e H4 x4 he => ?_⟩
      have x5 := x1.trans x4
      dsimp only
      refine i_ret (i_tup (i_cons (vx_var rfl _ (i_cons (tst (σ := _) rfl he fun H5 x6 => ?_)))))
      have x56 := x5.trans x6
      cases eb : BrokeV S (Ws ++ [c]) with
      | none =>
        refine iteT (i_tup (i_cons (vx_var rfl _ (i_cons (i_frz (i_op (vx_var rfl _ (i_lst (i_cons (vx_ixL (K := K) (vx_var rfl) vx_c (x56 _ _ ha) (at_k 1 rfl rfl) _ (i_nil ⟨szl (by simp), fun l3 hl3 => ?_⟩)))))))))))
        have y3 := x56.trans (.new (o := .lst [.ref q]) hl3)
        refine ⟨w', l3, _, _, rfl, rfl, .inr ⟨od, y3 _ _ hwF⟩, .inl upd_same, szl (by simp; omega), fun r2 hr2 => ⟨r2, _, rfl, upd_same, trivial, fun od2 => ?_⟩⟩
        rw [upd_upd]
        have y4 := (x6.trans (.new (o := .lst [.ref q]) hl3)).trans (.new (o := .frz od2 (.lst (as.map V.ref ++ [.ref q]))) hr2)
        have e4 : (upd (upd H5 l3 (.lst [.ref q])) r2 (.frz od2 (.lst (as.map V.ref ++ [.ref q])))) r2 = some (.frz od2 (.lst ((as ++ [q]).map V.ref))) := by rw [upd_same]; simp
        generalize (upd (upd H5 l3 (.lst [.ref q])) r2 (.frz od2 (.lst (as.map V.ref ++ [.ref q])))) = H6 at y4 e4 ⊢
        refine i_nil ⟨szl (by simp), fun pp hpp => i_nil ⟨szl (by simp), fun r3 hr3 => ?_⟩⟩
        have x7 := (y4.trans (.new (o := .tup [.ref d, .ref r2]) hpp)).trans (.new (o := .tup [.ref e, .ref pp]) hr3)
        have x8 := x5.trans x7
        refine k r3 e pp _ x8 upd_same (by show _ = some (HO.lst (errV (BrokeV S (Ws ++ [c])))); exact x7 _ _ he) fun _ => ⟨d, r2, by rw [upd_ne (ne_of_none upd_same hr3), upd_same], hs.ex x8, od2, as ++ [q], ?_, pw x8⟩
        rw [upd_ne (ne_of_none (by rw [upd_ne (ne_of_none e4 hpp)]; exact e4) hr3), upd_ne (ne_of_none e4 hpp)]
        exact e4
      | some er =>
        refine iteF (vx_var rfl _ (i_nil ⟨szl (by simp), fun r2 hr2 => ?_⟩))
        have x7 := x6.trans (.new (o := .tup [.ref e, .ref p]) hr2)
        refine k r2 e p _ (x5.trans x7) upd_same (by show _ = some (HO.lst (errV (BrokeV S (Ws ++ [c])))); exact x7 _ _ he) fun z => ?_
        have z : BrokeV S (Ws ++ [c]) = none := z
        rw [eb] at z
        cases z
    | lift i =>
      have ha : H a = some (.lst [.str "lift", .int (i : Nat)]) := da
      obtain ⟨od, as, hwF, hpa⟩ := id hw
      have las : as.length = Ws.length := paired_len hpa
      have dok : i ≤ Ws.length := dok
      have hq : ∀ {H1}, Evl.Ex H H1 → SqL K H1 w' (as.map V.ref) := fun x => .inl (.inr ⟨od, x _ _ hwF⟩)
      refine i_seq (if_f (fx_test (vx_eqS (vx_ixL (K := K) (vx_var rfl) vx_c ha (at_k 0 rfl rfl)) vx_c (show decide (("lift" : Str) = "put") = false by decide +kernel))) ?_)
      dsimp only [tNext]
      refine i_seq (if_f (fx_test (vx_eqS (vx_ixL (K := K) (vx_var rfl) vx_c ha (at_k 0 rfl rfl)) vx_c (show decide (("lift" : Str) = "claim") = false by decide +kernel))) ?_)
      dsimp only [tNext]
      refine i_seq (if_t (fx_test (vx_eqS (vx_ixL (K := K) (vx_var rfl) vx_c ha (at_k 0 rfl rfl)) vx_c (show decide (("lift" : Str) = "lift") = true by decide +kernel))) ?_)
      have tt : Fx (tNot (tTest (tChain (rI0 fun i j => .bl (decide (i ≤ j))) (rI0 fun i j => .bl (decide (i < j))) (tC (.int 0)) (tOp (rIxL K) (tVar 1) (tC (.int 1))) (tCB (fun vs H Q => ∃ a xs, vs = [.ref a] ∧ (SqL K H a xs ∨ SqT K H a xs) ∧ Q (.int (xs.length : Nat)) H) (tCons (tVar 3) tNil))))) [some (V.ref p), some (V.ref a), some (V.ref d), some (V.ref w'), none, none, none, none, none] H (!(decide ((0 : Int) ≤ (i : Nat)) && decide (((i : Nat) : Int) < (Ws.length : Nat)))) :=
        fx_not (fx_test (vx_chain (f := fun a b => decide (a ≤ b)) (g := fun a b => decide (a < b)) vx_c (vx_ixL (K := K) (vx_var rfl) vx_c ha (at_k 1 rfl rfl)) (vx_lenL (K := K) (vx_var rfl) (hq (.refl _)) (by rw [List.length_map]; exact las))))
      have eb : (!(decide ((0 : Int) ≤ (i : Nat)) && decide (((i : Nat) : Int) < (Ws.length : Nat)))) = !decide (i < Ws.length) := by
        congr 1
        rw [Bool.eq_iff_iff]
        simp only [Bool.and_eq_true, decide_eq_true_eq]
        omega
      rw [eb] at tt
      by_cases hi : i < Ws.length
      · rw [decide_eq_true hi] at tt
        refine i_seq (if_f tt ?_)
        dsimp only [tNext]
        refine i_ret (i_tup (i_cons (i_lst (i_nil ⟨szl (by simp), fun e he => i_cons (i_tup (i_cons (vx_var rfl _ (i_cons (i_frz (i_op ?_))))))⟩))))
        have y1 : Evl.Ex H (upd H e (.lst [])) := .new he
        have ee : (upd H e (.lst [])) e = some (.lst []) := upd_same
        generalize (upd H e (.lst [])) = H1 at y1 ee ⊢
        refine vx_var rfl _ (vx_ixL (K := K) (vx_var rfl) vx_c (y1 _ _ ha) (at_k 1 rfl rfl) _ ⟨i, rfl, w', _, rfl, hq y1, fun p1 hp1 => ?_⟩)
        have c1 : cutV (as.map V.ref) none (some (i : Int)) = (as.take i).map V.ref := by rw [cut_to _ (by rw [List.length_map]; omega), List.map_take]
        have c2 : cutV (as.map V.ref) (some ((i : Int) + 1)) none = (as.drop (i + 1)).map V.ref := by rw [show ((i : Int) + 1) = ((i + 1 : Nat) : Int) from by omega, cut_from _ (by rw [List.length_map]; omega), List.map_drop]
        rw [c1] at *
        have y2 := Evl.Ex.new (o := .lst ((as.take i).map V.ref)) hp1
        have y12 := y1.trans y2
        have e1 : (upd H1 p1 (.lst ((as.take i).map V.ref))) p1 = some (.lst ((as.take i).map V.ref)) := upd_same
        generalize (upd H1 p1 (.lst ((as.take i).map V.ref))) = H2 at y2 y12 e1 ⊢
        refine vx_var rfl _ (vx_op0 (g := fun i j => .int (i + j)) (vx_ixL (K := K) (vx_var rfl) vx_c (y12 _ _ ha) (at_k 1 rfl rfl)) vx_c _ ⟨_, rfl, w', _, rfl, hq y12, fun p2 hp2 => ?_⟩)
        rw [c2] at *
        have n12 : p1 ≠ p2 := ne_of_none e1 hp2
        refine ⟨p1, p2, _, _, rfl, rfl, by rw [upd_ne n12]; exact e1, upd_same, szl (by simp; omega), fun r hr' => ⟨r, _, rfl, upd_same, trivial, fun od2 => ?_⟩⟩
        rw [upd_upd]
        have y4 := (y2.trans (.new (o := .lst ((as.drop (i + 1)).map V.ref)) hp2)).trans (.new (o := .frz od2 (.lst ((as.take i).map V.ref ++ (as.drop (i + 1)).map V.ref))) hr')
        have e4 : (upd (upd H2 p2 (.lst ((as.drop (i + 1)).map V.ref))) r (.frz od2 (.lst ((as.take i).map V.ref ++ (as.drop (i + 1)).map V.ref)))) r = some (.frz od2 (.lst ((as.take i ++ as.drop (i + 1)).map V.ref))) := by rw [upd_same, List.map_append]
        generalize (upd (upd H2 p2 (.lst ((as.drop (i + 1)).map V.ref))) r (.frz od2 (.lst ((as.take i).map V.ref ++ (as.drop (i + 1)).map V.ref)))) = H6 at y4 e4 ⊢
        refine i_nil ⟨szl (by simp), fun pp hpp => i_nil ⟨szl (by simp), fun r3 hr3 => ?_⟩⟩
        have x7 := (y4.trans (.new (o := .tup [.ref d, .ref r]) hpp)).trans (.new (o := .tup [.ref e, .ref pp]) hr3)
        have x8 := y1.trans x7
        have de : deedErr (S, Ws) (.lift i) = none := by
          show (if i < Ws.length then none else some (Err.index i)) = none
          rw [if_pos hi]
        refine k r3 e pp _ x8 upd_same (by rw [de]; exact x7 _ _ ee) fun _ => ⟨d, r, by rw [upd_ne (ne_of_none upd_same hr3), upd_same], hs.ex x8, od2, as.take i ++ as.drop (i + 1), ?_, paired_app (paired_take (paired_mono hpa fun _ _ f => f.ex x8) i) (paired_drop (paired_mono hpa fun _ _ f => f.ex x8) (i + 1))⟩
        rw [upd_ne (ne_of_none (by rw [upd_ne (ne_of_none e4 hpp)]; exact e4) hr3), upd_ne (ne_of_none e4 hpp)]
        exact e4
      · rw [decide_eq_false hi] at tt
        refine i_seq (if_t tt ?_)
        have li : ((i : Nat) : Int).natAbs.log2 < 1920 := log_small (by omega)
        refine i_ret (i_tup (i_cons (i_lst (i_cons (vx_c _ (i_cons (vx_repr (K := K) (vx_ixL (K := K) (vx_var rfl) vx_c ha (at_k 1 rfl rfl)) (.int _) (int_fit li) _ (i_nil ⟨szl (by simp), fun e he => i_cons (vx_var rfl _ (i_nil ⟨szl (by simp), fun r2 hr2 => ?_⟩))⟩))))))))
        have de : deedErr (S, Ws) (.lift i) = some (.index i) := by
          show (if i < Ws.length then none else some (Err.index i)) = some (.index i)
          rw [if_neg hi]
        refine k r2 e p _ ((Evl.Ex.new he).trans (.new hr2)) upd_same ?_ fun z => ?_
        · rw [upd_ne (ne_of_none upd_same hr2), upd_same, de]
          rfl
        · rw [de] at z
          cases z
    | drop t =>
      have ha : H a = some (.lst [.str "drop", .str t]) := da
      obtain ⟨od, as, hwF, hpa⟩ := id hw
      have las : as.length = Ws.length := paired_len hpa
      obtain ⟨T, hT, hd0, hr0⟩ := id hs
      have hT' : T.sh = S := hT
      have hq : ∀ {H1}, Evl.Ex H H1 → SqL K H1 w' (as.map V.ref) := fun x => .inl (.inr ⟨od, x _ _ hwF⟩)
      refine i_seq (if_f (fx_test (vx_eqS (vx_ixL (K := K) (vx_var rfl) vx_c ha (at_k 0 rfl rfl)) vx_c (show decide (("drop" : Str) = "put") = false by decide +kernel))) ?_)
      dsimp only [tNext]
      refine i_seq (if_f (fx_test (vx_eqS (vx_ixL (K := K) (vx_var rfl) vx_c ha (at_k 0 rfl rfl)) vx_c (show decide (("drop" : Str) = "claim") = false by decide +kernel))) ?_)
      dsimp only [tNext]
      refine i_seq (if_f (fx_test (vx_eqS (vx_ixL (K := K) (vx_var rfl) vx_c ha (at_k 0 rfl rfl)) vx_c (show decide (("drop" : Str) = "lift") = false by decide +kernel))) ?_)
      dsimp only [tNext]
      obtain ⟨ob, g1, g2⟩ := hs.asks t
      have tt : Fx (tTest (tDNotIn (tOp (rIxL K) (tVar 1) (tC (.int 1))) (tVar 2))) [some (V.ref p), some (V.ref a), some (V.ref d), some (V.ref w'), none, none, none, none, none] H (!S.has t) := fun Q2 q2 => by
        rw [← g2] at q2
        exact vx_ixL (K := K) (vx_var rfl) vx_c ha (at_k 1 rfl rfl) _ ⟨_, rfl, d, ob, rfl, g1, _, rfl, q2⟩
      have lt2 : t.length ≤ 100 := by
        rcases dok with z | z <;> rw [z] <;> decide
      cases et : S.has t with
      | false =>
        rw [et] at tt
        refine i_seq (if_t tt ?_)
        have fit : flatD (dV (.str t)) = true ∧ (dV (.str t)).showable = true ∧ (dV (.str t)).shown.length ≤ sizeLine := by
          refine ⟨rfl, by simp only [dV, PyData.showable], ?_⟩
          rw [sizeLine_eq]
          simp only [dV, PyData.shown]
          rcases dok with z | z <;> rw [z] <;> decide +kernel
        refine i_ret (i_tup (i_cons (i_lst (i_cons (vx_c _ (i_cons (vx_repr (K := K) (vx_ixL (K := K) (vx_var rfl) vx_c ha (at_k 1 rfl rfl)) (.str _) fit _ (i_nil ⟨szl (by simp), fun e he => i_cons (vx_var rfl _ (i_nil ⟨szl (by simp), fun r2 hr2 => ?_⟩))⟩))))))))
        have de : deedErr (S, Ws) (.drop t) = some (.unknown t) := by
          show (if S.has t = true then (usedBy t 0 Ws).map Err.inUse else some (Err.unknown t)) = some (.unknown t)
          rw [if_neg (by rw [et]; decide)]
        refine k r2 e p _ ((Evl.Ex.new he).trans (.new hr2)) upd_same ?_ fun z => ?_
        · rw [upd_ne (ne_of_none upd_same hr2), upd_same, de]
          rfl
        · rw [de] at z
          cases z
      | true =>
        rw [et] at tt
        refine i_seq (if_f tt ?_)
        dsimp only [tNext]
        refine i_seq (i_asg ⟨_, rfl, w', _, rfl, .inl (hq (.refl _)), _, rfl, by omega, by rw [List.length_map]; omega, fun D hD => ?_⟩)
        refine lc_range (fun i H' => Evl.Ex H H' ∧ ∃ us : List Nat, H' D = some (.lst (us.map fun (j : Nat) => V.int (j : Nat))) ∧ us.length ≤ i ∧ (us = [] → usedBy t 0 Ws = usedBy t i (Ws.drop i)) ∧ ∀ h r, us = h :: r → usedBy t 0 Ws = some h ∧ h < 900) ⟨.new hD, [], by rw [upd_same]; rfl, by simp, fun _ => rfl, fun _ _ z => by cases z⟩ (fun i H' hi h => ?_) (fun H' h => ?_)
        · obtain ⟨x1, us, eD, lu, h1, h2⟩ := h
          have hi : i < as.length := by simpa using hi
          obtain ⟨c, hc, wc⟩ := paired_get hpa (List.getElem?_eq_getElem hi)
          obtain ⟨ys, e1, e2, e3, e4⟩ := (wc.ex x1).rest (K := K)
          have ga : atI (as.map V.ref) (0 + (i : Int)) = some (.ref as[i]) := at_k i (by omega) (by simp [hi])
          have cc : cutV (V.str c.head :: ys) (some 1) none = ys := cut_from (V.str c.head :: ys) (i := 1) (by simp)
          refine ⟨rfl, vx_ixL (K := K) (vx_var rfl) vx_c (x1 _ _ ha) (at_k 1 rfl rfl) _ (vx_ixQ (K := K) (vx_var rfl) (vx_var rfl) (hq x1) ga _ ⟨1, rfl, as[i], _, rfl, .of e1, ?_, fun q hq' => ?_⟩)⟩
          · intro z
            have z1 := z.1
            rw [show (some (1 : Int)) = some ((1 : Nat) : Int) from rfl, HT.sIx_nat] at z1
            simp at z1
          rw [cc]
          have x2 := x1.trans (.new (o := .tup ys) hq')
          have qD : D ≠ q := ne_of_none eD hq'
          have eD2 : (upd H' q (.tup ys)) D = some (.lst (us.map fun (j : Nat) => V.int (j : Nat))) := by rw [upd_ne qD]; exact eD
          refine ⟨t, q, ys, rfl, rfl, .of upd_same, fun w hw => ?_, decide (t ∈ c.names), by rw [e4], ?_⟩
          · rcases e3 w hw with z | z | ⟨b, xs, rfl, z⟩
            · exact .inl z
            · exact .inr (.inl z)
            · exact .inr (.inr ⟨b, xs, rfl, Evl.ex_t (.new hq') z⟩)
          generalize (upd H' q (.tup ys)) = H2 at x2 eD2 ⊢
          have uo := used_none_or (t := t) hc
          by_cases em : t ∈ c.names
          · rw [decide_eq_true em] at uo ⊢
            rw [if_pos rfl] at uo
            refine iteT ⟨_, rfl, _, eD2, szlt (by rw [List.length_map]; omega), x2.mut hD, us ++ [i], ?_, by simp; omega, fun z => by simp at z, fun h r z => ?_⟩
            · rw [upd_same]
              simp
            · cases us with
              | nil =>
                have := h1 rfl
                rw [uo] at this
                simp at z
                rw [← z.1]
                exact ⟨this, by omega⟩
              | cons h' r' =>
                simp at z
                rw [← z.1]
                exact h2 h' r' rfl
          · rw [decide_eq_false em] at uo ⊢
            rw [if_neg (by decide)] at uo
            exact iteF ⟨x2, us, eD2, by omega, fun z => by rw [h1 z, uo], h2⟩
        · obtain ⟨x1, us, eD, lu, h1, h2⟩ := h
          have el : ((((as.map V.ref).length : Nat) : Int)).toNat = Ws.length := by rw [List.length_map]; omega
          rw [el] at lu h1
          dsimp only
          have tn : Fx (tTest (tOp (rNeE K) (tVar 6) (tLst tNil))) [some (V.ref p), some (V.ref a), some (V.ref d), some (V.ref w'), none, none, some (V.ref D), none, none] H' (!decide (us.length = 0)) → True := fun _ => trivial
          refine i_seq ⟨_, rfl, szl (by simp), fun el hel => ⟨D, el, _, _, rfl, rfl, .of (by rw [upd_ne (ne_of_none eD hel)]; exact eD), .of upd_same, .inr rfl, !decide (us.length = 0), by rw [List.length_map]; rfl, ?_⟩⟩
          have x2 := x1.trans (.new (o := .lst []) hel)
          have eD2 : (upd H' el (.lst [])) D = some (.lst (us.map fun (j : Nat) => V.int (j : Nat))) := by rw [upd_ne (ne_of_none eD hel)]; exact eD
          generalize (upd H' el (.lst [])) = H2 at x2 eD2 ⊢
          cases us with
          | cons h r =>
            obtain ⟨u1, u2⟩ := h2 h r rfl
            refine iteT ?_
            have li : ((h : Nat) : Int).natAbs.log2 < 1920 := log_small (by omega)
            refine i_ret (i_tup (i_cons (i_lst (i_cons (vx_c _ (i_cons (vx_repr (K := K) (v := .int (h : Nat)) (vx_ixL (K := K) (vx_var rfl) vx_c eD2 (at_k 0 rfl rfl)) (.int _) (int_fit li) _ (i_nil ⟨szl (by simp), fun e he => i_cons (vx_var rfl _ (i_nil ⟨szl (by simp), fun r2 hr2 => ?_⟩))⟩))))))))
            have de : deedErr (S, Ws) (.drop t) = some (.inUse h) := by
              show (if S.has t = true then (usedBy t 0 Ws).map Err.inUse else some (Err.unknown t)) = some (.inUse h)
              rw [if_pos et, u1]
              rfl
            refine k r2 e p _ ((x2.trans (.new he)).trans (.new hr2)) upd_same ?_ fun z => ?_
            · rw [upd_ne (ne_of_none upd_same hr2), upd_same, de]
              rfl
            · rw [de] at z
              cases z
          | nil =>
            have u1 := h1 rfl
            rw [List.drop_length] at u1
            have u1 : usedBy t 0 Ws = none := u1
            refine iteF ?_
            dsimp only [tNext]
            have nd : (T.map (·.1)).Nodup := by
              have := so.nd
              rw [← hT'] at this
              unfold ShT.sh at this
              rw [List.map_map] at this
              exact this
            have lT : T.length ≤ 900 := by
              have : T.length = S.length := by rw [← hT']; simp [ShT.sh]
              omega
            have ad : a ≠ d := fun z => by rw [z, hd0] at ha; cases ha
            refine i_ret (i_tup (i_cons (i_lst (i_nil ⟨szl (by simp), fun e he => ?_⟩))))
            have x3 := x2.trans (.new (o := .lst []) he)
            have ee : (upd H2 e (.lst [])) e = some (.lst []) := upd_same
            generalize (upd H2 e (.lst [])) = H3 at x3 ee ⊢
            refine i_cons (i_tup (i_cons (i_cb (i_cons (lc_pairs (K := K) (T := T) (fun u => !decide (u = t)) rfl (x3 _ _ hd0) nd lT (fun _ => rfl) (fun _ => rfl) (fun _ => rfl) (fun u H' kk => fx_test (vx_neS (vx_var rfl) (vx_ixL (K := K) (vx_var rfl) vx_c (kk _ _ ad (x3 _ _ ha)) (at_k 1 rfl rfl)) rfl)) fun D2 H4 ps x4 hD2 hps => ?_)))))
            have ef : (T.filter fun e : Str × Plan × Addr => !decide (e.1 = t)) = ShT.drop T t := by
              unfold ShT.drop
              congr 1
              funext e
              simp
            rw [ef] at hps
            refine i_nil ⟨D2, ps, _, rfl, .of hD2, hps, fun dp hdp => ?_⟩
            have nk : (((ShT.drop T t).kv).map (·.1)).Nodup := ShT.kv_nodup (by
              rw [ShT.drop_sh, hT']
              unfold Shelf.drop
              exact (List.filter_sublist.map _).nodup so.nd)
            rw [mergeK_nil nk]
            have x5 := x3.trans x4
            have x6 := x4.trans (.new (o := .dK (ShT.drop T t).kv) hdp)
            have ed : (upd H4 dp (.dK (ShT.drop T t).kv)) dp = some (.dK (ShT.drop T t).kv) := upd_same
            generalize (upd H4 dp (.dK (ShT.drop T t).kv)) = H5 at x6 ed ⊢
            refine i_cons (vx_var rfl _ (i_nil ⟨szl (by simp), fun pp hpp => i_nil ⟨szl (by simp), fun r3 hr3 => ?_⟩⟩))
            have x7 := (Evl.Ex.new (o := .tup [.ref dp, .ref w']) hpp).trans (.new (o := .tup [.ref e, .ref pp]) hr3)
            have x8 := (x3.trans x6).trans x7
            have de : deedErr (S, Ws) (.drop t) = none := by
              show (if S.has t = true then (usedBy t 0 Ws).map Err.inUse else some (Err.unknown t)) = none
              rw [if_pos et, u1]
              rfl
            refine k r3 e pp _ x8 upd_same (by rw [de]; exact x7 _ _ (x6 _ _ ee)) fun _ => ⟨dp, w', by rw [upd_ne (ne_of_none upd_same hr3), upd_same], ⟨ShT.drop T t, by rw [ShT.drop_sh, hT']; rfl, x7 _ _ ed, fun x hx => (hr0 x (List.mem_filter.mp hx).1).ex x8⟩, hw.ex x8⟩
end
end Bt
set_option Elab.async false
set_option linter.all false
set_option maxRecDepth 100000
set_option maxHeartbeats 4000000
/-! What stays while the law runs; want, new_deed. -/
namespace Bt
open PySem PySem.Spec PyProof.Rows L2
/-- an object that the law does not change: firm, locked, or a list, not empty, that is no urn -/
def Solid (o : HO) : Prop := Firm o ∨ (∃ od u, o = .frz od u) ∨ ∃ xs, o = .lst xs ∧ xs ≠ [] ∧ ¬ ∃ d m c : Int, xs = [.int d, .int m, .int c]
def Keeps (H H' : Hp) : Prop := ∀ b o, Solid o → H b = some o → H' b = some o
theorem Keeps.firms {H H' : Hp} (k : Keeps H H') : Firms H H' := fun b o f e => k b o (.inl f) e
theorem Keeps.ex {H H' : Hp} (x : Evl.Ex H H') : Keeps H H' := fun b o _ e => x b o e
theorem Keeps.trans {H H1 H2 : Hp} (a : Keeps H H1) (b : Keeps H1 H2) : Keeps H H2 := fun c o f e => b c o f (a c o f e)
theorem solid_urn {d m c : Int} : ¬ Solid (.lst [.int d, .int m, .int c]) := fun s => by
  rcases s with f | ⟨_, _, z⟩ | ⟨xs, z, _, n⟩
  · rcases f with ⟨_, q⟩ | ⟨_, _, q⟩ | ⟨_, q⟩ | ⟨_, _, _, q⟩ | ⟨_, _, _, _, _, _, q⟩ <;> cases q
  · cases z
  · cases z
    exact n ⟨d, m, c, rfl⟩
theorem solid_nil : ¬ Solid (.lst []) := fun s => by
  rcases s with f | ⟨_, _, z⟩ | ⟨xs, z, n, _⟩
  · rcases f with ⟨_, q⟩ | ⟨_, _, q⟩ | ⟨_, q⟩ | ⟨_, _, _, q⟩ | ⟨_, _, _, _, _, _, q⟩ <;> cases q
  · cases z
  · cases z
    exact n rfl
theorem solid_desk {C dx : Addr} {v : V} : ¬ Solid (.ins C dx [("page", v)]) := fun s => by
  rcases s with f | ⟨_, _, z⟩ | ⟨xs, z, n, _⟩
  · rcases f with ⟨_, q⟩ | ⟨_, _, q⟩ | ⟨_, q⟩ | ⟨C, dx', v', q⟩ | ⟨_, _, _, _, _, _, q⟩
    · cases q
    · cases q
    · cases q
    · injection q with _ _ q
      injection q with q
      injection q with q
      revert q
      decide +kernel
    · injection q with _ _ q
      have := congrArg List.length q
      simp at this
  · cases z
  · cases z
theorem solid_tbl {ps : Array Value} : ¬ Solid (.tbl ps) := fun s => by
  rcases s with f | ⟨_, _, z⟩ | ⟨xs, z, n, _⟩
  · rcases f with ⟨_, q⟩ | ⟨_, _, q⟩ | ⟨_, q⟩ | ⟨_, _, _, q⟩ | ⟨_, _, _, _, _, _, q⟩ <;> cases q
  · cases z
  · cases z
theorem XU.keeps {u : Addr} {H H' : Hp} (x : XU u H H') (hu : UrnAt H u) : Keeps H H' := fun b o s e => x.k b o (fun z => by
  obtain ⟨d, m, c, q⟩ := hu
  rw [z, q] at e
  cases e
  exact solid_urn s) e
theorem solid_plan {i : Int} {r : Addr} : Solid (.lst [.int i, .ref r]) := .inr (.inr ⟨_, rfl, by simp, fun ⟨d, m, c, z⟩ => by cases z⟩)
theorem solid_refs {rs : List Addr} (h : rs ≠ []) : Solid (.lst (rs.map V.ref)) := .inr (.inr ⟨_, rfl, by simpa using h, fun ⟨d, m, c, z⟩ => by
  cases rs with
  | nil => exact h rfl
  | cons r rs => cases z⟩)
theorem solid_strs {z : Str} {ys : List V} : Solid (.lst (.str z :: ys)) := .inr (.inr ⟨_, rfl, by simp, fun ⟨d, m, c, z⟩ => by cases z⟩)
theorem solid_ref {r : Addr} {ys : List V} : Solid (.lst (.ref r :: ys)) := .inr (.inr ⟨_, rfl, by simp, fun ⟨d, m, c, z⟩ => by cases z⟩)
theorem solid_tup {xs : List V} : Solid (.tup xs) := .inl (.inl ⟨_, rfl⟩)
theorem solid_dK {kvs : List (Key × V)} : Solid (.dK kvs) := .inl (.inr (.inr (.inl ⟨_, rfl⟩)))
theorem solid_frz {od : Obj} {u : HO} : Solid (.frz od u) := .inr (.inl ⟨_, _, rfl⟩)
theorem planAt_k {H H' : Hp} {a : Addr} {p : Plan} (h : PlanAt H a p) (k : Keeps H H') : PlanAt H' a p := by
  obtain ⟨t, h1, h2⟩ := h
  exact ⟨t, k _ _ solid_plan h1, h2.keep fun o e => by
    obtain ⟨od, _, h2⟩ := h2
    rw [h2] at e
    cases e
    exact k _ _ solid_frz h2⟩
theorem shL_k {H H' : Hp} {d : Addr} {S : Shelf} (h : ShL H d S) (k : Keeps H H') : ShL H' d S := h.mono (fun o e => by
  obtain ⟨T, _, h2, _⟩ := h
  rw [h2] at e
  cases e
  exact k _ _ solid_dK h2) fun a p f => planAt_k f k
theorem wlF_k {H H' : Hp} {w : Addr} {Ws : List Wish} (h : WlF H w Ws) (k : Keeps H H') : WlF H' w Ws := by
  obtain ⟨od, as, h, p⟩ := h
  exact ⟨od, as, k _ _ solid_frz h, paired_mono p fun _ _ f => wishAt_firm f k.firms⟩
theorem leafAt_k {H H' : Hp} {p : Addr} {l : Leaf} (h : LeafAt H p l) (k : Keeps H H') : LeafAt H' p l := by
  obtain ⟨d, w, h1, h2, h3⟩ := h
  exact ⟨d, w, k _ _ solid_tup h1, shL_k h2 k, wlF_k h3 k⟩
theorem deedAt_k {H H' : Hp} {a : Addr} : ∀ {d : Deed}, DeedAt H a d → Keeps H H' → DeedAt H' a d
  | .put _ _, ⟨q, h1, h2⟩, k => ⟨q, k _ _ solid_strs h1, planAt_k h2 k⟩
  | .claim _, ⟨q, h1, h2⟩, k => ⟨q, k _ _ solid_strs h1, wishAt_firm h2 k.firms⟩
  | .lift _, h, k => k _ _ solid_strs h
  | .drop _, h, k => k _ _ solid_strs h
/-- the law's pages, the first ahead -/
def PagesL (H : Hp) (pl : Addr) (Ls : List Leaf) : Prop := ∃ ps : List Addr, H pl = some (.lst (ps.map V.ref)) ∧ Paired (LeafAt H) ps Ls
theorem pagesL_k {H H' : Hp} {pl : Addr} {Ls : List Leaf} (h : PagesL H pl Ls) (ne : Ls ≠ []) (k : Keeps H H') : PagesL H' pl Ls := by
  obtain ⟨ps, h1, h2⟩ := h
  refine ⟨ps, k _ _ (solid_refs fun z => ?_) h1, paired_mono h2 fun _ _ f => leafAt_k f k⟩
  have := paired_len h2
  rw [z] at this
  exact ne (List.length_eq_zero_iff.mp this.symm)
def spWant (u : Addr) : Sp := fun vs H Q _ => ∃ (d tl : Addr) (S : Shelf) (ts : List Str), vs = [.ref u, .ref d, .ref tl] ∧ UrnAt H u ∧ ShL H d S ∧ ShOk S ∧ H tl = some (.lst (ts.map V.str)) ∧ ts ≠ [] ∧ ts.length ≤ 100 ∧ (∀ t ∈ ts, S.has t = true) ∧
  ∀ (q : Addr) (H' : Hp) (c : Wish), XU u H H' → WishAt H' q c → WishOk c → c.on S → Q (.ref q) H'
theorem Shelf.nm {S : Shelf} {t : Str} (so : ShOk S) (h : S.has t = true) : NameOk t := so.nm _ (Shelf.at_mem h)
abbrev nWant : List Str := ["_law_urn_here", "_law_shelf", "_law_titles", "_law_title", "_law_way", "_law_plan", "_law_spots"]
section
variable {P : Program} {w : World} {K : PySem.W.Frag} {mg : Str → Option Value} {base : Heap}
theorem scWant : FnScope nWant ["_law_urn_here", "_law_shelf", "_law_titles"] (defScope st_d_law_want) := ⟨rfl, rfl, rfl, by decide +kernel, rfl, by decide +kernel, by decide +kernel⟩
theorem ok_want (hd : Hd K mg) (u : Addr) : Okf P w K mg base C8.CX0 4 (He.fAd K d_law_want.at_) ["_law_urn_here", "_law_shelf", "_law_titles"] (spWant u) := by
  have mm : mg "min" = none := hd.free _ (by decide +kernel)
  have mx : mg "max" = none := hd.free _ (by decide +kernel)
  have mG : mg "_law_grab" = some (.ref (He.fAd K d_law_grab.at_)) := hd.glo _ (by decide +kernel)
  have mT : mg "_law_take" = some (.ref (He.fAd K d_law_take.at_)) := hd.glo _ (by decide +kernel)
  have mS : mg "_law_sites" = some (.ref (He.fAd K d_law_sites.at_)) := hd.glo _ (by decide +kernel)
  have mF : mg "_law_free" = some (.ref (He.fAd K d_law_free.at_)) := hd.glo _ (by decide +kernel)
  have mM : mg "_law_many" = some (.ref (He.fAd K d_law_many.at_)) := hd.glo _ (by decide +kernel)
  have G := ok_grab (P := P) (w := w) (base := base) hd u
  have T := ok_take (P := P) (w := w) (base := base) hd u
  have SI := ok_sites (P := P) (w := w) (base := base) hd u
  have FR := ok_free (P := P) (w := w) (base := base) hd
  have M := ok_many (P := P) (w := w) (base := base) hd
  refine okf_of hd.f_d_law_want scWant (fun _ _ _ _ _ _ us hl => ?_) (fun vs H Q E h => ?_) (fun cdv A outer s H vs Q E hr h => ?_)
  · obtain ⟨a, b, c, rfl⟩ := us3 hl
    rfl
  · obtain ⟨a, p, _, _, rfl, _⟩ := h
    rfl
  · obtain ⟨d, tl, S, ts, rfl, hu, hs, so, htl, tne, t100, tin, k⟩ := h
    have huu := hu_of hr
    have hr1 : Room 1 _ := hr.mono (by decide)
    have hr2 : Room 2 _ := hr.mono (by decide)
    refine ⟨_, pss_cons (ps_par (i := 3) (j := 4) rfl scWant.nd rfl rfl (by decide) rfl rfl (pa_cons (pe_callR (E := E00) (T.run hr2 C8.pass0) (by rfl) mT T.kp (pa_cons (pv 0) (pa_cons (pv 2) pa_nil))) (pa_cons (pe_callR (E := E00) (G.run hr1 C8.pass0) (by rfl) mG G.kp (pa_cons (pv 0) (pa_cons pe_int pa_nil))) pa_nil)) (by rfl))
      (pss_cons (ps_set (i := 5) scWant.nd rfl (.inl rfl) (pe_dget huu (pv 1) (pv 3) (fun _ _ => rfl)))
      (pss_cons (ps_set (i := 6) scWant.nd rfl (.inl rfl) (pe_callR (E := E00) (SI.run hr C8.pass0) (by rfl) mS SI.kp (pa_cons (pv 0) (pa_cons (pv 5) (pa_cons (pe_callR (E := E00) (T.run hr2 C8.pass0) (by rfl) mT T.kp (pa_cons (pv 0) (pa_cons (pe_lst (pa_cons pe_int (pa_cons pe_int (pa_cons (pe_callR (E := E00) (M.run hr1 C8.pass0) (by rfl) mM M.kp (pa_cons (pv 5) pa_nil)) pa_nil)))) pa_nil))) pa_nil)))))
      (pss_cons (ps_if (pt_cmpR op_eq (pv 4) pe_int (nomark _)) (pss_one (ps_ret (pe_tup (pa_cons pe_str (pa_cons (pv 3) (pa_cons (pe_callR (E := E00) (T.run hr2 C8.pass0) (by rfl) mT T.kp (pa_cons (pv 0) (pa_cons (pv 2) pa_nil))) pa_nil)))))) pss_nil)
      (pss_cons (ps_if (pt_cmpR op_eq (pv 4) pe_int (nomark _)) (pss_one (ps_ret (pe_tup (pa_cons pe_str (pa_cons (pv 3) (pa_cons (pv 6) (pa_cons (pe_callB (call_min2 rfl) (by rfl) mm bo_min (pa_cons pe_int (pa_cons (pe_callB (call_max2 rfl) (by rfl) mx bo_max (pa_cons pe_int (pa_cons
          (pe_op op_add (pe_callR (E := E00) (FR.run hr2 C8.pass0) (by rfl) mF FR.kp (pa_cons (pv 5) (pa_cons (pv 6) pa_nil))) (pe_callR (E := E00) (T.run hr2 C8.pass0) (by rfl) mT T.kp (pa_cons (pv 0) (pa_cons (pe_lst (pa_cons pe_int (pa_cons pe_int (pa_cons (pe_un un_neg pe_int) (pa_cons pe_int pa_nil))))) pa_nil)))) pa_nil))) pa_nil))) pa_nil))))))) pss_nil)
      (pss_one (ps_ret (pe_tup (pa_cons (pe_callR (E := E00) (T.run hr2 C8.pass0) (by rfl) mT T.kp (pa_cons (pv 0) (pa_cons (pe_lst (pa_cons pe_str (pa_cons pe_str pa_nil))) pa_nil))) (pa_cons (pv 3) (pa_cons (pv 6) pa_nil)))))))))), ?_⟩
    have tlu : tl ≠ u := fun z => by
      obtain ⟨d0, m, c, q⟩ := hu
      rw [z, q] at htl
      cases ts with
      | nil => exact tne rfl
      | cons a r => cases htl
    refine i_seq (i_par (i_cons (take_of (a := tl) rfl (fun Q q => ⟨_, rfl, q⟩) hu htl tlu (by simpa using tne) (by simp; omega) fun x H1 hx X1 => i_cons (grab_of rfl (fun Q q => q) X1.urn (by decide) (by decide) fun wy H2 w0 w1 X2 => i_nil ⟨_, _, rfl, ?_⟩))))
    obtain ⟨t, ht, rfl⟩ := List.mem_map.mp hx
    have X12 := X1.trans X2
    have st := tin t ht
    have nm := Shelf.nm so st
    obtain ⟨f1, g1, r1⟩ := (shL_k hs (X12.keeps hu)).get st
    have o1 := so.at st
    have ten := o1.ten
    have pos := o1.pos
    dsimp only
    refine i_seq (i_asg (vx_dget (vx_var rfl) (vx_var rfl) g1 _ ?_))
    dsimp only
    refine i_seq (i_asg (i_call (i_cons (vx_var rfl _ (i_cons (vx_var rfl _ (i_cons (take_lit (xs := [.int 2, .int 4, .int ((S.at t).hills : Nat)]) rfl (fun Q q => i_cons (vx_c _ (i_cons (vx_c _ (i_cons (vx_many (vx_var rfl) r1 o1 _ (i_nil q))))))) X12.urn (by simp) (by simp) fun mo H3 hmo X3 => i_nil ?_))))))))
    obtain ⟨m, rfl, m0, m1⟩ : ∃ m : Int, mo = .int m ∧ 1 ≤ m ∧ m ≤ 10 := by
      simp only [List.mem_cons, List.not_mem_nil, or_false] at hmo
      rcases hmo with rfl | rfl | rfl
      · exact ⟨_, rfl, by omega, by omega⟩
      · exact ⟨_, rfl, by omega, by omega⟩
      · exact ⟨_, rfl, by omega, by omega⟩
    refine ⟨f1, S.at t, m, rfl, X3.urn, planAt_k r1 (X3.keeps X12.urn), o1, m0, m1, fun q H4 xs xo X4 hq eq => ?_⟩
    have X34 := X3.trans X4
    have X14 := X12.trans X34
    have r4 := planAt_k r1 (X34.keeps X12.urn)
    have tl4 := X14.k _ _ tlu htl
    dsimp only
    have f4 : Fx (tTest (tOp rEq (tVar 4) (tC (.int 0)))) [some (V.ref u), some (V.ref d), some (V.ref tl), some (V.str t), some (V.int wy), some (V.ref f1), some (V.ref q)] H4 (decide (wy = 0)) := fx_test (vx_eqI (vx_var rfl) vx_c)
    by_cases h0 : wy = 0
    · rw [decide_eq_true h0] at f4
      refine i_seq (if_t f4 ?_)
      refine i_ret (i_tup (i_cons (vx_c _ (i_cons (vx_var rfl _ (i_cons (take_of (a := tl) rfl (fun Q q => ⟨_, rfl, q⟩) X14.urn tl4 tlu (by simpa using tne) (by simp; omega) fun y H5 hy X5 => i_nil ⟨szl (by simp), fun r hr => ?_⟩)))))))
      obtain ⟨t2, ht2, rfl⟩ := List.mem_map.mp hy
      have st2 := tin t2 ht2
      exact k r _ (.within t t2) ((X14.trans X5).new hr) upd_same ⟨nm, Shelf.nm so st2⟩ (fun z hz => by
        simp only [Wish.names, List.mem_cons, List.not_mem_nil, or_false] at hz
        rcases hz with rfl | rfl
        · exact st
        · exact st2)
    rw [decide_eq_false h0] at f4
    refine i_seq (if_f f4 ?_)
    dsimp only [tNext]
    have f5 : Fx (tTest (tOp rEq (tVar 4) (tC (.int 1)))) [some (V.ref u), some (V.ref d), some (V.ref tl), some (V.str t), some (V.int wy), some (V.ref f1), some (V.ref q)] H4 (decide (wy = 1)) := fx_test (vx_eqI (vx_var rfl) vx_c)
    have on1 : ∀ z ∈ [t], S.has z = true := fun z hz => by
      rw [List.mem_singleton] at hz
      rw [hz]
      exact st
    by_cases h1 : wy = 1
    · rw [decide_eq_true h1] at f5
      refine i_seq (if_t f5 ?_)
      refine i_ret (i_tup (i_cons (vx_c _ (i_cons (vx_var rfl _ (i_cons (vx_var rfl _ (i_cons (i_cb (i_cons (vx_c _ (i_cons (i_cb (i_cons (vx_c _ (i_cons (i_op (i_call (i_cons (vx_var rfl _ (i_cons (vx_var rfl _ (i_nil ⟨f1, q, S.at t, xs, rfl, r4, o1, eq, xo.few, fun H5 x5 => ?_⟩)))))))))))))))))))))))
      refine take_lit (xs := [.int 0, .int 0, .int (-1), .int 1]) rfl (fun Q q => i_cons (vx_c _ (i_cons (vx_c _ (i_cons (vx_neg vx_c _ (i_cons (vx_c _ (i_nil q))))))))) (xu_ex X14 x5).urn (by simp) (by simp) fun y H6 hy X6 => ?_
      obtain ⟨i, rfl, i0, i1⟩ : ∃ i : Int, y = .int i ∧ -1 ≤ i ∧ i ≤ 1 := by
        simp only [List.mem_cons, List.not_mem_nil, or_false] at hy
        rcases hy with rfl | rfl | rfl | rfl <;> exact ⟨_, rfl, by omega, by omega⟩
      refine ⟨_, _, rfl, rfl, i_nil ⟨_, _, rfl, i_nil ⟨_, _, rfl, i_nil ⟨szl (by simp), fun r hr => ?_⟩⟩⟩⟩
      have X16 := (xu_ex X14 x5).trans X6
      have e6 : H6 q = some (.tup (xs.map V.int)) := X6.k _ _ (fun z => by
        obtain ⟨a1, a2, a3, e⟩ := (xu_ex X14 x5).urn
        rw [z] at eq
        have := x5 _ _ eq
        rw [e] at this
        cases this) (x5 _ _ eq)
      refine k r _ (.rank t xs _) (X16.new hr) ⟨q, upd_same, by rw [upd_ne (ne_of_none e6 hr)]; exact e6⟩ ⟨nm, xo, ?_, ?_⟩ on1
      · split <;> (try split) <;> omega
      · split <;> (try split) <;> omega
    rw [decide_eq_false h1] at f5
    refine i_seq (if_f f5 ?_)
    dsimp only [tNext]
    refine i_ret (i_tup (i_cons (take_lit (xs := [.str "all", .str "one"]) rfl (fun Q q => i_cons (vx_c _ (i_cons (vx_c _ (i_nil q))))) X14.urn (by simp) (by simp) fun y H5 hy X5 => i_cons (vx_var rfl _ (i_cons (vx_var rfl _ (i_nil ⟨szl (by simp), fun r hr => ?_⟩)))))))
    have e5 : H5 q = some (.tup (xs.map V.int)) := X5.k _ _ (fun z => by
        obtain ⟨a1, a2, a3, e⟩ := X14.urn
        rw [z, e] at eq
        cases eq) eq
    obtain ⟨b, rfl⟩ : ∃ b : Bool, y = .str (kindS b) := by
      simp only [List.mem_cons, List.not_mem_nil, or_false] at hy
      rcases hy with rfl | rfl
      · exact ⟨true, rfl⟩
      · exact ⟨false, rfl⟩
    exact k r _ (.kind b t xs) ((X14.trans X5).new hr) ⟨q, upd_same, by rw [upd_ne (ne_of_none e5 hr)]; exact e5⟩ ⟨nm, xo⟩ on1
end
end Bt
set_option Elab.async false
set_option linter.all false
set_option maxRecDepth 100000
set_option maxHeartbeats 4000000
/-! The law's new_deed, done. -/
namespace Bt
open PySem PySem.Spec PyProof.Rows L2
def spNewDeed (u : Addr) : Sp := fun vs H Q _ => ∃ (p tl : Addr) (l : Leaf), vs = [.ref u, .ref p, .ref tl] ∧ UrnAt H u ∧ LeafAt H p l ∧ ShOk l.1 ∧ l.2.length ≤ 900 ∧ l.1.length < 64 ∧ H tl = some (.lst [.str "a", .str "side"]) ∧
  ∀ (a : Addr) (H' : Hp) (dd : Deed), XU u H H' → DeedAt H' a dd → DeedOk l dd → Q (.ref a) H'
def spDone (K : PySem.W.Frag) : Sp := fun vs H Q E => ∃ (k a : Addr) (l : Leaf) (L : List Leaf) (dd : Deed), vs = [.ref k, .ref a] ∧ DeskAt K H k (l :: L) ∧ ShOk l.1 ∧ WsOk l.1 l.2 ∧ l.2.length ≤ 900 ∧ l.1.length ≤ 900 ∧ DeedAt H a dd ∧ DeedOk l dd ∧
  (deedErr l dd = none → ∀ H', ExBut k H H' → DeskAt K H' k (deedTo l dd :: l :: L) → Q .non H') ∧ (∀ e, deedErr l dd = some e → ∀ H', Evl.Ex H H' → Raised K E H' e)
theorem deskAt_k {K : PySem.W.Frag} {H H' : Hp} {k : Addr} {L : List Leaf} (h : DeskAt K H k L) (s : ∀ o, H k = some o → H' k = some o) (x : Keeps H H') : DeskAt K H' k L := by
  obtain ⟨a, ⟨dk, hk⟩, h⟩ := h
  exact ⟨a, ⟨dk, s _ hk⟩, pageAt_firm x.firms h⟩
theorem deskAt_ex {K : PySem.W.Frag} {H H' : Hp} {k : Addr} {L : List Leaf} (h : DeskAt K H k L) (x : Evl.Ex H H') : DeskAt K H' k L := deskAt_k h (fun o e => x _ _ e) (.ex x)
abbrev nNewD : List Str := ["_law_urn_here", "_law_page", "_law_titles", "_law_shelf", "_law_wishes", "_law_way", "_law_title"]
section
variable {P : Program} {w : World} {K : PySem.W.Frag} {mg : Str → Option Value} {base : Heap}
theorem scNewD : FnScope nNewD ["_law_urn_here", "_law_page", "_law_titles"] (defScope st_d_law_new_deed) := ⟨rfl, rfl, rfl, by decide +kernel, rfl, by decide +kernel, by decide +kernel⟩
theorem ok_newD (hd : Hd K mg) (u : Addr) : Okf P w K mg base C8.CX0 5 (He.fAd K d_law_new_deed.at_) ["_law_urn_here", "_law_page", "_law_titles"] (spNewDeed u) := by
  have ms : mg "sorted" = none := hd.free _ (by decide +kernel)
  have ml : mg "len" = none := hd.free _ (by decide +kernel)
  have mG : mg "_law_grab" = some (.ref (He.fAd K d_law_grab.at_)) := hd.glo _ (by decide +kernel)
  have mT : mg "_law_take" = some (.ref (He.fAd K d_law_take.at_)) := hd.glo _ (by decide +kernel)
  have mW : mg "_law_want" = some (.ref (He.fAd K d_law_want.at_)) := hd.glo _ (by decide +kernel)
  have mN : mg "_law_near" = some (.ref (He.fAd K d_law_near.at_)) := hd.glo _ (by decide +kernel)
  have mS : mg "_law_shape" = some (.ref (He.fAd K d_law_shape.at_)) := hd.glo _ (by decide +kernel)
  have G := ok_grab (P := P) (w := w) (base := base) hd u
  have T := ok_take (P := P) (w := w) (base := base) hd u
  have W := ok_want (P := P) (w := w) (base := base) hd u
  have NE := ok_near (P := P) (w := w) (base := base) hd u
  have SP := ok_shape (P := P) (w := w) (base := base) hd u
  refine okf_of hd.f_d_law_new_deed scNewD (fun _ _ _ _ _ _ us hl => ?_) (fun vs H Q E h => ?_) (fun cdv A outer s H vs Q E hr h => ?_)
  · obtain ⟨a, b, c, rfl⟩ := us3 hl
    rfl
  · obtain ⟨a, p, _, rfl, _⟩ := h
    rfl
  · obtain ⟨p, tl, ⟨S, Ws⟩, rfl, hu, ⟨d, w', hp, hs, hw⟩, so, l900, s64, htl, k⟩ := h
    have l900 : Ws.length ≤ 900 := l900
    have s64 : S.length < 64 := s64
    have hs : ShL H d S := hs
    have hw : WlF H w' Ws := hw
    have so : ShOk S := so
    have huu := hu_of hr
    have hu1 := Nat.lt_of_succ_lt huu
    have hr1 : Room 1 _ := hr.mono (by decide)
    have hr2 : Room 2 _ := hr.mono (by decide)
    have hr4 : Room 4 _ := hr
    refine ⟨_, pss_cons (ps_asg (pv 1) (pg_tup rfl (pgs_cons (pg_name (i := 3) scNewD.nd rfl (.inl rfl)) (pgs_cons (pg_name (i := 4) scNewD.nd rfl (.inl rfl)) pgs_nil))))
      (pss_cons (ps_par (i := 5) (j := 6) rfl scNewD.nd rfl rfl (by decide) rfl rfl (pa_cons (pe_callR (E := E00) (G.run hr1 C8.pass0) (by rfl) mG G.kp (pa_cons (pv 0) (pa_cons pe_int pa_nil))) (pa_cons (pe_callR (E := E00) (T.run hr2 C8.pass0) (by rfl) mT T.kp (pa_cons (pv 0) (pa_cons (pv 2) pa_nil))) pa_nil)) (by rfl))
      (pss_cons (ps_if (pw_and (pt_cmpR op_lt (pv 5) pe_int (nomark _)) (pw_and1 (pt_cmpR (op_neDE hu1) (pv 3) pe_dnewK (nomark _)))).pt
        (pss_one (ps_ret (pe_lst (pa_cons pe_str (pa_cons (pe_callR (E := E00) (W.run hr4 C8.pass0) (by rfl) mW W.kp (pa_cons (pv 0) (pa_cons (pv 3) (pa_cons (pe_callB (call_sortedD rfl) (by rfl) ms bo_sorted (pa_cons (pv 3) pa_nil)) pa_nil)))) pa_nil))))) pss_nil)
      (pss_cons (ps_if (pt_cmpR op_eq (pv 5) pe_int (nomark _)) (pss_one (ps_ret (pe_lst (pa_cons pe_str (pa_cons (pe_callR (E := E00) (G.run hr1 C8.pass0) (by rfl) mG G.kp (pa_cons (pv 0) (pa_cons (pe_op op_add (pe_callB call_len_seq (by rfl) ml bo_len (pa_cons (pv 4) pa_nil)) pe_int) pa_nil))) pa_nil))))) pss_nil)
      (pss_cons (ps_if (pt_cmpR op_eq (pv 5) pe_int (nomark _)) (pss_one (ps_ret (pe_lst (pa_cons pe_str (pa_cons (pv 6) pa_nil))))) pss_nil)
      (pss_one (ps_ret (pe_lst (pa_cons pe_str (pa_cons (pv 6) (pa_cons (pe_ifExp (pt_cmp (pc_din huu (pv 6) (pv 3))) (pe_callR (E := E00) (NE.run hr4 C8.pass0) (by rfl) mN NE.kp (pa_cons (pv 0) (pa_cons (pe_dget huu (pv 3) (pv 6) (fun _ _ => rfl)) pa_nil)))
          (pe_callR (E := E00) (SP.run (hr.mono (by decide)) C8.pass0) (by rfl) mS SP.kp (pa_cons (pv 0) (pa_cons pe_int pa_nil)))) pa_nil)))))))))), ?_⟩
    refine i_seq ⟨_, rfl, p, _, rfl, .of hp, rfl, _, _, rfl, _, _, rfl, rfl, ?_⟩
    dsimp only
    have tlu : tl ≠ u := fun z => by
      obtain ⟨d0, m, c, q⟩ := hu
      rw [z, q] at htl
      cases htl
    refine i_seq (i_par (i_cons (grab_of rfl (fun Q q => q) hu (by decide) (by decide) fun wy H1 w0 w1 X1 => i_cons (take_of (a := tl) rfl (fun Q q => ⟨_, rfl, q⟩) X1.urn (X1.k _ _ tlu htl) tlu (by simp) (by simp) fun x H2 hx X2 => i_nil ⟨_, _, rfl, ?_⟩))))
    obtain ⟨t, rfl, nm⟩ : ∃ t : Str, x = .str t ∧ NameOk t := by
      simp only [List.mem_cons, List.not_mem_nil, or_false] at hx
      rcases hx with rfl | rfl
      · exact ⟨_, rfl, .inl rfl⟩
      · exact ⟨_, rfl, .inr rfl⟩
    have X := X1.trans X2
    have K2 := X.keeps hu
    have hs2 := shL_k hs K2
    have hw2 := wlF_k hw K2
    have hu2 := X.urn
    clear hx X1 X2 hw hs hu hp htl
    dsimp only
    obtain ⟨T0, hT, hd0, hr0⟩ := id hs2
    have hT' : T0.sh = S := hT
    have lkv : T0.kv.length = S.length := by rw [← hT']; simp [ShT.kv, ShT.sh]
    -- the first test
    have key : ∀ {Qn : Hp → Prop} {Qy : Hp → Prop}, (∀ H3, Evl.Ex H2 H3 → Qn H3) → (∀ H3, Evl.Ex H2 H3 → S ≠ [] → Qy H3) → tAnd (tTest (tOp (rI0 fun i j => .bl (decide (i < j))) (tVar 5) (tC (.int 4)))) (tTest (tOp rNeDE (tVar 3) (fun σ H Q => ∀ p, H p = none → Q (.ref p) (upd H p (.dK []))))) [some (V.ref u), some (V.ref p), some (V.ref tl), some (V.ref d), some (V.ref w'), some (V.int wy), some (V.str t)] H2 (fun b H3 => if b = true then Qy H3 else Qn H3) := fun {Qn Qy} kn ky => by
      have f1 : Fx (tTest (tOp (rI0 fun i j => .bl (decide (i < j))) (tVar 5) (tC (.int 4)))) [some (V.ref u), some (V.ref p), some (V.ref tl), some (V.ref d), some (V.ref w'), some (V.int wy), some (V.str t)] H2 (decide (wy < 4)) := fx_test (vx_op0 (g := fun i j => .bl (decide (i < j))) (vx_var rfl) vx_c)
      refine f1 _ ?_
      by_cases c : wy < 4
      · rw [decide_eq_true c]
        refine iteT ⟨_, rfl, fun e he => ⟨d, e, T0.kv, rfl, rfl, by rw [upd_ne (ne_of_none hd0 he)]; exact hd0, upd_same, _, rfl, ?_⟩⟩
        rw [lkv]
        by_cases n : S.length = 0
        · rw [decide_eq_true n]
          exact iteF (kn _ (.new he))
        · rw [decide_eq_false n]
          exact iteT (ky _ (.new he) fun z => n (by rw [z]; rfl))
      · rw [decide_eq_false c]
        exact iteF (iteF (kn _ (.refl _)))
    refine i_seq (key (fun H3 x3 => ?_) fun H3 x3 nS => ?_)
    · dsimp only [tNext]
      have hs3 := hs2.ex x3
      have hw3 := hw2.ex x3
      have X3 := xu_ex X x3
      have hu3 := X3.urn
      obtain ⟨od, as, hwF, hpa⟩ := id hw3
      have las : as.length = Ws.length := paired_len hpa
      have f4 : Fx (tTest (tOp rEq (tVar 5) (tC (.int 4)))) [some (V.ref u), some (V.ref p), some (V.ref tl), some (V.ref d), some (V.ref w'), some (V.int wy), some (V.str t)] H3 (decide (wy = 4)) := fx_test (vx_eqI (vx_var rfl) vx_c)
      by_cases c4 : wy = 4
      · rw [decide_eq_true c4] at f4
        refine i_seq (if_t f4 (i_ret (i_lst (i_cons (vx_c _ (i_cons (grab_of (top := (Ws.length : Int) + 1) rfl (vx_op0 (g := fun i j => .int (i + j)) (vx_lenL (K := K) (n := Ws.length) (vx_var rfl) (.inl (.inr ⟨od, hwF⟩)) (by rw [List.length_map]; exact las)) vx_c) hu3 (by omega) (by omega) fun r H4 r0 r1 X4 => i_nil ⟨szl (by simp), fun q hq => ?_⟩)))))))
        obtain ⟨j, rfl⟩ : ∃ j : Nat, r = (j : Int) := ⟨r.toNat, by omega⟩
        exact k q _ (.lift j) ((X3.trans X4).new hq) upd_same (by show j ≤ Ws.length; omega)
      rw [decide_eq_false c4] at f4
      refine i_seq (if_f f4 ?_)
      dsimp only [tNext]
      have f5 : Fx (tTest (tOp rEq (tVar 5) (tC (.int 5)))) [some (V.ref u), some (V.ref p), some (V.ref tl), some (V.ref d), some (V.ref w'), some (V.int wy), some (V.str t)] H3 (decide (wy = 5)) := fx_test (vx_eqI (vx_var rfl) vx_c)
      by_cases c5 : wy = 5
      · rw [decide_eq_true c5] at f5
        refine i_seq (if_t f5 (i_ret (i_lst (i_cons (vx_c _ (i_cons (vx_var rfl _ (i_nil ⟨szl (by simp), fun q hq => ?_⟩))))))))
        exact k q _ (.drop t) (X3.new hq) upd_same nm
      rw [decide_eq_false c5] at f5
      refine i_seq (if_f f5 ?_)
      dsimp only [tNext]
      refine i_ret (i_lst (i_cons (vx_c _ (i_cons (vx_var rfl _ (i_cons (fx_test (vx_din (vx_var rfl) (vx_var rfl) hs3) _ ?_)))))))
      cases et : S.has t with
      | true =>
        obtain ⟨f1, g1, r1⟩ := hs3.get et
        refine iteT (i_call (i_cons (vx_var rfl _ (i_cons (vx_dget (vx_var rfl) (vx_var rfl) g1 _ (i_nil ⟨f1, S.at t, rfl, hu3, r1, so.at et, fun q H4 pl po X4 hq pq => i_nil ⟨szl (by simp), fun r hr => ?_⟩⟩))))))
        exact k r _ (.put t pl) ((X3.trans X4).new hr) ⟨q, upd_same, pq.ex (.new hr)⟩ ⟨nm, po⟩
      | false =>
        refine iteF (i_call (i_cons (vx_var rfl _ (i_cons (vx_c _ (i_nil ⟨5, rfl, hu3, by decide, by decide, fun q H4 pl po X4 hq pq => i_nil ⟨szl (by simp), fun r hr => ?_⟩⟩))))))
        exact k r _ (.put t pl) ((X3.trans X4).new hr) ⟨q, upd_same, pq.ex (.new hr)⟩ ⟨nm, po⟩
    · have hs3 := hs2.ex x3
      have X3 := xu_ex X x3
      refine i_ret (i_lst (i_cons (vx_c _ (i_cons (i_call (i_cons (vx_var rfl _ (i_cons (vx_var rfl _ (i_cons (i_cb (i_cons (vx_var rfl _ (i_nil ⟨d, _, S.map (·.1), rfl, .of (x3 _ _ hd0), by rw [ShT.keys, hT'], by rw [List.length_map]; exact s64, fun ys q hpm hso hq => i_nil ?_⟩))))))))))))))
      have X4 := X3.new (o := .lst (ys.map V.str)) hq
      have lys := hpm.length_eq
      rw [List.length_map] at lys
      refine ⟨d, q, S, ys, rfl, X4.urn, hs3.ex (.new hq), so, upd_same, fun z => ?_, by omega, fun z hz => ?_, fun r H5 c X5 wc wo on => i_nil ⟨szl (by simp), fun m hm => ?_⟩⟩
      · rw [z] at lys
        exact nS (List.length_eq_zero_iff.mp lys.symm)
      · have hz := hpm.mem_iff.mp hz
        obtain ⟨e, he, rfl⟩ := List.mem_map.mp hz
        exact List.any_eq_true.mpr ⟨e, he, by simp⟩
      · exact k m _ (.claim c) ((X4.trans X5).new hm) ⟨r, upd_same, wc.ex (.new hm)⟩ ⟨wo, on⟩
theorem scDone : FnScope ["_law_desk_here", "_law_deed"] ["_law_desk_here", "_law_deed"] (defScope st_d_law_done) := ⟨rfl, rfl, rfl, by decide +kernel, rfl, by decide +kernel, by decide +kernel⟩
theorem ok_done (hz : Hz w K mg) : Okf P w K mg base (CXN P w) 11 (He.fAd K d_law_done.at_) ["_law_desk_here", "_law_deed"] (spDone K) := by
  have hd := hz.toHd
  have cD := hd.cls "Desk" (by decide +kernel)
  have mF : mg "_law_framed" = some (.ref (He.fAd K d_law_framed.at_)) := hd.glo _ (by decide +kernel)
  have FR := ok_framed (P := P) (w := w) (base := base) hd
  have PU := ok_put (P := P) (base := base) hz
  have CL := ok_claim (P := P) (base := base) hz
  have LI := ok_lift (P := P) (base := base) hz
  have DR := ok_drop (P := P) (base := base) hz
  have m1 := hd.meth ("Desk", "put") (by decide +kernel)
  have m2 := hd.meth ("Desk", "claim") (by decide +kernel)
  have m3 := hd.meth ("Desk", "lift") (by decide +kernel)
  have m4 := hd.meth ("Desk", "drop") (by decide +kernel)
  refine okf_of hd.f_d_law_done scDone (fun _ _ _ _ _ _ us hl => ?_) (fun vs H Q E h => ?_) (fun cdv A outer s H vs Q E hr h => ?_)
  · obtain ⟨a, b, rfl⟩ := us2 hl
    rfl
  · obtain ⟨k, a, _, _, _, rfl, _⟩ := h
    rfl
  · obtain ⟨k, a, ⟨S, Ws⟩, L, dd, rfl, dk, so, wo, l900, s900, da, dok, q1, q2⟩ := h
    have l900 : Ws.length ≤ 900 := l900
    have s900 : S.length ≤ 900 := s900
    have so : ShOk S := so
    have wo : WsOk S Ws := wo
    refine ⟨_, pss_cons (ps_if (pt_cmpR op_eq (pe_ix ix_list (pv 1) pe_int (fun _ _ => rfl)) pe_str (nomark _)) (pss_one (ps_ret (pe_methR (E := E) (pv 0) cD m1 (PU.run hr (L2N.passes_call (L2N.takes_of (E := E) rfl rfl rfl rfl) fun _ _ _ _ h => h)) (pa_cons (pe_ix ix_list (pv 1) pe_int (fun _ _ => rfl)) (pa_cons (pe_callR (E := E00) (FR.run (hr.mono (by decide)) C8.pass0) (by rfl) mF FR.kp (pa_cons (pe_ix ix_list (pv 1) pe_int (fun _ _ => rfl)) pa_nil)) pa_nil))))) pss_nil)
      (pss_cons (ps_if (pt_cmpR op_eq (pe_ix ix_list (pv 1) pe_int (fun _ _ => rfl)) pe_str (nomark _)) (pss_one (ps_ret (pe_methR (E := E) (pv 0) cD m2 (CL.run hr (L2N.passes_call (L2N.takes_of (E := E) rfl rfl rfl rfl) fun _ _ _ _ h => h)) (pa_cons (pe_ix ix_list (pv 1) pe_int (fun _ _ => rfl)) pa_nil)))) pss_nil)
      (pss_one (ps_ret (pe_ifExp (pt_cmpR op_eq (pe_ix ix_list (pv 1) pe_int (fun _ _ => rfl)) pe_str (nomark _)) (pe_methR (E := E) (pv 0) cD m3 (LI.run (hr.mono (by decide)) (L2N.passes_call (L2N.takes_of (E := E) rfl rfl rfl rfl) fun _ _ _ _ h => h)) (pa_cons (pe_ix ix_list (pv 1) pe_int (fun _ _ => rfl)) pa_nil))
          (pe_methR (E := E) (pv 0) cD m4 (DR.run (hr.mono (by decide)) (L2N.passes_call (L2N.takes_of (E := E) rfl rfl rfl rfl) fun _ _ _ _ h => h)) (pa_cons (pe_ix ix_list (pv 1) pe_int (fun _ _ => rfl)) pa_nil)))))), ?_⟩
    obtain ⟨pa, ⟨dk', hk⟩, pg⟩ := id dk
    cases dd with
    | put t pl =>
      obtain ⟨q, ha, hq⟩ := da
      refine i_seq (if_t (fx_test (vx_eqS (vx_ixL (K := K) (vx_var rfl) vx_c ha (at_k 0 rfl rfl)) vx_c (show decide (("put" : Str) = "put") = true by decide +kernel))) ?_)
      refine i_ret ⟨_, rfl, k, dk', _, rfl, hk, lk_no (by decide +kernel), i_cons (vx_ixL (K := K) (vx_var rfl) vx_c ha (at_k 1 rfl rfl) _ (i_cons (i_call (i_cons (vx_ixL (K := K) (vx_var rfl) vx_c ha (at_k 2 rfl rfl) _ (i_nil ⟨q, pl, rfl, hq, dok.2, fun f H1 x1 hf fa => i_nil ?_⟩))))))⟩
      refine ⟨k, f, t, pl, S, Ws, L, rfl, dok.1, fa, dok.2, deskAt_ex dk x1, so, wo, s900, fun eb H' y1 y2 => q1 ?_ H' (fun b o n e => y1 b o n (x1 _ _ e)) y2, fun i v eb H' y1 => q2 (.broken i v) ?_ H' (x1.trans y1)⟩
      · show (broke (S.put t pl) 0 Ws).map _ = none
        rw [eb]
        rfl
      · show (broke (S.put t pl) 0 Ws).map _ = some _
        rw [eb]
        rfl
    | claim c =>
      obtain ⟨q, ha, hq⟩ := da
      refine i_seq (if_f (fx_test (vx_eqS (vx_ixL (K := K) (vx_var rfl) vx_c ha (at_k 0 rfl rfl)) vx_c (show decide (("claim" : Str) = "put") = false by decide +kernel))) ?_)
      dsimp only [tNext]
      refine i_seq (if_t (fx_test (vx_eqS (vx_ixL (K := K) (vx_var rfl) vx_c ha (at_k 0 rfl rfl)) vx_c (show decide (("claim" : Str) = "claim") = true by decide +kernel))) ?_)
      refine i_ret ⟨_, rfl, k, dk', _, rfl, hk, lk_no (by decide +kernel), i_cons (vx_ixL (K := K) (vx_var rfl) vx_c ha (at_k 1 rfl rfl) _ (i_nil ?_))⟩
      refine ⟨k, q, c, S, Ws, L, rfl, hq, dok.1, dok.2, dk, so, wo, l900, fun eb H' y1 y2 => q1 ?_ H' y1 y2, fun i v eb H' y1 => q2 (.broken i v) ?_ H' y1⟩
      · show (broke S 0 (Ws ++ [c])).map _ = none
        rw [eb]
        rfl
      · show (broke S 0 (Ws ++ [c])).map _ = some _
        rw [eb]
        rfl
    | lift i =>
      have ha : H a = some (.lst [.str "lift", .int (i : Nat)]) := da
      refine i_seq (if_f (fx_test (vx_eqS (vx_ixL (K := K) (vx_var rfl) vx_c ha (at_k 0 rfl rfl)) vx_c (show decide (("lift" : Str) = "put") = false by decide +kernel))) ?_)
      dsimp only [tNext]
      refine i_seq (if_f (fx_test (vx_eqS (vx_ixL (K := K) (vx_var rfl) vx_c ha (at_k 0 rfl rfl)) vx_c (show decide (("lift" : Str) = "claim") = false by decide +kernel))) ?_)
      dsimp only [tNext]
      refine i_ret (fx_test (vx_eqS (vx_ixL (K := K) (vx_var rfl) vx_c ha (at_k 0 rfl rfl)) vx_c (show decide (("lift" : Str) = "lift") = true by decide +kernel)) _ (iteT ?_))
      refine ⟨_, rfl, k, dk', _, rfl, hk, lk_no (by decide +kernel), i_cons (vx_ixL (K := K) (vx_var rfl) vx_c ha (at_k 1 rfl rfl) _ (i_nil ?_))⟩
      refine ⟨k, i, S, Ws, L, rfl, dk, by omega, fun hi H' y1 y2 => q1 ?_ H' y1 y2, fun hi => q2 (.index i) ?_ H (.refl _)⟩
      · show (if i < Ws.length then none else some (Err.index i)) = none
        rw [if_pos hi]
      · show (if i < Ws.length then none else some (Err.index i)) = some _
        rw [if_neg hi]
    | drop t =>
      have ha : H a = some (.lst [.str "drop", .str t]) := da
      refine i_seq (if_f (fx_test (vx_eqS (vx_ixL (K := K) (vx_var rfl) vx_c ha (at_k 0 rfl rfl)) vx_c (show decide (("drop" : Str) = "put") = false by decide +kernel))) ?_)
      dsimp only [tNext]
      refine i_seq (if_f (fx_test (vx_eqS (vx_ixL (K := K) (vx_var rfl) vx_c ha (at_k 0 rfl rfl)) vx_c (show decide (("drop" : Str) = "claim") = false by decide +kernel))) ?_)
      dsimp only [tNext]
      refine i_ret (fx_test (vx_eqS (vx_ixL (K := K) (vx_var rfl) vx_c ha (at_k 0 rfl rfl)) vx_c (show decide (("drop" : Str) = "lift") = false by decide +kernel)) _ (iteF ?_))
      refine ⟨_, rfl, k, dk', _, rfl, hk, lk_no (by decide +kernel), i_cons (vx_ixL (K := K) (vx_var rfl) vx_c ha (at_k 1 rfl rfl) _ (i_nil ?_))⟩
      refine ⟨k, t, S, Ws, L, rfl, dk, so, s900, fun ht => q2 (.unknown t) ?_ H (.refl _), fun ht i hi H' y1 => q2 (.inUse i) ?_ H' y1, fun ht hi H' y1 y2 => q1 ?_ H' y1 y2⟩
      · show (if S.has t = true then (usedBy t 0 Ws).map Err.inUse else some (Err.unknown t)) = some _
        rw [ht]
        rfl
      · show (if S.has t = true then (usedBy t 0 Ws).map Err.inUse else some (Err.unknown t)) = some _
        rw [if_pos ht, hi]
        rfl
      · show (if S.has t = true then (usedBy t 0 Ws).map Err.inUse else some (Err.unknown t)) = none
        rw [if_pos ht, hi]
        rfl
end
end Bt
set_option Elab.async false
set_option linter.all false
set_option maxRecDepth 100000
set_option maxHeartbeats 4000000
/-! Data of what a desk tells: its text is not too long. -/
namespace Bt
open PySem PySem.Spec PyProof.Rows L2
/-! ### two names -/
theorem names_eq : ∀ {ys : List Str}, ys.Nodup → (∀ y ∈ ys, NameOk y) → sortedS ys = true → ys = (if ("a" : Str) ∈ ys then [("a" : Str)] else []) ++ (if ("side" : Str) ∈ ys then [("side" : Str)] else [])
  | [], _, _, _ => by simp
  | [x], _, h, _ => by
    rcases h x (by simp) with e | e <;> subst e
    · have : ¬ ("side" : Str) ∈ [("a" : Str)] := by decide +kernel
      rw [if_neg this]
      simp
    · have : ¬ ("a" : Str) ∈ [("side" : Str)] := by decide +kernel
      rw [if_neg this]
      simp
  | [x, y], nd, h, s => by
    rcases h x (by simp) with e | e <;> rcases h y (by simp) with e' | e' <;> subst e <;> subst e'
    · simp at nd
    · simp
    · revert s
      decide +kernel
    · simp at nd
  | x :: y :: z :: r, nd, h, s => by
    rcases h x (by simp) with e | e <;> rcases h y (by simp) with e' | e' <;> rcases h z (by simp) with e'' | e'' <;> subst e <;> subst e' <;> subst e'' <;> simp at nd
theorem names_two : ∀ {ys : List Str}, ys.Nodup → (∀ y ∈ ys, NameOk y) → ys.length ≤ 2
  | [], _, _ => by simp
  | [x], _, _ => by simp
  | [x, y], _, _ => by simp
  | x :: y :: z :: r, nd, h => by
    rcases h x (by simp) with e | e <;> rcases h y (by simp) with e' | e' <;> rcases h z (by simp) with e'' | e'' <;> subst e <;> subst e' <;> subst e'' <;> simp at nd
theorem ShOk.two {S : Shelf} (so : ShOk S) : S.length ≤ 2 := by
  have := names_two so.nd fun y hy => by
    obtain ⟨e, he, rfl⟩ := List.mem_map.mp hy
    exact so.nm e he
  rwa [List.length_map] at this
theorem names_same {S : Shelf} (so : ShOk S) {ys zs : List Str} (h1 : ys.Perm (S.map (·.1))) (s1 : sortedS ys = true) (h2 : zs.Perm (S.map (·.1))) (s2 : sortedS zs = true) : ys = zs := by
  have ok : ∀ {ts : List Str}, ts.Perm (S.map (·.1)) → ts.Nodup ∧ ∀ y ∈ ts, NameOk y := fun h => ⟨h.nodup_iff.mpr so.nd, fun y hy => by
    obtain ⟨e, he, rfl⟩ := List.mem_map.mp (h.mem_iff.mp hy)
    exact so.nm e he⟩
  have a1 := names_eq (ok h1).1 (ok h1).2 s1
  have a2 := names_eq (ok h2).1 (ok h2).2 s2
  have m : ∀ t, t ∈ ys ↔ t ∈ zs := fun t => by rw [h1.mem_iff, h2.mem_iff]
  rw [a1, a2]
  congr 1
  · by_cases c : ("a" : Str) ∈ zs
    · rw [if_pos c, if_pos ((m _).mpr c)]
    · rw [if_neg c, if_neg (fun z => c ((m _).mp z))]
  · by_cases c : ("side" : Str) ∈ zs
    · rw [if_pos c, if_pos ((m _).mpr c)]
    · rw [if_neg c, if_neg (fun z => c ((m _).mp z))]
/-! ### how long a text is -/
theorem shownAll_map : ∀ xs : List PyData, PyData.shownAll xs = xs.map PyData.shown
  | [] => by simp only [PyData.shownAll, List.map_nil]
  | x :: xs => by simp only [PyData.shownAll, List.map_cons, shownAll_map xs]
theorem join_le : ∀ ts : List Str, (Str.join ", " ts).length ≤ piled ts
  | [] => by rw [piled_nil]; exact Nat.le_of_eq rfl
  | t :: r => by
    have := join_length_add (t :: r) (by simp)
    omega
theorem tupleText_le (ts : List Str) : (tupleText ts).length ≤ piled ts + 3 := by
  unfold tupleText
  rw [strLen_append, strLen_append]
  have h1 := join_le ts
  have e1 : (("(" : Str)).length = 1 := by decide +kernel
  have e2 : ((if ts.length == 1 then ",)" else ")" : String) : Str).length ≤ 2 := by
    split <;> decide +kernel
  omega
theorem textFrom_le : ∀ (ts : List Str) (k : Nat) (acc : Str), (textFrom k acc ts).length ≤ acc.length + piled ts
  | [], k, acc => by
    rw [piled_nil]
    exact Nat.le_refl _
  | t :: r, k, acc => by
    have h := textFrom_le r (k + 1) (acc ++ (if k > 0 then ", " else "" : String) ++ t)
    rw [strLen_append, strLen_append] at h
    have e : ((if k > 0 then ", " else "" : String) : Str).length ≤ 2 := by
      split <;> decide +kernel
    rw [piled_cons]
    show (textFrom (k + 1) (acc ++ (if k > 0 then ", " else "" : String) ++ t) r).length ≤ _
    omega
theorem listText_le (ts : List Str) : (listText ts).length ≤ piled ts + 3 := by
  unfold listText
  rw [strLen_append]
  have h := textFrom_le ts 0 "["
  have e1 : (("[" : Str)).length = 1 := by decide +kernel
  have e2 : (("]" : Str)).length = 1 := by decide +kernel
  have e3 : ((("[" : String)) : Str).length = 1 := by decide +kernel
  omega
theorem piled_map {α : Type} (f : α → PyData) (b : Nat) : ∀ (xs : List α), (∀ x ∈ xs, (f x).shown.length ≤ b) → piled ((xs.map f).map PyData.shown) ≤ xs.length * (b + 2)
  | [], _ => by simp [piled_nil]
  | x :: r, h => by
    have h1 := piled_map f b r fun y hy => h y (List.mem_cons_of_mem _ hy)
    have h2 := h x List.mem_cons_self
    rw [List.map_cons, List.map_cons, piled_cons, List.length_cons, Nat.succ_mul]
    omega
theorem tup_shown {ds : List PyData} {n : Nat} (h : piled (ds.map PyData.shown) ≤ n) : (PyData.tuple ds).shown.length ≤ n + 3 := by
  simp only [PyData.shown, shownAll_map]
  have := tupleText_le (ds.map PyData.shown)
  omega
theorem lst_shown {ds : List PyData} {n : Nat} (h : piled (ds.map PyData.shown) ≤ n) : (PyData.list ds).shown.length ≤ n + 3 := by
  simp only [PyData.shown, shownAll_map]
  have := listText_le (ds.map PyData.shown)
  omega
theorem int_shown {i : Int} (h0 : 0 ≤ i) (h1 : i ≤ 1000000) : (PyData.int i).shown.length ≤ 7 := by
  have := toString_length_le h0 (k := 7) (by decide) (by omega)
  simpa only [PyData.shown] using this
theorem name_shown {t : Str} (h : NameOk t) : (PyData.str t).shown.length ≤ 10 := by
  rcases h with e | e <;> subst e <;> simp only [PyData.shown] <;> decide +kernel
/-- showable, without dicts, not deep, not long -/
structure Fit (d : PyData) (n b : Nat) : Prop where
  sh : d.showable = true
  nd : d.hasDict = false
  dp : d.depth ≤ n
  ln : d.shown.length ≤ b
structure FitA (ds : List PyData) (n b : Nat) : Prop where
  sh : PyData.showableAll ds = true
  nd : PyData.hasDictAll ds = false
  dp : PyData.depthAll ds ≤ n
  ln : piled (ds.map PyData.shown) ≤ b
theorem FitA.nil : FitA [] 0 0 := ⟨by simp only [PyData.showableAll], by simp only [PyData.hasDictAll], by simp only [PyData.depthAll]; omega, by simp [piled_nil]⟩
theorem FitA.cons {d : PyData} {ds : List PyData} {n b n' b' : Nat} (h : Fit d n b) (r : FitA ds n' b') : FitA (d :: ds) (max n n') (b + 2 + b') := by
  refine ⟨by simp only [PyData.showableAll, h.sh, r.sh, Bool.and_self], by simp only [PyData.hasDictAll, h.nd, r.nd, Bool.or_self], ?_, ?_⟩
  · have := h.dp
    have := r.dp
    simp only [PyData.depthAll]
    omega
  · have := h.ln
    have := r.ln
    rw [List.map_cons, piled_cons]
    omega
theorem FitA.map {α : Type} {f : α → PyData} {n b : Nat} : ∀ {xs : List α}, (∀ x ∈ xs, Fit (f x) n b) → FitA (xs.map f) n (xs.length * (b + 2))
  | [], _ => by
    have := FitA.nil
    exact ⟨this.sh, this.nd, Nat.le_trans this.dp (Nat.zero_le _), Nat.le_trans this.ln (Nat.zero_le _)⟩
  | x :: r, h => by
    have h1 := FitA.map (xs := r) fun y hy => h y (List.mem_cons_of_mem _ hy)
    have h2 := FitA.cons (h x List.mem_cons_self) h1
    rw [Nat.max_self] at h2
    refine ⟨h2.sh, h2.nd, h2.dp, Nat.le_trans h2.ln ?_⟩
    rw [List.length_cons, Nat.succ_mul]
    omega
theorem Fit.tup {ds : List PyData} {n b : Nat} (h : FitA ds n b) : Fit (.tuple ds) (n + 1) (b + 3) := ⟨by simp only [PyData.showable]; exact h.sh, by simp only [PyData.hasDict]; exact h.nd, by simp only [PyData.depth]; have := h.dp; omega, tup_shown h.ln⟩
theorem Fit.lst {ds : List PyData} {n b : Nat} (h : FitA ds n b) : Fit (.list ds) (n + 1) (b + 3) := ⟨by simp only [PyData.showable]; exact h.sh, by simp only [PyData.hasDict]; exact h.nd, by simp only [PyData.depth]; have := h.dp; omega, lst_shown h.ln⟩
theorem Fit.mono {d : PyData} {n b n' b' : Nat} (h : Fit d n b) (hn : n ≤ n') (hb : b ≤ b') : Fit d n' b' := ⟨h.sh, h.nd, Nat.le_trans h.dp hn, Nat.le_trans h.ln hb⟩
theorem Fit.int {i : Int} (h0 : 0 ≤ i) (h1 : i ≤ 1000000) : Fit (.int i) 0 7 := ⟨by simp only [PyData.showable, decide_eq_true_eq]; exact log_small (by omega), by simp only [PyData.hasDict], by simp only [PyData.depth]; omega, int_shown h0 h1⟩
theorem Fit.str {t : Str} {b : Nat} (h : (PyData.str t).shown.length ≤ b) : Fit (.str t) 0 b := ⟨by simp only [PyData.showable], by simp only [PyData.hasDict], by simp only [PyData.depth]; omega, h⟩
theorem Fit.name {t : Str} (h : NameOk t) : Fit (.str t) 0 10 := .str (name_shown h)
/-- a wish as data -/
def dW : Wish → PyData
  | .within t o => .tuple [.str "within", .str t, .str o]
  | .rank t xs k => .tuple [.str "rank", .str t, .tuple (xs.map .int), .int k]
  | .kind b t xs => .tuple [.str (kindS b), .str t, .tuple (xs.map .int)]
theorem spots_fit {xs : List Int} (h : SpotsOk xs) : Fit (.tuple (xs.map .int)) 1 120 := by
  have h1 := Fit.tup (FitA.map (f := PyData.int) (n := 0) (b := 7) (xs := xs) fun x hx => .int (h.rng x hx).1 (h.rng x hx).2)
  have := h.few
  exact h1.mono (by omega) (by omega)
theorem dW_fit {c : Wish} (ok : WishOk c) : Fit (dW c) 2 400 := by
  cases c with
  | within t o =>
    have h1 := Fit.tup (.cons (Fit.str (t := "within") (b := 20) (by simp only [PyData.shown]; decide +kernel)) (.cons (.name ok.1) (.cons (.name ok.2) .nil)))
    exact h1.mono (by decide) (by decide)
  | rank t xs k =>
    have h1 := Fit.tup (.cons (Fit.str (t := "rank") (b := 20) (by simp only [PyData.shown]; decide +kernel)) (.cons (.name ok.1) (.cons (spots_fit ok.2.1) (.cons (.int ok.2.2.1 (by have := ok.2.2.2; omega)) .nil))))
    exact h1.mono (by decide) (by decide)
  | kind b t xs =>
    have h1 := Fit.tup (.cons (Fit.str (t := kindS b) (b := 20) (by simp only [PyData.shown]; cases b <;> decide +kernel)) (.cons (.name ok.1) (.cons (spots_fit ok.2) .nil)))
    exact h1.mono (by decide) (by decide)
/-- what a desk tells -/
def dTold (ys : List Str) (Ws : List Wish) (n : Nat) : PyData := .list [.tuple (ys.map .str), .tuple (Ws.map dW), .int (n : Nat)]
theorem told_fit {ys : List Str} {S : Shelf} {Ws : List Wish} {n : Nat} (h1 : ys.length ≤ 2) (h2 : ∀ y ∈ ys, NameOk y) (wo : WsOk S Ws) (l900 : Ws.length ≤ 900) (hn : n ≤ 1000) : Fit (dTold ys Ws n) 20 1000000 := by
  have a := Fit.tup (FitA.map (f := PyData.str) (n := 0) (b := 10) (xs := ys) fun y hy => .name (h2 y hy))
  have b := Fit.tup (FitA.map (f := dW) (n := 2) (b := 400) (xs := Ws) fun c hc => dW_fit (wo c hc).1)
  have c := Fit.lst (.cons a (.cons b (.cons (Fit.int (i := (n : Nat)) (by omega) (by omega)) .nil)))
  refine c.mono (by decide) ?_
  omega
/-! ### what stands in the heap is that data -/
theorem dpAll_map {K : PySem.W.Frag} {H : Hp} {α : Type} {f : α → V} {g : α → PyData} : ∀ {xs : List α}, (∀ x ∈ xs, Dp K H (f x) (g x)) → DpAll K H (xs.map f) (xs.map g)
  | [], _ => .nil
  | x :: r, h => .cons (h x List.mem_cons_self) (dpAll_map fun y hy => h y (List.mem_cons_of_mem _ hy))
theorem dp_wish {K : PySem.W.Frag} {H : Hp} {a : Addr} : ∀ {c : Wish}, WishAt H a c → Dp K H (.ref a) (dW c)
  | .within _ _, h => .tup (.of h) (.cons (.str _) (.cons (.str _) (.cons (.str _) .nil)))
  | .rank _ _ _, ⟨s, h1, h2⟩ => .tup (.of h1) (.cons (.str _) (.cons (.str _) (.cons (.tup (.of h2) (dpAll_map fun x _ => .int x)) (.cons (.int _) .nil))))
  | .kind _ _ _, ⟨s, h1, h2⟩ => .tup (.of h1) (.cons (.str _) (.cons (.str _) (.cons (.tup (.of h2) (dpAll_map fun x _ => .int x)) .nil)))
theorem dp_wishes {K : PySem.W.Frag} {H : Hp} {as : List Addr} {Ws : List Wish} (h : Paired (WishAt H) as Ws) : DpAll K H (as.map V.ref) (Ws.map dW) := by
  induction h with
  | nil => exact .nil
  | cons a _ ih => exact .cons (dp_wish a) ih
theorem dp_told {K : PySem.W.Frag} {H : Hp} {a p q : Addr} {ys : List Str} {as : List Addr} {Ws : List Wish} {n : Nat} (ha : H a = some (.lst [.ref p, .ref q, .int (n : Nat)])) (hp : H p = some (.tup (ys.map V.str))) (hq : H q = some (.tup (as.map V.ref))) (hw : Paired (WishAt H) as Ws) : Dp K H (.ref a) (dTold ys Ws n) :=
  .lst (.of ha) (.cons (.tup (.of hp) (dpAll_map fun x _ => .str x)) (.cons (.tup (.of hq) (dp_wishes hw)) (.cons (.int _) .nil)))
end Bt
set_option Elab.async false
set_option linter.all false
set_option maxRecDepth 100000
set_option maxHeartbeats 4000000
/-! The law's desk_is. -/
namespace Bt
open PySem PySem.Spec PyProof.Rows L2
def spDeskIs (K : PySem.W.Frag) : Sp := fun vs H Q _ => ∃ (k p : Addr) (l : Leaf) (L : List Leaf), vs = [.ref k, .ref p, .int (L.length : Nat)] ∧ DeskAt K H k (l :: L) ∧ LeafAt H p l ∧ ShOk l.1 ∧ WsOk l.1 l.2 ∧ l.2.length ≤ 900 ∧ L.length ≤ 1000 ∧ ∀ H', Evl.Ex H H' → Q (.bl true) H'
/-! ### all but a dict stays -/
section
variable {K : PySem.W.Frag} {H H' : Hp} {d : Addr} {kvs : List (Key × V)}
theorem off_ne (hd : H d = some (.dK kvs)) {b : Addr} {o : HO} (h : H b = some o) (n : o ≠ .dK kvs) : b ≠ d := fun z => by
  rw [z, hd] at h
  exact n (Option.some.inj h).symm
theorem frameAt_off (hd : H d = some (.dK kvs)) (x : ExBut d H H') {a : Addr} {p : Plan} (h : FrameAt K H a p) : FrameAt K H' a p := by
  obtain ⟨dx, q, t, h1, h2, o, od, h3⟩ := h
  exact ⟨dx, q, t, x _ _ (off_ne hd h1 (fun z => by cases z)) h1, x _ _ (off_ne hd h2 (fun z => by cases z)) h2, o, od, x _ _ (off_ne hd h3 (fun z => by cases z)) h3⟩
theorem planAt_off (hd : H d = some (.dK kvs)) (x : ExBut d H H') {a : Addr} {p : Plan} (h : PlanAt H a p) : PlanAt H' a p := by
  obtain ⟨t, h1, o, od, h3⟩ := h
  exact ⟨t, x _ _ (off_ne hd h1 (fun z => by cases z)) h1, o, od, x _ _ (off_ne hd h3 (fun z => by cases z)) h3⟩
theorem wishAt_off (hd : H d = some (.dK kvs)) (x : ExBut d H H') {a : Addr} : ∀ {c : Wish}, WishAt H a c → WishAt H' a c
  | .within _ _, h => x _ _ (off_ne hd h (fun z => by cases z)) h
  | .rank _ _ _, ⟨s, h1, h2⟩ => ⟨s, x _ _ (off_ne hd h1 (fun z => by cases z)) h1, x _ _ (off_ne hd h2 (fun z => by cases z)) h2⟩
  | .kind _ _ _, ⟨s, h1, h2⟩ => ⟨s, x _ _ (off_ne hd h1 (fun z => by cases z)) h1, x _ _ (off_ne hd h2 (fun z => by cases z)) h2⟩
/-- a dict of plans, not empty, is no dict of frames -/
theorem shP_off {T : ShT} (hd : H d = some (.dK T.kv)) (ne : T ≠ []) (hr : ∀ x ∈ T, PlanAt H x.2.2 x.2.1) (x : ExBut d H H') {d' : Addr} {S : Shelf} (h : ShP K H d' S) : ShP K H' d' S := by
  obtain ⟨T', hT', h1, h2⟩ := h
  refine ⟨T', hT', x _ _ (off_ne hd h1 fun z => ?_) h1, fun y hy => frameAt_off hd x (h2 y hy)⟩
  injection z with z
  cases T with
  | nil => exact ne rfl
  | cons t r =>
    have hm : ((.inr t.1, .ref t.2.2) : Key × V) ∈ T'.kv := by
      rw [z]
      simp [ShT.kv]
    obtain ⟨y, hy, e⟩ := List.mem_map.mp hm
    injection e with e1 e2
    injection e2 with e2
    obtain ⟨dx, q, tt, f1, _⟩ := h2 y hy
    obtain ⟨tp, p1, _⟩ := hr t List.mem_cons_self
    rw [e2, p1] at f1
    cases f1
theorem pageAt_off {T : ShT} (hd : H d = some (.dK T.kv)) (ne : T ≠ []) (hr : ∀ x ∈ T, PlanAt H x.2.2 x.2.1) (x : ExBut d H H') : ∀ {L : List Leaf} {a : Addr}, PageAt K H a L → PageAt K H' a L
  | t :: rest, a, ⟨e, w, prev, ⟨dx, h1⟩, h2, ⟨as, h3, h5⟩, h4⟩ => ⟨e, w, prev, ⟨dx, x _ _ (off_ne hd h1 (fun z => by cases z)) h1⟩, shP_off hd ne hr x h2, ⟨as, x _ _ (off_ne hd h3 (fun z => by cases z)) h3, paired_mono h5 fun _ _ f => wishAt_off hd x f⟩, by
    rcases h4 with h4 | ⟨b, e, h4⟩
    · exact .inl h4
    · exact .inr ⟨b, e, pageAt_off hd ne hr x h4⟩⟩
theorem deskAt_off {T : ShT} (hd : H d = some (.dK T.kv)) (ne : T ≠ []) (hr : ∀ x ∈ T, PlanAt H x.2.2 x.2.1) (x : ExBut d H H') {L : List Leaf} {k : Addr} (h : DeskAt K H k L) : DeskAt K H' k L := by
  obtain ⟨a, ⟨dk, hk⟩, h⟩ := h
  exact ⟨a, ⟨dk, x _ _ (off_ne hd hk (fun z => by cases z)) hk⟩, pageAt_off hd ne hr x h⟩
end
abbrev nDis : List Str := ["_law_desk_here", "_law_page", "_law_many_here", "_law_shelf", "_law_wishes", "_law_told", "_law_title"]
section
variable {P : Program} {w : World} {K : PySem.W.Frag} {mg : Str → Option Value} {base : Heap}
theorem scDis : FnScope nDis ["_law_desk_here", "_law_page", "_law_many_here"] (defScope st_d_law_desk_is) := ⟨rfl, rfl, rfl, by decide +kernel, rfl, by decide +kernel, by decide +kernel⟩
theorem ok_deskIs (hz : Hz w K mg) : Okg P w K mg base C8.CX0 12 (He.fAd K d_law_desk_is.at_) ["_law_desk_here", "_law_page", "_law_many_here"] (spDeskIs K) := by
  have hd := hz.toHd
  have hx := hz.toHx
  have cD := hd.cls "Desk" (by decide +kernel)
  have ms : mg "sorted" = none := hd.free _ (by decide +kernel)
  have mt : mg "tuple" = none := hd.free _ (by decide +kernel)
  have mp : mg "repr" = none := hd.free _ (by decide +kernel)
  have mF : mg "_law_framed" = some (.ref (He.fAd K d_law_framed.at_)) := hd.glo _ (by decide +kernel)
  have FR := ok_framed (P := P) (w := w) (base := base) hd
  have NM := ok_names (P := P) (w := w) (base := base) hd
  have CM := ok_claims (P := P) (w := w) (base := base) hd
  have CH := ok_changes (P := P) (w := w) (base := base) hd
  have TH := ok_thing (P := P) (base := base) hz
  have mT := hd.meth ("Desk", "thing") (by decide +kernel)
  obtain ⟨fd, F, B, _⟩ := ok_feq (P := P) (w := w) (base := base) hx
  refine okg_of hd.f_d_law_desk_is scDis (fun _ _ _ _ _ _ us hl => ?_) (fun vs H Q E h => ?_) (fun cdv A outer s H vs Q E hg hr h => ?_)
  · obtain ⟨a, b, c, rfl⟩ := us3 hl
    rfl
  · obtain ⟨k, a, _, _, rfl, _⟩ := h
    rfl
  · obtain ⟨k, p, ⟨S, Ws⟩, L, rfl, dk, ⟨d, w', hp, hs, hw⟩, so, wo, l900, L1000, kk⟩ := h
    have l900 : Ws.length ≤ 900 := l900
    have so : ShOk S := so
    have wo : WsOk S Ws := wo
    have hs : ShL H d S := hs
    have hw : WlF H w' Ws := hw
    have s2 := so.two
    have hu := hu_of hr
    have hu1 := Nat.lt_of_succ_lt hu
    have hr2 : Room 2 _ := hr.mono (by decide)
    refine ⟨_, pss_cons (ps_asg (pv 1) (pg_tup rfl (pgs_cons (pg_name (i := 3) scDis.nd rfl (.inr rfl)) (pgs_cons (pg_name (i := 4) scDis.nd rfl (.inl rfl)) pgs_nil))))
      (pss_cons (ps_set (i := 5) scDis.nd rfl (.inl rfl) (pe_lst (pa_cons (pe_propR (E := E00) cD NM hr2 C8.pass0 rfl (pv 0)) (pa_cons (pe_propR (E := E00) cD CM hr2 C8.pass0 rfl (pv 0)) (pa_cons (pe_propR (E := E00) cD CH hr2 C8.pass0 rfl (pv 0)) pa_nil)))))
      (pss_cons (ps_if (pt_cmpR op_ne (pe_callB (cr_repr hg hr.units) (by rfl) mp bo_repr (pa_cons (pv 5) pa_nil))
          (pe_callB (cr_repr hg hr.units) (by rfl) mp bo_repr (pa_cons (pe_lst (pa_cons (pe_callTy call_tuple_of (by rfl) mt bo_tuple (pa_cons (pe_callB (call_sortedD rfl) (by rfl) ms bo_sorted (pa_cons (pv 3) pa_nil)) pa_nil)) (pa_cons (pe_callTy call_tuple_of (by rfl) mt bo_tuple (pa_cons (pv 4) pa_nil)) (pa_cons (pv 2) pa_nil)))) pa_nil)) (nomark _)) (pss_one (ps_ret pe_bl)) pss_nil)
      (pss_one (ps_ret (pe_cmpR (op_eqE hu1) (pe_lock (pe_lc (own := [("_law_title", 6)]) (g := gName 6) (tt := tTest (tOp (rNeOwn (He.ga K "Frame") (spFeq K) E00) (tMeth (He.ga K "Desk") "thing" (spThing K) [] E00 (tVar 0) (tCons (tVar 6) tNil)) (tCall (spFramed K) [] E00 (tCons (tDGet (tVar 3) (tVar 6)) tNil)))) rfl scDis.nd (pi_keys (pv 3)) (blkOk_by (N := nDis) (sc := defScope st_d_law_desk_is) (by decide +kernel))
          (fun _ _ _ _ _ => pg_name (i := 6) scDis.nd rfl (Or.inl rfl)) (fun _ _ _ _ _ => pts_one (pt_cmpR (op_neOwn (E := E00) hx.eqF F hr B C8.pass0) (pe_methR (E := E00) (pv 0) cD mT (TH.run (hr.mono (by decide)) C8.pass0) (pa_cons (pv 6) pa_nil)) (pe_callR (E := E00) (FR.run (hr.mono (by decide)) C8.pass0) (by rfl) mF FR.kp (pa_cons (pe_dget hu (pv 3) (pv 6) (fun _ _ => rfl)) pa_nil)) (nomark _))) (fun _ _ _ _ _ => pv 6))) (pe_lst pa_nil) (nomark _)))))), ?_⟩
    refine i_seq ⟨_, rfl, p, _, rfl, .of hp, rfl, _, _, rfl, _, _, rfl, rfl, ?_⟩
    dsimp only
    obtain ⟨pa, ⟨dk', hk⟩, pg⟩ := id dk
    obtain ⟨T, hT, hd0, hr0⟩ := id hs
    have hT' : T.sh = S := hT
    obtain ⟨od, as, hwF, hpa⟩ := id hw
    have las : as.length = Ws.length := paired_len hpa
    refine i_seq (i_asg (i_lst (i_cons ⟨_, rfl, k, dk', _, rfl, hk, k, S, Ws, L, rfl, dk, by omega, fun np ys H1 x1 pm1 so1 en => i_cons ⟨_, rfl, k, dk', _, rfl, x1 _ _ hk, k, S, Ws, L, rfl, deskAt_ex dk x1, fun q hq => i_cons ⟨_, rfl, k, dk', _, rfl, x1 _ _ hk, k, (S, Ws), L, rfl, deskAt_ex dk x1, i_nil ⟨szl (by simp), fun tl htl => ?_⟩⟩⟩⟩)))
    obtain ⟨bs, hb1, hb2⟩ := hq
    have x2 : Evl.Ex H (upd H1 tl (.lst [.ref np, .ref q, .int (L.length : Nat)])) := x1.trans (.new htl)
    have y2 : Evl.Ex H1 (upd H1 tl (.lst [.ref np, .ref q, .int (L.length : Nat)])) := .new htl
    have d2 : Dp K (upd H1 tl (.lst [.ref np, .ref q, .int (L.length : Nat)])) (.ref tl) (dTold ys Ws L.length) := dp_told upd_same (y2 _ _ en) (y2 _ _ hb1) (paired_mono hb2 fun _ _ f => f.ex y2)
    generalize (upd H1 tl (.lst [.ref np, .ref q, .int (L.length : Nat)])) = H2 at x2 y2 d2 ⊢
    clear hb1 hb2 en y2
    have fit : Fit (dTold ys Ws L.length) 20 1000000 := told_fit (by
      have := pm1.length_eq
      rw [List.length_map] at this
      omega) (fun y hy => by
      obtain ⟨e, he, rfl⟩ := List.mem_map.mp (pm1.mem_iff.mp hy)
      exact so.nm e he) wo l900 L1000
    have fl : (dTold ys Ws L.length).shown.length ≤ sizeLine := by
      have := fit.ln
      rw [sizeLine_eq]
      omega
    dsimp only
    refine i_seq ⟨_, rfl, .ref tl, _, rfl, d2, fit.sh, fit.nd, fit.dp, fl, ?_⟩
    refine ⟨_, rfl, d, _, S.map (·.1), rfl, .of (x2 _ _ hd0), by rw [ShT.keys, hT'], by rw [List.length_map]; omega, fun zs p2 pm2 so2 hp2 => ⟨p2, _, rfl, .inl ⟨.of upd_same, fun l2 hl2 => ?_⟩⟩⟩
    have x3 := (x2.trans (.new (o := .lst (zs.map V.str)) hp2)).trans (.new (o := .tup (zs.map V.str)) hl2)
    have e3 : (upd (upd H2 p2 (.lst (zs.map V.str))) l2 (.tup (zs.map V.str))) l2 = some (.tup (zs.map V.str)) := upd_same
    generalize (upd (upd H2 p2 (.lst (zs.map V.str))) l2 (.tup (zs.map V.str))) = H3 at x3 e3 ⊢
    refine ⟨_, rfl, w', _, rfl, .inl ⟨.inl (.inr ⟨od, x3 _ _ hwF⟩), fun l3 hl3 => ⟨_, rfl, szl (by simp), fun l4 hl4 => ?_⟩⟩⟩
    have x4 := (x3.trans (.new (o := .tup (as.map V.ref)) hl3)).trans (.new (o := .lst [.ref l2, .ref l3, .int (L.length : Nat)]) hl4)
    have e4 : (upd (upd H3 l3 (.tup (as.map V.ref))) l4 (.lst [.ref l2, .ref l3, .int (L.length : Nat)])) l4 = some (.lst [.ref l2, .ref l3, .int (L.length : Nat)]) := upd_same
    have e5 : (upd (upd H3 l3 (.tup (as.map V.ref))) l4 (.lst [.ref l2, .ref l3, .int (L.length : Nat)])) l3 = some (.tup (as.map V.ref)) := by rw [upd_ne (ne_of_none upd_same hl4), upd_same]
    have e6 : (upd (upd H3 l3 (.tup (as.map V.ref))) l4 (.lst [.ref l2, .ref l3, .int (L.length : Nat)])) l2 = some (.tup (zs.map V.str)) := by rw [upd_ne (ne_of_none (by rw [upd_ne (ne_of_none e3 hl3)]; exact e3) hl4), upd_ne (ne_of_none e3 hl3)]; exact e3
    generalize (upd (upd H3 l3 (.tup (as.map V.ref))) l4 (.lst [.ref l2, .ref l3, .int (L.length : Nat)])) = H4 at x4 e4 e5 e6 ⊢
    have eyz : zs = ys := names_same so pm2 so2 pm1 so1
    subst eyz
    refine ⟨.ref l4, dTold zs Ws L.length, rfl, dp_told e4 e6 e5 (paired_mono hpa fun _ _ f => f.ex x4), fit.sh, fit.nd, fit.dp, fl, rfl, false, by simp, iteF ?_⟩
    dsimp only [tNext]
    -- [title for title in shelf if ..] == []
    have hd4 := x4 _ _ hd0
    refine i_ret (i_op ⟨d, .dK T.kv, hd4, trivial, fun odl => ?_⟩)
    have kd : (upd H4 d (.frz odl (.dK T.kv))) d = some (.frz odl (.dK T.kv)) := upd_same
    have kb : ∀ b o, b ≠ d → H b = some o → (upd H4 d (.frz odl (.dK T.kv))) b = some o := fun b o n e => by rw [upd_ne n]; exact x4 _ _ e
    have back : ∀ H2, Evl.Ex (upd H4 d (.frz odl (.dK T.kv))) H2 → Evl.Ex H4 (upd H2 d (.dK T.kv)) := fun H2 x b o e => by
      by_cases z : b = d
      · rw [z] at e ⊢
        rw [hd4] at e
        rw [upd_same]
        exact e
      · rw [upd_ne z]
        exact x b o (by rw [upd_ne z]; exact e)
    generalize (upd H4 d (.frz odl (.dK T.kv))) = HL at kd kb back ⊢
    refine ⟨_, rfl, d, odl, rfl, .inl ⟨T.kv, kd, fun D hD => ?_⟩⟩
    refine lc_it (walk_keys (d := d) (o := odl) (kvs := T.kv)) (fun n H2 => Evl.Ex HL H2 ∧ H2 D = some (.lst [])) ⟨.new hD, upd_same⟩ (fun n H2 _ h => h.1 _ _ kd) (fun n x H2 H3 hi h hy => ?_) (fun H2 h => ?_)
    · obtain ⟨x5, eD⟩ := h
      obtain ⟨rfl, key, v, ekv, rfl⟩ := hy
      have hiT : n < T.length := by simpa [ShT.kv] using hi
      obtain ⟨⟨u, pl, a⟩, hx5⟩ : ∃ x, T[n]? = some x := ⟨T[n], List.getElem?_eq_getElem hiT⟩
      have ekv2 : T.kv[n]? = some (.inr u, .ref a) := by simp [ShT.kv, hx5]
      rw [ekv2] at ekv
      cases ekv
      have neT : T ≠ [] := fun z => by rw [z] at hiT; simp at hiT
      have off : ExBut d H H3 := fun b o n e => x5 _ _ (kb b o n e)
      have hasu : S.has u = true := by
        rw [← hT', ShT.has_eq]
        exact List.any_eq_true.mpr ⟨_, List.mem_of_getElem? hx5, by simp⟩
      obtain ⟨a2, hm2, hv2⟩ := ShT.get (T := T) (t := u) (by rw [hT']; exact hasu)
      rw [hT'] at hm2
      have hk3 : H3 k = some _ := off _ _ (off_ne hd0 hk (fun z => by cases z)) hk
      refine ⟨rfl, _, rfl, k, dk', _, rfl, hk3, lk_no (by decide +kernel), _, rfl, k, u, S, Ws, L, rfl, deskAt_off hd0 neT hr0 off dk, hasu, fun f ff => ?_⟩
      refine ⟨_, rfl, _, rfl, d, _, rfl, .inl ⟨T.kv, .inr u, .inr ⟨odl, x5 _ _ kd⟩, rfl, hv2.symm⟩, a2, S.at u, rfl, planAt_off hd0 off (hr0 _ hm2), so.at hasu, fun f2 H6 x6 hf2 ff2 => ?_⟩
      have ff6 := ff.ex x6
      obtain ⟨dx, q1, t1, g1, g2⟩ := id ff6
      obtain ⟨dx2, q2, t2, h1, h2⟩ := id ff2
      exact ⟨f, f2, dx, dx2, _, _, rfl, rfl, g1, h1, f, f2, S.at u, rfl, ff6, ff2, true, rfl, false, rfl, iteF ⟨x5.trans x6, x6 _ _ eD⟩⟩
    · obtain ⟨x5, eD⟩ := h
      refine ⟨x5 _ _ kd, szl (by simp), fun el hel => ?_⟩
      have Dd : D ≠ d := fun z => by rw [z, kd] at hD; cases hD
      have eD2 : (upd H2 d (.dK T.kv)) D = some (.lst []) := by rw [upd_ne Dd]; exact eD
      refine ⟨D, el, [], [], rfl, rfl, .of (by rw [upd_ne (ne_of_none eD2 hel)]; exact eD2), .of upd_same, .inr rfl, kk _ ((x4.trans (back _ x5)).trans (.new hel))⟩
end
end Bt
set_option Elab.async false
set_option linter.all false
set_option maxRecDepth 100000
set_option maxHeartbeats 4000000
/-! The law's slip. -/
namespace Bt
open PySem PySem.Spec PyProof.Rows L2 HotX L2H
abbrev errCls : List Str := ["Broken", "InUse", "InvalidIndex", "NothingToUndo", "UnknownName"]
abbrev kitL : List (Str × Str × Bool) :=
  ([("Broken", "NotRight", false), ("Broken", "NotKnown", false), ("Broken", "NotPossible", true), ("Broken", "Broken", true), ("Broken", "InUse", false), ("Broken", "InvalidIndex", false), ("Broken", "NothingToUndo", false), ("Broken", "UnknownName", false)] : List (Str × Str × Bool)) ++
  ([("InUse", "NotRight", false), ("InUse", "NotKnown", true), ("InUse", "NotPossible", false), ("InUse", "Broken", false), ("InUse", "InUse", true), ("InUse", "InvalidIndex", false), ("InUse", "NothingToUndo", false), ("InUse", "UnknownName", false)] : List (Str × Str × Bool)) ++
  ([("InvalidIndex", "NotRight", true), ("InvalidIndex", "NotKnown", false), ("InvalidIndex", "NotPossible", false), ("InvalidIndex", "Broken", false), ("InvalidIndex", "InUse", false), ("InvalidIndex", "InvalidIndex", true), ("InvalidIndex", "NothingToUndo", false), ("InvalidIndex", "UnknownName", false)] : List (Str × Str × Bool)) ++
  ([("NothingToUndo", "NotRight", false), ("NothingToUndo", "NotKnown", true), ("NothingToUndo", "NotPossible", false), ("NothingToUndo", "Broken", false), ("NothingToUndo", "InUse", false), ("NothingToUndo", "InvalidIndex", false), ("NothingToUndo", "NothingToUndo", true), ("NothingToUndo", "UnknownName", false)] : List (Str × Str × Bool)) ++
  ([("UnknownName", "NotRight", false), ("UnknownName", "NotKnown", true), ("UnknownName", "NotPossible", false), ("UnknownName", "Broken", false), ("UnknownName", "InUse", false), ("UnknownName", "InvalidIndex", false), ("UnknownName", "NothingToUndo", false), ("UnknownName", "UnknownName", true)] : List (Str × Str × Bool))
abbrev kitBL : List (Str × String × Bool) :=
  ([("Broken", "ValueError", false), ("Broken", "LookupError", false), ("Broken", "ArithmeticError", true)] : List (Str × String × Bool)) ++
  ([("InUse", "ValueError", false), ("InUse", "LookupError", true), ("InUse", "ArithmeticError", false)] : List (Str × String × Bool)) ++
  ([("InvalidIndex", "ValueError", true), ("InvalidIndex", "LookupError", false), ("InvalidIndex", "ArithmeticError", false)] : List (Str × String × Bool)) ++
  ([("NothingToUndo", "ValueError", false), ("NothingToUndo", "LookupError", true), ("NothingToUndo", "ArithmeticError", false)] : List (Str × String × Bool)) ++
  ([("UnknownName", "ValueError", false), ("UnknownName", "LookupError", true), ("UnknownName", "ArithmeticError", false)] : List (Str × String × Bool))
/-- what else the top has left: which error is of which class -/
structure Hw (w : World) (K : PySem.W.Frag) (mg : Str → Option Value) : Prop extends Hz w K mg where
  ec : ∀ x ∈ errCls, ExcC K (He.ga K x)
  kit : ∀ q ∈ kitL, PySem.W.kitOne K (.ref (He.ga K q.1)) (.ref (He.ga K q.2.1)) = some q.2.2
  kitB : ∀ q ∈ kitBL, PySem.W.kitOne K (.ref (He.ga K q.1)) (.type q.2.1) = some q.2.2
  exm : ∀ x ∈ errCls, PySem.W.exmAny K (.ref (He.ga K x)) [.ref (He.ga K "NotRight"), .ref (He.ga K "NotKnown"), .ref (He.ga K "NotPossible")] = some true
  exmK : PySem.W.exmAny K (.type "KeyError") [.ref (He.ga K "NotRight"), .ref (He.ga K "NotKnown"), .ref (He.ga K "NotPossible")] = some false
  exmO : PySem.W.exmOne K (.type "KeyError") (.type "KeyError") = some true
/-- an error: its class, its dict, what stands in the dict -/
def ErrIs (K : PySem.W.Frag) (cls : Value) (d : Option Addr) (H : Hp) : Err → Prop
  | .unknown t => cls = .ref (He.ga K "UnknownName") ∧ ∃ dx, d = some dx ∧ H dx = some (.xd [("given", .str t)])
  | .inUse i => cls = .ref (He.ga K "InUse") ∧ ∃ dx, d = some dx ∧ H dx = some (.xd [("index", .int (i : Nat))])
  | .index i => cls = .ref (He.ga K "InvalidIndex") ∧ ∃ dx, d = some dx ∧ H dx = some (.xd [("given", .int i)])
  | .nothing => cls = .ref (He.ga K "NothingToUndo") ∧ d = none
  | .broken i v => cls = .ref (He.ga K "Broken") ∧ ∃ dx, d = some dx ∧ H dx = some (.xd [("shown", v), ("index", .int (i : Nat))])
/-- its fields are not too long to be told -/
def ErrFit (K : PySem.W.Frag) : Err → Prop
  | .unknown t => flatD (dV (.str t)) = true ∧ (dV (.str t)).showable = true ∧ (dV (.str t)).shown.length ≤ sizeLine
  | .inUse i => ((i : Nat) : Int).natAbs.log2 < 1920
  | .index i => i.natAbs.log2 < 1920
  | .nothing => True
  | .broken i v => (∀ H, Dp K H v (dV v)) ∧ (flatD (dV v) = true ∧ (dV v).showable = true ∧ (dV v).shown.length ≤ sizeLine) ∧ ((i : Nat) : Int).natAbs.log2 < 1920
def spSlip (K : PySem.W.Frag) : Addr × Obj → Sp := fun p vs H Q _ => ∃ (e : Err) (cls : Value) (d : Option Addr), vs = [.ref p.1] ∧ L2N.Zn cls d p.2 ∧ (∃ vs, p.2.data = .fields vs) ∧ ErrIs K cls d H e ∧ ErrFit K e ∧ ∀ q H', Evl.Ex H H' → H' q = some (.lst ((errL e).map V.str)) → Q (.ref q) H'
theorem i_ifE {t : TT} {ta tb : TE} {σ : L2.St} {H : Hp} {Q : VK} (h : t σ H fun b H1 => if b = true then ta σ H1 Q else tb σ H1 Q) : tIf t ta tb σ H Q := h
theorem vx_is {K : PySem.W.Frag} {D a : Addr} {d : Option Addr} {tv tc : TE} {σ : L2.St} {H : Hp} {c : V} {cv : Value} {b : Bool} (h : Vx tv σ H (.ref a)) (hc : Vx tc σ H c) (r : ∀ u, RelV c u → u = cv) (k : PySem.W.kitOne K (.ref D) cv = some b) (hd : ∀ dx, d = some dx → ∃ fs, H dx = some (.xd fs)) : Vx (tCB (rIsP K D a d) (tCons tv (tCons tc tNil))) σ H (.bl b) := fun Q q =>
  i_cb (i_cons (h _ (i_cons (hc _ (i_nil ⟨c, cv, b, rfl, r, k, hd, q⟩)))))
theorem vx_xf {te : TE} {σ : L2.St} {H : Hp} {a dx : Addr} {f : Str} {fs : List (Str × V)} {v : V} (h : Vx te σ H (.ref a)) (e : H dx = some (.xd fs)) (l : fs.lookup f = some v) : Vx (tXfP a dx f te) σ H v := fun Q q => h _ ⟨rfl, fs, v, e, l, q⟩
theorem slip_test {K : PySem.W.Frag} {σ : L2.St} {H : Hp} {l1 l2 l3 q : Addr} {bs : List Bool} (h1 : σ[1]? = some (some (.ref l1))) (h2 : σ[2]? = some (some (.ref l2))) (h3 : σ[3]? = some (some (.ref l3))) (e1 : H l1 = some (.lst (bs.map V.bl))) (e2 : H l2 = some (.lst (bs.map V.bl))) (e4 : H l3 = some (.lst [.ref q]))
    (sh : SeqAt.shaped (.list (bs.map .bool)) = true) (eq : PyData.eqv (.list (bs.map .bool)) (.list (bs.map .bool)) = true) (cnt : bs.count true = 1) :
    Fx (tAnd (tTest (tOp rEq (tCB (Evl.rLenS K) (tCons (tVar 3) tNil)) (tC (.int 1)))) (tAnd (tTest (tOp (rEqD K) (tVar 1) (tVar 2))) (tTest (tOp rEq (tBM K "list" (rBCnt K) (tVar 1) (tCons (tC (.bl true)) tNil)) (tC (.int 1)))))) σ H true := by
  have f1 : Fx (tTest (tOp rEq (tCB (Evl.rLenS K) (tCons (tVar 3) tNil)) (tC (.int 1)))) σ H true := fx_test (vx_eqI (i := 1) (j := 1) (vx_lenL (K := K) (n := 1) (vx_var h3) (.of e4) rfl) vx_c)
  have f2 : Fx (tTest (tOp (rEqD K) (tVar 1) (tVar 2))) σ H true := fun Q q' => ⟨_, h1, _, h2, _, _, .lst (.of e1) (dpAll_map (f := V.bl) (g := PyData.bool) fun b _ => .bl b), .lst (.of e2) (dpAll_map (f := V.bl) (g := PyData.bool) fun b _ => .bl b), sh, sh, true, by rw [eq], q'⟩
  have vc : Vx (tBM K "list" (rBCnt K) (tVar 1) (tCons (tC (.bl true)) tNil)) σ H (.int 1) := fun Q q' => ⟨_, h1, .inl ⟨rfl, _, .of e1⟩, i_cons (vx_c _ (i_nil ⟨l1, bs, rfl, rfl, .of e1, by rw [cnt]; exact q'⟩))⟩
  have f3 : Fx (tTest (tOp rEq (tBM K "list" (rBCnt K) (tVar 1) (tCons (tC (.bl true)) tNil)) (tC (.int 1)))) σ H true := fx_test (vx_eqI (i := 1) (j := 1) vc vx_c)
  exact fx_and (b := true) (c := true) f1 fun _ => fx_and (b := true) (c := true) f2 fun _ => f3
section
variable {P : Program} {w : World} {K : PySem.W.Frag} {mg : Str → Option Value} {base : Heap}
theorem scSlip : FnScope ["_law_e", "_law_bases", "_law_kinds", "_law_found"] ["_law_e"] (defScope st_d_law_slip) := ⟨rfl, rfl, rfl, by decide +kernel, rfl, by decide +kernel, by decide +kernel⟩
theorem ok_slip (hw : Hw w K mg) : Okh P w K mg base 1 (He.fAd K d_law_slip.at_) ["_law_e"] (spSlip K) := by
  have hd := hw.toHd
  have ms : mg "isinstance" = none := hd.free _ (by decide +kernel)
  have ml : mg "len" = none := hd.free _ (by decide +kernel)
  have mp : mg "repr" = none := hd.free _ (by decide +kernel)
  have mValueError : mg "ValueError" = none := hd.free _ (by decide +kernel)
  have mLookupError : mg "LookupError" = none := hd.free _ (by decide +kernel)
  have mArithmeticError : mg "ArithmeticError" = none := hd.free _ (by decide +kernel)
  have mNotRight : mg "NotRight" = some (.ref (He.ga K "NotRight")) := hd.glo _ (by decide +kernel)
  have mNotKnown : mg "NotKnown" = some (.ref (He.ga K "NotKnown")) := hd.glo _ (by decide +kernel)
  have mNotPossible : mg "NotPossible" = some (.ref (He.ga K "NotPossible")) := hd.glo _ (by decide +kernel)
  have mBroken : mg "Broken" = some (.ref (He.ga K "Broken")) := hd.glo _ (by decide +kernel)
  have mInUse : mg "InUse" = some (.ref (He.ga K "InUse")) := hd.glo _ (by decide +kernel)
  have mInvalidIndex : mg "InvalidIndex" = some (.ref (He.ga K "InvalidIndex")) := hd.glo _ (by decide +kernel)
  have mNothingToUndo : mg "NothingToUndo" = some (.ref (He.ga K "NothingToUndo")) := hd.glo _ (by decide +kernel)
  have mUnknownName : mg "UnknownName" = some (.ref (He.ga K "UnknownName")) := hd.glo _ (by decide +kernel)
  refine okh_of hd.f_d_law_slip scSlip (fun _ _ _ _ _ _ us hl => ?_) (fun p vs H Q E h => ?_) (fun cdv A outer s H vs Q E p hot hr h => ?_)
  · obtain ⟨a, rfl⟩ := us1 hl
    rfl
  · obtain ⟨e, cls, d, rfl, _⟩ := h
    rfl
  · obtain ⟨a, oe⟩ := p
    obtain ⟨e, cls, d, rfl, hz', hf, he, ft, k⟩ := h
    have hpm : (a, oe) ∈ (cxH C8.CX0 P w K mg base ["_law_e", "_law_bases", "_law_kinds", "_law_found"] d_law_slip.qual d_law_slip.scope (He.fAd K d_law_slip.at_) cdv A outer s H E (a, oe)).pn := List.mem_singleton.mpr rfl
    have hun : (A.deeper (envOfC d_law_slip.qual d_law_slip.scope s.heap.objs.size (He.fAd K d_law_slip.at_) cdv)).units + 64 < cLine := by
      have := hr.un
      omega
    cases e with
    | unknown t =>
      obtain ⟨hcls, dx, hdn, hxd0⟩ := he
      subst hdn
      have hxd : ∀ dx', some dx = some dx' → ∃ fs, H dx' = some (.xd fs) := fun dx' z => by cases z; exact ⟨_, hxd0⟩
      subst hcls
      have ec := hw.ec "UnknownName" (by decide +kernel)
      have hzc : Zc (.ref (He.ga K "UnknownName")) _ oe := hz'.zc
      have xc : XfC K (He.ga K "UnknownName") := ⟨ec.hg, ec.hk, ec.hs, ec.hd⟩
      have nof_given := hd.ef ("UnknownName", "given") (by decide +kernel)
      refine ⟨_, pss_cons (ps_set (i := 1) scSlip.nd rfl (.inl rfl) (pe_lst (pa_cons (pe_callB (call_isP hpm ec hzc hf) (by rfl) ms bo_isinstance (pa_cons (pv 0) (pa_cons (pe_glob (v := .ref (He.ga K "NotRight")) (by rfl) mNotRight rfl) pa_nil))) (pa_cons (pe_callB (call_isP hpm ec hzc hf) (by rfl) ms bo_isinstance (pa_cons (pv 0) (pa_cons (pe_glob (v := .ref (He.ga K "NotKnown")) (by rfl) mNotKnown rfl) pa_nil))) (pa_cons (pe_callB (call_isP hpm ec hzc hf) (by rfl) ms bo_isinstance (pa_cons (pv 0) (pa_cons (pe_glob (v := .ref (He.ga K "NotPossible")) (by rfl) mNotPossible rfl) pa_nil))) pa_nil)))))
        (pss_cons (ps_parH (i := 2) (j := 3) ⟨_, hot, hpm⟩ scSlip.nd rfl rfl (by decide) rfl rfl (pa_cons (pe_lst (pa_cons (pe_callB (call_isP hpm ec hzc hf) (by rfl) ms bo_isinstance (pa_cons (pv 0) (pa_cons (pe_bltn (v := .ty "ValueError") (by rfl) mValueError bo_ValueError rfl) pa_nil))) (pa_cons (pe_callB (call_isP hpm ec hzc hf) (by rfl) ms bo_isinstance (pa_cons (pv 0) (pa_cons (pe_bltn (v := .ty "LookupError") (by rfl) mLookupError bo_LookupError rfl) pa_nil))) (pa_cons (pe_callB (call_isP hpm ec hzc hf) (by rfl) ms bo_isinstance (pa_cons (pv 0) (pa_cons (pe_bltn (v := .ty "ArithmeticError") (by rfl) mArithmeticError bo_ArithmeticError rfl) pa_nil))) pa_nil)))) (pa_cons (pe_lst pa_nil) pa_nil)) (by rfl))
        (pss_cons (ps_if (pt_val (pe_callB (call_isP hpm ec hzc hf) (by rfl) ms bo_isinstance (pa_cons (pv 0) (pa_cons (pe_glob (v := .ref (He.ga K "Broken")) (by rfl) mBroken rfl) pa_nil)))) (pss_one ps_dead) pss_nil)
        (pss_cons (ps_if (pt_val (pe_callB (call_isP hpm ec hzc hf) (by rfl) ms bo_isinstance (pa_cons (pv 0) (pa_cons (pe_glob (v := .ref (He.ga K "InUse")) (by rfl) mInUse rfl) pa_nil)))) (pss_one ps_dead) pss_nil)
        (pss_cons (ps_if (pt_val (pe_callB (call_isP hpm ec hzc hf) (by rfl) ms bo_isinstance (pa_cons (pv 0) (pa_cons (pe_glob (v := .ref (He.ga K "InvalidIndex")) (by rfl) mInvalidIndex rfl) pa_nil)))) (pss_one ps_dead) pss_nil)
        (pss_cons (ps_if (pt_val (pe_callB (call_isP hpm ec hzc hf) (by rfl) ms bo_isinstance (pa_cons (pv 0) (pa_cons (pe_glob (v := .ref (He.ga K "NothingToUndo")) (by rfl) mNothingToUndo rfl) pa_nil)))) (pss_one ps_dead) pss_nil)
        (pss_cons (ps_if (pt_val (pe_callB (call_isP hpm ec hzc hf) (by rfl) ms bo_isinstance (pa_cons (pv 0) (pa_cons (pe_glob (v := .ref (He.ga K "UnknownName")) (by rfl) mUnknownName rfl) pa_nil)))) (pss_one (ps_expr (pe_bm PySem.F.plainAttrs_list PySem.F.slot_list_append PySem.F.type_list_append mt_append (pv 3) (pa_cons (pe_lst (pa_cons pe_str (pa_cons (pe_callB cr_reprF (by rfl) mp bo_repr (pa_cons (pe_xfP hpm xc nof_given hzc hf (pv 0)) pa_nil)) pa_nil))) pa_nil)))) pss_nil)
        (pss_one (ps_ret (pe_ifExp (pw_and (pt_cmpR op_eq (pe_callB call_len_seq (by rfl) ml bo_len (pa_cons (pv 3) pa_nil)) pe_int (nomark _)) (pw_and (pt_cmpR (op_eqD hun) (pv 1) (pv 2) (nomark _)) (pw_and1 (pt_cmpR op_eq (pe_bm PySem.F.plainAttrs_list PySem.F.slot_list_count PySem.F.type_list_count mt_bcount (pv 1) (pa_cons pe_bl pa_nil)) pe_int (nomark _))))).pt (pe_ix ix_list (pv 3) pe_int (fun _ _ => rfl)) pe_dead))))))))), ?_⟩
      refine i_seq (i_asg (i_lst (i_cons (vx_is (K := K) (vx_var rfl) (vx_c (v := .ref (He.ga K "NotRight"))) (fun u ru => ru) (hw.kit ("UnknownName", "NotRight", false) (by decide +kernel)) hxd _ (i_cons (vx_is (K := K) (vx_var rfl) (vx_c (v := .ref (He.ga K "NotKnown"))) (fun u ru => ru) (hw.kit ("UnknownName", "NotKnown", true) (by decide +kernel)) hxd _ (i_cons (vx_is (K := K) (vx_var rfl) (vx_c (v := .ref (He.ga K "NotPossible"))) (fun u ru => ru) (hw.kit ("UnknownName", "NotPossible", false) (by decide +kernel)) hxd _ (i_nil ⟨szl (by simp), fun l1 hl1 => ?_⟩)))))))))
      have x1 : Evl.Ex H (upd H l1 (.lst [.bl false, .bl true, .bl false])) := .new hl1
      have e1 : (upd H l1 (.lst [.bl false, .bl true, .bl false])) l1 = some (.lst ([false, true, false].map V.bl)) := upd_same
      generalize (upd H l1 (.lst [.bl false, .bl true, .bl false])) = H1 at x1 e1 ⊢
      have xd1 : ∀ dx', _ = some dx' → ∃ fs, H1 dx' = some (.xd fs) := fun dx' z => by
        obtain ⟨fs, e⟩ := hxd dx' z
        exact ⟨fs, x1 _ _ e⟩
      dsimp only
      refine i_seq (i_par (i_cons (i_lst (i_cons (vx_is (K := K) (vx_var rfl) (vx_c (v := .ty "ValueError")) (fun u ru => ru) (hw.kitB ("UnknownName", "ValueError", false) (by decide +kernel)) xd1 _ (i_cons (vx_is (K := K) (vx_var rfl) (vx_c (v := .ty "LookupError")) (fun u ru => ru) (hw.kitB ("UnknownName", "LookupError", true) (by decide +kernel)) xd1 _ (i_cons (vx_is (K := K) (vx_var rfl) (vx_c (v := .ty "ArithmeticError")) (fun u ru => ru) (hw.kitB ("UnknownName", "ArithmeticError", false) (by decide +kernel)) xd1 _ (i_nil ⟨szl (by simp), fun l2 hl2 => ?_⟩))))))))))
      refine i_cons (i_lst (i_nil ⟨szl (by simp), fun l3 hl3 => i_nil ⟨_, _, rfl, ?_⟩⟩))
      have x3 := (x1.trans (.new (o := .lst [.bl false, .bl true, .bl false]) hl2)).trans (.new (o := .lst []) hl3)
      have x13 := (Evl.Ex.new (o := .lst [.bl false, .bl true, .bl false]) hl2).trans (.new (o := .lst []) hl3)
      have e3 : (upd (upd H1 l2 (.lst [.bl false, .bl true, .bl false])) l3 (.lst [])) l3 = some (.lst []) := upd_same
      have e2 : (upd (upd H1 l2 (.lst [.bl false, .bl true, .bl false])) l3 (.lst [])) l2 = some (.lst ([false, true, false].map V.bl)) := by rw [upd_ne (ne_of_none upd_same hl3), upd_same]; rfl
      have e1' := x13 _ _ e1
      have hl3' : H l3 = none := Evl.fresh_back (x1.trans (.new hl2)) hl3
      generalize (upd (upd H1 l2 (.lst [.bl false, .bl true, .bl false])) l3 (.lst [])) = H3 at x3 e3 e2 e1' ⊢
      have xd3 : ∀ dx', _ = some dx' → ∃ fs, H3 dx' = some (.xd fs) := fun dx' z => by
        obtain ⟨fs, e⟩ := hxd dx' z
        exact ⟨fs, x3 _ _ e⟩
      dsimp only
      refine i_seq (if_f (fx_test (vx_is (K := K) (vx_var rfl) (vx_c (v := .ref (He.ga K "Broken"))) (fun u ru => ru) (hw.kit ("UnknownName", "Broken", false) (by decide +kernel)) xd3)) ?_)
      dsimp only [tNext]
      refine i_seq (if_f (fx_test (vx_is (K := K) (vx_var rfl) (vx_c (v := .ref (He.ga K "InUse"))) (fun u ru => ru) (hw.kit ("UnknownName", "InUse", false) (by decide +kernel)) xd3)) ?_)
      dsimp only [tNext]
      refine i_seq (if_f (fx_test (vx_is (K := K) (vx_var rfl) (vx_c (v := .ref (He.ga K "InvalidIndex"))) (fun u ru => ru) (hw.kit ("UnknownName", "InvalidIndex", false) (by decide +kernel)) xd3)) ?_)
      dsimp only [tNext]
      refine i_seq (if_f (fx_test (vx_is (K := K) (vx_var rfl) (vx_c (v := .ref (He.ga K "NothingToUndo"))) (fun u ru => ru) (hw.kit ("UnknownName", "NothingToUndo", false) (by decide +kernel)) xd3)) ?_)
      dsimp only [tNext]
      refine i_seq (if_t (fx_test (vx_is (K := K) (vx_var rfl) (vx_c (v := .ref (He.ga K "UnknownName"))) (fun u ru => ru) (hw.kit ("UnknownName", "UnknownName", true) (by decide +kernel)) xd3)) ?_)
      refine ⟨_, rfl, .inl ⟨rfl, _, .of e3⟩, i_cons (i_lst (i_cons (vx_c _ (i_cons (vx_repr (K := K) (v := .str t) (vx_xf (vx_var rfl) (x3 _ _ hxd0) lk_hd) (.str _) ft _ (i_nil ⟨szl (by simp), fun q hq => i_nil ?_⟩))))))⟩
      have q3 : l3 ≠ q := ne_of_none e3 hq
      refine ⟨l3, [], .ref q, rfl, rfl, by rw [upd_ne q3]; exact e3, szlt (by simp), ?_⟩
      have y4 : ∀ b o, b ≠ l3 → H3 b = some o → (upd (upd H3 q (.lst [V.str "UnknownName", V.str (dV (V.str t)).shown])) l3 (.lst ([] ++ [V.ref q]))) b = some o := fun b o n e => by rw [upd_ne n, upd_ne (ne_of_none e hq)]; exact e
      have e4 : (upd (upd H3 q (.lst [V.str "UnknownName", V.str (dV (V.str t)).shown])) l3 (.lst ([] ++ [V.ref q]))) l3 = some (.lst [.ref q]) := upd_same
      have e5 : (upd (upd H3 q (.lst [V.str "UnknownName", V.str (dV (V.str t)).shown])) l3 (.lst ([] ++ [V.ref q]))) q = some (.lst ((errL (.unknown t)).map V.str)) := by rw [upd_ne (Ne.symm q3), upd_same]; rfl
      have x4 : Evl.Ex H (upd (upd H3 q (.lst [V.str "UnknownName", V.str (dV (V.str t)).shown])) l3 (.lst ([] ++ [V.ref q]))) := (x3.trans (.new hq)).mut hl3'
      generalize (upd (upd H3 q (.lst [V.str "UnknownName", V.str (dV (V.str t)).shown])) l3 (.lst ([] ++ [V.ref q]))) = H4 at y4 e4 e5 x4 ⊢
      dsimp only [tNext]
      have xd4 : ∀ dx', _ = some dx' → ∃ fs, H4 dx' = some (.xd fs) := fun dx' z => by
        obtain ⟨fs, e⟩ := hxd dx' z
        exact ⟨fs, x4 _ _ e⟩
      have g1 := y4 _ _ (fun z => by rw [z, e3] at e1'; cases e1') e1'
      have g2 := y4 _ _ (fun z => by rw [z, e3] at e2; cases e2) e2
      exact i_ret (i_ifE (slip_test (K := K) (bs := [false, true, false]) rfl rfl rfl g1 g2 e4 (by decide +kernel) (by decide +kernel) (by decide) _ (iteT (vx_ixL (K := K) (vx_var rfl) vx_c e4 (at_k 0 rfl rfl) _ (k q H4 x4 e5)))))
    | inUse i =>
      obtain ⟨hcls, dx, hdn, hxd0⟩ := he
      subst hdn
      have hxd : ∀ dx', some dx = some dx' → ∃ fs, H dx' = some (.xd fs) := fun dx' z => by cases z; exact ⟨_, hxd0⟩
      subst hcls
      have ec := hw.ec "InUse" (by decide +kernel)
      have hzc : Zc (.ref (He.ga K "InUse")) _ oe := hz'.zc
      have xc : XfC K (He.ga K "InUse") := ⟨ec.hg, ec.hk, ec.hs, ec.hd⟩
      have nof_index := hd.ef ("InUse", "index") (by decide +kernel)
      refine ⟨_, pss_cons (ps_set (i := 1) scSlip.nd rfl (.inl rfl) (pe_lst (pa_cons (pe_callB (call_isP hpm ec hzc hf) (by rfl) ms bo_isinstance (pa_cons (pv 0) (pa_cons (pe_glob (v := .ref (He.ga K "NotRight")) (by rfl) mNotRight rfl) pa_nil))) (pa_cons (pe_callB (call_isP hpm ec hzc hf) (by rfl) ms bo_isinstance (pa_cons (pv 0) (pa_cons (pe_glob (v := .ref (He.ga K "NotKnown")) (by rfl) mNotKnown rfl) pa_nil))) (pa_cons (pe_callB (call_isP hpm ec hzc hf) (by rfl) ms bo_isinstance (pa_cons (pv 0) (pa_cons (pe_glob (v := .ref (He.ga K "NotPossible")) (by rfl) mNotPossible rfl) pa_nil))) pa_nil)))))
        (pss_cons (ps_parH (i := 2) (j := 3) ⟨_, hot, hpm⟩ scSlip.nd rfl rfl (by decide) rfl rfl (pa_cons (pe_lst (pa_cons (pe_callB (call_isP hpm ec hzc hf) (by rfl) ms bo_isinstance (pa_cons (pv 0) (pa_cons (pe_bltn (v := .ty "ValueError") (by rfl) mValueError bo_ValueError rfl) pa_nil))) (pa_cons (pe_callB (call_isP hpm ec hzc hf) (by rfl) ms bo_isinstance (pa_cons (pv 0) (pa_cons (pe_bltn (v := .ty "LookupError") (by rfl) mLookupError bo_LookupError rfl) pa_nil))) (pa_cons (pe_callB (call_isP hpm ec hzc hf) (by rfl) ms bo_isinstance (pa_cons (pv 0) (pa_cons (pe_bltn (v := .ty "ArithmeticError") (by rfl) mArithmeticError bo_ArithmeticError rfl) pa_nil))) pa_nil)))) (pa_cons (pe_lst pa_nil) pa_nil)) (by rfl))
        (pss_cons (ps_if (pt_val (pe_callB (call_isP hpm ec hzc hf) (by rfl) ms bo_isinstance (pa_cons (pv 0) (pa_cons (pe_glob (v := .ref (He.ga K "Broken")) (by rfl) mBroken rfl) pa_nil)))) (pss_one ps_dead) pss_nil)
        (pss_cons (ps_if (pt_val (pe_callB (call_isP hpm ec hzc hf) (by rfl) ms bo_isinstance (pa_cons (pv 0) (pa_cons (pe_glob (v := .ref (He.ga K "InUse")) (by rfl) mInUse rfl) pa_nil)))) (pss_one (ps_expr (pe_bm PySem.F.plainAttrs_list PySem.F.slot_list_append PySem.F.type_list_append mt_append (pv 3) (pa_cons (pe_lst (pa_cons pe_str (pa_cons (pe_callB cr_reprF (by rfl) mp bo_repr (pa_cons (pe_xfP hpm xc nof_index hzc hf (pv 0)) pa_nil)) pa_nil))) pa_nil)))) pss_nil)
        (pss_cons (ps_if (pt_val (pe_callB (call_isP hpm ec hzc hf) (by rfl) ms bo_isinstance (pa_cons (pv 0) (pa_cons (pe_glob (v := .ref (He.ga K "InvalidIndex")) (by rfl) mInvalidIndex rfl) pa_nil)))) (pss_one ps_dead) pss_nil)
        (pss_cons (ps_if (pt_val (pe_callB (call_isP hpm ec hzc hf) (by rfl) ms bo_isinstance (pa_cons (pv 0) (pa_cons (pe_glob (v := .ref (He.ga K "NothingToUndo")) (by rfl) mNothingToUndo rfl) pa_nil)))) (pss_one ps_dead) pss_nil)
        (pss_cons (ps_if (pt_val (pe_callB (call_isP hpm ec hzc hf) (by rfl) ms bo_isinstance (pa_cons (pv 0) (pa_cons (pe_glob (v := .ref (He.ga K "UnknownName")) (by rfl) mUnknownName rfl) pa_nil)))) (pss_one ps_dead) pss_nil)
        (pss_one (ps_ret (pe_ifExp (pw_and (pt_cmpR op_eq (pe_callB call_len_seq (by rfl) ml bo_len (pa_cons (pv 3) pa_nil)) pe_int (nomark _)) (pw_and (pt_cmpR (op_eqD hun) (pv 1) (pv 2) (nomark _)) (pw_and1 (pt_cmpR op_eq (pe_bm PySem.F.plainAttrs_list PySem.F.slot_list_count PySem.F.type_list_count mt_bcount (pv 1) (pa_cons pe_bl pa_nil)) pe_int (nomark _))))).pt (pe_ix ix_list (pv 3) pe_int (fun _ _ => rfl)) pe_dead))))))))), ?_⟩
      refine i_seq (i_asg (i_lst (i_cons (vx_is (K := K) (vx_var rfl) (vx_c (v := .ref (He.ga K "NotRight"))) (fun u ru => ru) (hw.kit ("InUse", "NotRight", false) (by decide +kernel)) hxd _ (i_cons (vx_is (K := K) (vx_var rfl) (vx_c (v := .ref (He.ga K "NotKnown"))) (fun u ru => ru) (hw.kit ("InUse", "NotKnown", true) (by decide +kernel)) hxd _ (i_cons (vx_is (K := K) (vx_var rfl) (vx_c (v := .ref (He.ga K "NotPossible"))) (fun u ru => ru) (hw.kit ("InUse", "NotPossible", false) (by decide +kernel)) hxd _ (i_nil ⟨szl (by simp), fun l1 hl1 => ?_⟩)))))))))
      have x1 : Evl.Ex H (upd H l1 (.lst [.bl false, .bl true, .bl false])) := .new hl1
      have e1 : (upd H l1 (.lst [.bl false, .bl true, .bl false])) l1 = some (.lst ([false, true, false].map V.bl)) := upd_same
      generalize (upd H l1 (.lst [.bl false, .bl true, .bl false])) = H1 at x1 e1 ⊢
      have xd1 : ∀ dx', _ = some dx' → ∃ fs, H1 dx' = some (.xd fs) := fun dx' z => by
        obtain ⟨fs, e⟩ := hxd dx' z
        exact ⟨fs, x1 _ _ e⟩
      dsimp only
      refine i_seq (i_par (i_cons (i_lst (i_cons (vx_is (K := K) (vx_var rfl) (vx_c (v := .ty "ValueError")) (fun u ru => ru) (hw.kitB ("InUse", "ValueError", false) (by decide +kernel)) xd1 _ (i_cons (vx_is (K := K) (vx_var rfl) (vx_c (v := .ty "LookupError")) (fun u ru => ru) (hw.kitB ("InUse", "LookupError", true) (by decide +kernel)) xd1 _ (i_cons (vx_is (K := K) (vx_var rfl) (vx_c (v := .ty "ArithmeticError")) (fun u ru => ru) (hw.kitB ("InUse", "ArithmeticError", false) (by decide +kernel)) xd1 _ (i_nil ⟨szl (by simp), fun l2 hl2 => ?_⟩))))))))))
      refine i_cons (i_lst (i_nil ⟨szl (by simp), fun l3 hl3 => i_nil ⟨_, _, rfl, ?_⟩⟩))
      have x3 := (x1.trans (.new (o := .lst [.bl false, .bl true, .bl false]) hl2)).trans (.new (o := .lst []) hl3)
      have x13 := (Evl.Ex.new (o := .lst [.bl false, .bl true, .bl false]) hl2).trans (.new (o := .lst []) hl3)
      have e3 : (upd (upd H1 l2 (.lst [.bl false, .bl true, .bl false])) l3 (.lst [])) l3 = some (.lst []) := upd_same
      have e2 : (upd (upd H1 l2 (.lst [.bl false, .bl true, .bl false])) l3 (.lst [])) l2 = some (.lst ([false, true, false].map V.bl)) := by rw [upd_ne (ne_of_none upd_same hl3), upd_same]; rfl
      have e1' := x13 _ _ e1
      have hl3' : H l3 = none := Evl.fresh_back (x1.trans (.new hl2)) hl3
      generalize (upd (upd H1 l2 (.lst [.bl false, .bl true, .bl false])) l3 (.lst [])) = H3 at x3 e3 e2 e1' ⊢
      have xd3 : ∀ dx', _ = some dx' → ∃ fs, H3 dx' = some (.xd fs) := fun dx' z => by
        obtain ⟨fs, e⟩ := hxd dx' z
        exact ⟨fs, x3 _ _ e⟩
      dsimp only
      refine i_seq (if_f (fx_test (vx_is (K := K) (vx_var rfl) (vx_c (v := .ref (He.ga K "Broken"))) (fun u ru => ru) (hw.kit ("InUse", "Broken", false) (by decide +kernel)) xd3)) ?_)
      dsimp only [tNext]
      refine i_seq (if_t (fx_test (vx_is (K := K) (vx_var rfl) (vx_c (v := .ref (He.ga K "InUse"))) (fun u ru => ru) (hw.kit ("InUse", "InUse", true) (by decide +kernel)) xd3)) ?_)
      refine ⟨_, rfl, .inl ⟨rfl, _, .of e3⟩, i_cons (i_lst (i_cons (vx_c _ (i_cons (vx_repr (K := K) (v := .int _) (vx_xf (vx_var rfl) (x3 _ _ hxd0) lk_hd) (.int _) (int_fit ft) _ (i_nil ⟨szl (by simp), fun q hq => i_nil ?_⟩))))))⟩
      have q3 : l3 ≠ q := ne_of_none e3 hq
      refine ⟨l3, [], .ref q, rfl, rfl, by rw [upd_ne q3]; exact e3, szlt (by simp), ?_⟩
      have y4 : ∀ b o, b ≠ l3 → H3 b = some o → (upd (upd H3 q (.lst [V.str "InUse", V.str (dV (V.int (i : Nat))).shown])) l3 (.lst ([] ++ [V.ref q]))) b = some o := fun b o n e => by rw [upd_ne n, upd_ne (ne_of_none e hq)]; exact e
      have e4 : (upd (upd H3 q (.lst [V.str "InUse", V.str (dV (V.int (i : Nat))).shown])) l3 (.lst ([] ++ [V.ref q]))) l3 = some (.lst [.ref q]) := upd_same
      have e5 : (upd (upd H3 q (.lst [V.str "InUse", V.str (dV (V.int (i : Nat))).shown])) l3 (.lst ([] ++ [V.ref q]))) q = some (.lst ((errL (.inUse i)).map V.str)) := by rw [upd_ne (Ne.symm q3), upd_same]; rfl
      have x4 : Evl.Ex H (upd (upd H3 q (.lst [V.str "InUse", V.str (dV (V.int (i : Nat))).shown])) l3 (.lst ([] ++ [V.ref q]))) := (x3.trans (.new hq)).mut hl3'
      generalize (upd (upd H3 q (.lst [V.str "InUse", V.str (dV (V.int (i : Nat))).shown])) l3 (.lst ([] ++ [V.ref q]))) = H4 at y4 e4 e5 x4 ⊢
      dsimp only [tNext]
      have xd4 : ∀ dx', _ = some dx' → ∃ fs, H4 dx' = some (.xd fs) := fun dx' z => by
        obtain ⟨fs, e⟩ := hxd dx' z
        exact ⟨fs, x4 _ _ e⟩
      refine i_seq (if_f (fx_test (vx_is (K := K) (vx_var rfl) (vx_c (v := .ref (He.ga K "InvalidIndex"))) (fun u ru => ru) (hw.kit ("InUse", "InvalidIndex", false) (by decide +kernel)) xd4)) ?_)
      dsimp only [tNext]
      refine i_seq (if_f (fx_test (vx_is (K := K) (vx_var rfl) (vx_c (v := .ref (He.ga K "NothingToUndo"))) (fun u ru => ru) (hw.kit ("InUse", "NothingToUndo", false) (by decide +kernel)) xd4)) ?_)
      dsimp only [tNext]
      refine i_seq (if_f (fx_test (vx_is (K := K) (vx_var rfl) (vx_c (v := .ref (He.ga K "UnknownName"))) (fun u ru => ru) (hw.kit ("InUse", "UnknownName", false) (by decide +kernel)) xd4)) ?_)
      dsimp only [tNext]
      have g1 := y4 _ _ (fun z => by rw [z, e3] at e1'; cases e1') e1'
      have g2 := y4 _ _ (fun z => by rw [z, e3] at e2; cases e2) e2
      exact i_ret (i_ifE (slip_test (K := K) (bs := [false, true, false]) rfl rfl rfl g1 g2 e4 (by decide +kernel) (by decide +kernel) (by decide) _ (iteT (vx_ixL (K := K) (vx_var rfl) vx_c e4 (at_k 0 rfl rfl) _ (k q H4 x4 e5)))))
    | index i =>
      obtain ⟨hcls, dx, hdn, hxd0⟩ := he
      subst hdn
      have hxd : ∀ dx', some dx = some dx' → ∃ fs, H dx' = some (.xd fs) := fun dx' z => by cases z; exact ⟨_, hxd0⟩
      subst hcls
      have ec := hw.ec "InvalidIndex" (by decide +kernel)
      have hzc : Zc (.ref (He.ga K "InvalidIndex")) _ oe := hz'.zc
      have xc : XfC K (He.ga K "InvalidIndex") := ⟨ec.hg, ec.hk, ec.hs, ec.hd⟩
      have nof_given := hd.ef ("InvalidIndex", "given") (by decide +kernel)
      refine ⟨_, pss_cons (ps_set (i := 1) scSlip.nd rfl (.inl rfl) (pe_lst (pa_cons (pe_callB (call_isP hpm ec hzc hf) (by rfl) ms bo_isinstance (pa_cons (pv 0) (pa_cons (pe_glob (v := .ref (He.ga K "NotRight")) (by rfl) mNotRight rfl) pa_nil))) (pa_cons (pe_callB (call_isP hpm ec hzc hf) (by rfl) ms bo_isinstance (pa_cons (pv 0) (pa_cons (pe_glob (v := .ref (He.ga K "NotKnown")) (by rfl) mNotKnown rfl) pa_nil))) (pa_cons (pe_callB (call_isP hpm ec hzc hf) (by rfl) ms bo_isinstance (pa_cons (pv 0) (pa_cons (pe_glob (v := .ref (He.ga K "NotPossible")) (by rfl) mNotPossible rfl) pa_nil))) pa_nil)))))
        (pss_cons (ps_parH (i := 2) (j := 3) ⟨_, hot, hpm⟩ scSlip.nd rfl rfl (by decide) rfl rfl (pa_cons (pe_lst (pa_cons (pe_callB (call_isP hpm ec hzc hf) (by rfl) ms bo_isinstance (pa_cons (pv 0) (pa_cons (pe_bltn (v := .ty "ValueError") (by rfl) mValueError bo_ValueError rfl) pa_nil))) (pa_cons (pe_callB (call_isP hpm ec hzc hf) (by rfl) ms bo_isinstance (pa_cons (pv 0) (pa_cons (pe_bltn (v := .ty "LookupError") (by rfl) mLookupError bo_LookupError rfl) pa_nil))) (pa_cons (pe_callB (call_isP hpm ec hzc hf) (by rfl) ms bo_isinstance (pa_cons (pv 0) (pa_cons (pe_bltn (v := .ty "ArithmeticError") (by rfl) mArithmeticError bo_ArithmeticError rfl) pa_nil))) pa_nil)))) (pa_cons (pe_lst pa_nil) pa_nil)) (by rfl))
        (pss_cons (ps_if (pt_val (pe_callB (call_isP hpm ec hzc hf) (by rfl) ms bo_isinstance (pa_cons (pv 0) (pa_cons (pe_glob (v := .ref (He.ga K "Broken")) (by rfl) mBroken rfl) pa_nil)))) (pss_one ps_dead) pss_nil)
        (pss_cons (ps_if (pt_val (pe_callB (call_isP hpm ec hzc hf) (by rfl) ms bo_isinstance (pa_cons (pv 0) (pa_cons (pe_glob (v := .ref (He.ga K "InUse")) (by rfl) mInUse rfl) pa_nil)))) (pss_one ps_dead) pss_nil)
        (pss_cons (ps_if (pt_val (pe_callB (call_isP hpm ec hzc hf) (by rfl) ms bo_isinstance (pa_cons (pv 0) (pa_cons (pe_glob (v := .ref (He.ga K "InvalidIndex")) (by rfl) mInvalidIndex rfl) pa_nil)))) (pss_one (ps_expr (pe_bm PySem.F.plainAttrs_list PySem.F.slot_list_append PySem.F.type_list_append mt_append (pv 3) (pa_cons (pe_lst (pa_cons pe_str (pa_cons (pe_callB cr_reprF (by rfl) mp bo_repr (pa_cons (pe_xfP hpm xc nof_given hzc hf (pv 0)) pa_nil)) pa_nil))) pa_nil)))) pss_nil)
        (pss_cons (ps_if (pt_val (pe_callB (call_isP hpm ec hzc hf) (by rfl) ms bo_isinstance (pa_cons (pv 0) (pa_cons (pe_glob (v := .ref (He.ga K "NothingToUndo")) (by rfl) mNothingToUndo rfl) pa_nil)))) (pss_one ps_dead) pss_nil)
        (pss_cons (ps_if (pt_val (pe_callB (call_isP hpm ec hzc hf) (by rfl) ms bo_isinstance (pa_cons (pv 0) (pa_cons (pe_glob (v := .ref (He.ga K "UnknownName")) (by rfl) mUnknownName rfl) pa_nil)))) (pss_one ps_dead) pss_nil)
        (pss_one (ps_ret (pe_ifExp (pw_and (pt_cmpR op_eq (pe_callB call_len_seq (by rfl) ml bo_len (pa_cons (pv 3) pa_nil)) pe_int (nomark _)) (pw_and (pt_cmpR (op_eqD hun) (pv 1) (pv 2) (nomark _)) (pw_and1 (pt_cmpR op_eq (pe_bm PySem.F.plainAttrs_list PySem.F.slot_list_count PySem.F.type_list_count mt_bcount (pv 1) (pa_cons pe_bl pa_nil)) pe_int (nomark _))))).pt (pe_ix ix_list (pv 3) pe_int (fun _ _ => rfl)) pe_dead))))))))), ?_⟩
      refine i_seq (i_asg (i_lst (i_cons (vx_is (K := K) (vx_var rfl) (vx_c (v := .ref (He.ga K "NotRight"))) (fun u ru => ru) (hw.kit ("InvalidIndex", "NotRight", true) (by decide +kernel)) hxd _ (i_cons (vx_is (K := K) (vx_var rfl) (vx_c (v := .ref (He.ga K "NotKnown"))) (fun u ru => ru) (hw.kit ("InvalidIndex", "NotKnown", false) (by decide +kernel)) hxd _ (i_cons (vx_is (K := K) (vx_var rfl) (vx_c (v := .ref (He.ga K "NotPossible"))) (fun u ru => ru) (hw.kit ("InvalidIndex", "NotPossible", false) (by decide +kernel)) hxd _ (i_nil ⟨szl (by simp), fun l1 hl1 => ?_⟩)))))))))
      have x1 : Evl.Ex H (upd H l1 (.lst [.bl true, .bl false, .bl false])) := .new hl1
      have e1 : (upd H l1 (.lst [.bl true, .bl false, .bl false])) l1 = some (.lst ([true, false, false].map V.bl)) := upd_same
      generalize (upd H l1 (.lst [.bl true, .bl false, .bl false])) = H1 at x1 e1 ⊢
      have xd1 : ∀ dx', _ = some dx' → ∃ fs, H1 dx' = some (.xd fs) := fun dx' z => by
        obtain ⟨fs, e⟩ := hxd dx' z
        exact ⟨fs, x1 _ _ e⟩
      dsimp only
      refine i_seq (i_par (i_cons (i_lst (i_cons (vx_is (K := K) (vx_var rfl) (vx_c (v := .ty "ValueError")) (fun u ru => ru) (hw.kitB ("InvalidIndex", "ValueError", true) (by decide +kernel)) xd1 _ (i_cons (vx_is (K := K) (vx_var rfl) (vx_c (v := .ty "LookupError")) (fun u ru => ru) (hw.kitB ("InvalidIndex", "LookupError", false) (by decide +kernel)) xd1 _ (i_cons (vx_is (K := K) (vx_var rfl) (vx_c (v := .ty "ArithmeticError")) (fun u ru => ru) (hw.kitB ("InvalidIndex", "ArithmeticError", false) (by decide +kernel)) xd1 _ (i_nil ⟨szl (by simp), fun l2 hl2 => ?_⟩))))))))))
      refine i_cons (i_lst (i_nil ⟨szl (by simp), fun l3 hl3 => i_nil ⟨_, _, rfl, ?_⟩⟩))
      have x3 := (x1.trans (.new (o := .lst [.bl true, .bl false, .bl false]) hl2)).trans (.new (o := .lst []) hl3)
      have x13 := (Evl.Ex.new (o := .lst [.bl true, .bl false, .bl false]) hl2).trans (.new (o := .lst []) hl3)
      have e3 : (upd (upd H1 l2 (.lst [.bl true, .bl false, .bl false])) l3 (.lst [])) l3 = some (.lst []) := upd_same
      have e2 : (upd (upd H1 l2 (.lst [.bl true, .bl false, .bl false])) l3 (.lst [])) l2 = some (.lst ([true, false, false].map V.bl)) := by rw [upd_ne (ne_of_none upd_same hl3), upd_same]; rfl
      have e1' := x13 _ _ e1
      have hl3' : H l3 = none := Evl.fresh_back (x1.trans (.new hl2)) hl3
      generalize (upd (upd H1 l2 (.lst [.bl true, .bl false, .bl false])) l3 (.lst [])) = H3 at x3 e3 e2 e1' ⊢
      have xd3 : ∀ dx', _ = some dx' → ∃ fs, H3 dx' = some (.xd fs) := fun dx' z => by
        obtain ⟨fs, e⟩ := hxd dx' z
        exact ⟨fs, x3 _ _ e⟩
      dsimp only
      refine i_seq (if_f (fx_test (vx_is (K := K) (vx_var rfl) (vx_c (v := .ref (He.ga K "Broken"))) (fun u ru => ru) (hw.kit ("InvalidIndex", "Broken", false) (by decide +kernel)) xd3)) ?_)
      dsimp only [tNext]
      refine i_seq (if_f (fx_test (vx_is (K := K) (vx_var rfl) (vx_c (v := .ref (He.ga K "InUse"))) (fun u ru => ru) (hw.kit ("InvalidIndex", "InUse", false) (by decide +kernel)) xd3)) ?_)
      dsimp only [tNext]
      refine i_seq (if_t (fx_test (vx_is (K := K) (vx_var rfl) (vx_c (v := .ref (He.ga K "InvalidIndex"))) (fun u ru => ru) (hw.kit ("InvalidIndex", "InvalidIndex", true) (by decide +kernel)) xd3)) ?_)
      refine ⟨_, rfl, .inl ⟨rfl, _, .of e3⟩, i_cons (i_lst (i_cons (vx_c _ (i_cons (vx_repr (K := K) (v := .int _) (vx_xf (vx_var rfl) (x3 _ _ hxd0) lk_hd) (.int _) (int_fit ft) _ (i_nil ⟨szl (by simp), fun q hq => i_nil ?_⟩))))))⟩
      have q3 : l3 ≠ q := ne_of_none e3 hq
      refine ⟨l3, [], .ref q, rfl, rfl, by rw [upd_ne q3]; exact e3, szlt (by simp), ?_⟩
      have y4 : ∀ b o, b ≠ l3 → H3 b = some o → (upd (upd H3 q (.lst [V.str "InvalidIndex", V.str (dV (V.int i)).shown])) l3 (.lst ([] ++ [V.ref q]))) b = some o := fun b o n e => by rw [upd_ne n, upd_ne (ne_of_none e hq)]; exact e
      have e4 : (upd (upd H3 q (.lst [V.str "InvalidIndex", V.str (dV (V.int i)).shown])) l3 (.lst ([] ++ [V.ref q]))) l3 = some (.lst [.ref q]) := upd_same
      have e5 : (upd (upd H3 q (.lst [V.str "InvalidIndex", V.str (dV (V.int i)).shown])) l3 (.lst ([] ++ [V.ref q]))) q = some (.lst ((errL (.index i)).map V.str)) := by rw [upd_ne (Ne.symm q3), upd_same]; rfl
      have x4 : Evl.Ex H (upd (upd H3 q (.lst [V.str "InvalidIndex", V.str (dV (V.int i)).shown])) l3 (.lst ([] ++ [V.ref q]))) := (x3.trans (.new hq)).mut hl3'
      generalize (upd (upd H3 q (.lst [V.str "InvalidIndex", V.str (dV (V.int i)).shown])) l3 (.lst ([] ++ [V.ref q]))) = H4 at y4 e4 e5 x4 ⊢
      dsimp only [tNext]
      have xd4 : ∀ dx', _ = some dx' → ∃ fs, H4 dx' = some (.xd fs) := fun dx' z => by
        obtain ⟨fs, e⟩ := hxd dx' z
        exact ⟨fs, x4 _ _ e⟩
      refine i_seq (if_f (fx_test (vx_is (K := K) (vx_var rfl) (vx_c (v := .ref (He.ga K "NothingToUndo"))) (fun u ru => ru) (hw.kit ("InvalidIndex", "NothingToUndo", false) (by decide +kernel)) xd4)) ?_)
      dsimp only [tNext]
      refine i_seq (if_f (fx_test (vx_is (K := K) (vx_var rfl) (vx_c (v := .ref (He.ga K "UnknownName"))) (fun u ru => ru) (hw.kit ("InvalidIndex", "UnknownName", false) (by decide +kernel)) xd4)) ?_)
      dsimp only [tNext]
      have g1 := y4 _ _ (fun z => by rw [z, e3] at e1'; cases e1') e1'
      have g2 := y4 _ _ (fun z => by rw [z, e3] at e2; cases e2) e2
      exact i_ret (i_ifE (slip_test (K := K) (bs := [true, false, false]) rfl rfl rfl g1 g2 e4 (by decide +kernel) (by decide +kernel) (by decide) _ (iteT (vx_ixL (K := K) (vx_var rfl) vx_c e4 (at_k 0 rfl rfl) _ (k q H4 x4 e5)))))
    | nothing =>
      obtain ⟨hcls, hdn⟩ := he
      subst hdn
      have hxd : ∀ dx, (none : Option Addr) = some dx → ∃ fs, H dx = some (.xd fs) := fun dx z => nomatch z
      subst hcls
      have ec := hw.ec "NothingToUndo" (by decide +kernel)
      have hzc : Zc (.ref (He.ga K "NothingToUndo")) _ oe := hz'.zc
      refine ⟨_, pss_cons (ps_set (i := 1) scSlip.nd rfl (.inl rfl) (pe_lst (pa_cons (pe_callB (call_isP hpm ec hzc hf) (by rfl) ms bo_isinstance (pa_cons (pv 0) (pa_cons (pe_glob (v := .ref (He.ga K "NotRight")) (by rfl) mNotRight rfl) pa_nil))) (pa_cons (pe_callB (call_isP hpm ec hzc hf) (by rfl) ms bo_isinstance (pa_cons (pv 0) (pa_cons (pe_glob (v := .ref (He.ga K "NotKnown")) (by rfl) mNotKnown rfl) pa_nil))) (pa_cons (pe_callB (call_isP hpm ec hzc hf) (by rfl) ms bo_isinstance (pa_cons (pv 0) (pa_cons (pe_glob (v := .ref (He.ga K "NotPossible")) (by rfl) mNotPossible rfl) pa_nil))) pa_nil)))))
        (pss_cons (ps_parH (i := 2) (j := 3) ⟨_, hot, hpm⟩ scSlip.nd rfl rfl (by decide) rfl rfl (pa_cons (pe_lst (pa_cons (pe_callB (call_isP hpm ec hzc hf) (by rfl) ms bo_isinstance (pa_cons (pv 0) (pa_cons (pe_bltn (v := .ty "ValueError") (by rfl) mValueError bo_ValueError rfl) pa_nil))) (pa_cons (pe_callB (call_isP hpm ec hzc hf) (by rfl) ms bo_isinstance (pa_cons (pv 0) (pa_cons (pe_bltn (v := .ty "LookupError") (by rfl) mLookupError bo_LookupError rfl) pa_nil))) (pa_cons (pe_callB (call_isP hpm ec hzc hf) (by rfl) ms bo_isinstance (pa_cons (pv 0) (pa_cons (pe_bltn (v := .ty "ArithmeticError") (by rfl) mArithmeticError bo_ArithmeticError rfl) pa_nil))) pa_nil)))) (pa_cons (pe_lst pa_nil) pa_nil)) (by rfl))
        (pss_cons (ps_if (pt_val (pe_callB (call_isP hpm ec hzc hf) (by rfl) ms bo_isinstance (pa_cons (pv 0) (pa_cons (pe_glob (v := .ref (He.ga K "Broken")) (by rfl) mBroken rfl) pa_nil)))) (pss_one ps_dead) pss_nil)
        (pss_cons (ps_if (pt_val (pe_callB (call_isP hpm ec hzc hf) (by rfl) ms bo_isinstance (pa_cons (pv 0) (pa_cons (pe_glob (v := .ref (He.ga K "InUse")) (by rfl) mInUse rfl) pa_nil)))) (pss_one ps_dead) pss_nil)
        (pss_cons (ps_if (pt_val (pe_callB (call_isP hpm ec hzc hf) (by rfl) ms bo_isinstance (pa_cons (pv 0) (pa_cons (pe_glob (v := .ref (He.ga K "InvalidIndex")) (by rfl) mInvalidIndex rfl) pa_nil)))) (pss_one ps_dead) pss_nil)
        (pss_cons (ps_if (pt_val (pe_callB (call_isP hpm ec hzc hf) (by rfl) ms bo_isinstance (pa_cons (pv 0) (pa_cons (pe_glob (v := .ref (He.ga K "NothingToUndo")) (by rfl) mNothingToUndo rfl) pa_nil)))) (pss_one (ps_expr (pe_bm PySem.F.plainAttrs_list PySem.F.slot_list_append PySem.F.type_list_append mt_append (pv 3) (pa_cons (pe_lst (pa_cons pe_str pa_nil)) pa_nil)))) pss_nil)
        (pss_cons (ps_if (pt_val (pe_callB (call_isP hpm ec hzc hf) (by rfl) ms bo_isinstance (pa_cons (pv 0) (pa_cons (pe_glob (v := .ref (He.ga K "UnknownName")) (by rfl) mUnknownName rfl) pa_nil)))) (pss_one ps_dead) pss_nil)
        (pss_one (ps_ret (pe_ifExp (pw_and (pt_cmpR op_eq (pe_callB call_len_seq (by rfl) ml bo_len (pa_cons (pv 3) pa_nil)) pe_int (nomark _)) (pw_and (pt_cmpR (op_eqD hun) (pv 1) (pv 2) (nomark _)) (pw_and1 (pt_cmpR op_eq (pe_bm PySem.F.plainAttrs_list PySem.F.slot_list_count PySem.F.type_list_count mt_bcount (pv 1) (pa_cons pe_bl pa_nil)) pe_int (nomark _))))).pt (pe_ix ix_list (pv 3) pe_int (fun _ _ => rfl)) pe_dead))))))))), ?_⟩
      refine i_seq (i_asg (i_lst (i_cons (vx_is (K := K) (vx_var rfl) (vx_c (v := .ref (He.ga K "NotRight"))) (fun u ru => ru) (hw.kit ("NothingToUndo", "NotRight", false) (by decide +kernel)) hxd _ (i_cons (vx_is (K := K) (vx_var rfl) (vx_c (v := .ref (He.ga K "NotKnown"))) (fun u ru => ru) (hw.kit ("NothingToUndo", "NotKnown", true) (by decide +kernel)) hxd _ (i_cons (vx_is (K := K) (vx_var rfl) (vx_c (v := .ref (He.ga K "NotPossible"))) (fun u ru => ru) (hw.kit ("NothingToUndo", "NotPossible", false) (by decide +kernel)) hxd _ (i_nil ⟨szl (by simp), fun l1 hl1 => ?_⟩)))))))))
      have x1 : Evl.Ex H (upd H l1 (.lst [.bl false, .bl true, .bl false])) := .new hl1
      have e1 : (upd H l1 (.lst [.bl false, .bl true, .bl false])) l1 = some (.lst ([false, true, false].map V.bl)) := upd_same
      generalize (upd H l1 (.lst [.bl false, .bl true, .bl false])) = H1 at x1 e1 ⊢
      have xd1 : ∀ dx', _ = some dx' → ∃ fs, H1 dx' = some (.xd fs) := fun dx' z => by
        obtain ⟨fs, e⟩ := hxd dx' z
        exact ⟨fs, x1 _ _ e⟩
      dsimp only
      refine i_seq (i_par (i_cons (i_lst (i_cons (vx_is (K := K) (vx_var rfl) (vx_c (v := .ty "ValueError")) (fun u ru => ru) (hw.kitB ("NothingToUndo", "ValueError", false) (by decide +kernel)) xd1 _ (i_cons (vx_is (K := K) (vx_var rfl) (vx_c (v := .ty "LookupError")) (fun u ru => ru) (hw.kitB ("NothingToUndo", "LookupError", true) (by decide +kernel)) xd1 _ (i_cons (vx_is (K := K) (vx_var rfl) (vx_c (v := .ty "ArithmeticError")) (fun u ru => ru) (hw.kitB ("NothingToUndo", "ArithmeticError", false) (by decide +kernel)) xd1 _ (i_nil ⟨szl (by simp), fun l2 hl2 => ?_⟩))))))))))
      refine i_cons (i_lst (i_nil ⟨szl (by simp), fun l3 hl3 => i_nil ⟨_, _, rfl, ?_⟩⟩))
      have x3 := (x1.trans (.new (o := .lst [.bl false, .bl true, .bl false]) hl2)).trans (.new (o := .lst []) hl3)
      have x13 := (Evl.Ex.new (o := .lst [.bl false, .bl true, .bl false]) hl2).trans (.new (o := .lst []) hl3)
      have e3 : (upd (upd H1 l2 (.lst [.bl false, .bl true, .bl false])) l3 (.lst [])) l3 = some (.lst []) := upd_same
      have e2 : (upd (upd H1 l2 (.lst [.bl false, .bl true, .bl false])) l3 (.lst [])) l2 = some (.lst ([false, true, false].map V.bl)) := by rw [upd_ne (ne_of_none upd_same hl3), upd_same]; rfl
      have e1' := x13 _ _ e1
      have hl3' : H l3 = none := Evl.fresh_back (x1.trans (.new hl2)) hl3
      generalize (upd (upd H1 l2 (.lst [.bl false, .bl true, .bl false])) l3 (.lst [])) = H3 at x3 e3 e2 e1' ⊢
      have xd3 : ∀ dx', _ = some dx' → ∃ fs, H3 dx' = some (.xd fs) := fun dx' z => by
        obtain ⟨fs, e⟩ := hxd dx' z
        exact ⟨fs, x3 _ _ e⟩
      dsimp only
      refine i_seq (if_f (fx_test (vx_is (K := K) (vx_var rfl) (vx_c (v := .ref (He.ga K "Broken"))) (fun u ru => ru) (hw.kit ("NothingToUndo", "Broken", false) (by decide +kernel)) xd3)) ?_)
      dsimp only [tNext]
      refine i_seq (if_f (fx_test (vx_is (K := K) (vx_var rfl) (vx_c (v := .ref (He.ga K "InUse"))) (fun u ru => ru) (hw.kit ("NothingToUndo", "InUse", false) (by decide +kernel)) xd3)) ?_)
      dsimp only [tNext]
      refine i_seq (if_f (fx_test (vx_is (K := K) (vx_var rfl) (vx_c (v := .ref (He.ga K "InvalidIndex"))) (fun u ru => ru) (hw.kit ("NothingToUndo", "InvalidIndex", false) (by decide +kernel)) xd3)) ?_)
      dsimp only [tNext]
      refine i_seq (if_t (fx_test (vx_is (K := K) (vx_var rfl) (vx_c (v := .ref (He.ga K "NothingToUndo"))) (fun u ru => ru) (hw.kit ("NothingToUndo", "NothingToUndo", true) (by decide +kernel)) xd3)) ?_)
      refine ⟨_, rfl, .inl ⟨rfl, _, .of e3⟩, i_cons (i_lst (i_cons (vx_c _ (i_nil ⟨szl (by simp), fun q hq => i_nil ?_⟩))))⟩
      have q3 : l3 ≠ q := ne_of_none e3 hq
      refine ⟨l3, [], .ref q, rfl, rfl, by rw [upd_ne q3]; exact e3, szlt (by simp), ?_⟩
      have y4 : ∀ b o, b ≠ l3 → H3 b = some o → (upd (upd H3 q (.lst [V.str "NothingToUndo"])) l3 (.lst ([] ++ [V.ref q]))) b = some o := fun b o n e => by rw [upd_ne n, upd_ne (ne_of_none e hq)]; exact e
      have e4 : (upd (upd H3 q (.lst [V.str "NothingToUndo"])) l3 (.lst ([] ++ [V.ref q]))) l3 = some (.lst [.ref q]) := upd_same
      have e5 : (upd (upd H3 q (.lst [V.str "NothingToUndo"])) l3 (.lst ([] ++ [V.ref q]))) q = some (.lst ((errL (.nothing)).map V.str)) := by rw [upd_ne (Ne.symm q3), upd_same]; rfl
      have x4 : Evl.Ex H (upd (upd H3 q (.lst [V.str "NothingToUndo"])) l3 (.lst ([] ++ [V.ref q]))) := (x3.trans (.new hq)).mut hl3'
      generalize (upd (upd H3 q (.lst [V.str "NothingToUndo"])) l3 (.lst ([] ++ [V.ref q]))) = H4 at y4 e4 e5 x4 ⊢
      dsimp only [tNext]
      have xd4 : ∀ dx', _ = some dx' → ∃ fs, H4 dx' = some (.xd fs) := fun dx' z => by
        obtain ⟨fs, e⟩ := hxd dx' z
        exact ⟨fs, x4 _ _ e⟩
      refine i_seq (if_f (fx_test (vx_is (K := K) (vx_var rfl) (vx_c (v := .ref (He.ga K "UnknownName"))) (fun u ru => ru) (hw.kit ("NothingToUndo", "UnknownName", false) (by decide +kernel)) xd4)) ?_)
      dsimp only [tNext]
      have g1 := y4 _ _ (fun z => by rw [z, e3] at e1'; cases e1') e1'
      have g2 := y4 _ _ (fun z => by rw [z, e3] at e2; cases e2) e2
      exact i_ret (i_ifE (slip_test (K := K) (bs := [false, true, false]) rfl rfl rfl g1 g2 e4 (by decide +kernel) (by decide +kernel) (by decide) _ (iteT (vx_ixL (K := K) (vx_var rfl) vx_c e4 (at_k 0 rfl rfl) _ (k q H4 x4 e5)))))
    | broken i v =>
      obtain ⟨hcls, dx, hdn, hxd0⟩ := he
      subst hdn
      have hxd : ∀ dx', some dx = some dx' → ∃ fs, H dx' = some (.xd fs) := fun dx' z => by cases z; exact ⟨_, hxd0⟩
      subst hcls
      have ec := hw.ec "Broken" (by decide +kernel)
      have hzc : Zc (.ref (He.ga K "Broken")) _ oe := hz'.zc
      have xc : XfC K (He.ga K "Broken") := ⟨ec.hg, ec.hk, ec.hs, ec.hd⟩
      have nof_index := hd.ef ("Broken", "index") (by decide +kernel)
      have nof_shown := hd.ef ("Broken", "shown") (by decide +kernel)
      refine ⟨_, pss_cons (ps_set (i := 1) scSlip.nd rfl (.inl rfl) (pe_lst (pa_cons (pe_callB (call_isP hpm ec hzc hf) (by rfl) ms bo_isinstance (pa_cons (pv 0) (pa_cons (pe_glob (v := .ref (He.ga K "NotRight")) (by rfl) mNotRight rfl) pa_nil))) (pa_cons (pe_callB (call_isP hpm ec hzc hf) (by rfl) ms bo_isinstance (pa_cons (pv 0) (pa_cons (pe_glob (v := .ref (He.ga K "NotKnown")) (by rfl) mNotKnown rfl) pa_nil))) (pa_cons (pe_callB (call_isP hpm ec hzc hf) (by rfl) ms bo_isinstance (pa_cons (pv 0) (pa_cons (pe_glob (v := .ref (He.ga K "NotPossible")) (by rfl) mNotPossible rfl) pa_nil))) pa_nil)))))
        (pss_cons (ps_parH (i := 2) (j := 3) ⟨_, hot, hpm⟩ scSlip.nd rfl rfl (by decide) rfl rfl (pa_cons (pe_lst (pa_cons (pe_callB (call_isP hpm ec hzc hf) (by rfl) ms bo_isinstance (pa_cons (pv 0) (pa_cons (pe_bltn (v := .ty "ValueError") (by rfl) mValueError bo_ValueError rfl) pa_nil))) (pa_cons (pe_callB (call_isP hpm ec hzc hf) (by rfl) ms bo_isinstance (pa_cons (pv 0) (pa_cons (pe_bltn (v := .ty "LookupError") (by rfl) mLookupError bo_LookupError rfl) pa_nil))) (pa_cons (pe_callB (call_isP hpm ec hzc hf) (by rfl) ms bo_isinstance (pa_cons (pv 0) (pa_cons (pe_bltn (v := .ty "ArithmeticError") (by rfl) mArithmeticError bo_ArithmeticError rfl) pa_nil))) pa_nil)))) (pa_cons (pe_lst pa_nil) pa_nil)) (by rfl))
        (pss_cons (ps_if (pt_val (pe_callB (call_isP hpm ec hzc hf) (by rfl) ms bo_isinstance (pa_cons (pv 0) (pa_cons (pe_glob (v := .ref (He.ga K "Broken")) (by rfl) mBroken rfl) pa_nil)))) (pss_one (ps_expr (pe_bm PySem.F.plainAttrs_list PySem.F.slot_list_append PySem.F.type_list_append mt_append (pv 3) (pa_cons (pe_lst (pa_cons pe_str (pa_cons (pe_callB cr_reprF (by rfl) mp bo_repr (pa_cons (pe_xfP hpm xc nof_index hzc hf (pv 0)) pa_nil)) (pa_cons (pe_callB cr_reprF (by rfl) mp bo_repr (pa_cons (pe_xfP hpm xc nof_shown hzc hf (pv 0)) pa_nil)) pa_nil)))) pa_nil)))) pss_nil)
        (pss_cons (ps_if (pt_val (pe_callB (call_isP hpm ec hzc hf) (by rfl) ms bo_isinstance (pa_cons (pv 0) (pa_cons (pe_glob (v := .ref (He.ga K "InUse")) (by rfl) mInUse rfl) pa_nil)))) (pss_one ps_dead) pss_nil)
        (pss_cons (ps_if (pt_val (pe_callB (call_isP hpm ec hzc hf) (by rfl) ms bo_isinstance (pa_cons (pv 0) (pa_cons (pe_glob (v := .ref (He.ga K "InvalidIndex")) (by rfl) mInvalidIndex rfl) pa_nil)))) (pss_one ps_dead) pss_nil)
        (pss_cons (ps_if (pt_val (pe_callB (call_isP hpm ec hzc hf) (by rfl) ms bo_isinstance (pa_cons (pv 0) (pa_cons (pe_glob (v := .ref (He.ga K "NothingToUndo")) (by rfl) mNothingToUndo rfl) pa_nil)))) (pss_one ps_dead) pss_nil)
        (pss_cons (ps_if (pt_val (pe_callB (call_isP hpm ec hzc hf) (by rfl) ms bo_isinstance (pa_cons (pv 0) (pa_cons (pe_glob (v := .ref (He.ga K "UnknownName")) (by rfl) mUnknownName rfl) pa_nil)))) (pss_one ps_dead) pss_nil)
        (pss_one (ps_ret (pe_ifExp (pw_and (pt_cmpR op_eq (pe_callB call_len_seq (by rfl) ml bo_len (pa_cons (pv 3) pa_nil)) pe_int (nomark _)) (pw_and (pt_cmpR (op_eqD hun) (pv 1) (pv 2) (nomark _)) (pw_and1 (pt_cmpR op_eq (pe_bm PySem.F.plainAttrs_list PySem.F.slot_list_count PySem.F.type_list_count mt_bcount (pv 1) (pa_cons pe_bl pa_nil)) pe_int (nomark _))))).pt (pe_ix ix_list (pv 3) pe_int (fun _ _ => rfl)) pe_dead))))))))), ?_⟩
      refine i_seq (i_asg (i_lst (i_cons (vx_is (K := K) (vx_var rfl) (vx_c (v := .ref (He.ga K "NotRight"))) (fun u ru => ru) (hw.kit ("Broken", "NotRight", false) (by decide +kernel)) hxd _ (i_cons (vx_is (K := K) (vx_var rfl) (vx_c (v := .ref (He.ga K "NotKnown"))) (fun u ru => ru) (hw.kit ("Broken", "NotKnown", false) (by decide +kernel)) hxd _ (i_cons (vx_is (K := K) (vx_var rfl) (vx_c (v := .ref (He.ga K "NotPossible"))) (fun u ru => ru) (hw.kit ("Broken", "NotPossible", true) (by decide +kernel)) hxd _ (i_nil ⟨szl (by simp), fun l1 hl1 => ?_⟩)))))))))
      have x1 : Evl.Ex H (upd H l1 (.lst [.bl false, .bl false, .bl true])) := .new hl1
      have e1 : (upd H l1 (.lst [.bl false, .bl false, .bl true])) l1 = some (.lst ([false, false, true].map V.bl)) := upd_same
      generalize (upd H l1 (.lst [.bl false, .bl false, .bl true])) = H1 at x1 e1 ⊢
      have xd1 : ∀ dx', _ = some dx' → ∃ fs, H1 dx' = some (.xd fs) := fun dx' z => by
        obtain ⟨fs, e⟩ := hxd dx' z
        exact ⟨fs, x1 _ _ e⟩
      dsimp only
      refine i_seq (i_par (i_cons (i_lst (i_cons (vx_is (K := K) (vx_var rfl) (vx_c (v := .ty "ValueError")) (fun u ru => ru) (hw.kitB ("Broken", "ValueError", false) (by decide +kernel)) xd1 _ (i_cons (vx_is (K := K) (vx_var rfl) (vx_c (v := .ty "LookupError")) (fun u ru => ru) (hw.kitB ("Broken", "LookupError", false) (by decide +kernel)) xd1 _ (i_cons (vx_is (K := K) (vx_var rfl) (vx_c (v := .ty "ArithmeticError")) (fun u ru => ru) (hw.kitB ("Broken", "ArithmeticError", true) (by decide +kernel)) xd1 _ (i_nil ⟨szl (by simp), fun l2 hl2 => ?_⟩))))))))))
      refine i_cons (i_lst (i_nil ⟨szl (by simp), fun l3 hl3 => i_nil ⟨_, _, rfl, ?_⟩⟩))
      have x3 := (x1.trans (.new (o := .lst [.bl false, .bl false, .bl true]) hl2)).trans (.new (o := .lst []) hl3)
      have x13 := (Evl.Ex.new (o := .lst [.bl false, .bl false, .bl true]) hl2).trans (.new (o := .lst []) hl3)
      have e3 : (upd (upd H1 l2 (.lst [.bl false, .bl false, .bl true])) l3 (.lst [])) l3 = some (.lst []) := upd_same
      have e2 : (upd (upd H1 l2 (.lst [.bl false, .bl false, .bl true])) l3 (.lst [])) l2 = some (.lst ([false, false, true].map V.bl)) := by rw [upd_ne (ne_of_none upd_same hl3), upd_same]; rfl
      have e1' := x13 _ _ e1
      have hl3' : H l3 = none := Evl.fresh_back (x1.trans (.new hl2)) hl3
      generalize (upd (upd H1 l2 (.lst [.bl false, .bl false, .bl true])) l3 (.lst [])) = H3 at x3 e3 e2 e1' ⊢
      have xd3 : ∀ dx', _ = some dx' → ∃ fs, H3 dx' = some (.xd fs) := fun dx' z => by
        obtain ⟨fs, e⟩ := hxd dx' z
        exact ⟨fs, x3 _ _ e⟩
      dsimp only
      refine i_seq (if_t (fx_test (vx_is (K := K) (vx_var rfl) (vx_c (v := .ref (He.ga K "Broken"))) (fun u ru => ru) (hw.kit ("Broken", "Broken", true) (by decide +kernel)) xd3)) ?_)
      refine ⟨_, rfl, .inl ⟨rfl, _, .of e3⟩, i_cons (i_lst (i_cons (vx_c _ (i_cons (vx_repr (K := K) (v := .int _) (vx_xf (vx_var rfl) (x3 _ _ hxd0) (by rw [lk_tl (by decide +kernel), lk_hd])) (.int _) (int_fit ft.2.2) _ (i_cons (vx_repr (K := K) (v := v) (vx_xf (vx_var rfl) (x3 _ _ hxd0) lk_hd) (ft.1 _) ft.2.1 _ (i_nil ⟨szl (by simp), fun q hq => i_nil ?_⟩))))))))⟩
      have q3 : l3 ≠ q := ne_of_none e3 hq
      refine ⟨l3, [], .ref q, rfl, rfl, by rw [upd_ne q3]; exact e3, szlt (by simp), ?_⟩
      have y4 : ∀ b o, b ≠ l3 → H3 b = some o → (upd (upd H3 q (.lst [V.str "Broken", V.str (dV (V.int (i : Nat))).shown, V.str (dV v).shown])) l3 (.lst ([] ++ [V.ref q]))) b = some o := fun b o n e => by rw [upd_ne n, upd_ne (ne_of_none e hq)]; exact e
      have e4 : (upd (upd H3 q (.lst [V.str "Broken", V.str (dV (V.int (i : Nat))).shown, V.str (dV v).shown])) l3 (.lst ([] ++ [V.ref q]))) l3 = some (.lst [.ref q]) := upd_same
      have e5 : (upd (upd H3 q (.lst [V.str "Broken", V.str (dV (V.int (i : Nat))).shown, V.str (dV v).shown])) l3 (.lst ([] ++ [V.ref q]))) q = some (.lst ((errL (.broken i v)).map V.str)) := by rw [upd_ne (Ne.symm q3), upd_same]; rfl
      have x4 : Evl.Ex H (upd (upd H3 q (.lst [V.str "Broken", V.str (dV (V.int (i : Nat))).shown, V.str (dV v).shown])) l3 (.lst ([] ++ [V.ref q]))) := (x3.trans (.new hq)).mut hl3'
      generalize (upd (upd H3 q (.lst [V.str "Broken", V.str (dV (V.int (i : Nat))).shown, V.str (dV v).shown])) l3 (.lst ([] ++ [V.ref q]))) = H4 at y4 e4 e5 x4 ⊢
      dsimp only [tNext]
      have xd4 : ∀ dx', _ = some dx' → ∃ fs, H4 dx' = some (.xd fs) := fun dx' z => by
        obtain ⟨fs, e⟩ := hxd dx' z
        exact ⟨fs, x4 _ _ e⟩
      refine i_seq (if_f (fx_test (vx_is (K := K) (vx_var rfl) (vx_c (v := .ref (He.ga K "InUse"))) (fun u ru => ru) (hw.kit ("Broken", "InUse", false) (by decide +kernel)) xd4)) ?_)
      dsimp only [tNext]
      refine i_seq (if_f (fx_test (vx_is (K := K) (vx_var rfl) (vx_c (v := .ref (He.ga K "InvalidIndex"))) (fun u ru => ru) (hw.kit ("Broken", "InvalidIndex", false) (by decide +kernel)) xd4)) ?_)
      dsimp only [tNext]
      refine i_seq (if_f (fx_test (vx_is (K := K) (vx_var rfl) (vx_c (v := .ref (He.ga K "NothingToUndo"))) (fun u ru => ru) (hw.kit ("Broken", "NothingToUndo", false) (by decide +kernel)) xd4)) ?_)
      dsimp only [tNext]
      refine i_seq (if_f (fx_test (vx_is (K := K) (vx_var rfl) (vx_c (v := .ref (He.ga K "UnknownName"))) (fun u ru => ru) (hw.kit ("Broken", "UnknownName", false) (by decide +kernel)) xd4)) ?_)
      dsimp only [tNext]
      have g1 := y4 _ _ (fun z => by rw [z, e3] at e1'; cases e1') e1'
      have g2 := y4 _ _ (fun z => by rw [z, e3] at e2; cases e2) e2
      exact i_ret (i_ifE (slip_test (K := K) (bs := [false, false, true]) rfl rfl rfl g1 g2 e4 (by decide +kernel) (by decide +kernel) (by decide) _ (iteT (vx_ixL (K := K) (vx_var rfl) vx_c e4 (at_k 0 rfl rfl) _ (k q H4 x4 e5)))))
end
end Bt
set_option Elab.async false
set_option linter.all false
set_option maxRecDepth 100000
set_option maxHeartbeats 4000000
/-! The law's heard: what it does with the lambda that it gets. -/
namespace Bt
open PySem PySem.Spec PyProof.Rows L2 HotX L2H LamX PySem.W
section
variable {X : Cx}
theorem run_backA {pins : List (Addr × Obj)} {σ : L2.St} {H : Hp} {s : Shared} {Q : VK} {f : Value} {us : List Value} {kw : List (Str × Value)} {W : WX} (tk : L2N.Takes X W) (I : Inv X pins σ H s)
    (h : codeAny (model X.prog X.w) X.A (.call f ⟨us, kw⟩) (CR (L2N.CX X.prog X.w) X.stack X.prog X.w H s Q (fun cls d H' => W cls d σ H')) s) :
    wpAny (model X.prog X.w) X.A (call f us kw) (EP X pins σ Q) X.xe s := by
  refine wpAny_call (codeAny_mono h fun r s' hq => ?_)
  cases r with
  | error e => exact tk e s' (L2N.XE.of_call I (fun _ _ _ h => h) hq)
  | ok fl =>
    cases fl with
    | ret u => exact I.after hq
    | next => exact False.elim hq
    | brk => exact False.elim hq
    | cont => exact False.elim hq
end
section
variable {X : Cx} {s : Shared} {H : Hp} {f : Addr} {k : Nat} {ps : List Str} {sp : Sp}
/-- x(), x a name of Z; the wish may speak of the names -/
theorem pe_clos0A {CXg : CXT} {Eg : XK} {Ng : List Str} {qg : Str} {sg : Scope} {g : Addr} {cdg : Value} {pn : List (Addr × Obj)} {xe : Value → Shared → Prop} {W : WX} {i : Nat} {a : Str} {p1 p2 : Pos} (C : Clos X s H f k ps sp) (hp : ps = [])
    (hg : X.A.guards = some []) (tk : L2N.Takes ((cxOf CXg X.prog X.w X.K X.mg X.base Ng qg sg g cdg X.A X.stack s H Eg).tr pn xe) W) (hr : Room (k + 1) (X.A.deeper (envOfC qg sg s.heap.objs.size g cdg)))
    (hN : Ng[i]? = some a) (hv : Vis sg a) (hd : (a == ("__debug__" : Str)) = false := by decide) (hcd : (a == ("__classdict__" : Str)) = false := by decide) :
    PE ((cxOf CXg X.prog X.w X.K X.mg X.base Ng qg sg g cdg X.A X.stack s H Eg).tr pn xe) (.Call (.Name a p1) [] [] p2) (fun σZ HZ Q => σZ[i]? = some (some (.ref f)) ∧ (∀ b o, H b = some o → HZ b = some o) ∧ sp [] HZ Q (fun cls d H' => W cls d σZ H')) := by
  refine ⟨fun pinsZ sZ σZ HZ Q IZ h => ?_⟩
  obtain ⟨hs, he, ht⟩ := h
  refine wpAny_Call_Name_kw (thn ((pe_var (pos := p1) (i := i) hN hv hd hcd).run pinsZ sZ σZ HZ (fun v H1 => v = .ref f ∧ H1 = HZ) IZ ⟨.ref f, hs, rfl, rfl⟩) fun u s1 hh => ?_)
  obtain ⟨v, H1, I1, r1, ev, eH⟩ := hh
  subst ev
  rw [eH] at I1
  obtain rfl : u = Value.ref f := r1
  obtain ⟨oc, od, fd, sl, e0⟩ := C.fn
  have fnat : FnAt f s1.heap := ⟨oc, od, fd, sl, I1.base.keep f _ e0 C.hn C.hf (fun z => nomatch (show f ∈ ([] : List Addr) from z))⟩
  exact callWith_F0 fnat (run_backA (X := (cxOf CXg X.prog X.w X.K X.mg X.base Ng qg sg g cdg X.A X.stack s H Eg).tr pn xe) tk I1 (C.run _ _ s1 HZ [] [] Q _ hg hr I1.env0 I1.base he .nil (by rw [hp]; rfl) ht))
end
/-- what is wished of a value that is told, of an error -/
def TellQ (K : Frag) (Q : VK) (v : V) (H : Hp) : Prop := ∃ dd, Dp K H v dd ∧ Fit dd 20 1000 ∧ ∀ p H', Evl.Ex H H' → H' p = some (.lst [.str "told", .str dd.shown]) → Q (.ref p) H'
def TellE (K : Frag) (Q : VK) (cls : Value) (d : Option Addr) (H : Hp) : Prop := (∃ e, ErrIs K cls d H e ∧ ErrFit K e ∧ ∀ p H', Evl.Ex H H' → H' p = some (.lst ((errL e).map V.str)) → Q (.ref p) H') ∨
  (cls = .type "KeyError" ∧ ∀ p H', Evl.Ex H H' → H' p = some (.lst [.str "plain"]) → Q (.ref p) H')
def SPh (K : Frag) (sp : Sp) (H : Hp) (Q : VK) : Prop := ∀ (Q0 : VK) (E0 : XK), (∀ v H', TellQ K Q v H' → Q0 v H') → (∀ cls d H', TellE K Q cls d H' → E0 cls d H') → sp [] H Q0 E0
theorem errIs_exm {w : World} {K : Frag} {mg : Str → Option Value} (hw : Hw w K mg) {cls : Value} {d : Option Addr} {H : Hp} : ∀ {e : Err}, ErrIs K cls d H e → exmAny K cls [.ref (He.ga K "NotRight"), .ref (He.ga K "NotKnown"), .ref (He.ga K "NotPossible")] = some true
  | .unknown _, h => by rw [h.1]; exact hw.exm "UnknownName" (by decide +kernel)
  | .inUse _, h => by rw [h.1]; exact hw.exm "InUse" (by decide +kernel)
  | .index _, h => by rw [h.1]; exact hw.exm "InvalidIndex" (by decide +kernel)
  | .nothing, h => by rw [h.1]; exact hw.exm "NothingToUndo" (by decide +kernel)
  | .broken _ _, h => by rw [h.1]; exact hw.exm "Broken" (by decide +kernel)
abbrev nHeard : List Str := ["_law_call_here", "_law_got", "_law_e"]
theorem scHeard : FnScope nHeard ["_law_call_here"] (defScope st_d_law_heard) := ⟨rfl, rfl, rfl, by decide +kernel, rfl, by decide +kernel, by decide +kernel⟩
theorem run_heard {X : Cx} {k : Nat} (hw : Hw X.w X.K X.mg) (hg : X.A.guards = some []) (hr : Room (k + 4) X.A) : RunC X (He.fAd X.K d_law_heard.at_) k [] [] [] (SPh X.K) := by
  intro pins s0 σ H0 f sp Q us I C r h
  cases r
  have hd := hw.toHd
  have mp : X.mg "repr" = none := hd.free _ (by decide +kernel)
  have mk : X.mg "KeyError" = none := hd.free _ (by decide +kernel)
  have m1 : X.mg "NotRight" = some (.ref (He.ga X.K "NotRight")) := hd.glo _ (by decide +kernel)
  have m2 : X.mg "NotKnown" = some (.ref (He.ga X.K "NotKnown")) := hd.glo _ (by decide +kernel)
  have m3 : X.mg "NotPossible" = some (.ref (He.ga X.K "NotPossible")) := hd.glo _ (by decide +kernel)
  have mS : X.mg "_law_slip" = some (.ref (He.fAd X.K d_law_slip.at_)) := hd.glo _ (by decide +kernel)
  obtain ⟨fdS, FS, bS, kS⟩ := ok_slip (P := X.prog) (base := X.base) hw
  obtain ⟨fd, F⟩ := hd.f_d_law_heard
  have hb' := F.bindsN (ps := ["_law_call_here"]) (fun _ _ _ _ _ _ us hl => by
    obtain ⟨a, rfl⟩ := us1 hl
    rfl)
  obtain ⟨oc, od, dV, kV, doc, pm, an, cdv, ct, osl, rfl, lk, hcd, _, _⟩ := F.ex
  have b := hb' s0 [.ref f] I.kIn rfl
  rw [List.append_nil] at b
  refine run_body (CX := C8.CX0) (E := E00) (args := ⟨[.ref f], []⟩) (us := [.ref f]) (vs := [.ref f]) lk hcd scHeard hr I b (.cons rfl .nil) rfl C8.pass0 (fun hr' => ?_)
  have hrH : ∀ a, RoomH 1 ((X.A.deeper (envOfC d_law_heard.qual d_law_heard.scope s0.heap.objs.size (He.fAd X.K d_law_heard.at_) cdv)).mark (some (.ref a))) := fun a => roomH_mark (hr'.mono (by omega)) _
  refine ⟨_, pss_cons (ps_try_t3 (i := 2) (ts := fun a cls d D σ H => ∀ oe : Obj, L2N.Zn cls d oe → (∃ vs, oe.data = .fields vs) → tRet (fun σ H Q => (tCons (tVar 2) tNil) σ H fun vs H1 => spSlip X.K (a, oe) vs H1 Q E00) D σ H)
      (ts2 := fun a cls d => tRet (tLst (tCons (tC (.str "plain")) tNil))) rfl rfl scHeard.nd rfl rfl (by rfl) m1 (by decide) (by rfl) m2 (by decide) (by rfl) m3 (by decide) ⟨by rfl, by decide, .inr ⟨mk, bo_KeyError, by decide +kernel⟩⟩
      (fun W pn xe tk _ => pss_one (ps_set (i := 1) scHeard.nd rfl (.inl rfl) (pe_clos0A (i := 0) C rfl hg tk (hr'.mono (by omega)) rfl (.inl rfl))))
      (fun a oe cls d pn hz hf => ⟨fun pins s σ H D I h => (pss_one (ps_ret (pe_callHP (X := (cxOf C8.CX0 X.prog X.w X.K X.mg X.base nHeard d_law_heard.qual d_law_heard.scope (He.fAd X.K d_law_heard.at_) cdv X.A X.stack s0 H0 E00).suite a ((a, oe) :: pn)) (E := E00) FS (hrH a) (by
          obtain ⟨vs, hv⟩ := hf
          exact ⟨rfl, vs, hv, hz.2.2 vs hv⟩) List.mem_cons_self (by rfl) mS kS bS (pa_cons (pv 2) pa_nil)))).run pins s σ H D I (h oe hz hf)⟩)
      (fun a oe cls d pn hz hf => pss_one (ps_ret (pe_lst (pa_cons pe_str pa_nil)))))
    (pss_one (ps_ret (pe_lst (pa_cons pe_str (pa_cons (pe_callB (cr_repr hg hr'.units) (by rfl) mp bo_repr (pa_cons (pv 1) pa_nil)) pa_nil))))), ?_⟩
  refine i_seq (i_asg ⟨rfl, fun b o e => e, h _ _ (fun v H1 ht => ?_) (fun cls d H1 he => ?_)⟩)
  · obtain ⟨dd, dp, fit, kk⟩ := ht
    dsimp only
    refine i_ret (i_lst (i_cons (vx_c _ (i_cons (i_cb (i_cons (vx_var rfl _ (i_nil ⟨v, dd, rfl, dp, fit.sh, fit.nd, fit.dp, ?_, i_nil ⟨szl (by simp), fun p hp => kk p _ (.new hp) upd_same⟩⟩))))))))
    have := fit.ln
    rw [sizeLine_eq]
    omega
  · rcases he with ⟨e, his, fit, kk⟩ | ⟨rfl, kk⟩
    · refine ⟨true, errIs_exm hw his, fun _ a ha oe hz hf => ?_, fun z => by cases z⟩
      exact ⟨_, rfl, e, cls, d, rfl, hz, hf, his, fit, kk⟩
    · refine ⟨false, hw.exmK, fun z => Bool.noConfusion z, fun _ => ⟨hw.exmO, fun a ha => ?_⟩⟩
      exact i_ret (i_lst (i_cons (vx_c _ (i_nil ⟨szl (by simp), fun p hp => kk p _ (.new hp) upd_same⟩))))
end Bt
set_option Elab.async false
set_option linter.all false
set_option maxRecDepth 100000
set_option maxHeartbeats 4000000
/-! Desk.tried: what it does with the lambda that it gets. -/
namespace Bt
open PySem PySem.Spec PyProof.Rows L2 HotX L2H LamX PySem.W
section
variable {X : Cx} {s : Shared} {H : Hp} {f : Addr} {k : Nat} {ps : List Str} {sp : Sp}
/-- x(e), x a name of Z; the wish may speak of the names -/
theorem pe_clos1A {CXg : CXT} {Eg : XK} {Ng : List Str} {qg : Str} {sg : Scope} {g : Addr} {cdg : Value} {pn : List (Addr × Obj)} {xe : Value → Shared → Prop} {W : WX} {i : Nat} {a : Str} {p1 p2 : Pos} {e : Expr} {te : TA} (C : Clos X s H f k ps sp) (hp : ps.length = 1)
    (hg : X.A.guards = some []) (tk : L2N.Takes ((cxOf CXg X.prog X.w X.K X.mg X.base Ng qg sg g cdg X.A X.stack s H Eg).tr pn xe) W) (hr : Room (k + 1) (X.A.deeper (envOfC qg sg s.heap.objs.size g cdg)))
    (hN : Ng[i]? = some a) (hv : Vis sg a) (ha : PA ((cxOf CXg X.prog X.w X.K X.mg X.base Ng qg sg g cdg X.A X.stack s H Eg).tr pn xe) [e] te) (hst : ∀ env, starEach [e] env = [(false, eval e env)] := by intro _; rfl)
    (hd : (a == ("__debug__" : Str)) = false := by decide) (hcd : (a == ("__classdict__" : Str)) = false := by decide) :
    PE ((cxOf CXg X.prog X.w X.K X.mg X.base Ng qg sg g cdg X.A X.stack s H Eg).tr pn xe) (.Call (.Name a p1) [e] [] p2) (fun σZ HZ Q => σZ[i]? = some (some (.ref f)) ∧ te σZ HZ fun vs H2 => vs.length = 1 ∧ (∀ b o, H b = some o → H2 b = some o) ∧ sp vs H2 Q (fun cls d H' => W cls d σZ H')) := by
  refine ⟨fun pinsZ sZ σZ HZ Q IZ h => ?_⟩
  obtain ⟨hs, ht⟩ := h
  refine wpAny_Call_Name_kw (thn ((pe_var (pos := p1) (i := i) hN hv hd hcd).run pinsZ sZ σZ HZ (fun v H1 => v = .ref f ∧ H1 = HZ) IZ ⟨.ref f, hs, rfl, rfl⟩) fun u s1 hh => ?_)
  obtain ⟨v, H1, I1, r1, ev, eH⟩ := hh
  subst ev
  rw [eH] at I1
  obtain rfl : u = Value.ref f := r1
  obtain ⟨oc, od, fd, sl, e0⟩ := C.fn
  have fnat : ∀ {s1 : Shared} {σ1 : L2.St} {H1 : Hp}, Inv ((cxOf CXg X.prog X.w X.K X.mg X.base Ng qg sg g cdg X.A X.stack s H Eg).tr pn xe) pinsZ σ1 H1 s1 → FnAt f s1.heap := fun I1 => ⟨oc, od, fd, sl, I1.base.keep f _ e0 C.hn C.hf (fun z => nomatch (show f ∈ ([] : List Addr) from z))⟩
  refine callWith_F (first := []) (fnat I1) (thn (ha.run p2 pinsZ s1 σZ HZ _ I1 ht) fun us s2 hh => ?_) (hst _) rfl
  obtain ⟨vs, H2, I2, r, hl, he, q⟩ := hh
  exact ⟨fnat I2, run_backA (X := (cxOf CXg X.prog X.w X.K X.mg X.base Ng qg sg g cdg X.A X.stack s H Eg).tr pn xe) tk I2 (C.run _ _ s2 H2 us vs Q _ hg hr I2.env0 I2.base he r (by rw [hl, hp]) q)⟩
end
/-- what the lambda must do that tried calls with the desk at a -/
def SPt (K : Frag) (a : Addr) (E : XK) (sp : Sp) (H : Hp) (Q : VK) : Prop := ∃ b, InsAt K H a "Desk" [("page", .ref b)] ∧ ∀ (x m : Addr) (H1 : Hp), Evl.Ex H H1 → H x = none → InsAt K H1 x "DeskTrial" [("owner", .ref a), ("mark", .ref m)] → InsAt K H1 m "PageMark" [("page", .ref b), ("before", .non)] → ∀ (Q0 : VK) (E0 : XK),
  (∀ v H2, InsAt K H2 x "DeskTrial" [("owner", .ref a), ("mark", .ref m)] → InsAt K H2 m "PageMark" [("page", .ref b), ("before", .non)] → (∀ H3, ExBut x H2 H3 → Q v H3) → Q0 v H2) →
  (∀ cls d H2, (∃ kv, RelV kv cls ∧ kv ≠ .non) → InsAt K H2 x "DeskTrial" [("owner", .ref a), ("mark", .ref m)] → InsAt K H2 m "PageMark" [("page", .ref b), ("before", .non)] → (∃ b', InsAt K H2 a "Desk" [("page", .ref b')]) →
    (∀ H3, (∀ c o, c ≠ x → c ≠ a → H2 c = some o → H3 c = some o) → InsAt K H3 a "Desk" [("page", .ref b)] → E cls d H3) → E0 cls d H2) → sp [.ref a] H1 Q0 E0
theorem scTried : FnScope ["self", "action", "desk"] ["self", "action"] (defScope st_m_Desk_tried) := ⟨rfl, rfl, rfl, by decide +kernel, rfl, by decide +kernel, by decide +kernel⟩
theorem run_tried {X : Cx} {k : Nat} {E : XK} {a : Addr} (hz : Hz X.w X.K X.mg) (hg : X.A.guards = some []) (hr : Room (k + 6) X.A) (hx : Passes (L2N.CX X.prog X.w) X E) {kw : List (Str × Unit)} (hkw : kw = [] ∨ kw = [(("action" : Str), ())]) : RunC X (He.fAd X.K m_Desk_tried.at_) k ["_law_held"] [.ref a] kw (SPt X.K a E) := by
  intro pins s0 σ H0 f sp Q us I C r h
  obtain ⟨u, rfl, ru⟩ := vals1 r
  obtain rfl : u = Value.ref a := ru
  have hd := hz.toHd
  have cD := hd.cls "Desk" (by decide +kernel)
  have mT := hd.meth ("Desk", "trial") (by decide +kernel)
  have TR := ok_trial (P := X.prog) (w := X.w) (base := X.base) hd
  obtain ⟨fdE, FE, bE, _⟩ := ok_enter (P := X.prog) (w := X.w) (base := X.base) hd
  obtain ⟨fdN, FN, bN, _⟩ := ok_exitN (P := X.prog) (w := X.w) (base := X.base) hd
  obtain ⟨fdX, FX, bX, _⟩ := ok_exitX (P := X.prog) (w := X.w) (base := X.base) hd
  obtain ⟨fd, F⟩ := hd.f_m_Desk_tried
  have hb1 := F.bindsN (ps := ["self", "action"]) (fun _ _ _ _ _ _ us hl => by
    obtain ⟨a, b, rfl⟩ := us2 hl
    rfl)
  obtain ⟨oc, od, dV, kV, doc, pm, an, cdv, ct, osl, rfl, lk, hcd, hD, _⟩ := F.ex
  obtain ⟨b, ⟨dk, hk⟩, h⟩ := h
  have hbody : Room (k + 5) (X.A.deeper (envOfC m_Desk_tried.qual m_Desk_tried.scope s0.heap.objs.size (He.fAd X.K m_Desk_tried.at_) cdv)) → ∃ t, PSs (cxOf (L2N.CX X.prog X.w) X.prog X.w X.K X.mg X.base ["self", "action", "desk"] m_Desk_tried.qual m_Desk_tried.scope (He.fAd X.K m_Desk_tried.at_) cdv X.A X.stack s0 H0 E) m_Desk_tried.body t ∧ t { nx := fun _ H' => Q .non H', rt := Q } (L2.start ["self", "action", "desk"] [.ref a, .ref f]) H0 := fun hr' => by
    refine ⟨_, pss_one (ps_with (i := 2) (C := He.ga X.K "DeskTrial") (Wout := fun cls d _ H => E cls d H) rfl rfl rfl (L2N.takes_of (E := E) rfl rfl rfl rfl) scTried.nd rfl rfl (pe_methR0 (E := E00) (pv 0) cD mT (TR.run (X := (cxOf (L2N.CX X.prog X.w) X.prog X.w X.K X.mg X.base ["self", "action", "desk"] m_Desk_tried.qual m_Desk_tried.scope (He.fAd X.K m_Desk_tried.at_) cdv X.A X.stack s0 H0 E)) (hr'.mono (show 3 ≤ k + 5 by omega)) C8.pass0)) hz.ent.1 hz.ent.2 hz.exi.1 hz.exi.2 FE bE FN bN FX bX (hr'.mono (show 3 ≤ k + 5 by omega)) (hr'.mono (show 1 ≤ k + 5 by omega)) (hr'.mono (show 1 ≤ k + 5 by omega))
      (fun W pn xe tk _ => pss_one (ps_ret (pe_clos1A (i := 1) C rfl hg tk (hr'.mono (show k + 1 ≤ k + 5 by omega)) rfl (.inl rfl) (pa_cons (pv 2) pa_nil))))), ?_⟩
    refine ⟨_, rfl, a, dk, _, rfl, hk, lk_no (by decide +kernel), a, rfl, fun x H1 x1 hx ⟨dx, hins⟩ => ⟨x, dx, _, rfl, hins, x, a, b, rfl, ?_, ⟨dx, hins⟩, ⟨dk, x1 _ _ hk⟩, fun m H2 xb i1 i2 => ?_⟩⟩
    · exact fun z => by rw [z, hk] at hx; cases hx
    have x2 : Evl.Ex H0 H2 := fun c o e => xb c o (ne_of_none e hx) (x1 _ _ e)
    refine ⟨rfl, _, rfl, rfl, x2, h x m H2 x2 hx i1 i2 _ _ (fun v H3 j1 j2 kq => ?_) (fun cls d H3 hkv j1 j2 hb' ke => ?_)⟩
    · exact ⟨x, m, b, .ref a, rfl, j1, j2, fun H4 y4 => kq H4 y4⟩
    · obtain ⟨kv, rkv, nkv⟩ := hkv
      obtain ⟨b', hb'⟩ := hb'
      refine ⟨kv, rkv, fun p tv hp hz' hf => ⟨x, a, m, b, b', kv, .ref p.1, tv, rfl, nkv, ?_, j1, j2, hb', fun H4 y4 e4 => ⟨rfl, ke H4 y4 e4⟩⟩⟩
      exact fun z => by rw [z, hk] at hx; cases hx
  have rv : Vals [V.ref a, V.ref f] [Value.ref a, Value.ref f] := .cons rfl (.cons rfl .nil)
  rcases hkw with rfl | rfl
  · have b1 := hb1 s0 [.ref a, .ref f] I.kIn rfl
    rw [List.append_nil] at b1
    exact run_body (CX := L2N.CX X.prog X.w) (E := E) (args := ⟨[.ref a, .ref f], []⟩) (us := [.ref a, .ref f]) (vs := [.ref a, .ref f]) lk hcd scTried hr I b1 rv rfl hx hbody
  · have e0 : dV = .none := by
      rcases hD with ⟨_, e⟩ | ⟨e, _⟩
      · exact e
      · exact absurd rfl e
    subst e0
    exact run_body (CX := L2N.CX X.prog X.w) (E := E) (args := ⟨[.ref a], [("action", .ref f)]⟩) (us := [.ref a, .ref f]) (vs := [.ref a, .ref f]) lk hcd scTried hr I (.of_eq rfl) rv rfl hx hbody
end Bt
set_option Elab.async false
set_option linter.all false
set_option maxRecDepth 100000
set_option maxHeartbeats 4000000
/-! What holds while turns are taken. -/
namespace Bt
open PySem PySem.Spec PyProof.Rows L2 HotX L2H LamX PySem.W
/-- the tables of the two defs that make lambdas -/
def tcK (K : Frag) : TC where
  P1 := (He.cT K ("_law_turn", none)).2
  P2 := (He.cT K ("_law_tried", none)).2
  q1 := (envOfC d_law_turn.qual d_law_turn.scope 0 0 .none).qual ++ "<lambda>"
  q2 := (envOfC d_law_tried.qual d_law_tried.scope 0 0 .none).qual ++ "<lambda>"
  q3 := (envOfC d_law_tried.qual d_law_tried.scope 0 0 .none).qual ++ "<lambda>" ++ ".<locals>." ++ "<lambda>"
structure Ht (base : Heap) (mg : Str → Option Value) (K : Frag) : Prop where
  t1 : LamX.TabB base mg (He.cT K ("_law_turn", none)).1 (He.cT K ("_law_turn", none)).2
  t2 : LamX.TabB base mg (He.cT K ("_law_tried", none)).1 (He.cT K ("_law_tried", none)).2
  hG : base.get? mainGlobals ≠ none
section
variable {P : Program} {w : World} {K : PySem.W.Frag} {mg : Str → Option Value} {base : Heap} {CX : CXT} {x qual : Str} {params : Arguments} {body : List Stmt} {scope : Scope} {N ps : List Str} {k : Nat} {sp : Sp} {p : Str × Option Str}
/-- as okg_of; the code object is known -/
theorem okg_ofC (F : ∃ fd, FunD K x qual params body scope [] [] (He.fAd K p) fd) (S : FnScope N ps scope)
    (hb : ∀ (kV doc pm : Value) (an : Option Addr) (cdv ct : Value) (us : List Value), us.length = ps.length → bindArgs (PySem.W.fnOf x qual params body scope .none kV doc pm an cdv ct) ⟨us, []⟩ = pure (ps.zip us))
    (len : ∀ vs H Q E, sp vs H Q E → vs.length = ps.length)
    (hbody : ∀ (A : Around) (outer : List Env) (s : Shared) (H : Hp) (vs : List V) (Q : VK) (E : XK), A.guards = some [] → Room k (A.deeper (envOfC qual scope s.heap.objs.size (He.fAd K p) (.ref (He.cT K p).1))) → sp vs H Q E →
      ∃ t, PSs (cxOf CX P w K mg base N qual scope (He.fAd K p) (.ref (He.cT K p).1) A outer s H E) body t ∧ t { nx := fun _ H' => Q .non H', rt := Q } (L2.start N vs) H) : Okg P w K mg base CX (k + 1) (He.fAd K p) ps sp := by
  obtain ⟨fd, F⟩ := F
  refine ⟨fd, ?_, F.bindsN hb, F.kp⟩
  obtain ⟨oc, od, dV, kV, doc, pm, an, cdv, ct, osl, rfl, lk, hcd, _, _⟩ := F.ex
  obtain ⟨c, rfl⟩ := He.codeIn_ref hcd
  have ec : (He.cT K p).1 = c := He.codeOf_eq lk rfl
  rw [ec] at hbody
  exact fn_ofG lk hcd S len fun A outer s H vs Q E hg hr hsp => hbody A outer s H vs Q E hg hr hsp
/-- a promise that is never asked -/
theorem okg_dead (F : ∃ fd, FunD K x qual params body scope [] [] (He.fAd K p) fd)
    (hb : ∀ (kV doc pm : Value) (an : Option Addr) (cdv ct : Value) (us : List Value), us.length = ps.length → bindArgs (PySem.W.fnOf x qual params body scope .none kV doc pm an cdv ct) ⟨us, []⟩ = pure (ps.zip us)) (dead : ∀ vs H Q E, ¬ sp vs H Q E) : Okg P w K mg base CX k (He.fAd K p) ps sp := by
  obtain ⟨fd, F⟩ := F
  exact ⟨fd, ⟨fun vs H Q E h => (dead _ _ _ _ h).elim, fun _ _ _ _ _ _ _ _ _ _ _ _ _ _ h => (dead _ _ _ _ h).elim⟩, F.bindsN hb, F.kp⟩
end
/-! ### what stays -/
/-- all but the urn, the desk and the tables stays -/
structure XT (T : TC) (u k : Addr) (H H' : Hp) : Prop where
  kp : ∀ b o, b ≠ u → b ≠ k → (∀ ps, o ≠ .tbl ps) → H b = some o → H' b = some o
  urn : UrnAt H' u
  tok : TOk T H'
  dsk : ∃ C dx v, H' k = some (.ins C dx [("page", v)])
theorem XT.trans {T : TC} {u k : Addr} {H H1 H2 : Hp} (a : XT T u k H H1) (b : XT T u k H1 H2) : XT T u k H H2 := ⟨fun c o n1 n2 n3 e => b.kp c o n1 n2 n3 (a.kp c o n1 n2 n3 e), b.urn, b.tok, b.dsk⟩
theorem XT.keeps {T : TC} {u k : Addr} {H H' : Hp} (x : XT T u k H H') (hu : UrnAt H u) (hk : ∃ C dx v, H k = some (.ins C dx [("page", v)])) : Keeps H H' := fun b o s e => x.kp b o (fun z => by
  obtain ⟨d, m, c, q⟩ := hu
  rw [z, q] at e
  cases e
  exact solid_urn s) (fun z => by
  obtain ⟨C, dx, v, q⟩ := hk
  rw [z, q] at e
  cases e
  exact solid_desk s) (fun ps z => by
  rw [z] at s
  exact solid_tbl s) e
theorem TOk.ex {T : TC} {H H' : Hp} (t : TOk T H) (x : Evl.Ex H H') : TOk T H' := (KT.of x).tOk t
/-- the state of a turn: L, the top first -/
structure Sta (K : Frag) (u k : Addr) (H : Hp) (pl : Addr) (L : List Leaf) (n : Nat) : Prop where
  urn : UrnAt H u
  tok : TOk (tcK K) H
  desk : DeskAt K H k L
  pages : PagesL H pl L.reverse
  ok : ∀ l ∈ L, ShOk l.1 ∧ WsOk l.1 l.2 ∧ l.2.length ≤ n
  ne : L ≠ []
  len : L.length ≤ n + 1
theorem DeskAt.one {K : Frag} {H : Hp} {k : Addr} {L : List Leaf} (h : DeskAt K H k L) : ∃ C dx v, H k = some (.ins C dx [("page", v)]) := by
  obtain ⟨a, ⟨dk, hk⟩, _⟩ := h
  exact ⟨_, _, _, hk⟩
section
variable {K : Frag} {u k pl : Addr} {H H' : Hp} {L : List Leaf} {n : Nat}
theorem Sta.refl (s : Sta K u k H pl L n) : XT (tcK K) u k H H := ⟨fun _ _ _ _ _ e => e, s.urn, s.tok, s.desk.one⟩
theorem Sta.mono {m : Nat} (s : Sta K u k H pl L n) (h : n ≤ m) : Sta K u k H pl L m := ⟨s.urn, s.tok, s.desk, s.pages, fun l hl => ⟨(s.ok l hl).1, (s.ok l hl).2.1, Nat.le_trans (s.ok l hl).2.2 h⟩, s.ne, by have := s.len; omega⟩
theorem Sta.ex (s : Sta K u k H pl L n) (x : Evl.Ex H H') : Sta K u k H' pl L n := by
  refine ⟨?_, s.tok.ex x, deskAt_ex s.desk x, pagesL_k s.pages (fun z => s.ne (List.reverse_eq_nil_iff.mp z)) (.ex x), s.ok, s.ne, s.len⟩
  obtain ⟨d, m, c, e⟩ := s.urn
  exact ⟨d, m, c, x _ _ e⟩
theorem Sta.xex (s : Sta K u k H pl L n) (x : Evl.Ex H H') : XT (tcK K) u k H H' := ⟨fun b o _ _ _ e => x b o e, (s.ex x).urn, s.tok.ex x, (s.ex x).desk.one⟩
theorem Sta.xu (s : Sta K u k H pl L n) (x : XU u H H') : Sta K u k H' pl L n := by
  have hk := s.desk.one
  have ku : k ≠ u := fun z => by
    obtain ⟨C, dx, v, q⟩ := hk
    obtain ⟨d, m, c, e⟩ := s.urn
    rw [z, e] at q
    cases q
  have kp := x.keeps s.urn
  refine ⟨x.urn, ?_, deskAt_k s.desk (fun o e => x.k _ _ ku e) kp, pagesL_k s.pages (fun z => s.ne (List.reverse_eq_nil_iff.mp z)) kp, s.ok, s.ne, s.len⟩
  refine KT.tOk (H := H) (fun b o e ht => x.k b o (fun z => ?_) e) s.tok
  obtain ⟨d, m, c, q⟩ := s.urn
  rw [z, q] at e
  cases e
  cases ht
theorem Sta.xxu (s : Sta K u k H pl L n) (x : XU u H H') : XT (tcK K) u k H H' := ⟨fun b o nu _ _ e => x.k b o nu e, x.urn, (s.xu x).tok, (s.xu x).desk.one⟩
/-- the tables have been written -/
theorem Sta.rel (s : Sta K u k H pl L n) (x : RelT (tcK K) H H') : Sta K u k H' pl L n := by
  have kp : Keeps H H' := fun b o so e => x.1 b o e fun ps z => by
    rw [z] at so
    exact solid_tbl so
  refine ⟨?_, x.2, deskAt_k s.desk (fun o e => ?_) kp, pagesL_k s.pages (fun z => s.ne (List.reverse_eq_nil_iff.mp z)) kp, s.ok, s.ne, s.len⟩
  · obtain ⟨d, m, c, e⟩ := s.urn
    exact ⟨d, m, c, x.1 _ _ e (fun ps z => by cases z)⟩
  · obtain ⟨C, dx, v, q⟩ := s.desk.one
    rw [q] at e
    cases e
    exact x.1 _ _ q (fun ps z => by cases z)
theorem Sta.xrel (s : Sta K u k H pl L n) (x : RelT (tcK K) H H') : XT (tcK K) u k H H' := ⟨fun b o _ _ nt e => x.1 b o e nt, (s.rel x).urn, x.2, (s.rel x).desk.one⟩
/-- what a turn leaves, other lists of pages and another desk's chain set in -/
theorem Sta.xt (s : Sta K u k H pl L n) (x : XT (tcK K) u k H H') {L' : List Leaf} {q : Addr} (hd : DeskAt K H' k L') (hp : PagesL H' q L'.reverse) (ok : ∀ l ∈ L', ShOk l.1 ∧ WsOk l.1 l.2 ∧ l.2.length ≤ n) (ne : L' ≠ []) (len : L'.length ≤ n + 1) : Sta K u k H' q L' n := ⟨x.urn, x.tok, hd, hp, ok, ne, len⟩
theorem Sta.keeps (s : Sta K u k H pl L n) (x : XT (tcK K) u k H H') : Keeps H H' := x.keeps s.urn s.desk.one
/-- a deed has changed the desk -/
theorem Sta.xdesk (s : Sta K u k H pl L n) (x : ExBut k H H') {L' : List Leaf} (hd : DeskAt K H' k L') : XT (tcK K) u k H H' := by
  have ku : k ≠ u := fun z => by
    obtain ⟨C, dx, v, q⟩ := s.desk.one
    obtain ⟨d, m, c, e⟩ := s.urn
    rw [z, e] at q
    cases q
  refine ⟨fun b o _ nk _ e => x b o nk e, ?_, ?_, hd.one⟩
  · obtain ⟨d, m, c, e⟩ := s.urn
    exact ⟨d, m, c, x _ _ (Ne.symm ku) e⟩
  · refine KT.tOk (H := H) (fun b o e ht => x b o (fun z => ?_) e) s.tok
    obtain ⟨C, dx, v, q⟩ := s.desk.one
    rw [z, q] at e
    cases e
    cases ht
end
def spTurn (K : Frag) (u k : Addr) (d : Nat) : Sp := fun vs H Q _ => ∃ (pl : Addr) (L : List Leaf) (n : Nat), vs = [.ref u, .ref k, .ref pl, .int (d : Nat)] ∧ Sta K u k H pl L n ∧ n + 4 ^ d ≤ 900 ∧ ∀ (q : Addr) (H' : Hp) (L' : List Leaf), XT (tcK K) u k H H' → Sta K u k H' q L' (n + 4 ^ d) → Q (.ref q) H'
def spTried (K : Frag) (u k : Addr) (d : Nat) : Sp := fun vs H Q E => 1 ≤ d ∧ spTurn K u k d vs H Q E
end Bt
set_option Elab.async false
set_option linter.all false
set_option maxRecDepth 100000
set_option maxHeartbeats 4000000
/-! The law's turn: what its texts are, what a deed leaves. -/
namespace Bt
open PySem PySem.Spec PyProof.Rows L2 HotX L2H LamX PySem.W
/-! ### lists of flat things that are equal -/
def rEqF (K : Frag) : R2 := fun x y H Q => ∃ a b xs, x = .ref a ∧ y = .ref b ∧ SqL K H a xs ∧ SqL K H b xs ∧ (∀ w ∈ xs, flatB w = true) ∧ Q (.bl true) H
def rNeF (K : Frag) : R2 := fun x y H Q => ∃ a b xs, x = .ref a ∧ y = .ref b ∧ SqL K H a xs ∧ SqL K H b xs ∧ (∀ w ∈ xs, flatB w = true) ∧ Q (.bl false) H
theorem flat_items {A : Around} {s : Shared} {xs : List V} {us ws : List Value} (r1 : Vals xs us) (r2 : Vals xs ws) (f : ∀ w ∈ xs, flatB w = true) (j : Nat) (h1 : j < us.length) (h2 : j < ws.length) : SeqAt.EqAt A s us[j] ws[j] true := by
  have hj : j < xs.length := by rw [r1.length]; exact h1
  obtain ⟨u, e1, k1⟩ := r1.get (List.getElem?_eq_getElem hj)
  obtain ⟨w, e2, k2⟩ := r2.get (List.getElem?_eq_getElem hj)
  rw [List.getElem?_eq_getElem h1] at e1
  rw [List.getElem?_eq_getElem h2] at e2
  cases e1
  cases e2
  exact eqAt_same k1 k2 (f _ (List.getElem_mem hj))
section
variable {X : Cx}
theorem op_eqF (hu : X.A.units < cLine) : OpR X (compareOp .Eq) (rEqF X.K) := by
  intro pins s σ H x y v u Q I rx ry h
  obtain ⟨a, b, xs, rfl, rfl, ha, hb, f, q⟩ := h
  obtain rfl : v = Value.ref a := rx
  obtain rfl : u = Value.ref b := ry
  obtain ⟨its, r1, p1, _⟩ := I.list ha
  obtain ⟨ist, r2, p2, _⟩ := I.list hb
  have hl : its.length = ist.length := by rw [← r1.length, r2.length]
  refine SeqAt.eq_listAt (e := fun _ => true) p1.isList p2.isList (by simpa using hl) hu (fun j h1 h2 => ?_) (fin_bl I q ?_)
  · have := flat_items (A := X.A.in1) (s := s) r1 r2 f j (by simpa using h1) (by simpa using h2)
    simpa using this
  · simp
theorem op_neF (hu : X.A.units < cLine) : OpR X (compareOp .NotEq) (rNeF X.K) := by
  intro pins s σ H x y v u Q I rx ry h
  obtain ⟨a, b, xs, rfl, rfl, ha, hb, f, q⟩ := h
  obtain rfl : v = Value.ref a := rx
  obtain rfl : u = Value.ref b := ry
  obtain ⟨its, r1, p1, _⟩ := I.list ha
  obtain ⟨ist, r2, p2, _⟩ := I.list hb
  have hl : its.length = ist.length := by rw [← r1.length, r2.length]
  refine EqBoolInt.of_rcne (SeqAt.RcNeAt.lists (e := fun _ => true) p1.isList p2.isList (by simpa using hl) hu (fun j h1 h2 => ?_)) (fin_bl I q ?_)
  · have := flat_items (A := X.A.in1) (s := s) r1 r2 f j (by simpa using h1) (by simpa using h2)
    simpa using this
  · simp
end
theorem flat_texts (ts : List Str) : ∀ w ∈ ts.map V.str, flatB w = true := fun w hw => by
  obtain ⟨t, _, rfl⟩ := List.mem_map.mp hw
  rfl
def errT (o : Option Err) : List Str := match o with
  | none => []
  | some e => errL e
theorem errV_eq (o : Option Err) : errV o = (errT o).map V.str := by
  cases o with
  | none => rfl
  | some e => rfl
/-! ### errors of deeds -/
theorem raised_of {K : Frag} {E : XK} {H : Hp} : ∀ {e : Err}, (∀ cls d H', Evl.Ex H H' → ErrIs K cls d H' e → E cls d H') → Raised K E H e
  | .unknown _, h => fun d hd => h _ _ _ (.new hd) ⟨rfl, d, rfl, upd_same⟩
  | .inUse _, h => fun d hd => h _ _ _ (.new hd) ⟨rfl, d, rfl, upd_same⟩
  | .index _, h => fun d hd => h _ _ _ (.new hd) ⟨rfl, d, rfl, upd_same⟩
  | .nothing, h => h _ _ _ (.refl _) ⟨rfl, rfl⟩
  | .broken _ _, h => fun d hd => h _ _ _ (.new hd) ⟨rfl, d, rfl, upd_same⟩
theorem broke_spec {S : Shelf} : ∀ {Ws : List Wish} {i j : Nat} {v : V}, broke S i Ws = some (j, v) → ∃ c ∈ Ws, v = shownV S c ∧ j < i + Ws.length
  | [], _, _, _, h => by cases h
  | c :: r, i, j, v, h => by
    unfold broke at h
    split at h
    · obtain ⟨c', hc, e, l⟩ := broke_spec h
      exact ⟨c', List.mem_cons_of_mem _ hc, e, by rw [List.length_cons]; omega⟩
    · cases h
      exact ⟨c, List.mem_cons_self, rfl, by rw [List.length_cons]; omega⟩
theorem used_spec {t : Str} : ∀ {Ws : List Wish} {i j : Nat}, usedBy t i Ws = some j → j < i + Ws.length
  | [], _, _, h => by cases h
  | c :: r, i, j, h => by
    unfold usedBy at h
    split at h
    · cases h
      rw [List.length_cons]
      omega
    · have := used_spec h
      rw [List.length_cons]
      omega
theorem str_fit {t : Str} (h : (PyData.str t).shown.length ≤ 100) : flatD (dV (.str t)) = true ∧ (dV (.str t)).showable = true ∧ (dV (.str t)).shown.length ≤ sizeLine := by
  refine ⟨rfl, by simp only [dV, PyData.showable], ?_⟩
  rw [sizeLine_eq]
  show (PyData.str t).shown.length ≤ _
  omega
theorem fit_broken {K : Frag} {S : Shelf} {Ws : List Wish} (wo : ∀ c ∈ Ws, WishOk c) (l : Ws.length ≤ 1000) {e : Err} (h : BrokeV S Ws = some e) : ErrFit K e := by
  unfold BrokeV at h
  cases eb : broke S 0 Ws with
  | none => rw [eb] at h; cases h
  | some p =>
    obtain ⟨j, v⟩ := p
    rw [eb] at h
    cases h
    obtain ⟨c, hc, rfl, lj⟩ := broke_spec eb
    exact ⟨fun H => shownV_dp K H S c, shownV_fit S (wo c hc), log_small (by omega)⟩
theorem fit_deed {K : Frag} {l : Leaf} {dd : Deed} (wo : WsOk l.1 l.2) (l900 : l.2.length ≤ 900) (dok : DeedOk l dd) {e : Err} (h : deedErr l dd = some e) : ErrFit K e := by
  cases dd with
  | put t p => exact fit_broken (fun c hc => (wo c hc).1) (by omega) h
  | claim c =>
    refine fit_broken (S := l.1) (Ws := l.2 ++ [c]) (fun z hz => ?_) (by simp; omega) h
    rcases List.mem_append.mp hz with q | q
    · exact (wo z q).1
    · rw [List.mem_singleton] at q
      rw [q]
      exact dok.1
  | lift i =>
    have h : (if i < l.2.length then none else some (Err.index i)) = some e := h
    split at h
    · cases h
    · cases h
      have : i ≤ l.2.length := dok
      exact log_small (by omega)
  | drop t =>
    have h : (if l.1.has t = true then (usedBy t 0 l.2).map Err.inUse else some (Err.unknown t)) = some e := h
    split at h
    · cases eu : usedBy t 0 l.2 with
      | none => rw [eu] at h; cases h
      | some j =>
        rw [eu] at h
        cases h
        have := used_spec eu
        exact log_small (by omega)
    · cases h
      exact str_fit (Nat.le_trans (name_shown dok) (by decide))
/-- what a deed leaves is right -/
theorem leaf_ok {l : Leaf} {dd : Deed} {n : Nat} (h : ShOk l.1 ∧ WsOk l.1 l.2 ∧ l.2.length ≤ n) (dok : DeedOk l dd) (en : deedErr l dd = none) : ShOk (deedTo l dd).1 ∧ WsOk (deedTo l dd).1 (deedTo l dd).2 ∧ (deedTo l dd).2.length ≤ n + 1 := by
  obtain ⟨so, wo, ln⟩ := h
  cases dd with
  | put t p => exact ⟨so.put dok.1 dok.2, wo.put, by show l.2.length ≤ n + 1; omega⟩
  | claim c =>
    refine ⟨so, fun z hz => ?_, by show (l.2 ++ [c]).length ≤ n + 1; simp; omega⟩
    have hz : z ∈ l.2 ++ [c] := hz
    rcases List.mem_append.mp hz with q | q
    · exact wo z q
    · rw [List.mem_singleton] at q
      rw [q]
      exact dok
  | lift i =>
    refine ⟨so, fun z hz => ?_, ?_⟩
    · have hz : z ∈ l.2.take i ++ l.2.drop (i + 1) := hz
      rcases List.mem_append.mp hz with q | q
      · exact wo z (List.mem_of_mem_take q)
      · exact wo z (List.mem_of_mem_drop q)
    · show (l.2.take i ++ l.2.drop (i + 1)).length ≤ n + 1
      simp
      omega
  | drop t =>
    have en : (if l.1.has t = true then (usedBy t 0 l.2).map Err.inUse else some (Err.unknown t)) = none := en
    split at en
    · have eu : usedBy t 0 l.2 = none := by
        cases e : usedBy t 0 l.2 with
        | none => rfl
        | some j => rw [e] at en; cases en
      refine ⟨⟨fun e he => so.pl e (List.mem_filter.mp he).1, fun e he => so.nm e (List.mem_filter.mp he).1, (List.filter_sublist.map _).nodup so.nd⟩, fun c hc => ⟨(wo c hc).1, fun u hu => ?_⟩, by show l.2.length ≤ n + 1; omega⟩
      have hc : c ∈ l.2 := hc
      have ne : u ≠ t := fun z => by
        have key : ∀ {Ws : List Wish} {i : Nat}, usedBy t i Ws = none → ∀ c ∈ Ws, t ∉ c.names := by
          intro Ws
          induction Ws with
          | nil => intro i _ c hc; cases hc
          | cons a r ih =>
            intro i h c hc
            unfold usedBy at h
            split at h
            · cases h
            · rename_i hn
              rcases List.mem_cons.mp hc with q | q
              · rw [q]
                intro z
                exact hn (decide_eq_true z)
              · exact ih h c q
        rw [z] at hu
        exact key eu c hc hu
      obtain ⟨e, he, hu2⟩ := List.any_eq_true.mp ((wo c hc).2 u hu)
      refine List.any_eq_true.mpr ⟨e, List.mem_filter.mpr ⟨he, ?_⟩, hu2⟩
      have := of_decide_eq_true hu2
      rw [this]
      exact decide_eq_true ne
    · cases en
end Bt
set_option Elab.async false
set_option linter.all false
set_option maxRecDepth 100000
set_option maxHeartbeats 4000000
/-! The law's turn. -/
namespace Bt
open PySem PySem.Spec PyProof.Rows L2 HotX L2H LamX PySem.W
theorem paired_snoc {α β : Type} {F : α → β → Prop} {xs : List α} {ys : List β} {y : β} (h : Paired F xs (ys ++ [y])) : ∃ xs0 x, xs = xs0 ++ [x] ∧ Paired F xs0 ys ∧ F x y := by
  induction ys generalizing xs with
  | nil =>
    cases h with
    | cons a r =>
      cases r
      exact ⟨[], _, rfl, .nil, a⟩
  | cons z ys ih =>
    cases h with
    | cons a r =>
      obtain ⟨xs0, x, rfl, h1, h2⟩ := ih r
      exact ⟨_ :: xs0, x, rfl, .cons a h1, h2⟩
theorem at_end {ps0 : List Addr} {p : Addr} : atI ((ps0 ++ [p]).map V.ref) (-1) = some (.ref p) := by
  rw [List.map_append]
  exact atI_last _ _
theorem i_no {σ : L2.St} {H : Hp} {Q : Option Int → Hp → Prop} (h : Q none H) : tNoPart σ H Q := h
theorem i_part {te : TE} {σ : L2.St} {H : Hp} {Q : Option Int → Hp → Prop} (h : te σ H fun x H1 => ∃ i, x = .int i ∧ Q (some i) H1) : tPart te σ H Q := h
theorem fit_none : Fit .none 20 1000 := ⟨by simp only [PyData.showable], by simp only [PyData.hasDict], by simp only [PyData.depth]; omega, by simp only [PyData.shown]; decide +kernel⟩
theorem shown_none : (PyData.none).shown = ("None" : Str) := by simp only [PyData.shown]
abbrev nTurn : List Str := ["_law_urn_here", "_law_desk_here", "_law_pages", "_law_deep", "_law_way", "_law_due", "_law_told", "_law_deed", "_law_later"]
section
variable {P : Program} {w : World} {K : PySem.W.Frag} {mg : Str → Option Value} {base : Heap}
theorem scTurn : FnScope nTurn ["_law_urn_here", "_law_desk_here", "_law_pages", "_law_deep"] (defScope st_d_law_turn) := ⟨rfl, rfl, rfl, by decide +kernel, rfl, by decide +kernel, by decide +kernel⟩
theorem ok_turn (hw : Hw w K mg) (ht : Ht base mg K) (u k : Addr) (d : Nat) (TRI : Okg P w K mg base C8.CX0 (15 + 13 * d) (He.fAd K d_law_tried.at_) ["_law_urn_here", "_law_desk_here", "_law_pages", "_law_deep"] (spTried K u k d)) :
    Okg P w K mg base C8.CX0 (16 + 13 * d) (He.fAd K d_law_turn.at_) ["_law_urn_here", "_law_desk_here", "_law_pages", "_law_deep"] (spTurn K u k d) := by
  have hz := hw.toHz
  have hd := hz.toHd
  have cD := hd.cls "Desk" (by decide +kernel)
  have ml : mg "len" = none := hd.free _ (by decide +kernel)
  have mx : mg "max" = none := hd.free _ (by decide +kernel)
  have mG : mg "_law_grab" = some (.ref (He.fAd K d_law_grab.at_)) := hd.glo _ (by decide +kernel)
  have mH : mg "_law_heard" = some (.ref (He.fAd K d_law_heard.at_)) := hd.glo _ (by decide +kernel)
  have mT : mg "_law_tried" = some (.ref (He.fAd K d_law_tried.at_)) := hd.glo _ (by decide +kernel)
  have mN : mg "_law_new_deed" = some (.ref (He.fAd K d_law_new_deed.at_)) := hd.glo _ (by decide +kernel)
  have mB : mg "_law_behind" = some (.ref (He.fAd K d_law_behind.at_)) := hd.glo _ (by decide +kernel)
  have mD : mg "_law_done" = some (.ref (He.fAd K d_law_done.at_)) := hd.glo _ (by decide +kernel)
  have G := ok_grab (P := P) (w := w) (base := base) hd u
  have ND := ok_newD (P := P) (w := w) (base := base) hd u
  have BE := ok_behind (P := P) (w := w) (base := base) hd
  have DO := ok_done (P := P) (base := base) hz
  have UN := ok_undo (P := P) (base := base) hz
  have mU := hd.meth ("Desk", "undo") (by decide +kernel)
  obtain ⟨fdH, FH⟩ := hd.f_d_law_heard
  have kH := FH.kp
  have e16 : 16 + 13 * d = (15 + 13 * d) + 1 := by omega
  rw [e16]
  refine okg_ofC (p := ("_law_turn", none)) hd.f_d_law_turn scTurn (fun _ _ _ _ _ _ us hl => ?_) (fun vs H Q E h => ?_) (fun A outer s H vs Q E hg hr h => ?_)
  · obtain ⟨a, b, c, e, rfl⟩ := us4 hl
    rfl
  · obtain ⟨pl, _, _, rfl, _⟩ := h
    rfl
  · obtain ⟨pl, L, n, rfl, s0, n900, kk⟩ := h
    have hr1 : Room 1 _ := hr.mono (show 1 ≤ 15 + 13 * d by omega)
    have hr5 : Room 5 _ := hr.mono (show 5 ≤ 15 + 13 * d by omega)
    have hr15 : Room 15 _ := hr.mono (show 15 ≤ 15 + 13 * d by omega)
    have hu1 := hr.units0
    refine ⟨_, pss_cons (ps_set (i := 4) scTurn.nd rfl (.inl rfl) (pe_callR (E := E00) (G.run hr1 C8.pass0) (by rfl) mG G.kp (pa_cons (pv 0) (pa_cons pe_int pa_nil))))
      (pss_cons (ps_if (pt_cmpR op_eq (pv 4) pe_int (nomark _))
        (pss_cons (ps_set (i := 5) scTurn.nd rfl (.inl rfl) (pe_ifExp (pt_cmpR op_gt (pe_callB call_len_seq (by rfl) ml bo_len (pa_cons (pv 2) pa_nil)) pe_int (nomark _)) (pe_lst (pa_cons pe_str (pa_cons pe_str pa_nil))) (pe_lst (pa_cons pe_str pa_nil))))
        (pss_cons (ps_set (i := 6) scTurn.nd rfl (.inl rfl) (pe_clcall (k := 11) (mk_leaf1 (T := tcK K) (ps := []) (t := fun E => tMeth (He.ga K "Desk") "undo" (spUndo K) [] E (tVar 1) tNil) ht.t1 rfl rfl (lamP_by (N := nTurn) (sc := d_law_turn.scope) (by decide +kernel)) rfl (fun us q cl pm cv ctv hl => by
            cases us with
            | nil => rfl
            | cons _ _ => cases hl) (fun A' outer' s1 HZ E' f c' hg' hr' => pe_methR0 (E := E') (pv 1) cD mU (UN.run (hr'.mono (by decide)) (L2N.passes_call clCx_takes fun _ _ _ _ h => h)))) (run_heard hw hg hr15) (by rfl) mH kH))
        (pss_one (ps_ret (pe_ifExp (pt_cmpR (op_eqF hu1) (pv 6) (pv 5) (nomark _)) (pe_slice sl_list (pv 2) po_none (po_some (pe_callB (call_max2 rfl) (by rfl) mx bo_max (pa_cons pe_int (pa_cons (pe_op op_sub (pe_callB call_len_seq (by rfl) ml bo_len (pa_cons (pv 2) pa_nil)) pe_int) pa_nil))))) pe_dead))))) pss_nil)
      (pss_cons (ps_if (pw_and (pt_cmpR op_lt (pv 4) pe_int (nomark _)) (pw_and1 (pt_cmpR op_gt (pv 3) pe_int (nomark _)))).pt
        (pss_one (ps_ret (pe_callR (E := E00) (TRI.run hg hr C8.pass0) (by rfl) mT TRI.kp (pa_cons (pv 0) (pa_cons (pv 1) (pa_cons (pv 2) (pa_cons (pv 3) pa_nil))))))) pss_nil)
      (pss_cons (ps_set (i := 7) scTurn.nd rfl (.inr rfl) (pe_callR (E := E00) (ND.run hr5 C8.pass0) (by rfl) mN ND.kp (pa_cons (pv 0) (pa_cons (pe_ix ix_list (pv 2) (pe_un un_neg pe_int) (fun _ _ => rfl)) (pa_cons (pe_lst (pa_cons pe_str (pa_cons pe_str pa_nil))) pa_nil)))))
      (pss_cons (ps_asg (pe_callR (E := E00) (BE.run hr5 C8.pass0) (by rfl) mB BE.kp (pa_cons (pe_ix ix_list (pv 2) (pe_un un_neg pe_int) (fun _ _ => rfl)) (pa_cons (pv 7) pa_nil))) (pg_tup rfl (pgs_cons (pg_name (i := 5) scTurn.nd rfl (.inl rfl)) (pgs_cons (pg_name (i := 8) scTurn.nd rfl (.inl rfl)) pgs_nil))))
      (pss_cons (ps_if (pt_cmpR (op_neF hu1) (pe_clcall (k := 11) (mk_leaf1 (T := tcK K) (ps := []) (t := fun E => tCall (spDone K) [] E (tCons (tVar 1) (tCons (tVar 7) tNil))) ht.t1 rfl rfl (lamP_by (N := nTurn) (sc := d_law_turn.scope) (by decide +kernel)) rfl (fun us q cl pm cv ctv hl => by
            cases us with
            | nil => rfl
            | cons _ _ => cases hl) (fun A' outer' s1 HZ E' f c' hg' hr' => pe_callR (E := E') (DO.run hr' (L2N.passes_call clCx_takes fun _ _ _ _ h => h)) (by rfl) mD DO.kp (pa_cons (pv 1) (pa_cons (pv 7) pa_nil)))) (run_heard hw hg hr15) (by rfl) mH kH)
          (pe_ifExp (pt_cmpR (op_neE hu1) (pv 5) (pe_lst pa_nil) (nomark _)) (pv 5) (pe_lst (pa_cons pe_str (pa_cons pe_str pa_nil)))) (nomark _)) (pss_one ps_dead) pss_nil)
      (pss_one (ps_ret (pe_op op_cat (pv 2) (pe_ifExp (pt_cmpR (op_eqE hu1) (pv 5) (pe_lst pa_nil) (nomark _)) (pe_lst (pa_cons (pv 8) pa_nil)) (pe_lst pa_nil)))))))))), ?_⟩
    obtain ⟨l, rest, rfl⟩ : ∃ l rest, L = l :: rest := by
      cases L with
      | nil => exact absurd rfl s0.ne
      | cons l rest => exact ⟨l, rest, rfl⟩
    have len0 := s0.len
    rw [List.length_cons] at len0
    have p4 : 1 ≤ 4 ^ d := Nat.one_le_pow _ _ (by decide)
    refine i_seq (i_asg (grab_of rfl (fun Q q => q) s0.urn (by decide) (by decide) fun wy H1 w0 w1 X1 => ?_))
    dsimp only
    have s1 := s0.xu X1
    have t1 := s0.xxu X1
    have f4 : Fx (tTest (tOp rEq (tVar 4) (tC (.int 0)))) [some (V.ref u), some (V.ref k), some (V.ref pl), some (V.int (d : Nat)), some (V.int wy), none, none, none, none] H1 (decide (wy = 0)) := fx_test (vx_eqI (vx_var rfl) vx_c)
    -- the end of taking back: the pages without the last, if there are two
    by_cases c0 : wy = 0
    · rw [decide_eq_true c0] at f4
      refine i_seq (if_t f4 ?_)
      obtain ⟨ps, hpl, hps⟩ := id s1.pages
      have lps : ps.length = rest.length + 1 := by rw [paired_len hps]; simp
      have fl : Fx (tTest (tOp (rI0 fun i j => .bl (decide (j < i))) (tCB (Evl.rLenS K) (tCons (tVar 2) tNil)) (tC (.int 1)))) [some (V.ref u), some (V.ref k), some (V.ref pl), some (V.int (d : Nat)), some (V.int wy), none, none, none, none] H1 (decide ((1 : Int) < (ps.length : Nat))) :=
        fx_test (vx_op0 (g := fun i j => .bl (decide (j < i))) (vx_lenL (K := K) (n := ps.length) (vx_var rfl) (.of hpl) (by simp)) vx_c)
      cases rest with
      | nil =>
        rw [decide_eq_false (by simp at lps; omega)] at fl
        refine i_seq (i_asg (i_ifE (fl _ (iteF (i_lst (i_cons (vx_c _ (i_nil ⟨szl (by simp), fun dl hdl => ?_⟩))))))))
        have x2 : Evl.Ex H1 (upd H1 dl (.lst [.str "NothingToUndo"])) := .new hdl
        have e2 : (upd H1 dl (.lst [.str "NothingToUndo"])) dl = some (.lst [.str "NothingToUndo"]) := upd_same
        generalize (upd H1 dl (.lst [.str "NothingToUndo"])) = H2 at x2 e2 ⊢
        have s2 := s1.ex x2
        have t2 := t1.trans (s1.xex x2)
        dsimp only
        refine i_seq (i_asg ⟨s2.tok, fun H3 rel Q0 E0 q0 e0 => ?_⟩)
        have s3 := s2.rel rel
        have t3 := t2.trans (s2.xrel rel)
        obtain ⟨a3, ⟨dk3, hk3⟩, pg3⟩ := id s3.desk
        refine ⟨_, rfl, k, dk3, _, rfl, hk3, lk_no (by decide +kernel), k, l, [], rfl, s3.desk, fun _ => ?_, fun z => absurd rfl z⟩
        refine raised_of fun cls d' H4 x4 his => e0 cls d' H4 (.inl ⟨.nothing, his, trivial, fun tl H5 x5 etl => ?_⟩)
        have x45 := x4.trans x5
        have s5 := s3.ex x45
        have t5 := t3.trans (s3.xex x45)
        have e5 := x45 _ _ (rel.1 _ _ e2 (fun ps z => by cases z))
        dsimp only
        refine i_ret (i_ifE ⟨_, rfl, _, rfl, tl, dl, _, rfl, rfl, .of etl, .of e5, flat_texts _, true, rfl, iteT ?_⟩)
        obtain ⟨qs, hpl5, hqs⟩ := id s5.pages
        have lqs : qs.length = 1 := by rw [paired_len hqs]; simp
        refine vx_var rfl _ (i_no (i_part (vx_max2 vx_c (vx_op0 (g := fun i j => .int (i - j)) (vx_lenL (K := K) (n := qs.length) (vx_var rfl) (.of hpl5) (by simp)) vx_c) _ ⟨_, rfl, pl, _, rfl, .of hpl5, fun q hq => ?_⟩)))
        have em : (if ((qs.length : Nat) : Int) - 1 > 1 then ((qs.length : Nat) : Int) - 1 else 1) = ((1 : Nat) : Int) := by
          rw [if_neg (by omega)]
          rfl
        rw [em, cut_to _ (by rw [List.length_map]; omega)] at *
        have x6 := Evl.Ex.new (o := .lst ((qs.map V.ref).take 1)) hq
        refine kk q _ [l] (t5.trans (s5.xex x6)) ((s5.ex x6).mono (by omega) |>.xt ((s5.ex x6).refl) (s5.ex x6).desk ⟨qs, ?_, paired_mono hqs fun _ _ f => f.ex x6⟩ (fun z hz => ((s5.mono (m := n + 4 ^ d) (by omega)).ok z hz)) (by simp) (by simp))
        rw [upd_same, List.take_of_length_le (by rw [List.length_map]; omega)]
      | cons l2 rest2 =>
        rw [decide_eq_true (by simp at lps; omega)] at fl
        refine i_seq (i_asg (i_ifE (fl _ (iteT (i_lst (i_cons (vx_c _ (i_cons (vx_c _ (i_nil ⟨szl (by simp), fun dl hdl => ?_⟩))))))))))
        have x2 : Evl.Ex H1 (upd H1 dl (.lst [.str "told", .str "None"])) := .new hdl
        have e2 : (upd H1 dl (.lst [.str "told", .str "None"])) dl = some (.lst [.str "told", .str "None"]) := upd_same
        generalize (upd H1 dl (.lst [.str "told", .str "None"])) = H2 at x2 e2 ⊢
        have s2 := s1.ex x2
        have t2 := t1.trans (s1.xex x2)
        dsimp only
        refine i_seq (i_asg ⟨s2.tok, fun H3 rel Q0 E0 q0 e0 => ?_⟩)
        have s3 := s2.rel rel
        have t3 := t2.trans (s2.xrel rel)
        obtain ⟨a3, ⟨dk3, hk3⟩, pg3⟩ := id s3.desk
        refine ⟨_, rfl, k, dk3, _, rfl, hk3, lk_no (by decide +kernel), k, l, l2 :: rest2, rfl, s3.desk, fun z => absurd z (by simp), fun _ H4 y1 y2 => q0 .non H4 ⟨.none, .non, fit_none, fun tl H5 x5 etl => ?_⟩⟩
        rw [shown_none] at etl
        have t34 := s3.xdesk y1 y2
        have e3 := rel.1 _ _ e2 (fun ps z => by cases z)
        have e5 := x5 _ _ (y1 _ _ (fun z => by rw [z, hk3] at e3; cases e3) e3)
        obtain ⟨qs, hpl4, hqs⟩ := pagesL_k s3.pages (by simp) (s3.keeps t34)
        have lqs : qs.length = rest2.length + 2 := by rw [paired_len hqs]; simp
        have hpl5 := x5 _ _ hpl4
        dsimp only
        refine i_ret (i_ifE ⟨_, rfl, _, rfl, tl, dl, [.str "told", .str "None"], rfl, rfl, .of etl, .of e5, flat_texts ["told", "None"], true, rfl, iteT ?_⟩)
        refine vx_var rfl _ (i_no (i_part (vx_max2 vx_c (vx_op0 (g := fun i j => .int (i - j)) (vx_lenL (K := K) (n := qs.length) (vx_var rfl) (.of hpl5) (by simp)) vx_c) _ ⟨_, rfl, pl, _, rfl, .of hpl5, fun q hq => ?_⟩)))
        have em : (if ((qs.length : Nat) : Int) - 1 > 1 then ((qs.length : Nat) : Int) - 1 else 1) = ((rest2.length + 1 : Nat) : Int) := by
          split <;> omega
        rw [em, cut_to _ (by rw [List.length_map]; omega)] at *
        have x6 := x5.trans (Evl.Ex.new (o := .lst ((qs.map V.ref).take (rest2.length + 1))) hq)
        have s4 : Sta K u k H4 pl (l :: l2 :: rest2) (n + 4 ^ d) → True := fun _ => trivial
        have tk : (l :: l2 :: rest2).reverse.take (rest2.length + 1) = (l2 :: rest2).reverse := by
          rw [List.reverse_cons, List.take_left' (by simp)]
        have hq4 := paired_take hqs (rest2.length + 1)
        rw [tk] at hq4
        have t6 : XT (tcK K) u k H4 (upd H5 q (.lst ((qs.map V.ref).take (rest2.length + 1)))) := by
          obtain ⟨d0, m0, c0', e⟩ := t34.urn
          obtain ⟨C0, dx0, v0, e'⟩ := t34.dsk
          exact ⟨fun b o _ _ _ e => x6 b o e, ⟨d0, m0, c0', x6 _ _ e⟩, t34.tok.ex x6, ⟨C0, dx0, v0, x6 _ _ e'⟩⟩
        have t36 := t34.trans t6
        refine kk q _ (l2 :: rest2) (t3.trans t36) ⟨t36.urn, t36.tok, deskAt_ex y2 x6, ⟨qs.take (rest2.length + 1), by rw [upd_same, List.map_take], paired_mono hq4 fun _ _ f => f.ex x6⟩, fun z hz => ((s0.mono (m := n + 4 ^ d) (by omega)).ok z (List.mem_cons_of_mem _ hz)), by simp, by simp at len0 ⊢; omega⟩
    · rw [decide_eq_false c0] at f4
      refine i_seq (if_f f4 ?_)
      dsimp only [tNext]
      have f5 : Fx (tAnd (tTest (tOp (rI0 fun i j => .bl (decide (i < j))) (tVar 4) (tC (.int 3)))) (tTest (tOp (rI0 fun i j => .bl (decide (j < i))) (tVar 3) (tC (.int 0))))) [some (V.ref u), some (V.ref k), some (V.ref pl), some (V.int (d : Nat)), some (V.int wy), none, none, none, none] H1 (decide (wy < 3) && decide ((0 : Int) < (d : Nat))) :=
        fx_and (fx_test (vx_op0 (g := fun i j => .bl (decide (i < j))) (vx_var rfl) vx_c)) fun _ => fx_test (vx_op0 (g := fun i j => .bl (decide (j < i))) (vx_var rfl) vx_c)
      by_cases c1 : wy < 3 ∧ (0 : Int) < (d : Nat)
      · rw [decide_eq_true c1.1, decide_eq_true c1.2] at f5
        refine i_seq (if_t f5 (i_ret (i_call (i_cons (vx_var rfl _ (i_cons (vx_var rfl _ (i_cons (vx_var rfl _ (i_cons (vx_var rfl _ (i_nil ⟨by omega, pl, l :: rest, n, rfl, s1, n900, fun q H' L' x st => kk q H' L' (t1.trans x) st⟩))))))))))))
      have fb : (decide (wy < 3) && decide ((0 : Int) < (d : Nat))) = false := by
        rw [Bool.and_eq_false_iff]
        by_cases c2 : wy < 3
        · exact .inr (decide_eq_false fun z => c1 ⟨c2, z⟩)
        · exact .inl (decide_eq_false c2)
      rw [fb] at f5
      refine i_seq (if_f f5 ?_)
      dsimp only [tNext]
      -- a deed is drawn
      obtain ⟨ps, hpl, hps⟩ := id s1.pages
      rw [List.reverse_cons] at hps
      obtain ⟨ps0, p, rfl, hps0, hlf⟩ := paired_snoc hps
      obtain ⟨so, wo, ln⟩ := s1.ok l List.mem_cons_self
      have l900 : l.2.length ≤ 900 := by omega
      have s2' := so.two
      refine i_seq (i_asg (i_call (i_cons (vx_var rfl _ (i_cons (vx_ixL (K := K) (vx_var rfl) (vx_neg vx_c) hpl at_end _ (i_cons (i_lst (i_cons (vx_c _ (i_cons (vx_c _ (i_nil ⟨szl (by simp), fun tl htl => i_nil ⟨p, tl, l, rfl, (s1.ex (.new htl)).urn, hlf.ex (.new htl), so, l900, by omega, upd_same, fun dl H3 dd X3 da dok => ?_⟩⟩)))))))))))))
      have x2 : Evl.Ex H1 (upd H1 tl (.lst [.str "a", .str "side"])) := .new htl
      have s2 := s1.ex x2
      have t2 := t1.trans (s1.xex x2)
      have lf2 := hlf.ex x2
      have hpl2 := x2 _ _ hpl
      generalize (upd H1 tl (.lst [.str "a", .str "side"])) = H2 at x2 s2 t2 lf2 hpl2 X3
      have s3 := s2.xu X3
      have t3 := t2.trans (s2.xxu X3)
      have kp3 := X3.keeps s2.urn
      have hpl3 := kp3 _ _ (solid_refs (by simp)) hpl2
      have lf3 := leafAt_k lf2 kp3
      have kpA : Keeps H1 H3 := (Keeps.ex x2).trans kp3
      clear lf2 hpl2 s2 t2 x2
      dsimp only
      refine i_seq (i_asg (i_call (i_cons (vx_ixL (K := K) (vx_var rfl) (vx_neg vx_c) hpl3 at_end _ (i_cons (vx_var rfl _ (i_nil ⟨p, dl, l, dd, rfl, lf3, so, wo, l900, by omega, da, dok, fun r e q H4 x4 hr4 he hq => ?_⟩)))))))
      have s4 := s3.ex x4
      have t4 := t3.trans (s3.xex x4)
      have da4 := da.ex x4
      have hpl4 := x4 _ _ hpl3
      refine ⟨r, _, rfl, .of hr4, rfl, _, _, rfl, _, _, rfl, rfl, ?_⟩
      have kpB : Keeps H1 H4 := kpA.trans (.ex x4)
      clear s3 t3 lf3 hpl3 da
      dsimp only
      -- it is done
      refine i_seq ⟨s4.tok, fun H5 rel Q0 E0 q0 e0 => ?_⟩
      have s5 := s4.rel rel
      have t5 := t4.trans (s4.xrel rel)
      have kp5 := s4.keeps (s4.xrel rel)
      have da5 := deedAt_k da4 kp5
      have hpl5 := kp5 _ _ (solid_refs (by simp)) hpl4
      have he5 := rel.1 _ _ he (fun ps z => by cases z)
      have ene : e ≠ k := fun z => by
        obtain ⟨C0, dx0, v0, q0⟩ := s5.desk.one
        rw [z, q0] at he5
        cases he5
      have enu : e ≠ u := fun z => by
        obtain ⟨d0, m0, c0', q0⟩ := s5.urn
        rw [z, q0] at he5
        have he5 := Option.some.inj he5
        injection he5 with he5
        rw [errV_eq] at he5
        cases hT : errT (deedErr l dd) with
        | nil => rw [hT] at he5; cases he5
        | cons a b => rw [hT] at he5; cases he5
      refine i_callE (i_cons (vx_var rfl _ (i_cons (vx_var rfl _ (i_nil ⟨k, dl, l, rest, dd, rfl, s5.desk, so, wo, l900, by omega, da5, dok, fun en H6 y1 y2 => ?_, fun er ee H6 y1 => ?_⟩)))))
      · -- done
        have hlt := hq en
        rw [en] at he5
        refine q0 .non H6 ⟨.none, .non, fit_none, fun tl6 H7 x7 etl => ?_⟩
        rw [shown_none] at etl
        have t56 := s5.xdesk y1 y2
        have he7 := x7 _ _ (y1 _ _ ene he5)
        have kp6 := s5.keeps t56
        have hpl7 := x7 _ _ (kp6 _ _ (solid_refs (by simp)) hpl5)
        refine ⟨_, rfl, szl (by simp), fun el hel => ⟨e, el, [], [], rfl, rfl, .of (by rw [upd_ne (ne_of_none he7 hel)]; exact he7), .of upd_same, .inr rfl, false, rfl, iteF (i_lst (i_cons (vx_c _ (i_cons (vx_c _ (i_nil ⟨szl (by simp), fun ml hml => ?_⟩))))))⟩⟩
        have x8 := (Evl.Ex.new (o := .lst []) hel).trans (.new (o := .lst [.str "told", .str "None"]) hml)
        refine ⟨tl6, ml, [.str "told", .str "None"], rfl, rfl, .of (x8 _ _ etl), .of upd_same, flat_texts ["told", "None"], false, rfl, iteF ?_⟩
        have he8 := x8 _ _ he7
        have hpl8 := x8 _ _ hpl7
        have x78 := x7.trans x8
        generalize (upd (upd H7 el (.lst [])) ml (.lst [.str "told", .str "None"])) = H8 at x8 he8 hpl8 x78 ⊢
        dsimp only [tNext]
        refine i_ret (i_op (vx_var rfl _ (i_ifE ⟨_, rfl, szl (by simp), fun el2 hel2 => ⟨e, el2, [], [], rfl, rfl, .of (by rw [upd_ne (ne_of_none he8 hel2)]; exact he8), .of upd_same, .inr rfl, true, rfl, iteT (i_lst (i_cons (vx_var rfl _ (i_nil ⟨szl (by simp), fun ol hol => ?_⟩))))⟩⟩)))
        have x9 := (Evl.Ex.new (o := .lst []) hel2).trans (.new (o := .lst [.ref q]) hol)
        have e9 : (upd (upd H8 el2 (.lst [])) ol (.lst [.ref q])) ol = some (.lst [.ref q]) := upd_same
        have hpl9 := x9 _ _ hpl8
        have x79 := x78.trans x9
        generalize (upd (upd H8 el2 (.lst [])) ol (.lst [.ref q])) = H9 at x9 e9 hpl9 x79 ⊢
        have lps : ps0.length = rest.length := by rw [paired_len hps0]; simp
        refine ⟨pl, ol, _, _, rfl, rfl, hpl9, e9, szl (by simp; omega), fun z hz => ?_⟩
        have x6z := x79.trans (.new (o := .lst (List.map V.ref (ps0 ++ [p]) ++ [.ref q])) hz)
        have t6z : XT (tcK K) u k H6 (upd H9 z (.lst (List.map V.ref (ps0 ++ [p]) ++ [.ref q]))) := by
          obtain ⟨d0, m0, c0', e⟩ := t56.urn
          obtain ⟨C0, dx0, v0, e'⟩ := t56.dsk
          exact ⟨fun b o _ _ _ e => x6z b o e, ⟨d0, m0, c0', x6z _ _ e⟩, t56.tok.ex x6z, ⟨C0, dx0, v0, x6z _ _ e'⟩⟩
        have t5z := t56.trans t6z
        have kpz := s5.keeps t5z
        have kpD : Keeps H1 (upd H9 z (.lst (List.map V.ref (ps0 ++ [p]) ++ [.ref q]))) := (kpB.trans kp5).trans kpz
        have okd := leaf_ok (s0.ok l List.mem_cons_self) dok en
        refine kk z _ (deedTo l dd :: l :: rest) (t5.trans t5z) ⟨t5z.urn, t5z.tok, deskAt_ex y2 x6z, ⟨ps0 ++ [p] ++ [q], by rw [upd_same]; simp, ?_⟩, fun y hy => ?_, by simp, by simp; omega⟩
        · rw [List.reverse_cons, List.reverse_cons]
          exact paired_app (paired_app (paired_mono hps0 fun _ _ f => leafAt_k f kpD) (.cons (leafAt_k hlf kpD) .nil)) (.cons (leafAt_k hlt (kp5.trans kpz)) .nil)
        · rcases List.mem_cons.mp hy with e | e
          · rw [e]
            exact ⟨okd.1, okd.2.1, by have := okd.2.2; omega⟩
          · exact (s0.mono (m := n + 4 ^ d) (by omega)).ok y e
      · -- refused
        rw [ee] at he5
        have he5 : H5 e = some (.lst ((errL er).map V.str)) := he5
        have nz : (!decide (((errL er).map V.str).length = ([] : List V).length)) = true := by cases er <;> rfl
        refine raised_of fun cls d' H7 x7 his => e0 cls d' H7 (.inl ⟨er, his, fit_deed wo l900 dok ee, fun tl6 H8 x8 etl => ?_⟩)
        have x58 := y1.trans (x7.trans x8)
        have he8 := x58 _ _ he5
        refine ⟨_, rfl, szl (by simp), fun el hel => ⟨e, el, (errL er).map V.str, [], rfl, rfl, .of (by rw [upd_ne (ne_of_none he8 hel)]; exact he8), .of upd_same, .inr rfl, true, by rw [nz], iteT (vx_var rfl _ ?_)⟩⟩
        have x9 := Evl.Ex.new (o := .lst []) hel
        refine ⟨tl6, e, (errL er).map V.str, rfl, rfl, .of (x9 _ _ etl), .of (x9 _ _ he8), flat_texts _, false, rfl, iteF ?_⟩
        have he9 := x9 _ _ he8
        have x59 := x58.trans x9
        generalize (upd H8 el (.lst [])) = H9 at x9 he9 x59 ⊢
        dsimp only [tNext]
        refine i_ret (i_op (vx_var rfl _ (i_ifE ⟨_, rfl, szl (by simp), fun el2 hel2 => ⟨e, el2, (errL er).map V.str, [], rfl, rfl, .of (by rw [upd_ne (ne_of_none he9 hel2)]; exact he9), .of upd_same, .inr rfl, false, ?_, iteF ?_⟩⟩)))
        · congr 1
          cases er <;> rfl
        have x10 := Evl.Ex.new (o := .lst []) hel2
        have x510 := x59.trans x10
        generalize (upd H9 el2 (.lst [])) = H10 at x10 x510 ⊢
        refine ⟨szl (by simp), fun ol hol => ?_⟩
        have x11 := x510.trans (.new (o := .lst []) hol)
        have e11 : (upd H10 ol (.lst [])) ol = some (.lst []) := upd_same
        generalize (upd H10 ol (.lst [])) = H11 at x11 e11 ⊢
        have lps : ps0.length = rest.length := by rw [paired_len hps0]; simp
        refine ⟨pl, ol, _, _, rfl, rfl, x11 _ _ hpl5, e11, szl (by simp; omega), fun z hz => ?_⟩
        have x12 := x11.trans (.new (o := .lst (List.map V.ref (ps0 ++ [p]) ++ [])) hz)
        have s12 := (s5.ex x12).mono (m := n + 4 ^ d) (by omega)
        have kpD := (kpB.trans kp5).trans (.ex x12)
        refine kk z _ (l :: rest) (t5.trans (s5.xex x12)) ⟨s12.urn, s12.tok, s12.desk, ⟨ps0 ++ [p], by rw [upd_same, List.append_nil], ?_⟩, s12.ok, s12.ne, s12.len⟩
        rw [List.reverse_cons]
        exact paired_app (paired_mono hps0 fun _ _ f => leafAt_k f kpD) (.cons (leafAt_k hlf kpD) .nil)
end
end Bt
set_option Elab.async false
set_option linter.all false
set_option maxRecDepth 100000
set_option maxHeartbeats 4000000
/-! The law's inside. -/
namespace Bt
open PySem PySem.Spec PyProof.Rows L2 HotX L2H LamX PySem.W
/-- d[k] that may not be there; the exception's context is known -/
theorem pe_dgetN {X : Cx} {W : WX} {o i : Expr} {td ty : TE} {pos : Pos} (calm : X.calm = true) (room : X.A.units + 1 < cLine) (tk : L2N.Takes X W) (po : PE X o td) (pi : PE X i ty) (ns : NoSl i) : PE X (.Subscript o i pos) (tDGetX W td ty) := by
  constructor
  intro pins s σ H Q I h
  refine subD_of PySem.F.slot_dict_getitem.lookup ns (thn (po.run pins s σ H _ I h) fun du s1 p1 => ?_)
  obtain ⟨dx, H1, I1, r1, q1⟩ := p1
  refine thn (pi.run pins s1 σ H1 _ I1 q1) fun ku s2 p2 => ?_
  obtain ⟨ky, H2, I2, r2, a, ov, ex, g, yes, no⟩ := p2
  subst ex
  obtain rfl : du = Value.ref a := r1
  refine ⟨dict_typeIs I2 g, ?_⟩
  cases ov with
  | none => exact d_missing room (I2.ok.hd calm) I2 g r2 fun h' e t' ne => L2N.takes_newN (t' := t') tk I2 ne (no rfl)
  | some v => exact d_getItem room I2 g r2 fun w' s3 I3 rw' => ⟨v, H2, I3, rw', yes v rfl⟩
/-- all but the urn, the desk, the notes and the tables stays -/
structure XI (T : TC) (u k nt : Addr) (H H' : Hp) : Prop where
  kp : ∀ b o, b ≠ u → b ≠ k → b ≠ nt → (∀ ps, o ≠ .tbl ps) → H b = some o → H' b = some o
  urn : UrnAt H' u
  tok : TOk T H'
  dsk : ∃ C dx v, H' k = some (.ins C dx [("page", v)])
def spInside (K : Frag) (u k : Addr) (d : Nat) : Sp := fun vs H Q E => ∃ (pl ab nt : Addr) (L : List Leaf) (n e : Nat), vs = [.ref u, .ref k, .ref ab] ∧ H ab = some (.lst [.ref k, .ref pl, .int (d : Nat), .int (e : Nat), .ref nt]) ∧ H nt = some (.lst []) ∧ e < 4 ∧ Sta K u k H pl L n ∧ n + 4 ^ d ≤ 900 ∧
  ∀ (q : Addr) (H' : Hp) (L' : List Leaf), XI (tcK K) u k nt H H' → H' nt = some (.lst [.ref q]) → Sta K u k H' q L' (n + 4 ^ d) →
    (e = 0 → ∀ tp H'', Evl.Ex H' H'' → H'' tp = some (.tup [.str "end", .int (d : Nat)]) → Q (.ref tp) H'') ∧ (e = 1 → Q .non H') ∧ (e = 2 → Raised K E H' (.unknown "qq")) ∧ (e = 3 → ∀ dx, E (.type "KeyError") dx H')
/-- a note is made -/
theorem Sta.note {K : Frag} {u k pl nt q : Addr} {H : Hp} {L : List Leaf} {n : Nat} (s : Sta K u k H pl L n) (hn : H nt = some (.lst [])) : Sta K u k (upd H nt (.lst [.ref q])) pl L n := by
  have off : ∀ {b : Addr} {o : HO}, H b = some o → o ≠ .lst [] → (upd H nt (.lst [.ref q])) b = some o := fun {b o} e n => by
    rw [upd_ne (fun z => by
      rw [z, hn] at e
      exact n (Option.some.inj e).symm)]
    exact e
  have kp : Keeps H (upd H nt (.lst [.ref q])) := fun b o so e => off e fun z => by
    rw [z] at so
    exact solid_nil so
  refine ⟨?_, KT.tOk (H := H) (fun b o e ht => off e fun z => by rw [z] at ht; cases ht) s.tok, deskAt_k s.desk (fun o e => ?_) kp, pagesL_k s.pages (fun z => s.ne (List.reverse_eq_nil_iff.mp z)) kp, s.ok, s.ne, s.len⟩
  · obtain ⟨d, m, c, e⟩ := s.urn
    exact ⟨d, m, c, off e fun z => by cases z⟩
  · obtain ⟨C, dx, v, e'⟩ := s.desk.one
    rw [e'] at e
    cases e
    exact off e' fun z => by cases z
theorem ShOk.noqq {S : Shelf} (so : ShOk S) : S.has "qq" = false := by
  cases e : S.has "qq" with
  | false => rfl
  | true =>
    rcases Shelf.nm so e with z | z
    · exact absurd z (by decide +kernel)
    · exact absurd z (by decide +kernel)
abbrev nIns : List Str := ["_law_urn_here", "_law_held", "_law_about", "_law_desk_here", "_law_pages", "_law_deep", "_law_ended", "_law_notes", "_law_here", "_law_lacking", "_law_turn_here"]
section
variable {P : Program} {w : World} {K : PySem.W.Frag} {mg : Str → Option Value} {base : Heap}
theorem scIns : FnScope nIns ["_law_urn_here", "_law_held", "_law_about"] (defScope st_d_law_inside) := ⟨rfl, rfl, rfl, by decide +kernel, rfl, by decide +kernel, by decide +kernel⟩
theorem ok_inside (hw : Hw w K mg) (u k : Addr) (d : Nat) (TU : Okg P w K mg base C8.CX0 (16 + 13 * d) (He.fAd K d_law_turn.at_) ["_law_urn_here", "_law_desk_here", "_law_pages", "_law_deep"] (spTurn K u k d)) :
    Okg P w K mg base (CXN P w) (17 + 13 * d) (He.fAd K d_law_inside.at_) ["_law_urn_here", "_law_held", "_law_about"] (spInside K u k (d + 1)) := by
  have hz := hw.toHz
  have hd := hz.toHd
  have hx := hz.toHx
  have cD := hd.cls "Desk" (by decide +kernel)
  have IC := hx.ins "Desk" (by decide +kernel)
  have mr : mg "range" = none := hd.free _ (by decide +kernel)
  have mG : mg "_law_grab" = some (.ref (He.fAd K d_law_grab.at_)) := hd.glo _ (by decide +kernel)
  have mT : mg "_law_take" = some (.ref (He.fAd K d_law_take.at_)) := hd.glo _ (by decide +kernel)
  have mU : mg "_law_turn" = some (.ref (He.fAd K d_law_turn.at_)) := hd.glo _ (by decide +kernel)
  have G := ok_grab (P := P) (w := w) (base := base) hd u
  have T := ok_take (P := P) (w := w) (base := base) hd u
  have DR := ok_drop (P := P) (base := base) hz
  have mD := hd.meth ("Desk", "drop") (by decide +kernel)
  have e17 : 17 + 13 * d = (16 + 13 * d) + 1 := by omega
  rw [e17]
  refine okg_of hd.f_d_law_inside scIns (fun _ _ _ _ _ _ us hl => ?_) (fun vs H Q E h => ?_) (fun cdv A outer s H vs Q E hg hr h => ?_)
  · obtain ⟨a, b, c, rfl⟩ := us3 hl
    rfl
  · obtain ⟨pl, ab, nt, _, _, _, rfl, _⟩ := h
    rfl
  · obtain ⟨pl, ab, nt, L, n, e, rfl, hab, hnt, e4, s0, n900, kk⟩ := h
    have hr1 : Room 1 _ := hr.mono (show 1 ≤ 16 + 13 * d by omega)
    have hr2 : Room 2 _ := hr.mono (show 2 ≤ 16 + 13 * d by omega)
    have hr5 : Room 5 _ := hr.mono (show 5 ≤ 16 + 13 * d by omega)
    have hu := hu_of hr
    have hu1 := Nat.lt_of_succ_lt hu
    refine ⟨_, pss_cons (ps_asg (pv 2) (pg_unl rfl (pgs_cons (pg_name (i := 3) scIns.nd rfl (.inl rfl)) (pgs_cons (pg_name (i := 4) scIns.nd rfl (.inl rfl)) (pgs_cons (pg_name (i := 5) scIns.nd rfl (.inl rfl)) (pgs_cons (pg_name (i := 6) scIns.nd rfl (.inl rfl)) (pgs_cons (pg_name (i := 7) scIns.nd rfl (.inl rfl)) pgs_nil)))))))
      (pss_cons (ps_par (i := 8) (j := 9) rfl scIns.nd rfl rfl (by decide) rfl rfl (pa_cons (pe_ifExp (pt_cmpR (op_eqSelf hu) (pv 1) (pv 3) (nomark _)) (pv 4) pe_dead) (pa_cons pe_dnewK pa_nil)) (by rfl))
      (pss_cons (ps_for PassesOwn.leaving rfl (pi_range1 (by rfl) mr (pa_cons (pe_callR (E := E00) (G.run hr1 C8.pass0) (by rfl) mG G.kp (pa_cons (pv 0) (pa_cons pe_int pa_nil))) pa_nil)) (pg_name (i := 10) scIns.nd rfl (.inl rfl))
        (pss_one (ps_if (pt_cmpR (op_neE hu1) (pv 8) (pe_lst pa_nil) (nomark _))
          (pss_one (ps_set (i := 8) scIns.nd rfl (.inl rfl) (pe_callR (E := E00) (TU.run hg hr C8.pass0) (by rfl) mU TU.kp (pa_cons (pv 0) (pa_cons (pe_callR (E := E00) (T.run hr2 C8.pass0) (by rfl) mT T.kp (pa_cons (pv 0) (pa_cons (pe_lst (pa_cons (pv 1) (pa_cons (pv 3) pa_nil))) pa_nil))) (pa_cons (pv 8) (pa_cons (pe_op op_sub (pv 5) pe_int) pa_nil))))))) pss_nil)))
      (pss_cons (ps_expr (pe_bm PySem.F.plainAttrs_list PySem.F.slot_list_append PySem.F.type_list_append mt_append (pv 7) (pa_cons (pv 8) pa_nil)))
      (pss_cons (ps_if (pt_cmpR op_eq (pv 6) pe_int (nomark _)) (pss_one (ps_expr (pe_methR (E := E) (pv 1) cD mD (DR.run hr5 (L2N.passes_call (L2N.takes_of (E := E) rfl rfl rfl rfl) fun _ _ _ _ h => h)) (pa_cons pe_str pa_nil)))) pss_nil)
      (pss_cons (ps_if (pt_cmpR op_eq (pv 6) pe_int (nomark _)) (pss_one (ps_ret (pe_dgetN rfl hu (L2N.takes_of (E := E) rfl rfl rfl rfl) (pv 9) (pv 6) (fun _ _ => rfl)))) pss_nil)
      (pss_one (ps_ret (pe_ifExp (pt_cmpR op_eq (pv 6) pe_int (nomark _)) (pe_tup (pa_cons pe_str (pa_cons (pv 5) pa_nil))) pe_non)))))))), ?_⟩
    have p4 : 4 ^ (d + 1) = 4 * 4 ^ d := by rw [Nat.pow_succ]; omega
    refine i_seq ⟨_, rfl, ab, _, rfl, .of hab, rfl, _, _, rfl, _, _, rfl, _, _, rfl, _, _, rfl, _, _, rfl, rfl, ?_⟩
    dsimp only
    obtain ⟨a0, ⟨dk0, hk0⟩, pg0⟩ := id s0.desk
    refine i_seq (i_par (i_cons (i_ifE ⟨_, rfl, _, rfl, k, _, dk0, _, rfl, rfl, hk0, IC.hm, hz.dsk, true, rfl, iteT (vx_var rfl _ (i_cons fun lk hlk => i_nil ⟨_, _, rfl, ?_⟩))⟩)))
    have x1 : Evl.Ex H (upd H lk (.dK [])) := .new hlk
    have elk : (upd H lk (.dK [])) lk = some (.dK []) := upd_same
    have hnt1 := x1 _ _ hnt
    generalize (upd H lk (.dK [])) = H1 at x1 elk hnt1 ⊢
    have s1 := s0.ex x1
    have t1 := s0.xex x1
    have ntu : nt ≠ u := fun z => by
      obtain ⟨a, b, c, q⟩ := s0.urn
      rw [z, q] at hnt
      cases hnt
    have ntk : nt ≠ k := fun z => by
      rw [z, hk0] at hnt
      cases hnt
    have lku : lk ≠ u := fun z => by
      obtain ⟨a, b, c, q⟩ := s1.urn
      rw [z, q] at elk
      cases elk
    have lkk : lk ≠ k := fun z => by
      rw [z, hk0] at hlk
      cases hlk
    dsimp only
    refine i_seq ⟨_, rfl, 5, rfl, s1.urn, by decide, by decide, fun r H2 r0 r1 X2 => ⟨r, rfl, by omega, by omega, for_range (fun i σ' H' => ∃ (q : Addr) (L' : List Leaf) (o10 : Option V), σ' = [some (V.ref u), some (V.ref k), some (V.ref ab), some (V.ref k), some (V.ref pl), some (V.int ((d + 1 : Nat) : Int)), some (V.int (e : Nat)), some (V.ref nt), some (V.ref q), some (V.ref lk), o10] ∧ XT (tcK K) u k H H' ∧ H' nt = some (.lst []) ∧ H' lk = some (.dK []) ∧ Sta K u k H' q L' (n + i * 4 ^ d))
      ⟨pl, L, none, rfl, t1.trans (s1.xxu X2), X2.k _ _ ntu hnt1, X2.k _ _ lku elk, (s1.xu X2).mono (by omega)⟩ (fun i σ' H' hi h => ?_) (fun σ' H' h => ?_)⟩⟩
    · obtain ⟨q, L', o10, rfl, t3, n3, l3, s3⟩ := h
      have hi4 : i < 4 := by omega
      have im : i * 4 ^ d + 4 ^ d ≤ 4 * 4 ^ d := by
        have := Nat.mul_le_mul_right (4 ^ d) (show i + 1 ≤ 4 by omega)
        rw [Nat.succ_mul] at this
        exact this
      obtain ⟨ps, hq, hps⟩ := id s3.pages
      have pne : ps ≠ [] := fun z => by
        have := paired_len hps
        rw [z, List.length_reverse] at this
        exact s3.ne (List.length_eq_zero_iff.mp this.symm)
      refine ⟨_, rfl, szl (by simp), fun el hel => ⟨q, el, _, [], rfl, rfl, .of (by rw [upd_ne (ne_of_none hq hel)]; exact hq), .of upd_same, .inr rfl, true, ?_, iteT ?_⟩⟩
      · congr 1
        cases ps with
        | nil => exact absurd rfl pne
        | cons a b => rfl
      have x4 := Evl.Ex.new (o := .lst []) hel
      have s4 := s3.ex x4
      have t4 := t3.trans (s3.xex x4)
      have n4 := x4 _ _ n3
      have l4 := x4 _ _ l3
      generalize (upd H' el (.lst [])) = H4 at x4 s4 t4 n4 l4 ⊢
      refine i_asg (i_call (i_cons (vx_var rfl _ (i_cons (take_lit (xs := [.ref k, .ref k]) rfl (fun Q q => i_cons (vx_var rfl _ (i_cons (vx_var rfl _ (i_nil q))))) s4.urn (by simp) (by simp) fun x H5 hx X5 => i_cons (vx_var rfl _ (i_cons (vx_op0 (g := fun i j => .int (i - j)) (vx_var rfl) vx_c _ (i_nil ?_)))))))))
      obtain rfl : x = V.ref k := by
        simp only [List.mem_cons, List.not_mem_nil, or_false] at hx
        rcases hx with z | z <;> exact z
      have s5 := s4.xu X5
      have t5 := t4.trans (s4.xxu X5)
      have n5 := X5.k _ _ ntu n4
      have l5 := X5.k _ _ lku l4
      refine ⟨q, L', n + i * 4 ^ d, ?_, s5, by omega, fun q2 H6 L2 x6 s6 => ?_⟩
      · have : ((d + 1 : Nat) : Int) - 1 = (d : Nat) := by omega
        rw [this]
        rfl
      · dsimp only
        refine ⟨q2, L2, _, rfl, t5.trans x6, x6.kp _ _ ntu ntk (fun ps z => by cases z) n5, x6.kp _ _ lku lkk (fun ps z => by cases z) l5, s6.mono ?_⟩
        rw [Nat.succ_mul]
        omega
    · obtain ⟨q, L', o10, rfl, t3, n3, l3, s3⟩ := h
      have rm : r.toNat * 4 ^ d ≤ 4 * 4 ^ d := Nat.mul_le_mul_right _ (by omega)
      have s3' := s3.mono (m := n + 4 ^ (d + 1)) (by omega)
      dsimp only
      refine i_seq (i_drop ⟨_, rfl, .inl ⟨rfl, _, .of n3⟩, i_cons (vx_var rfl _ (i_nil ⟨nt, [], _, rfl, rfl, n3, szlt (by simp), ?_⟩))⟩)
      have s4 := s3'.note (q := q) n3
      have e4 : (upd H' nt (.lst [.ref q])) nt = some (.lst [.ref q]) := upd_same
      have l4 : (upd H' nt (.lst [.ref q])) lk = some (.dK []) := by
        rw [upd_ne (fun z => by rw [z, n3] at l3; cases l3)]
        exact l3
      have t4 : XI (tcK K) u k nt H (upd H' nt (.lst [.ref q])) := ⟨fun b o n1 n2 n4 n5 e => by
        rw [upd_ne n4]
        exact t3.kp b o n1 n2 n5 e, s4.urn, s4.tok, s4.desk.one⟩
      obtain ⟨k0, k1, k2, k3⟩ := kk q _ L' t4 e4 s4
      show tSeq _ _ _ _ (upd H' nt (.lst [.ref q]))
      generalize (upd H' nt (.lst [.ref q])) = H4 at s4 e4 l4 k0 k1 k2 k3 ⊢
      have g2 : Fx (tTest (tOp rEq (tVar 6) (tC (.int 2)))) [some (V.ref u), some (V.ref k), some (V.ref ab), some (V.ref k), some (V.ref pl), some (V.int ((d + 1 : Nat) : Int)), some (V.int (e : Nat)), some (V.ref nt), some (V.ref q), some (V.ref lk), o10] H4 (decide (((e : Nat) : Int) = 2)) := fx_test (vx_eqI (vx_var rfl) vx_c)
      have g3 : Fx (tTest (tOp rEq (tVar 6) (tC (.int 3)))) [some (V.ref u), some (V.ref k), some (V.ref ab), some (V.ref k), some (V.ref pl), some (V.int ((d + 1 : Nat) : Int)), some (V.int (e : Nat)), some (V.ref nt), some (V.ref q), some (V.ref lk), o10] H4 (decide (((e : Nat) : Int) = 3)) := fx_test (vx_eqI (vx_var rfl) vx_c)
      have g0 : Fx (tTest (tOp rEq (tVar 6) (tC (.int 0)))) [some (V.ref u), some (V.ref k), some (V.ref ab), some (V.ref k), some (V.ref pl), some (V.int ((d + 1 : Nat) : Int)), some (V.int (e : Nat)), some (V.ref nt), some (V.ref q), some (V.ref lk), o10] H4 (decide (((e : Nat) : Int) = 0)) := fx_test (vx_eqI (vx_var rfl) vx_c)
      by_cases c2 : e = 2
      · rw [decide_eq_true (by omega)] at g2
        refine i_seq (if_t g2 ?_)
        obtain ⟨l, rest, rfl⟩ : ∃ l rest, L' = l :: rest := by
          cases L' with
          | nil => exact absurd rfl s4.ne
          | cons l rest => exact ⟨l, rest, rfl⟩
        obtain ⟨so, wo, ln⟩ := s4.ok l List.mem_cons_self
        have s2' := so.two
        have nq := so.noqq
        obtain ⟨a5, ⟨dk5, hk5⟩, pg5⟩ := id s4.desk
        refine i_drop ⟨_, rfl, k, dk5, _, rfl, hk5, lk_no (by decide +kernel), i_cons (vx_c _ (i_nil ⟨k, "qq", l.1, l.2, rest, rfl, s4.desk, so, by omega, fun _ => k2 c2, fun z => ?_, fun z => ?_⟩))⟩
        · rw [nq] at z
          cases z
        · rw [nq] at z
          cases z
      rw [decide_eq_false (by omega)] at g2
      refine i_seq (if_f g2 ?_)
      dsimp only [tNext]
      by_cases c3 : e = 3
      · rw [decide_eq_true (by omega)] at g3
        refine i_seq (if_t g3 (i_ret ⟨_, rfl, _, rfl, lk, none, rfl, .inl ⟨[], .inl (e : Nat), .of l4, rfl, rfl⟩, fun v z => absurd z (by simp), fun _ dx => k3 c3 dx⟩))
      rw [decide_eq_false (by omega)] at g3
      refine i_seq (if_f g3 ?_)
      dsimp only [tNext]
      by_cases c0 : e = 0
      · rw [decide_eq_true (by omega)] at g0
        exact i_ret (i_ifE (g0 _ (iteT (tup2 vx_c (vx_var rfl) fun tp htp => k0 c0 tp _ (.new htp) upd_same))))
      · rw [decide_eq_false (by omega)] at g0
        exact i_ret (i_ifE (g0 _ (iteF (k1 (by omega)))))
end
end Bt
set_option Elab.async false
set_option linter.all false
set_option maxRecDepth 100000
set_option maxHeartbeats 4000000
/-! A trial, heard. -/
namespace Bt
open PySem PySem.Spec PyProof.Rows L2 HotX L2H LamX PySem.W
theorem XI.keeps {T : TC} {u k nt : Addr} {H H' : Hp} (x : XI T u k nt H H') (hu : UrnAt H u) (hk : ∃ C dx v, H k = some (.ins C dx [("page", v)])) (hn : H nt = some (.lst [])) : Keeps H H' := fun b o s e => x.kp b o (fun z => by
  obtain ⟨d, m, c, q⟩ := hu
  rw [z, q] at e
  cases e
  exact solid_urn s) (fun z => by
  obtain ⟨C, dx, v, q⟩ := hk
  rw [z, q] at e
  cases e
  exact solid_desk s) (fun z => by
  rw [z, hn] at e
  cases e
  exact solid_nil s) (fun ps z => by
  rw [z] at s
  exact solid_tbl s) e
theorem solid_trial {C dx : Addr} {a b : V} : ¬ Solid (.ins C dx [("owner", a), ("mark", b)]) := fun s => by
  rcases s with f | ⟨_, _, z⟩ | ⟨xs, z, n, _⟩
  · rcases f with ⟨_, q⟩ | ⟨_, _, q⟩ | ⟨_, q⟩ | ⟨_, _, _, q⟩ | ⟨_, _, _, _, _, _, q⟩
    · cases q
    · cases q
    · cases q
    · injection q with _ _ q
      have := congrArg List.length q
      simp at this
    · injection q with _ _ q
      have := congrArg List.length q
      simp at this
  · cases z
  · cases z
/-- all but a trial, and the desk's page, stays -/
theorem keeps_trial {K : Frag} {x k : Addr} {H H' : Hp} {a b : V} (hx : InsAt K H x "DeskTrial" [("owner", a), ("mark", b)]) (hk : ∃ C dx v, H k = some (.ins C dx [("page", v)])) (xb : ∀ c o, c ≠ x → c ≠ k → H c = some o → H' c = some o) : Keeps H H' := fun c o s e => xb c o (fun z => by
  obtain ⟨dx, hx⟩ := hx
  rw [z, hx] at e
  cases e
  exact solid_trial s) (fun z => by
  obtain ⟨C, dx, v, q⟩ := hk
  rw [z, q] at e
  cases e
  exact solid_desk s) e
theorem trial_ne {K : Frag} {x k : Addr} {H : Hp} {a b : V} (hx : InsAt K H x "DeskTrial" [("owner", a), ("mark", b)]) (hk : ∃ C dx v, H k = some (.ins C dx [("page", v)])) : x ≠ k := fun z => by
  obtain ⟨dx, hx⟩ := hx
  obtain ⟨C, d', v, q⟩ := hk
  rw [z, q] at hx
  injection hx with hx
  injection hx with _ _ hx
  have := congrArg List.length hx
  simp at this
theorem mark_ne {K : Frag} {x k : Addr} {H : Hp} {a b : V} (hx : InsAt K H x "PageMark" [("page", a), ("before", b)]) (hk : ∃ C dx v, H k = some (.ins C dx [("page", v)])) : x ≠ k := fun z => by
  obtain ⟨dx, hx⟩ := hx
  obtain ⟨C, d', v, q⟩ := hk
  rw [z, q] at hx
  injection hx with hx
  injection hx with _ _ hx
  have := congrArg List.length hx
  simp at this
section
variable {K : Frag} {u k pl : Addr} {H H' : Hp} {L : List Leaf} {n : Nat}
/-- all but a trial, and the desk's page, stays: the urn, the tables -/
theorem Sta.parts (s : Sta K u k H pl L n) {x : Addr} {a b : V} (hx : InsAt K H x "DeskTrial" [("owner", a), ("mark", b)]) (xb : ∀ c o, c ≠ x → c ≠ k → H c = some o → H' c = some o) : UrnAt H' u ∧ TOk (tcK K) H' := by
  obtain ⟨dx, hx⟩ := hx
  obtain ⟨C, dk, v, hk⟩ := s.desk.one
  constructor
  · obtain ⟨d, m, c, e⟩ := s.urn
    exact ⟨d, m, c, xb _ _ (fun z => by rw [z, hx] at e; cases e) (fun z => by rw [z, hk] at e; cases e) e⟩
  · refine KT.tOk (H := H) (fun c o e ht => xb c o (fun z => ?_) (fun z => ?_) e) s.tok
    · rw [z, hx] at e
      cases e
      cases ht
    · rw [z, hk] at e
      cases e
      cases ht
theorem Sta.off (s : Sta K u k H pl L n) {x : Addr} {a b : V} (hx : InsAt K H x "DeskTrial" [("owner", a), ("mark", b)]) (xb : ExBut x H H') : Sta K u k H' pl L n := by
  have kp := keeps_trial (k := k) hx s.desk.one (fun c o n _ e => xb c o n e)
  obtain ⟨p1, p2⟩ := s.parts hx (fun c o n _ e => xb c o n e)
  have nk := trial_ne hx s.desk.one
  exact ⟨p1, p2, deskAt_k s.desk (fun o e => xb _ _ (Ne.symm nk) e) kp, pagesL_k s.pages (fun z => s.ne (List.reverse_eq_nil_iff.mp z)) kp, s.ok, s.ne, s.len⟩
end
/-- what a function tried is told to have come to -/
def dueT (d e : Nat) : List Str := match e with
  | 0 => ["told", (PyData.tuple [.str "end", .int (d : Nat)]).shown]
  | 1 => ["told", "None"]
  | 2 => ["UnknownName", (PyData.str "qq").shown]
  | _ => ["plain"]
/-- behind the trial that was heard -/
def Fct (K : Frag) (u k pl nt : Addr) (d e n : Nat) (L : List Leaf) (H : Hp) (tl : Addr) (H' : Hp) : Prop := ∃ (q : Addr) (L' : List Leaf), H' tl = some (.lst ((dueT d e).map V.str)) ∧ H' nt = some (.lst [.ref q]) ∧ XI (tcK K) u k nt H H' ∧ (e < 2 → Sta K u k H' q L' (n + 4 ^ d)) ∧ (¬ e < 2 → Sta K u k H' pl L n) ∧ PagesL H' q L'.reverse ∧ L' ≠ []
theorem fit_end {d : Nat} (h : d ≤ 1000) : Fit (.tuple [.str "end", .int (d : Nat)]) 20 1000 := by
  have a := Fit.tup (.cons (Fit.str (t := "end") (b := 20) (by simp only [PyData.shown]; decide +kernel)) (.cons (Fit.int (i := (d : Nat)) (by omega) (by omega)) .nil))
  exact a.mono (by decide) (by decide)
theorem qq_fit : (PyData.str "qq").shown.length ≤ 100 := by simp only [PyData.shown]; decide +kernel
/-- the reading of the two lambdas -/
abbrev tLamB (K : Frag) (u k : Addr) (d : Nat) : XK → TE := fun E => tCall (spInside K u k d) [] E (tCons (tVar 1) (tCons (tVar 0) (tCons (tVar 7) tNil)))
abbrev tLamA (K : Frag) (u k : Addr) (d : Nat) (c' : Addr) (E : XK) : TE := tClM (He.ga K "Desk") "tried" (fun _ H => TOk (tcK K) H ∧ CodeN (tcK K) H c') (RelT (tcK K)) (fun a => SPt K a E) (tVar 1) (tLamB K u k d)
theorem heard_tried {K : Frag} {u k pl ab nt : Addr} {d e n : Nat} {L : List Leaf} {σ : L2.St} {H : Hp} {Qt : VK} (s2 : Sta K u k H pl L n) (hab : H ab = some (.lst [.ref k, .ref pl, .int (d : Nat), .int (e : Nat), .ref nt])) (hnt : H nt = some (.lst [])) (e4 : e < 4) (d4 : d ≤ 1000) (n900 : n + 4 ^ d ≤ 900)
    (h0 : σ[0]? = some (some (.ref u))) (h1 : σ[1]? = some (some (.ref k))) (h6 : σ[6]? = some (some (.ref ab))) (fin : ∀ tl H', Fct K u k pl nt d e n L H tl H' → Qt (.ref tl) H') :
    TOk (tcK K) H ∧ ∀ H1, RelT (tcK K) H H1 → SPh K (fun vs HZ Q E => ∀ c', CodeN (tcK K) HZ c' → tLamA K u k d c' E (vs.map some ++ σ) HZ Q) H1 Qt := by
  refine ⟨s2.tok, fun H1 rel Q0 E0 q0 e0 c' cn => ?_⟩
  have s3 := s2.rel rel
  obtain ⟨b1, ⟨dk1, hk1⟩, pg1⟩ := id s3.desk
  refine ⟨_, h1, k, dk1, _, rfl, hk1, lk_no (by decide +kernel), ⟨s3.tok, cn⟩, fun H3 rel3 => ?_⟩
  have s4 := s3.rel rel3
  obtain ⟨b, ⟨dk, hk3⟩, pg3⟩ := id s4.desk
  refine ⟨b, ⟨dk, hk3⟩, fun x m H4 x4 hx i1 i2 Q1 E1 q1 e1 => ?_⟩
  have s5 := s4.ex x4
  have t24 := ((s2.xrel rel).trans (s3.xrel rel3)).trans (s4.xex x4)
  have pg4 : PageAt K H4 b L := pageAt_firm (.ex x4) pg3
  have hab4 := x4 _ _ (rel3.1 _ _ (rel.1 _ _ hab (fun ps z => by cases z)) (fun ps z => by cases z))
  have hnt4 := x4 _ _ (rel3.1 _ _ (rel.1 _ _ hnt (fun ps z => by cases z)) (fun ps z => by cases z))
  have ntu : nt ≠ u := fun z => by
    obtain ⟨a, b, c, q⟩ := s2.urn
    rw [z, q] at hnt
    cases hnt
  have ntk : nt ≠ k := fun z => by
    obtain ⟨a, b, c, q⟩ := s2.desk.one
    rw [z, q] at hnt
    cases hnt
  have nxk := trial_ne i1 s5.desk.one
  have nmk := mark_ne i2 s5.desk.one
  have kx : ∀ {y : Addr} {C dy : Addr} {fs : List (Str × V)}, H4 y = some (.ins C dy fs) → y ≠ u ∧ y ≠ nt := fun {y C dy fs} ey => by
    constructor
    · intro z
      obtain ⟨a, b, c, q⟩ := s5.urn
      rw [z, q] at ey
      cases ey
    · intro z
      rw [z, hnt4] at ey
      cases ey
  refine i_callE (i_cons (i_var (i := 1) (v := .ref u) h0 (i_cons (i_var (i := 0) (v := .ref k) rfl (i_cons (i_var (i := 7) (v := .ref ab) h6 (i_nil ⟨pl, ab, nt, L, n, e, rfl, hab4, hnt4, e4, s5, n900, fun q H5 L' xi en s6 => ?_⟩)))))))
  have ix5 : InsAt K H5 x "DeskTrial" [("owner", .ref k), ("mark", .ref m)] := by
    obtain ⟨dx, i1⟩ := i1
    exact ⟨dx, xi.kp _ _ (kx i1).1 nxk (kx i1).2 (fun ps z => by cases z) i1⟩
  have im5 : InsAt K H5 m "PageMark" [("page", .ref b), ("before", .non)] := by
    obtain ⟨dx, i2⟩ := i2
    exact ⟨dx, xi.kp _ _ (kx i2).1 nmk (kx i2).2 (fun ps z => by cases z) i2⟩
  have kp45 : Keeps H4 H5 := xi.keeps s5.urn s5.desk.one hnt4
  have nxn : x ≠ nt := by
    obtain ⟨dx, i1⟩ := i1
    exact (kx i1).2
  have cx : ∀ c o, (∀ ps, o ≠ .tbl ps) → H c = some o → c ≠ x := fun c o nt' ec z => by
    have := rel3.1 _ _ (rel.1 _ _ ec nt') nt'
    rw [z, hx] at this
    cases this
  -- all but .. stays, from H to a heap behind H5
  have xiOf : ∀ H8, (∀ c o, c ≠ x → c ≠ k → H5 c = some o → H8 c = some o) → UrnAt H8 u → TOk (tcK K) H8 → (∃ C dx v, H8 k = some (.ins C dx [("page", v)])) → XI (tcK K) u k nt H H8 := fun H8 f a1 a2 a3 => ⟨fun c o n1 n2 n3 n4 ec => f c o (cx c o n4 ec) n2 (xi.kp c o n1 n2 n3 n4 (t24.kp c o n1 n2 n4 ec)), a1, a2, a3⟩
  have nxn : x ≠ nt := by
    obtain ⟨dx, i1⟩ := i1
    exact (kx i1).2
  -- it returned
  have ret : ∀ (H6 H7 H8 : Hp), Evl.Ex H5 H6 → ExBut x H6 H7 → Evl.Ex H7 H8 → e < 2 → ∀ tl, H8 tl = some (.lst ((dueT d e).map V.str)) → Qt (.ref tl) H8 := fun H6 H7 H8 x6 xb x8 lt tl etl => by
    have ix6 : InsAt K H6 x "DeskTrial" [("owner", .ref k), ("mark", .ref m)] := by
      obtain ⟨dx, i⟩ := ix5
      exact ⟨dx, x6 _ _ i⟩
    have s8 := ((s6.ex x6).off ix6 xb).ex x8
    refine fin tl H8 ⟨q, L', etl, x8 _ _ (xb _ _ (Ne.symm nxn) (x6 _ _ en)), xiOf H8 (fun c o n1 n2 ec => x8 _ _ (xb _ _ n1 (x6 _ _ ec))) s8.urn s8.tok s8.desk.one, fun _ => s8, fun z => absurd lt z, s8.pages, s8.ne⟩
  -- it ended with an error
  have err : ∀ (H6 H7 H8 : Hp), Evl.Ex H5 H6 → (∀ c o, c ≠ x → c ≠ k → H6 c = some o → H7 c = some o) → InsAt K H7 k "Desk" [("page", .ref b)] → Evl.Ex H7 H8 → ¬ e < 2 → ∀ tl, H8 tl = some (.lst ((dueT d e).map V.str)) → Qt (.ref tl) H8 := fun H6 H7 H8 x6 xb dsk x8 lt tl etl => by
    have ix6 : InsAt K H6 x "DeskTrial" [("owner", .ref k), ("mark", .ref m)] := by
      obtain ⟨dx, i⟩ := ix5
      exact ⟨dx, x6 _ _ i⟩
    have s6' := s6.ex x6
    obtain ⟨p1, p2⟩ := s6'.parts ix6 xb
    have kp67 := keeps_trial (k := k) ix6 s6'.desk.one xb
    have kp47 : Keeps H4 H7 := (kp45.trans (.ex x6)).trans kp67
    have s7 : Sta K u k H7 pl L n := ⟨p1, p2, ⟨b, dsk, pageAt_firm kp47.firms pg4⟩, pagesL_k s5.pages (fun z => s5.ne (List.reverse_eq_nil_iff.mp z)) kp47, s5.ok, s5.ne, s5.len⟩
    have s8 := s7.ex x8
    refine fin tl H8 ⟨q, L', etl, x8 _ _ (xb _ _ (Ne.symm nxn) ntk (x6 _ _ en)), xiOf H8 (fun c o n1 n2 ec => x8 _ _ (xb _ _ n1 n2 (x6 _ _ ec))) s8.urn s8.tok s8.desk.one, fun z => absurd z lt, fun _ => s8, pagesL_k s6.pages (fun z => s6.ne (List.reverse_eq_nil_iff.mp z)) (((Keeps.ex x6).trans kp67).trans (.ex x8)), s6.ne⟩
  refine ⟨fun z tp H6 x6 etp => ?_, fun z => ?_, fun z => ?_, fun z => ?_⟩
  · subst z
    have ix6 : InsAt K H6 x "DeskTrial" [("owner", .ref k), ("mark", .ref m)] := by
      obtain ⟨dx, i⟩ := ix5
      exact ⟨dx, x6 _ _ i⟩
    have im6 : InsAt K H6 m "PageMark" [("page", .ref b), ("before", .non)] := by
      obtain ⟨dx, i⟩ := im5
      exact ⟨dx, x6 _ _ i⟩
    refine q1 _ H6 ix6 im6 fun H7 xb => q0 _ H7 ⟨.tuple [.str "end", .int (d : Nat)], .tup (.of (xb _ _ (fun z => ?_) etp)) (.cons (.str _) (.cons (.int _) .nil)), fit_end d4, fun tl H8 x8 etl => ret H6 H7 H8 x6 xb x8 (by decide) tl etl⟩
    obtain ⟨dx, i⟩ := ix6
    rw [z, i] at etp
    cases etp
  · subst z
    refine q1 .non H5 ix5 im5 fun H7 xb => q0 .non H7 ⟨.none, .non, fit_none, fun tl H8 x8 etl => ret H5 H7 H8 (.refl _) xb x8 (by decide) tl ?_⟩
    rw [shown_none] at etl
    exact etl
  · subst z
    refine raised_of fun cls d' H6 x6 his => ?_
    have hcls := his.1
    subst hcls
    obtain ⟨C5, dk5, v5, hk5⟩ := s6.desk.one
    obtain ⟨a5, ⟨dk5, hk5⟩, pg5⟩ := id s6.desk
    refine e1 _ d' H6 ⟨.ref _, rfl, by simp⟩ ?_ ?_ ⟨a5, dk5, x6 _ _ hk5⟩ fun H7 xb dsk => e0 _ d' H7 (.inl ⟨.unknown "qq", ⟨rfl, ?_⟩, str_fit qq_fit, fun tl H8 x8 etl => err H6 H7 H8 x6 xb dsk x8 (by decide) tl etl⟩)
    · obtain ⟨dx, i⟩ := ix5
      exact ⟨dx, x6 _ _ i⟩
    · obtain ⟨dx, i⟩ := im5
      exact ⟨dx, x6 _ _ i⟩
    · obtain ⟨_, dx, rfl, hdx⟩ := his
      refine ⟨dx, rfl, xb _ _ (fun z => ?_) (fun z => ?_) hdx⟩
      · obtain ⟨dx', i⟩ := ix5
        rw [z, x6 _ _ i] at hdx
        cases hdx
      · rw [z, x6 _ _ hk5] at hdx
        cases hdx
  · subst z
    intro dx
    obtain ⟨a5, ⟨dk5, hk5⟩, pg5⟩ := id s6.desk
    refine e1 (.type "KeyError") dx H5 ⟨.ty "KeyError", rfl, by simp⟩ ix5 im5 ⟨a5, dk5, hk5⟩ fun H7 xb dsk => e0 _ dx H7 (.inr ⟨rfl, fun tl H8 x8 etl => err H5 H7 H8 (.refl _) xb dsk x8 (by decide) tl etl⟩)
end Bt
set_option Elab.async false
set_option linter.all false
set_option maxRecDepth 100000
set_option maxHeartbeats 4000000
/-! The law's trials. -/
namespace Bt
open PySem PySem.Spec PyProof.Rows L2 HotX L2H LamX PySem.W
theorem seq_by {t rest : TS} {D : Ends} {σ : L2.St} {H : Hp} (F : L2.St → Hp → Prop) (h1 : ∀ nx : L2.St → Hp → Prop, (∀ σ' H', F σ' H' → nx σ' H') → t { D with nx := nx } σ H) (h2 : ∀ σ' H', F σ' H' → rest D σ' H') : tSeq t rest D σ H := h1 _ h2
theorem i_ifT {te : TE} {t u : TS} {D : Ends} {σ : L2.St} {H : Hp} (h : te σ H fun x H1 => ∃ b, x = .bl b ∧ (if b = true then t D σ H1 else u D σ H1)) : tIfS (tTest te) t u D σ H := h
theorem i_tst {te : TE} {σ : L2.St} {H : Hp} {Q : Bool → Hp → Prop} (h : te σ H fun x H1 => ∃ b, x = .bl b ∧ Q b H1) : tTest te σ H Q := h
theorem i_and {t u : TT} {σ : L2.St} {H : Hp} {Q : Bool → Hp → Prop} (h : t σ H fun b H1 => if b = true then u σ H1 Q else Q false H1) : tAnd t u σ H Q := h
theorem i_andV {ta tb : TE} {σ : L2.St} {H : Hp} {Q : VK} (h : ta σ H fun x H1 => ∃ c, x = .bl c ∧ if c = true then tb σ H1 Q else Q (.bl false) H1) : tAndV ta tb σ H Q := h
theorem dueT_some {e : Nat} (h : e < 4) : e = 0 ∨ e = 1 ∨ e = 2 ∨ e = 3 := by omega
abbrev nTried : List Str := ["_law_urn_here", "_law_desk_here", "_law_pages", "_law_deep", "_law_ended", "_law_notes", "_law_about", "_law_told", "_law_due", "_law_behind_here", "_law_fine"]
/-- the names of the lambda that makes another -/
abbrev scLam : Scope := { kind := .function, names := [("_law_about", .free), ("_law_desk_here", .free), ("_law_urn_here", .free)], isGenerator := false, isCoroutine := false }
section
variable {P : Program} {w : World} {K : PySem.W.Frag} {mg : Str → Option Value} {base : Heap}
theorem scTried2 : FnScope nTried ["_law_urn_here", "_law_desk_here", "_law_pages", "_law_deep"] (defScope st_d_law_tried) := ⟨rfl, rfl, rfl, by decide +kernel, rfl, by decide +kernel, by decide +kernel⟩
theorem ok_tried (hw : Hw w K mg) (ht : Ht base mg K) (u k : Addr) (d : Nat) (INS : Okg P w K mg base (CXN P w) (17 + 13 * d) (He.fAd K d_law_inside.at_) ["_law_urn_here", "_law_held", "_law_about"] (spInside K u k (d + 1))) :
    Okg P w K mg base C8.CX0 (28 + 13 * d) (He.fAd K d_law_tried.at_) ["_law_urn_here", "_law_desk_here", "_law_pages", "_law_deep"] (spTried K u k (d + 1)) := by
  have hz := hw.toHz
  have hd := hz.toHd
  have cD := hd.cls "Desk" (by decide +kernel)
  have ml : mg "len" = none := hd.free _ (by decide +kernel)
  have mp : mg "repr" = none := hd.free _ (by decide +kernel)
  have mG : mg "_law_grab" = some (.ref (He.fAd K d_law_grab.at_)) := hd.glo _ (by decide +kernel)
  have mH : mg "_law_heard" = some (.ref (He.fAd K d_law_heard.at_)) := hd.glo _ (by decide +kernel)
  have mI : mg "_law_inside" = some (.ref (He.fAd K d_law_inside.at_)) := hd.glo _ (by decide +kernel)
  have mK : mg "_law_desk_is" = some (.ref (He.fAd K d_law_desk_is.at_)) := hd.glo _ (by decide +kernel)
  have mTr := hd.meth ("Desk", "tried") (by decide +kernel)
  have G := ok_grab (P := P) (w := w) (base := base) hd u
  have DI := ok_deskIs (P := P) (base := base) hz
  obtain ⟨fdH, FH⟩ := hd.f_d_law_heard
  have kH := FH.kp
  have e28 : 28 + 13 * d = (27 + 13 * d) + 1 := by omega
  rw [e28]
  refine okg_ofC (p := ("_law_tried", none)) hd.f_d_law_tried scTried2 (fun _ _ _ _ _ _ us hl => ?_) (fun vs H Q E h => ?_) (fun A outer s H vs Q E hg hr h => ?_)
  · obtain ⟨a, b, c, e, rfl⟩ := us4 hl
    rfl
  · obtain ⟨_, pl, _, _, rfl, _⟩ := h
    rfl
  · obtain ⟨_, pl, L, n, rfl, s0, n900, kk⟩ := h
    have hr1 : Room 1 _ := hr.mono (show 1 ≤ 27 + 13 * d by omega)
    have hr12 : Room 12 _ := hr.mono (show 12 ≤ 27 + 13 * d by omega)
    have hrH : Room ((17 + 13 * d) + 6 + 4) _ := hr.mono (show (17 + 13 * d) + 6 + 4 ≤ 27 + 13 * d by omega)
    have hu1 := hr.units0
    have hun := hr.units
    refine ⟨_, pss_cons (ps_par (i := 4) (j := 5) rfl scTried2.nd rfl rfl (by decide) rfl rfl (pa_cons (pe_callR (E := E00) (G.run hr1 C8.pass0) (by rfl) mG G.kp (pa_cons (pv 0) (pa_cons pe_int pa_nil))) (pa_cons (pe_lst pa_nil) pa_nil)) (by rfl))
      (pss_cons (ps_set (i := 6) scTried2.nd rfl (.inr rfl) (pe_lst (pa_cons (pv 1) (pa_cons (pv 2) (pa_cons (pv 3) (pa_cons (pv 4) (pa_cons (pv 5) pa_nil)))))))
      (pss_cons (ps_if (pt_cmpR op_eq (pe_callR (E := E00) (G.run hr1 C8.pass0) (by rfl) mG G.kp (pa_cons (pv 0) (pa_cons pe_int pa_nil))) pe_int (nomark _))
        (pss_one (ps_set (i := 7) scTried2.nd rfl (.inl rfl) (pe_clcall (k := 17 + 13 * d + 6) (mk_nest (T := tcK K) (ps := []) (t := fun c' E => tLamA K u k (d + 1) c' E) ht.t2 rfl rfl (lamP_by (N := nTried) (sc := d_law_tried.scope) (by decide +kernel)) rfl (fun us q cl pm cv ctv hl => by
            cases us with
            | nil => rfl
            | cons _ _ => cases hl) (fun A' outer' s1 HZ E' f c' hg' hr' => pe_clmethK (k := 17 + 13 * d) (n := "action") (pv 1) cD mTr (mk_leaf3 (T := tcK K) (ps := ["_law_held"]) (t := fun E => tLamB K u k (d + 1) E) ht.t2 rfl rfl ht.hG (lamP_by (N := nTried) (sc := scLam) (by decide +kernel)) rfl (fun us q cl pm cv ctv hl => by
                obtain ⟨a, rfl⟩ := us1 hl
                rfl) (fun A'' outer'' s2 HZ2 E'' f2 c2 hg'' hr'' => pe_callR (E := E'') (INS.run hg'' hr'' (L2N.passes_call clCx_takes fun _ _ _ _ h => h)) (by rfl) mI INS.kp (pa_cons (pv 1) (pa_cons (pv 0) (pa_cons (pv 7) pa_nil))))) (fun a => run_tried hz hg' hr' (L2N.passes_call clCx_takes fun _ _ _ _ h => h) (.inr rfl)) (hkw := rfl))) (run_heard hw hg hrH) (by rfl) mH kH)))
        (pss_one (ps_set (i := 7) scTried2.nd rfl (.inl rfl) (pe_clcall (k := 17 + 13 * d + 6) (mk_nest (T := tcK K) (ps := []) (t := fun c' E => tLamA K u k (d + 1) c' E) ht.t2 rfl rfl (lamP_by (N := nTried) (sc := d_law_tried.scope) (by decide +kernel)) rfl (fun us q cl pm cv ctv hl => by
            cases us with
            | nil => rfl
            | cons _ _ => cases hl) (fun A' outer' s1 HZ E' f c' hg' hr' => pe_clmeth (k := 17 + 13 * d) (pv 1) cD mTr (mk_leaf3 (T := tcK K) (ps := ["_law_held"]) (t := fun E => tLamB K u k (d + 1) E) ht.t2 rfl rfl ht.hG (lamP_by (N := nTried) (sc := scLam) (by decide +kernel)) rfl (fun us q cl pm cv ctv hl => by
                obtain ⟨a, rfl⟩ := us1 hl
                rfl) (fun A'' outer'' s2 HZ2 E'' f2 c2 hg'' hr'' => pe_callR (E := E'') (INS.run hg'' hr'' (L2N.passes_call clCx_takes fun _ _ _ _ h => h)) (by rfl) mI INS.kp (pa_cons (pv 1) (pa_cons (pv 0) (pa_cons (pv 7) pa_nil))))) (fun a => run_tried hz hg' hr' (L2N.passes_call clCx_takes fun _ _ _ _ h => h) (.inl rfl)))) (run_heard hw hg hrH) (by rfl) mH kH))))
      (pss_cons (ps_set (i := 8) scTried2.nd rfl (.inl rfl) (pe_ix ix_list (pe_lst (pa_cons (pe_lst (pa_cons pe_str (pa_cons (pe_callB (cr_repr hg hun) (by rfl) mp bo_repr (pa_cons (pe_tup (pa_cons pe_str (pa_cons (pv 3) pa_nil))) pa_nil)) pa_nil))) (pa_cons (pe_lst (pa_cons pe_str (pa_cons pe_str pa_nil))) (pa_cons (pe_lst (pa_cons pe_str (pa_cons pe_str pa_nil))) (pa_cons (pe_lst (pa_cons pe_str pa_nil)) pa_nil))))) (pv 4) (fun _ _ => rfl)))
      (pss_cons (ps_set (i := 9) scTried2.nd rfl (.inl rfl) (pe_ifExp (pw_and (pt_cmpR op_lt (pv 4) pe_int (nomark _)) (pw_and1 (pt_cmpR op_eq (pe_callB call_len_seq (by rfl) ml bo_len (pa_cons (pv 5) pa_nil)) pe_int (nomark _)))).pt (pe_ix ix_list (pv 5) pe_int (fun _ _ => rfl)) (pv 2)))
      (pss_cons (ps_set (i := 10) scTried2.nd rfl (.inl rfl) (pe_and (pe_cmpR (op_eqF hu1) (pv 7) (pv 8) (nomark _)) (pe_and (pe_cmpR op_eq (pe_callB call_len_seq (by rfl) ml bo_len (pa_cons (pv 5) pa_nil)) pe_int (nomark _)) (pe_one (pe_cmpR (op_neE hu1) (pe_ix ix_list (pv 5) pe_int (fun _ _ => rfl)) (pe_lst pa_nil) (nomark _))))))
      (pss_one (ps_ret (pe_ifExp (pw_and (pt_val (pv 10)) (pw_and1 (pt_val (pe_callR (E := E00) (DI.run hg hr12 C8.pass0) (by rfl) mK DI.kp (pa_cons (pv 1) (pa_cons (pe_ix ix_list (pv 9) (pe_un un_neg pe_int) (fun _ _ => rfl)) (pa_cons (pe_op op_sub (pe_callB call_len_seq (by rfl) ml bo_len (pa_cons (pv 9) pa_nil)) pe_int) pa_nil))))))).pt (pv 9) pe_dead)))))))), ?_⟩
    refine i_seq (i_par (i_cons (grab_of rfl (fun Q q => q) s0.urn (by decide) (by decide) fun en H1 w0 w1 X1 => i_cons (i_lst (i_nil ⟨szl (by simp), fun nt hnt => i_nil ⟨_, _, rfl, ?_⟩⟩)))))
    obtain ⟨e, rfl⟩ : ∃ e : Nat, en = (e : Nat) := ⟨en.toNat, by omega⟩
    have e4 : e < 4 := by omega
    have s1 := (s0.xu X1).ex (.new (o := .lst []) hnt)
    have t1 := (s0.xxu X1).trans ((s0.xu X1).xex (.new (o := .lst []) hnt))
    have ent : (upd H1 nt (.lst [])) nt = some (.lst []) := upd_same
    have nn : ∀ b o, b ≠ u → H b = some o → b ≠ nt := fun b o nu q => ne_of_none (X1.k b o nu q) hnt
    generalize (upd H1 nt (.lst [])) = H2 at s1 t1 ent ⊢
    dsimp only
    refine i_seq (i_asg (i_lst (i_cons (vx_var rfl _ (i_cons (vx_var rfl _ (i_cons (vx_var rfl _ (i_cons (vx_var rfl _ (i_cons (vx_var rfl _ (i_nil ⟨szl (by simp), fun ab hab => ?_⟩)))))))))))))
    have x2 : Evl.Ex H2 (upd H2 ab (.lst [.ref k, .ref pl, .int ((d + 1 : Nat) : Int), .int (e : Nat), .ref nt])) := .new hab
    have e2 : (upd H2 ab (.lst [.ref k, .ref pl, .int ((d + 1 : Nat) : Int), .int (e : Nat), .ref nt])) ab = some (.lst [.ref k, .ref pl, .int ((d + 1 : Nat) : Int), .int (e : Nat), .ref nt]) := upd_same
    dsimp only
    generalize (upd H2 ab (.lst [.ref k, .ref pl, .int ((d + 1 : Nat) : Int), .int (e : Nat), .ref nt])) = H3 at x2 e2 ⊢
    have s3 := s1.ex x2
    have t3 := t1.trans (s1.xex x2)
    have n3 := x2 _ _ ent
    clear s1 t1 ent x2
    have ntu : nt ≠ u := fun z => by
      obtain ⟨a1, a2, a3, q⟩ := s3.urn
      rw [z, q] at n3
      cases n3
    have abu : ab ≠ u := fun z => by
      obtain ⟨a1, a2, a3, q⟩ := s3.urn
      rw [z, q] at e2
      have e2 := Option.some.inj e2
      injection e2 with e2
      have := congrArg List.length e2
      simp at this
    refine seq_by (fun σ' H' => ∃ (tl : Addr) (H4 : Hp), σ' = [some (V.ref u), some (V.ref k), some (V.ref pl), some (V.int ((d + 1 : Nat) : Int)), some (V.int (e : Nat)), some (V.ref nt), some (V.ref ab), some (V.ref tl), none, none, none] ∧ XT (tcK K) u k H H4 ∧ Fct K u k pl nt (d + 1) e n L H4 tl H') (fun nx hnx => ?_) (fun σ' H' h => ?_)
    · refine i_ifT (i_op (grab_of rfl (fun Q q => q) s3.urn (by decide) (by decide) fun wy H4 w2 w3 X4 => vx_c _ ⟨rfl, _, rfl, ?_⟩))
      have s4 := s3.xu X4
      have t4 := t3.trans (s3.xxu X4)
      have n4 := X4.k _ _ ntu n3
      have ab4 := X4.k _ _ abu e2
      have d1000 : d + 1 ≤ 1000 := by
        have : d + 1 < 4 ^ (d + 1) := Nat.lt_pow_self (by decide)
        omega
      cases decide (V.int wy = V.int 0) with
      | true => exact iteT (i_asg (heard_tried s4 ab4 n4 e4 d1000 n900 rfl rfl rfl fun tl H' f => hnx _ _ ⟨tl, H4, rfl, t4, f⟩))
      | false => exact iteF (i_asg (heard_tried s4 ab4 n4 e4 d1000 n900 rfl rfl rfl fun tl H' f => hnx _ _ ⟨tl, H4, rfl, t4, f⟩))
    · clear s3 t3 n3 ntu abu e2
      obtain ⟨tl, H4, rfl, t4, q, L', etl, enq, xi, sA, sB, pq, nq⟩ := h
      have d1000 : d + 1 ≤ 1000 := by
        have : d + 1 < 4 ^ (d + 1) := Nat.lt_pow_self (by decide)
        omega
      have fit := fit_end d1000
      -- what is due
      refine i_seq (i_asg (i_op (i_lst (i_cons (i_lst (i_cons (vx_c _ (i_cons (i_cb (i_cons (tup2 vx_c (vx_var rfl) fun tp htp => i_nil ⟨.ref tp, .tuple [.str "end", .int ((d + 1 : Nat) : Int)], rfl, .tup (.of upd_same) (.cons (.str _) (.cons (.int _) .nil)), fit.sh, fit.nd, fit.dp, ?_, i_nil ⟨szl (by simp), fun l0 h0 => ?_⟩⟩)))))))))))
      · have := fit.ln
        rw [sizeLine_eq]
        omega
      have x1 : Evl.Ex H' (upd (upd H' tp (.tup [.str "end", .int ((d + 1 : Nat) : Int)])) l0 (.lst [.str "told", .str (PyData.tuple [.str "end", .int ((d + 1 : Nat) : Int)]).shown])) := (Evl.Ex.new htp).trans (.new h0)
      have q0 : (upd (upd H' tp (.tup [.str "end", .int ((d + 1 : Nat) : Int)])) l0 (.lst [.str "told", .str (PyData.tuple [.str "end", .int ((d + 1 : Nat) : Int)]).shown])) l0 = some (.lst [.str "told", .str (PyData.tuple [.str "end", .int ((d + 1 : Nat) : Int)]).shown]) := upd_same
      generalize (upd (upd H' tp (.tup [.str "end", .int ((d + 1 : Nat) : Int)])) l0 (.lst [.str "told", .str (PyData.tuple [.str "end", .int ((d + 1 : Nat) : Int)]).shown])) = G1 at x1 q0 ⊢
      refine i_cons (i_lst (i_cons (vx_c _ (i_cons (vx_c _ (i_nil ⟨szl (by simp), fun l1 h1 => i_cons (i_lst (i_cons (vx_c _ (i_cons (vx_c _ (i_nil ⟨szl (by simp), fun l2 h2 => i_cons (i_lst (i_cons (vx_c _ (i_nil ⟨szl (by simp), fun l3 h3 => i_nil ⟨szl (by simp), fun lo ho => ?_⟩⟩))))⟩))))))⟩))))))
      have hqq : (PyData.str "qq").shown = ("'qq'" : Str) := by simp only [PyData.shown]; decide +kernel
      have a1 : (upd G1 l1 (.lst [.str "told", .str "None"])) l1 = some (.lst [.str "told", .str "None"]) := upd_same
      have y1 : Evl.Ex G1 (upd G1 l1 (.lst [.str "told", .str "None"])) := .new h1
      generalize (upd G1 l1 (.lst [.str "told", .str "None"])) = G2 at *
      have a2 : (upd G2 l2 (.lst [.str "UnknownName", .str "'qq'"])) l2 = some (.lst [.str "UnknownName", .str "'qq'"]) := upd_same
      have y2 : Evl.Ex G2 (upd G2 l2 (.lst [.str "UnknownName", .str "'qq'"])) := .new h2
      generalize (upd G2 l2 (.lst [.str "UnknownName", .str "'qq'"])) = G3 at *
      have a3 : (upd G3 l3 (.lst [.str "plain"])) l3 = some (.lst [.str "plain"]) := upd_same
      have y3 : Evl.Ex G3 (upd G3 l3 (.lst [.str "plain"])) := .new h3
      generalize (upd G3 l3 (.lst [.str "plain"])) = G4 at *
      have a4 : (upd G4 lo (.lst [.ref l0, .ref l1, .ref l2, .ref l3])) lo = some (.lst [.ref l0, .ref l1, .ref l2, .ref l3]) := upd_same
      have y4 : Evl.Ex G4 (upd G4 lo (.lst [.ref l0, .ref l1, .ref l2, .ref l3])) := .new ho
      generalize (upd G4 lo (.lst [.ref l0, .ref l1, .ref l2, .ref l3])) = H5 at *
      have x5 : Evl.Ex H' H5 := (((x1.trans y1).trans y2).trans y3).trans y4
      obtain ⟨ae, hat, hae⟩ : ∃ ae : Addr, atI [V.ref l0, V.ref l1, V.ref l2, V.ref l3] (e : Nat) = some (V.ref ae) ∧ H5 ae = some (.lst ((dueT (d + 1) e).map V.str)) := by
        rcases dueT_some e4 with z | z | z | z
        · subst z
          exact ⟨l0, rfl, y4 _ _ (y3 _ _ (y2 _ _ (y1 _ _ q0)))⟩
        · subst z
          exact ⟨l1, rfl, y4 _ _ (y3 _ _ (y2 _ _ a1))⟩
        · subst z
          refine ⟨l2, rfl, ?_⟩
          show H5 l2 = some (HO.lst [.str "UnknownName", .str (PyData.str "qq").shown])
          rw [hqq]
          exact y4 _ _ (y3 _ _ a2)
        · subst z
          exact ⟨l3, rfl, y4 _ _ a3⟩
      refine vx_var rfl _ ⟨lo, _, _, _, rfl, rfl, .of a4, hat, ?_⟩
      have etl5 := x5 _ _ etl
      have enq5 := x5 _ _ enq
      have sA5 := fun h => (sA h).ex x5
      have sB5 := fun h => (sB h).ex x5
      obtain ⟨ps, hq0, hps⟩ := pq
      have hq5 := x5 _ _ hq0
      have pne : ps ≠ [] := fun z => by
        have := paired_len hps
        rw [z, List.length_reverse] at this
        exact nq (List.length_eq_zero_iff.mp this.symm)
      have t5 : XT (tcK K) u k H H5 := by
        obtain ⟨d0, m0, c0', e0⟩ := xi.urn
        obtain ⟨C0, dx0, v0, e0'⟩ := xi.dsk
        exact ⟨fun b o n1 n2 n3 e => x5 _ _ (xi.kp b o n1 n2 (nn b o n1 e) n3 (t4.kp b o n1 n2 n3 e)), ⟨d0, m0, c0', x5 _ _ e0⟩, xi.tok.ex x5, ⟨C0, dx0, v0, x5 _ _ e0'⟩⟩
      clear x1 q0 y1 y2 y3 y4 a1 a2 a3 a4 xi sA sB t4 etl enq
      dsimp only
      refine seq_by (fun σ' H' => ∃ (r : Addr) (Lr : List Leaf), σ' = [some (V.ref u), some (V.ref k), some (V.ref pl), some (V.int ((d + 1 : Nat) : Int)), some (V.int (e : Nat)), some (V.ref nt), some (V.ref ab), some (V.ref tl), some (V.ref ae), some (V.ref r), none] ∧ H' = H5 ∧ Sta K u k H5 r Lr (n + 4 ^ (d + 1))) (fun nx hnx => ?_) (fun σ' H'' h => ?_)
      · have f1 : Fx (tAnd (tTest (tOp (rI0 fun i j => .bl (decide (i < j))) (tVar 4) (tC (.int 2)))) (tTest (tOp rEq (tCB (Evl.rLenS K) (tCons (tVar 5) tNil)) (tC (.int 1))))) [some (V.ref u), some (V.ref k), some (V.ref pl), some (V.int ((d + 1 : Nat) : Int)), some (V.int (e : Nat)), some (V.ref nt), some (V.ref ab), some (V.ref tl), some (V.ref ae), none, none] H5 (decide (((e : Nat) : Int) < 2) && decide (((1 : Nat) : Int) = 1)) :=
          fx_and (fx_test (vx_op0 (g := fun i j => .bl (decide (i < j))) (vx_var rfl) vx_c)) fun _ => fx_test (vx_eqI (vx_lenL (K := K) (n := 1) (vx_var rfl) (.of enq5) rfl) vx_c)
        by_cases c : e < 2
        · rw [decide_eq_true (show ((e : Nat) : Int) < 2 by omega)] at f1
          exact i_asg (i_ifE (f1 _ (iteT (vx_ixL (K := K) (vx_var rfl) vx_c enq5 rfl _ (hnx _ _ ⟨q, L', rfl, rfl, sA5 c⟩)))))
        · rw [decide_eq_false (show ¬ ((e : Nat) : Int) < 2 by omega)] at f1
          exact i_asg (i_ifE (f1 _ (iteF (vx_var rfl _ (hnx _ _ ⟨pl, L, rfl, rfl, (sB5 c).mono (Nat.le_add_right _ _)⟩)))))
      · obtain ⟨r, Lr, rfl, rfl, s5⟩ := h
        -- it is fine
        refine i_seq (i_asg (i_andV (i_op (vx_var rfl _ (vx_var rfl _ ⟨tl, ae, _, rfl, rfl, .of etl5, .of hae, flat_texts _, true, rfl, iteT (i_andV (vx_eqI (vx_lenL (K := K) (n := 1) (vx_var rfl) (.of enq5) rfl) vx_c _ ⟨_, rfl, iteT (i_op (vx_ixL (K := K) (vx_var rfl) vx_c enq5 rfl _ ⟨szl (by simp), fun el hel => ⟨q, el, _, [], rfl, rfl, .of (by rw [upd_ne (ne_of_none hq5 hel)]; exact hq5), .of upd_same, .inr rfl, ?_⟩⟩))⟩))⟩)))))
        have hv : (!decide ((ps.map V.ref).length = ([] : List V).length)) = true := by
          cases ps with
          | nil => exact absurd rfl pne
          | cons a b => rfl
        rw [hv]
        have x6 := Evl.Ex.new (o := .lst []) hel
        have s6 := s5.ex x6
        have t6 := t5.trans (s5.xex x6)
        generalize (upd H'' el (.lst [])) = H6 at s6 t6 ⊢
        dsimp only
        obtain ⟨l, rest, rfl⟩ : ∃ l rest, Lr = l :: rest := by
          cases Lr with
          | nil => exact absurd rfl s6.ne
          | cons l rest => exact ⟨l, rest, rfl⟩
        obtain ⟨qs, hr6, hqs⟩ := id s6.pages
        have lqs : qs.length = rest.length + 1 := by rw [paired_len hqs]; simp
        rw [List.reverse_cons] at hqs
        obtain ⟨ps0, p, rfl, hps0, hlf⟩ := paired_snoc hqs
        obtain ⟨so, wo, ln⟩ := s6.ok l List.mem_cons_self
        have len6 := s6.len
        rw [List.length_cons] at len6
        refine i_ret (i_ifE (i_and (i_tst (vx_var rfl _ ⟨true, rfl, iteT (i_tst (i_call (i_cons (vx_var rfl _ (i_cons (vx_ixL (K := K) (vx_var rfl) (vx_neg vx_c) hr6 at_end _ (i_cons (vx_op0 (g := fun i j => .int (i - j)) (vx_lenL (K := K) (n := rest.length + 1) (vx_var rfl) (.of hr6) (by rw [List.length_map]; exact lqs)) vx_c _ (i_nil ⟨k, p, l, rest, ?_, s6.desk, hlf, so, wo, by omega, by omega, fun H7 x7 => ⟨true, rfl, iteT (vx_var rfl _ ?_)⟩⟩)))))))))⟩))))
        · have : ((rest.length + 1 : Nat) : Int) - 1 = (rest.length : Nat) := by omega
          rw [this]
          rfl
        · exact kk r H7 (l :: rest) (t6.trans (s6.xex x7)) (s6.ex x7)
end
end Bt
set_option Elab.async false
set_option linter.all false
set_option maxRecDepth 100000
set_option maxHeartbeats 4000000
/-! All turns; the law's right. -/
namespace Bt
open PySem PySem.Spec PyProof.Rows L2 HotX L2H LamX PySem.W
theorem i_or {t u : TT} {σ : L2.St} {H : Hp} {Q : Bool → Hp → Prop} (h : t σ H fun b H1 => if b = true then Q true H1 else u σ H1 Q) : tOr t u σ H Q := h
theorem i_not {t : TT} {σ : L2.St} {H : Hp} {Q : Bool → Hp → Prop} (h : t σ H fun b H1 => Q (!b) H1) : tNot t σ H Q := h
theorem i_tb {te : TE} {σ : L2.St} {H : Hp} {Q : Bool → Hp → Prop} (h : te σ H fun x H1 => ∃ b, x = .bl b ∧ Q b H1) : tB te σ H Q := h
theorem i_ifS {c : TT} {t u : TS} {D : Ends} {σ : L2.St} {H : Hp} (h : c σ H fun b H1 => if b = true then t D σ H1 else u D σ H1) : tIfS c t u D σ H := h
theorem runR_any {X : Cx} {f : Addr} {E : XK} {α : Type} {sp : α → Sp} (h : ∀ a, RunR X f (sp a) E) : RunR X f (fun vs H Q E => ∃ a, sp a vs H Q E) E := fun pins s σ H us vs Q I r ⟨a, q⟩ => h a pins s σ H us vs Q I r q
/-- what law and its right may touch -/
structure XR (T : TC) (u : Addr) (H H' : Hp) : Prop where
  kp : ∀ b o, b ≠ u → (∀ ps, o ≠ .tbl ps) → H b = some o → H' b = some o
  tok : TOk T H'
def spRight (K : Frag) : Sp := fun vs H Q _ => ∃ u, vs = [.ref u] ∧ UrnAt H u ∧ TOk (tcK K) H ∧ ∀ H', XR (tcK K) u H H' → Q (.bl true) H'
section
variable {P : Program} {w : World} {K : PySem.W.Frag} {mg : Str → Option Value} {base : Heap}
theorem tried_dead (hd : Hd K mg) (u k : Addr) : Okg P w K mg base C8.CX0 (15 + 13 * 0) (He.fAd K d_law_tried.at_) ["_law_urn_here", "_law_desk_here", "_law_pages", "_law_deep"] (spTried K u k 0) :=
  okg_dead (p := ("_law_tried", none)) hd.f_d_law_tried (fun _ _ _ _ _ _ us hl => by
    obtain ⟨a, b, c, e, rfl⟩ := us4 hl
    rfl) fun vs H Q E h => by
    have := h.1
    omega
theorem ok_turns (hw : Hw w K mg) (ht : Ht base mg K) (u k : Addr) : ∀ d : Nat, Okg P w K mg base C8.CX0 (16 + 13 * d) (He.fAd K d_law_turn.at_) ["_law_urn_here", "_law_desk_here", "_law_pages", "_law_deep"] (spTurn K u k d)
  | 0 => ok_turn hw ht u k 0 (tried_dead hw.toHd u k)
  | d + 1 => ok_turn hw ht u k (d + 1) (by
    have := ok_tried (P := P) hw ht u k d (ok_inside hw u k d (ok_turns hw ht u k d))
    have e : 15 + 13 * (d + 1) = 28 + 13 * d := by omega
    rw [e]
    exact this)
abbrev nRight : List Str := ["_law_urn_here", "_law_desk_here", "_law_pages", "_law_turn_here"]
theorem scRight : FnScope nRight ["_law_urn_here"] (defScope st_d_law_right) := ⟨rfl, rfl, rfl, by decide +kernel, rfl, by decide +kernel, by decide +kernel⟩
theorem ok_right (hw : Hw w K mg) (ht : Ht base mg K) : Okg P w K mg base C8.CX0 56 (He.fAd K d_law_right.at_) ["_law_urn_here"] (spRight K) := by
  have hz := hw.toHz
  have hd := hz.toHd
  have hx := hz.toHx
  have cD := hd.cls "Desk" (by decide +kernel)
  have ml : mg "len" = none := hd.free _ (by decide +kernel)
  have mr : mg "range" = none := hd.free _ (by decide +kernel)
  have mK : mg "_law_desk_is" = some (.ref (He.fAd K d_law_desk_is.at_)) := hd.glo _ (by decide +kernel)
  have mU : mg "_law_turn" = some (.ref (He.fAd K d_law_turn.at_)) := hd.glo _ (by decide +kernel)
  have mD : mg "Desk" = some (.ref (He.ga K "Desk")) := hd.glo _ (by decide +kernel)
  have mT := hd.meth ("Desk", "trial") (by decide +kernel)
  have TR := ok_trial (P := P) (w := w) (base := base) hd
  have DI := ok_deskIs (P := P) (base := base) hz
  have TU := fun p : Addr × Addr => ok_turns (P := P) (w := w) (base := base) hw ht p.1 p.2 3
  obtain ⟨fdI, FI, BI, _⟩ := ok_deskI (P := P) (w := w) (base := base) hd
  refine okg_of hd.f_d_law_right scRight (fun _ _ _ _ _ _ us hl => ?_) (fun vs H Q E h => ?_) (fun cdv A outer s H vs Q E hg hr h => ?_)
  · obtain ⟨a, rfl⟩ := us1 hl
    rfl
  · obtain ⟨u, rfl, _⟩ := h
    rfl
  · obtain ⟨u, rfl, hu0, tok, kk⟩ := h
    have hr3 : Room 3 _ := hr.mono (show 3 ≤ 55 by omega)
    have hr4 : Room 4 _ := hr.mono (show 4 ≤ 55 by omega)
    have hr12 : Room 12 _ := hr.mono (show 12 ≤ 55 by omega)
    have hu1 := hr.units0
    refine ⟨_, pss_cons (ps_par (i := 1) (j := 2) rfl scRight.nd rfl rfl (by decide) rfl rfl (pa_cons (pe_make0 (E := E00) (hd.mkr "Desk" (by decide +kernel)) FI hr4 (by rfl) mD BI .nil C8.pass0) (pa_cons (pe_lst (pa_cons (pe_tup (pa_cons pe_dnewK (pa_cons (pe_frz (pe_lst pa_nil)) pa_nil))) pa_nil)) pa_nil)) (by rfl))
      (pss_cons (ps_for PassesOwn.leaving rfl (pi_range1 (by rfl) mr (pa_cons pe_int pa_nil)) (pg_name (i := 3) scRight.nd rfl (.inl rfl))
        (pss_cons (ps_set (i := 2) scRight.nd rfl (.inl rfl) (pe_callR (E := E00) (runR_any fun p => (TU p).run hg hr C8.pass0) (by rfl) mU (TU (u, u)).kp (pa_cons (pv 0) (pa_cons (pv 1) (pa_cons (pv 2) (pa_cons pe_int pa_nil))))))
        (pss_one (ps_if (pw_or (pt_cmpR (op_eqE hu1) (pv 2) (pe_lst pa_nil) (nomark _)) (pw_or (pt_cmpR op_isN1 (pe_methR0 (E := E00) (pv 1) cD mT (TR.run hr3 C8.pass0)) pe_non (nomark _)) (pw_or1 (pt_not (pt_val (pe_callR (E := E00) (DI.run hg hr12 C8.pass0) (by rfl) mK DI.kp (pa_cons (pv 1) (pa_cons (pe_ix ix_list (pv 2) (pe_un un_neg pe_int) (fun _ _ => rfl)) (pa_cons (pe_op op_sub (pe_callB call_len_seq (by rfl) ml bo_len (pa_cons (pv 2) pa_nil)) pe_int) pa_nil))))))))).pt (pss_one ps_dead) pss_nil))))
      (pss_one (ps_ret pe_bl))), ?_⟩
    refine i_seq (i_par (i_cons (i_make (i_nil fun k dk hk hdk ne => ⟨k, dk, rfl, upd_same, fun H2 x2 desk => ⟨rfl, i_cons (i_lst (i_cons (i_tup (i_cons fun d0 hd0 => i_cons (i_frz (i_lst (i_nil ⟨szl (by simp), fun l0 hl0 => ⟨l0, .lst [], rfl, upd_same, ?_, fun od => i_nil ⟨szl (by simp), fun p hp => i_nil ⟨szl (by simp), fun pl hpl => i_nil ⟨_, _, rfl, ?_⟩⟩⟩⟩⟩)))))))⟩⟩))))
    · trivial
    have x1 : Evl.Ex H H2 := fun b o e => x2 b o (ne_of_none e hk) (by
      rw [upd_ne (ne_of_none e hk), upd_ne (ne_of_none e hdk)]
      exact e)
    have y1 : Evl.Ex H2 (upd H2 d0 (.dK [])) := .new hd0
    have a1 : (upd H2 d0 (.dK [])) d0 = some (.dK []) := upd_same
    rw [upd_upd] at *
    generalize (upd H2 d0 (.dK [])) = H3 at *
    have y2 : Evl.Ex H3 (upd H3 l0 (.frz od (.lst []))) := .new hl0
    have a2 : (upd H3 l0 (.frz od (.lst []))) l0 = some (.frz od (.lst [])) := upd_same
    generalize (upd H3 l0 (.frz od (.lst []))) = H4 at *
    have y3 : Evl.Ex H4 (upd H4 p (.tup [.ref d0, .ref l0])) := .new hp
    have a3 : (upd H4 p (.tup [.ref d0, .ref l0])) p = some (.tup [.ref d0, .ref l0]) := upd_same
    generalize (upd H4 p (.tup [.ref d0, .ref l0])) = H5 at *
    have y4 : Evl.Ex H5 (upd H5 pl (.lst [.ref p])) := .new hpl
    have a4 : (upd H5 pl (.lst [.ref p])) pl = some (.lst [.ref p]) := upd_same
    generalize (upd H5 pl (.lst [.ref p])) = H6 at *
    have s6 : Sta K u k H6 pl [([], [])] (0 * 64) := by
      have x := ((y1.trans y2).trans y3).trans y4
      have xx := x1.trans x
      obtain ⟨e1, e2, e3, e4⟩ := hu0
      refine ⟨⟨e1, e2, e3, xx _ _ e4⟩, tok.ex xx, deskAt_ex desk x, ⟨[p], a4, .cons ⟨d0, l0, y4 _ _ a3, ⟨[], rfl, y4 _ _ (y3 _ _ (y2 _ _ a1)), by simp⟩, ⟨od, [], y4 _ _ (y3 _ _ a2), .nil⟩⟩ .nil⟩, fun l hl => ?_, by simp, by simp⟩
      rw [List.mem_singleton] at hl
      rw [hl]
      exact ⟨⟨(fun e he => absurd he (by simp)), (fun e he => absurd he (by simp)), by simp⟩, (fun c hc => absurd hc (by simp)), by simp⟩
    have xH : Evl.Ex H H6 := x1.trans (((y1.trans y2).trans y3).trans y4)
    clear y1 y2 y3 y4 a1 a2 a3 a4 x1
    dsimp only
    refine i_seq ⟨8, rfl, by omega, by omega, for_range (fun i σ' H' => ∃ (q : Addr) (L' : List Leaf) (o3 : Option V), σ' = [some (V.ref u), some (V.ref k), some (V.ref q), o3] ∧ XT (tcK K) u k H6 H' ∧ Sta K u k H' q L' (i * 64)) ⟨pl, _, none, rfl, s6.refl, s6⟩ (fun i σ' H' hi h => ?_) (fun σ' H' h => ?_)⟩
    · obtain ⟨q, L', o3, rfl, t7, s7⟩ := h
      have hi8 : i < 8 := hi
      refine i_seq (i_asg (i_call (i_cons (vx_var rfl _ (i_cons (vx_var rfl _ (i_cons (vx_var rfl _ (i_cons (vx_c _ (i_nil ⟨(u, k), q, L', i * 64, rfl, s7, by omega, fun q2 H8 L2 x8 s8 => ?_⟩)))))))))))
      have s8 := s8.mono (m := (i + 1) * 64) (by omega)
      dsimp only
      obtain ⟨ps, hq, hps⟩ := id s8.pages
      obtain ⟨l, rest, rfl⟩ : ∃ l rest, L2 = l :: rest := by
        cases L2 with
        | nil => exact absurd rfl s8.ne
        | cons l rest => exact ⟨l, rest, rfl⟩
      have lqs : ps.length = rest.length + 1 := by rw [paired_len hps]; simp
      rw [List.reverse_cons] at hps
      obtain ⟨ps0, p8, rfl, hps0, hlf⟩ := paired_snoc hps
      obtain ⟨so, wo, ln⟩ := s8.ok l List.mem_cons_self
      have len8 := s8.len
      rw [List.length_cons] at len8
      obtain ⟨a8, ⟨dk8, hk8⟩, pg8⟩ := id s8.desk
      refine i_ifS (i_or (i_tst (i_op (vx_var rfl _ (i_lst (i_nil ⟨szl (by simp), fun el hel => ⟨q2, el, _, [], rfl, rfl, .of (by rw [upd_ne (ne_of_none hq hel)]; exact hq), .of upd_same, .inr rfl, false, ?_, iteF ?_⟩⟩))))))
      · congr 1
        cases ps0 <;> rfl
      have z1 : Evl.Ex H8 (upd H8 el (.lst [])) := .new hel
      generalize (upd H8 el (.lst [])) = H9 at z1 ⊢
      refine i_or (i_tst (i_op ⟨_, rfl, k, dk8, _, rfl, z1 _ _ hk8, lk_no (by decide +kernel), k, rfl, fun x H10 z2 hx ins => vx_c _ ⟨rfl, _, rfl, iteF ?_⟩⟩))
      have z := z1.trans z2
      have s10 := s8.ex z
      have hq10 := z _ _ hq
      refine i_not (i_tb (i_call (i_cons (vx_var rfl _ (i_cons (vx_ixL (K := K) (vx_var rfl) (vx_neg vx_c) hq10 at_end _ (i_cons (vx_op0 (g := fun i j => .int (i - j)) (vx_lenL (K := K) (n := rest.length + 1) (vx_var rfl) (.of hq10) (by rw [List.length_map]; exact lqs)) vx_c _ (i_nil ⟨k, p8, l, rest, ?_, s10.desk, hlf.ex z, so, wo, by omega, by omega, fun H11 x11 => ⟨true, rfl, iteF ?_⟩⟩)))))))))
      · have : ((rest.length + 1 : Nat) : Int) - 1 = (rest.length : Nat) := by omega
        rw [this]
        rfl
      · exact ⟨q2, _, _, rfl, (t7.trans x8).trans (s8.xex (z.trans x11)), s10.ex x11⟩
    · obtain ⟨q, L', o3, rfl, t7, s7⟩ := h
      dsimp only
      exact i_ret (kk H' ⟨fun b o nu nt e => t7.kp b o nu (ne_of_none e hk) nt (xH _ _ e), t7.tok⟩)
end
end Bt
set_option Elab.async false
set_option linter.all false
set_option maxRecDepth 100000
set_option maxHeartbeats 4000000
/-! The law. -/
namespace Bt
open PySem PySem.Spec PyProof.Rows L2 HotX L2H LamX PySem.W
theorem sqL_step {K : PySem.W.Frag} {T : TC} {p a : Addr} {H H2 H3 : Hp} {xs : List V} (h : SqL K H a xs) (hp : H p = none) (x2 : Evl.Ex H H2) (x3 : XR T p H2 H3) : SqL K H3 a xs := by
  rcases h with (h | ⟨o, h⟩) | h
  · exact .inl (.inl (x3.kp _ _ (ne_of_none h hp) (fun ps z => by cases z) (x2 _ _ h)))
  · exact .inl (.inr ⟨o, x3.kp _ _ (ne_of_none h hp) (fun ps z => by cases z) (x2 _ _ h)⟩)
  · exact .inr h
def spLaw (K : Frag) : Sp := fun vs H Q _ => ∃ (a : Addr) (ns : List Int), vs = [.ref a] ∧ SqL K H a (ns.map V.int) ∧ ns.length ≤ 1000000 ∧ TOk (tcK K) H ∧ ∀ H', Q (.bl true) H'
abbrev nLaw : List Str := ["_law_cells", "_law_k"]
section
variable {P : Program} {w : World} {K : PySem.W.Frag} {mg : Str → Option Value} {base : Heap}
theorem scLaw : FnScope nLaw ["_law_cells"] (defScope st_d_law) := ⟨rfl, rfl, rfl, by decide +kernel, rfl, by decide +kernel, by decide +kernel⟩
theorem ok_law (hw : Hw w K mg) (ht : Ht base mg K) : Okg P w K mg base C8.CX0 57 (He.fAd K d_law.at_) ["_law_cells"] (spLaw K) := by
  have hz := hw.toHz
  have hd := hz.toHd
  have ml : mg "len" = none := hd.free _ (by decide +kernel)
  have mr : mg "range" = none := hd.free _ (by decide +kernel)
  have mx : mg "max" = none := hd.free _ (by decide +kernel)
  have mn : mg "min" = none := hd.free _ (by decide +kernel)
  have mU : mg "_law_urn" = some (.ref (He.fAd K d_law_urn.at_)) := hd.glo _ (by decide +kernel)
  have mR : mg "_law_right" = some (.ref (He.fAd K d_law_right.at_)) := hd.glo _ (by decide +kernel)
  have UR := ok_urn (P := P) (w := w) (base := base) hd
  have RI := ok_right (P := P) (base := base) hw ht
  refine okg_of hd.f_d_law scLaw (fun _ _ _ _ _ _ us hl => ?_) (fun vs H Q E h => ?_) (fun cdv A outer s H vs Q E hg hr h => ?_)
  · obtain ⟨a, rfl⟩ := us1 hl
    rfl
  · obtain ⟨a, ns, rfl, _⟩ := h
    rfl
  · obtain ⟨a, ns, rfl, ha, hn, tok, kk⟩ := h
    have hr1 : Room 1 _ := hr.mono (show 1 ≤ 56 by omega)
    refine ⟨_, pss_cons (ps_for PassesOwn.leaving rfl (pi_range1 (by rfl) mr (pa_cons (pe_callB (call_max2 rfl) (by rfl) mx bo_max (pa_cons pe_int (pa_cons (pe_callB (call_min2 rfl) (by rfl) mn bo_min (pa_cons (pe_callB call_len_seq (by rfl) ml bo_len (pa_cons (pv 0) pa_nil)) (pa_cons pe_int pa_nil))) pa_nil))) pa_nil)) (pg_name (i := 1) scLaw.nd rfl (.inl rfl))
        (pss_one (ps_if (pt_not (pt_val (pe_callR (E := E00) (RI.run hg hr C8.pass0) (by rfl) mR RI.kp (pa_cons (pe_callR (E := E00) (UR.run hr1 C8.pass0) (by rfl) mU UR.kp (pa_cons (pv 0) (pa_cons (pv 1) pa_nil))) pa_nil)))) (pss_one ps_dead) pss_nil)))
      (pss_one (ps_ret pe_bl)), ?_⟩
    refine i_seq ?_
    unfold tFor iRng1
    change tCons _ _ _ _ _
    refine i_cons (i_cb (i_cons (vx_c _ (i_cons (i_cb (i_cons (i_cb (i_cons (vx_var rfl _ (i_nil ⟨a, _, rfl, .inl ha, i_cons (vx_c _ (i_nil ⟨_, _, rfl, i_nil ⟨_, _, rfl, i_nil ?_⟩⟩))⟩))))))))))
    have e0 : ∃ r : Int, r = (if (if (4 : Int) < (((ns.map V.int).length : Nat) : Int) then (4 : Int) else (((ns.map V.int).length : Nat) : Int)) > 1 then (if (4 : Int) < (((ns.map V.int).length : Nat) : Int) then (4 : Int) else (((ns.map V.int).length : Nat) : Int)) else 1) ∧ 1 ≤ r ∧ r ≤ 4 := by
      refine ⟨_, rfl, ?_, ?_⟩
      · split <;> omega
      · split
        · split <;> omega
        · omega
    obtain ⟨r, er, r1, r4⟩ := e0
    rw [← er]
    refine ⟨r, rfl, by omega, by omega, for_range (fun i σ' H' => ∃ o1 : Option V, σ' = [some (V.ref a), o1] ∧ SqL K H' a (ns.map V.int) ∧ TOk (tcK K) H') ⟨none, rfl, ha, tok⟩ (fun i σ' H' hi h => ?_) (fun σ' H' h => ?_)⟩
    · obtain ⟨o1, rfl, ha1, tok1⟩ := h
      have hi4 : i < 4 := by omega
      unfold gName
      dsimp only
      refine i_ifS (i_not (i_tb (i_call (i_cons (i_call (i_cons (vx_var rfl _ (i_cons (vx_var rfl _ (i_nil ⟨a, ns, 0 + (i : Nat), rfl, ha1, hn, by omega, by omega, fun p H2 hp x2 hu => i_nil ⟨p, rfl, hu, tok1.ex x2, fun H3 x3 => ⟨true, rfl, iteF ?_⟩⟩⟩))))))))))
      exact ⟨_, rfl, sqL_step ha1 hp x2 x3, x3.tok⟩
    · dsimp only
      exact i_ret (kk H')
end
end Bt
set_option Elab.async false
set_option linter.all false
set_option maxRecDepth 100000
set_option maxHeartbeats 4000000
/-! What the top has left: by Bools. -/
namespace Bt
open PySem PySem.Spec PyProof.Rows L2 HotX L2H LamX PySem.W
def faL : List He.Fa := gloL.map .glo ++ (freeL.map .free ++ (intL.map (fun p => .int p.1 p.2) ++ (strL.map (fun p => .str p.1 p.2) ++ (clsL.map .cls ++ (noatL.map (fun p => .noat p.1 p.2) ++ (methL.map (fun p => .meth p.1 p.2) ++ mkrL.map .mkr))))))
def tsL : List He.Tab := [(fun K => He.ga K "SIZES", ["all", "one", "rank", "within"])]
def tfL : List He.Defn := [("_law_turn", none), ("_law_tried", none)]
/-! ### the getters of properties -/
def prP (K : Frag) (d : He.DefD) : Addr := match findIn K (.ref (He.ga K d.at_.1)) d.name with
  | some (some (.ref p)) => p
  | _ => 0
def prG (K : Frag) (d : He.DefD) : Addr := match recIn K (prP K d) "property" with
  | some (.ref g :: _) => g
  | _ => 0
def recB (l : Option (List Value)) (g : Addr) : Bool := match l with
  | some (.ref b :: _) => decide (b = g)
  | _ => false
theorem recB_ok {l : Option (List Value)} {g : Addr} (h : recB l g = true) : ∃ rest, l = some (.ref g :: rest) := by
  unfold recB at h
  split at h
  · rename_i b r
    exact ⟨r, by rw [of_decide_eq_true h]⟩
  · cases h
/-- what a function's record tells -/
def fnA (K : Frag) (f : Addr) : He.FnW := match K.lookup f with
  | some ⟨_, _, .func fd, _⟩ => some (fd.name, fd.qualname, fd.params, fd.body, fd.scope, fd.globals, fd.closure, fd.builtins)
  | _ => none
def fnB (K : Frag) (f : Addr) (q : Str) : Bool := match K.lookup f with
  | some ⟨_, _, .func fd, _⟩ => codeIn K fd.code q && (He.dflB K fd.defaults [] && He.kwdB K fd.kwdefaults [])
  | _ => false
theorem fnA_ok {K : Frag} {f : Addr} {d : He.DefD} (e : fnA K f = d.val) (c : fnB K f d.qual = true) (kp : keepIn K (.ref f) = true) : ∃ fd, FunD K d.name d.qual d.params d.body d.scope [] [] f fd := by
  unfold fnA at e
  unfold fnB at c
  cases lk : K.lookup f with
  | none => rw [lk] at c; cases c
  | some o =>
    rw [lk] at e c
    obtain ⟨oc, od, dt, osl⟩ := o
    cases dt with
    | func fd =>
      obtain ⟨m1, m2, m3, m4, m5, m6, m7, m8, m9, m10, m11, m12, m13, m14, m15⟩ := fd
      have e' : (some (m1, m2, m3, m4, m5, m6, m7, m15) : He.FnW) = some (d.name, d.qual, d.params, .stmts d.body, d.scope, mainGlobals, [], builtinsNs) := e
      simp only [Option.some.injEq, Prod.mk.injEq] at e'
      obtain ⟨rfl, rfl, rfl, rfl, rfl, rfl, rfl, rfl⟩ := e'
      have c' : (codeIn K m13 d.qual && (He.dflB K m8 [] && He.kwdB K m9 [])) = true := c
      simp only [Bool.and_eq_true] at c'
      exact ⟨_, ⟨oc, od, m8, m9, m10, m11, m12, m13, m14, osl, rfl, lk, c'.1, He.dflB_ok c'.2.1, He.kwdB_ok c'.2.2⟩, kp⟩
    | _ => cases c
def prB (K : Frag) (d : He.DefD) : Bool := He.eqO (findIn K (.ref (He.ga K d.at_.1)) d.name) (some (some (.ref (prP K d)))) && (He.eqO (specialIn K (.ref (prP K d)) "__get__") (some (some (.builtin "property.__get__"))) && (decide (takesIn K (.ref (prP K d)) = some true) && (recB (recIn K (prP K d) "property") (prG K d) && (fnB K (prG K d) d.qual && keepIn K (.ref (prG K d))))))
/-! ### classes of errors -/
def clsB (C : Addr) (o : Option Obj) : Bool := match o with
  | some ⟨.type "type", _, .cls cd, sl⟩ => (match cd.mro, sl.toList with
    | .ref C' :: bm, [_, _, _, _, some (.builtin n), _] => decide (C' = C) && (cd.hasDict && (!cd.hasDel && ((decide (n = "ValueError.__new__") && tailB [.type "ValueError", .type "Exception", .type "BaseException", .type "object"] bm) || ((decide (n = "LookupError.__new__") && tailB [.type "LookupError", .type "Exception", .type "BaseException", .type "object"] bm) || (decide (n = "ArithmeticError.__new__") && tailB [.type "ArithmeticError", .type "Exception", .type "BaseException", .type "object"] bm)))))
    | _, _ => false)
  | _ => false
theorem clsB_ok {C : Addr} {oo : Option Obj} (h : clsB C oo = true) : ∃ B newId initId tl, BT B newId initId tl ∧ ∃ nm q N bs bm sn sub ab col dd k0 k1 k2 k3 k5, oo = some (excClassObj nm q C N bs bm true sn sub ab col dd k0 k1 k2 k3 k5 newId) ∧ tailB tl bm = true := by
  unfold clsB at h
  split at h
  · rename_i dd cd sl
    split at h
    · rename_i C' bm k0 k1 k2 k3 n k5 hm hs
      simp only [Bool.and_eq_true, Bool.or_eq_true, Bool.not_eq_true', decide_eq_true_eq] at h
      obtain ⟨rfl, hd, hl, h⟩ := h
      obtain ⟨nm, bs, mro, ns, qn, hdc, sn, sub, ab, col, del⟩ := cd
      obtain ⟨l⟩ := sl
      dsimp only at hm hs hd hl
      subst hm hs hd hl
      rcases h with ⟨rfl, t⟩ | ⟨rfl, t⟩ | ⟨rfl, t⟩
      · exact ⟨_, _, _, _, bt_value, nm, qn, ns, bs, bm, sn, sub, ab, col, dd, k0, k1, k2, k3, k5, rfl, t⟩
      · exact ⟨_, _, _, _, bt_lookup, nm, qn, ns, bs, bm, sn, sub, ab, col, dd, k0, k1, k2, k3, k5, rfl, t⟩
      · exact ⟨_, _, _, _, bt_arith, nm, qn, ns, bs, bm, sn, sub, ab, col, dd, k0, k1, k2, k3, k5, rfl, t⟩
    · cases h
  · cases h
def oexB (K : Frag) (x : Str) : Bool := clsB (He.ga K x) (K.lookup (He.ga K x)) && (He.eqO (findIn K (.ref (He.ga K x)) "__setattr__") (some (some (.builtin "object.__setattr__"))) && (decide (subIn K (.ref (He.ga K x)) (.type "BaseException") = some true) && (decide (typeIn K (.ref (He.ga K x)) = some (.type "type")) && (keepIn K (.ref (He.ga K x)) && (He.eqO (findIn K (.ref (He.ga K x)) "__init__") (some (some (.ref (He.ma K (He.ga K x) "__init__")))) && decide (typeIn K (.ref (He.ma K (He.ga K x) "__init__")) = some (.type "function")))))))
def insB (K : Frag) (x : Str) : Bool := He.eqO (findIn K (.ref (He.ga K x)) "__class__") (some (some (.builtin "object.__class__"))) && (He.eqO (specialIn K (.builtin "object.__class__") "__get__") (some (some (.builtin "getset_descriptor.__get__"))) && (decide (takesIn K (.builtin "object.__class__") = some true) && (decide (mroIn K (He.ga K x) (.type "object") = some true) && decide (kitOne K (.ref (He.ga K x)) (.ref (He.ga K x)) = some true))))
def ecB (K : Frag) (x : Str) : Bool := He.eqO (findIn K (.ref (He.ga K x)) "__getattribute__") (some (some (.builtin "BaseException.__getattribute__"))) && (He.eqO (findIn K (.ref (He.ga K x)) "__getattr__") (some none) && (decide (subIn K (.ref (He.ga K x)) (.type "BaseException") = some true) && (hasDictIn K (He.ga K x) && (He.eqO (findIn K (.ref (He.ga K x)) "__class__") (some (some (.builtin "object.__class__"))) &&
  (He.eqO (specialIn K (.builtin "object.__class__") "__get__") (some (some (.builtin "getset_descriptor.__get__"))) && (decide (takesIn K (.builtin "object.__class__") = some true) && decide (mroIn K (He.ga K x) (.type "object") = some true)))))))
def spB (K : Frag) (x m : Str) (p : Str × Option Str) : Bool := He.eqO (findIn K (.ref (He.ga K x)) m) (some (some (.ref (He.fAd K p)))) && isFn K (.ref (He.fAd K p))
def eqFB (K : Frag) : Bool := decide (mroIn K (He.ga K "Frame") (.type "object") = some true) && (He.eqO (findIn K (.ref (He.ga K "Frame")) "__ne__") (some (some (.builtin "object.__ne__"))) && (He.eqO (findIn K (.ref (He.ga K "Frame")) "__eq__") (some (some (.ref (He.ma K (He.ga K "Frame") "__eq__")))) && isFn K (.ref (He.ma K (He.ga K "Frame") "__eq__"))))
def ntuB (K : Frag) : Bool := excIn K (He.ga K "NothingToUndo") lkpTl "LookupError.__new__" && (keepIn K (.ref (He.ga K "NothingToUndo")) && (decide (subIn K (.ref (He.ga K "NothingToUndo")) (.type "BaseException") = some true) && decide (typeIn K (.ref (He.ga K "NothingToUndo")) = some (.type "type"))))
def catB (K : Frag) (x : Str) : Bool := decide (exmAny K (.ref (He.ga K x)) [.ref (He.ga K "NotRight"), .ref (He.ga K "NotKnown"), .ref (He.ga K "NotPossible")] = some true)
def keyB (K : Frag) : Bool := decide (exmAny K (.type "KeyError") [.ref (He.ga K "NotRight"), .ref (He.ga K "NotKnown"), .ref (He.ga K "NotPossible")] = some false) && decide (exmOne K (.type "KeyError") (.type "KeyError") = some true)
def szL : List (Str × He.Dv) := [("all", .int 3), ("one", .int 3), ("rank", .int 4), ("within", .int 3)]
def exB1 (K : Frag) : Bool := prL.all (prB K) && (oexL.all (oexB K) && (efL.all (fun p => He.eqO (findIn K (.ref (He.ga K p.1)) p.2) (some none)) && (clsL.all (insB K) && (eqFB K && He.valsB K (He.ga K "SIZES") szL))))
def exB2 (K : Frag) : Bool := spB K "Desk" "__contains__" m_Desk_contains.at_ && (spB K "DeskTrial" "__enter__" m_DeskTrial_enter.at_ && (spB K "DeskTrial" "__exit__" m_DeskTrial_exit.at_ && (ntuB K && He.eqO (findIn K (.ref (He.ga K "Desk")) "__eq__") (some (some (.builtin "object.__eq__"))))))
def exB3 (K : Frag) : Bool := errCls.all (ecB K) && (kitL.all (fun q => decide (kitOne K (.ref (He.ga K q.1)) (.ref (He.ga K q.2.1)) = some q.2.2)) && (kitBL.all (fun q => decide (kitOne K (.ref (He.ga K q.1)) (.type q.2.1) = some q.2.2)) && (errCls.all (catB K) && (keyB K && decide ((He.cT K ("_law_turn", none)).2 ≠ (He.cT K ("_law_tried", none)).2)))))
def exB (K : Frag) : Bool := exB1 K && (exB2 K && exB3 K)
/-- all that the head's hook tells -/
structure Says (w : World) (h : Heap) (K : Frag) : Prop where
  x : He.SaysX faL fnL tsL tfL exB w h K
  p : prL.map (fun d => fnA K (prG K d)) = prL.map He.DefD.val
theorem noDfl : (fnL.all fun d => d.dfl.isEmpty && d.kwd.isEmpty) = true := by rfl
section
variable {w : World} {h : Heap} {K : Frag} {mg : Str → Option Value}
theorem all_get {α : Type} {l : List α} {f g : α → He.FnW} (e : l.map f = l.map g) {i : Nat} {d : α} (hd : l[i]? = some d) : f d = g d := by
  have := congrArg (fun z => z[i]?) e
  simp only [List.getElem?_map, hd, Option.map_some, Option.some.injEq] at this
  exact this
theorem hd_of (S : Says w h K) (X : K.In h) (G : h.Ns mainGlobals mg) : Hd K mg := by
  have F := fun (f : He.Fa) (hf : f ∈ faL) => S.x.t.d.facts hf
  obtain ⟨b1, _⟩ := He.ba S.x.more
  obtain ⟨b1, b⟩ := He.ba b1
  obtain ⟨b2, b⟩ := He.ba b
  obtain ⟨b3, _⟩ := He.ba b
  refine ⟨fun i d e => ?_, fun i d e => ?_, fun x hx => ?_, fun x hx => ?_, fun p hp => ?_, fun p hp => ?_, fun x hx => ?_, fun p hp => ?_, fun p hp => ?_, fun x hx => ?_, fun x hx => ?_, fun p hp => ?_⟩
  · have hm := List.mem_of_getElem? e
    have := S.x.t.d.defs hm
    obtain ⟨z1, z2⟩ := He.ba (List.all_eq_true.mp noDfl d hm)
    have e1 : d.dvs K = [] := by
      unfold He.DefD.dvs
      rw [List.isEmpty_iff.mp z1]
      rfl
    have e2 : d.kws K = [] := by
      unfold He.DefD.kws
      rw [List.isEmpty_iff.mp z2]
      rfl
    rw [e1, e2] at this
    exact this
  · have hb := List.all_eq_true.mp b1 d (List.mem_of_getElem? e)
    obtain ⟨c1, c⟩ := He.ba hb
    obtain ⟨c2, c⟩ := He.ba c
    obtain ⟨c3, c⟩ := He.ba c
    obtain ⟨c4, c⟩ := He.ba c
    obtain ⟨c5, c6⟩ := He.ba c
    obtain ⟨fd, q⟩ := fnA_ok (all_get S.p e) c5 c6
    exact ⟨prP K d, prG K d, fd, ⟨He.eqO_ok c1, He.eqO_ok c2, of_decide_eq_true c3, recB_ok c4⟩, q⟩
  · exact He.glo_ok X G (F (.glo x) (List.mem_append_left _ (List.mem_map_of_mem hx)))
  · exact He.free_ok X G (F (.free x) (List.mem_append_right _ (List.mem_append_left _ (List.mem_map_of_mem hx))))
  · exact He.int_ok X G (F (.int p.1 p.2) (List.mem_append_right _ (List.mem_append_right _ (List.mem_append_left _ (List.mem_map_of_mem (f := fun p : Str × Int => He.Fa.int p.1 p.2) hp)))))
  · exact He.str_ok X G (F (.str p.1 p.2) (List.mem_append_right _ (List.mem_append_right _ (List.mem_append_right _ (List.mem_append_left _ (List.mem_map_of_mem (f := fun p : Str × Str => He.Fa.str p.1 p.2) hp))))))
  · exact He.cls_ok (F (.cls x) (List.mem_append_right _ (List.mem_append_right _ (List.mem_append_right _ (List.mem_append_right _ (List.mem_append_left _ (List.mem_map_of_mem hx)))))))
  · exact He.noat_ok (F (.noat p.1 p.2) (List.mem_append_right _ (List.mem_append_right _ (List.mem_append_right _ (List.mem_append_right _ (List.mem_append_right _ (List.mem_append_left _ (List.mem_map_of_mem (f := fun p : Str × Str => He.Fa.noat p.1 p.2) hp))))))))
  · exact He.meth_ok (F (.meth p.1 p.2) (List.mem_append_right _ (List.mem_append_right _ (List.mem_append_right _ (List.mem_append_right _ (List.mem_append_right _ (List.mem_append_right _ (List.mem_append_left _ (List.mem_map_of_mem (f := fun p : Str × Str => He.Fa.meth p.1 p.2) hp)))))))))
  · exact He.mkr_ok (F (.mkr x) (List.mem_append_right _ (List.mem_append_right _ (List.mem_append_right _ (List.mem_append_right _ (List.mem_append_right _ (List.mem_append_right _ (List.mem_append_right _ (List.mem_map_of_mem hx)))))))))
  · have hb := List.all_eq_true.mp b2 x hx
    obtain ⟨c1, c⟩ := He.ba hb
    obtain ⟨c2, c⟩ := He.ba c
    obtain ⟨c3, c⟩ := He.ba c
    obtain ⟨c4, c⟩ := He.ba c
    obtain ⟨c5, c⟩ := He.ba c
    obtain ⟨c6, c7⟩ := He.ba c
    exact ⟨⟨clsB_ok c1, He.eqO_ok c2, of_decide_eq_true c3, of_decide_eq_true c4, c5⟩, He.eqO_ok c6, of_decide_eq_true c7⟩
  · exact He.eqO_ok (List.all_eq_true.mp b3 p hp)
theorem hw_of (S : Says w h K) (X : K.In h) (G : h.Ns mainGlobals mg) : Hw w K mg := by
  have hd := hd_of S X G
  obtain ⟨b1, b⟩ := He.ba S.x.more
  obtain ⟨b2, b3⟩ := He.ba b
  obtain ⟨_, b1⟩ := He.ba b1
  obtain ⟨_, b1⟩ := He.ba b1
  obtain ⟨_, b1⟩ := He.ba b1
  obtain ⟨i1, b1⟩ := He.ba b1
  obtain ⟨i2, i3⟩ := He.ba b1
  obtain ⟨p1, b2⟩ := He.ba b2
  obtain ⟨p2, b2⟩ := He.ba b2
  obtain ⟨p3, b2⟩ := He.ba b2
  obtain ⟨p4, p5⟩ := He.ba b2
  obtain ⟨e1, b3⟩ := He.ba b3
  obtain ⟨e2, b3⟩ := He.ba b3
  obtain ⟨e3, b3⟩ := He.ba b3
  obtain ⟨e4, b3⟩ := He.ba b3
  obtain ⟨e5, _⟩ := He.ba b3
  obtain ⟨e5, e6⟩ := He.ba e5
  obtain ⟨n1, p4⟩ := He.ba p4
  obtain ⟨n2, p4⟩ := He.ba p4
  obtain ⟨n3, n4⟩ := He.ba p4
  obtain ⟨q1, i2⟩ := He.ba i2
  obtain ⟨q2, i2⟩ := He.ba i2
  obtain ⟨q3, q4⟩ := He.ba i2
  obtain ⟨es, n, kd⟩ := S.x.t.tab 0
  have spec : ∀ {x m : Str} {p : Str × Option Str}, spB K x m p = true → findIn K (.ref (He.ga K x)) m = some (some (.ref (He.fAd K p))) ∧ isFn K (.ref (He.fAd K p)) = true := fun hb => ⟨He.eqO_ok (He.ba hb).1, (He.ba hb).2⟩
  refine { hd with
    ins := fun x hx => ?_
    eqF := ⟨of_decide_eq_true q1, He.eqO_ok q2, He.eqO_ok q3, q4⟩
    sz := ⟨es, n, kd.at_, kd.lit⟩
    szm := kd.low
    szv := fun p hp => ?_
    cont := spec p1
    ent := spec p2
    exi := spec p3
    ntu := ⟨n1, n2, of_decide_eq_true n3, of_decide_eq_true n4⟩
    dsk := He.eqO_ok p5
    ec := fun x hx => ?_
    kit := fun q hq => of_decide_eq_true (List.all_eq_true.mp e2 q hq)
    kitB := fun q hq => of_decide_eq_true (List.all_eq_true.mp e3 q hq)
    exm := fun x hx => of_decide_eq_true (List.all_eq_true.mp e4 x hx)
    exmK := of_decide_eq_true e5
    exmO := of_decide_eq_true e6 }
  · have hb := List.all_eq_true.mp i1 x hx
    obtain ⟨c1, c⟩ := He.ba hb
    obtain ⟨c2, c⟩ := He.ba c
    obtain ⟨c3, c⟩ := He.ba c
    obtain ⟨c4, c5⟩ := He.ba c
    exact ⟨hd.cls x hx, He.eqO_ok c1, He.eqO_ok c2, of_decide_eq_true c3, of_decide_eq_true c4, of_decide_eq_true c5⟩
  · simp only [List.mem_cons, List.not_mem_nil, or_false] at hp
    rcases hp with rfl | rfl | rfl | rfl
    · exact He.valsB_ok i3 (q := ("all", .int 3)) (by simp [szL])
    · exact He.valsB_ok i3 (q := ("one", .int 3)) (by simp [szL])
    · exact He.valsB_ok i3 (q := ("rank", .int 4)) (by simp [szL])
    · exact He.valsB_ok i3 (q := ("within", .int 3)) (by simp [szL])
  · have hb := List.all_eq_true.mp e1 x hx
    obtain ⟨c1, c⟩ := He.ba hb
    obtain ⟨c2, c⟩ := He.ba c
    obtain ⟨c3, c⟩ := He.ba c
    obtain ⟨c4, c⟩ := He.ba c
    obtain ⟨c5, c⟩ := He.ba c
    obtain ⟨c6, c⟩ := He.ba c
    obtain ⟨c7, c8⟩ := He.ba c
    exact ⟨He.eqO_ok c1, He.eqO_ok c2, of_decide_eq_true c3, c4, He.eqO_ok c5, He.eqO_ok c6, of_decide_eq_true c7, of_decide_eq_true c8⟩
theorem apart (S : Says w h K) : (He.cT K ("_law_turn", none)).2 ≠ (He.cT K ("_law_tried", none)).2 := by
  obtain ⟨_, b⟩ := He.ba S.x.more
  obtain ⟨_, b3⟩ := He.ba b
  obtain ⟨_, b3⟩ := He.ba b3
  obtain ⟨_, b3⟩ := He.ba b3
  obtain ⟨_, b3⟩ := He.ba b3
  obtain ⟨_, b3⟩ := He.ba b3
  exact of_decide_eq_true (He.ba b3).2
end
/-- empty tables are in order -/
theorem tok_new {K : Frag} {H : Hp} (ne : (He.cT K ("_law_turn", none)).2 ≠ (He.cT K ("_law_tried", none)).2) (h1 : H (He.cT K ("_law_turn", none)).2 = some (.tbl #[])) (h2 : H (He.cT K ("_law_tried", none)).2 = some (.tbl #[])) : TOk (tcK K) H := by
  refine ⟨ne, ?_, ?_⟩
  · exact ⟨#[], h1, trivial, fun pos cv e => by cases e⟩
  · exact ⟨#[], h2, trivial, fun pos cv e => by cases e⟩
end Bt
set_option Elab.async false
set_option linter.all false
set_option maxRecDepth 100000
set_option maxHeartbeats 0
/-! The top's run, by the kernel. -/
namespace Bt
open PySem PySem.Spec PyProof.Rows L2 PySem.W
abbrev R : PySem.W.OpenRow := PySem.W.OpenLaw.row PySem.Challenge.rw_bentthrough_k57_whole_desk_trials
def looseA : List PySem.Str := ([PySem.Str.ofString "NotRight", PySem.Str.ofString "InvalidText", PySem.Str.ofString "InvalidName", PySem.Str.ofString "InvalidIndex", PySem.Str.ofString "InvalidDegree", PySem.Str.ofString "InvalidClaim", PySem.Str.ofString "NotAFrame", PySem.Str.ofString "InvalidKnots", PySem.Str.ofString "InvalidPlaces", PySem.Str.ofString "NotKnown", PySem.Str.ofString "UnknownName", PySem.Str.ofString "InUse"] : List PySem.Str) ++ ([PySem.Str.ofString "NothingToUndo", PySem.Str.ofString "NotPossible", PySem.Str.ofString "Broken", PySem.Str.ofString "MOST_DEGREE", PySem.Str.ofString "MOST_KNOT", PySem.Str.ofString "MOST_HILLS", PySem.Str.ofString "MOST_PLACES", PySem.Str.ofString "LETTERS", PySem.Str.ofString "FIGURES", PySem.Str.ofString "MOST_LETTERS", PySem.Str.ofString "MOST_FIGURES", PySem.Str.ofString "is_integer"] : List PySem.Str) ++ ([PySem.Str.ofString "is_between", PySem.Str.ofString "is_name", PySem.Str.ofString "number_in", PySem.Str.ofString "is_place", PySem.Str.ofString "are_places", PySem.Str.ofString "places_fault", PySem.Str.ofString "check_places", PySem.Str.ofString "HEAD", PySem.Str.ofString "knots_fault", PySem.Str.ofString "Frame", PySem.Str.ofString "check_frame", PySem.Str.ofString "within"] : List PySem.Str) ++ ([PySem.Str.ofString "is_up", PySem.Str.ofString "lengths_from"] : List PySem.Str)
def looseB : List PySem.Str := ([PySem.Str.ofString "rank_of", PySem.Str.ofString "check_both", PySem.Str.ofString "rank", PySem.Str.ofString "SIZES", PySem.Str.ofString "is_claim", PySem.Str.ofString "names_in", PySem.Str.ofString "is_kept", PySem.Str.ofString "shown_by", PySem.Str.ofString "Page", PySem.Str.ofString "PageMark", PySem.Str.ofString "DeskTrial", PySem.Str.ofString "check_kept"] : List PySem.Str) ++ ([PySem.Str.ofString "Desk", PySem.Str.ofString "_law_urn", PySem.Str.ofString "_law_grab", PySem.Str.ofString "_law_take", PySem.Str.ofString "_law_shape", PySem.Str.ofString "_law_many", PySem.Str.ofString "_law_framed", PySem.Str.ofString "_law_sites", PySem.Str.ofString "_law_is_up", PySem.Str.ofString "_law_free", PySem.Str.ofString "_law_want", PySem.Str.ofString "_law_shown"] : List PySem.Str) ++ ([PySem.Str.ofString "_law_broken", PySem.Str.ofString "_law_behind", PySem.Str.ofString "_law_new_deed", PySem.Str.ofString "_law_near", PySem.Str.ofString "_law_done", PySem.Str.ofString "_law_desk_is", PySem.Str.ofString "_law_slip", PySem.Str.ofString "_law_heard", PySem.Str.ofString "_law_turn", PySem.Str.ofString "_law_tried", PySem.Str.ofString "_law_inside", PySem.Str.ofString "_law_right"] : List PySem.Str)
def loose : List PySem.Str := looseA ++ looseB
def adL : List Addr := ([0, 3, 6, 23, 43, 62, 81, 100, 119, 138, 157, 176, 188, 208, 227, 239, 251, 271, 354, 356] : List Addr) ++ ([409, 460, 504, 525, 560, 680, 24, 44, 63, 82, 101, 120, 139, 158, 177, 189, 209, 228, 240, 252] : List Addr) ++ ([272, 410, 505, 526, 561, 681, 364, 372, 380, 386, 601, 609, 617, 41, 60, 79, 98, 117, 136, 155] : List Addr) ++ ([174, 206, 225, 269, 281, 288, 293, 298, 305, 312, 319, 326, 334, 348, 353, 363, 371, 379, 385, 393] : List Addr) ++ ([400, 407, 421, 426, 433, 438, 445, 452, 459, 467, 474, 481, 488, 502, 523, 544, 551, 558, 572, 586] : List Addr) ++ ([593, 600, 608, 616, 624, 631, 638, 643, 650, 657, 664, 671, 678, 692, 699, 706, 711, 718, 725, 730] : List Addr) ++ ([737, 744, 751, 756, 763, 768, 775, 782, 789, 794, 801, 808, 815, 822, 829, 836, 843, 40, 59, 78] : List Addr) ++ ([97, 116, 135, 154, 173, 205, 224, 268, 280, 287, 292, 297, 304, 311, 318, 325, 333, 347, 352, 362] : List Addr) ++ ([370, 378, 384, 392, 399, 406, 420, 425, 432, 437, 444, 451, 458, 466, 473, 480, 487, 501, 522, 543] : List Addr) ++ ([550, 557, 571, 585, 592, 599, 607, 615, 623, 630, 637, 642, 649, 656, 663, 670, 677, 691, 698, 705] : List Addr) ++ ([710, 717, 724, 729, 736, 743, 750, 755, 762, 767, 774, 781, 788, 793, 800, 807, 814, 821, 828, 835] : List Addr) ++ ([842] : List Addr)
/-! the hook over written addresses -/
abbrev AlZ : Type := He.AlX × List He.FnW
def obsZ (g : Addr → Option Obj) : AlZ := ((He.obsT faL fnL tsL (He.frT g adL), exB (He.frT g adL) && He.tabsB g tfL (He.frT g adL)), prL.map fun d => fnA (He.frT g adL) (prG (He.frT g adL) d))
def valZ (w : World) : AlZ := (He.valX fnL tsL w, prL.map He.DefD.val)
theorem says_of {w : World} {h : Heap} (e : obsZ h.get? = valZ w) : Says w h (He.frT h.get? adL) := by
  have e1 : (He.obsT faL fnL tsL (He.frT h.get? adL), exB (He.frT h.get? adL) && He.tabsB h.get? tfL (He.frT h.get? adL)) = He.valX fnL tsL w := congrArg Prod.fst e
  obtain ⟨mo, tb⟩ := He.ba (congrArg Prod.snd e1)
  have tab1 : ∀ p ∈ tfL, codeHdIn (He.frT h.get? adL) (He.cT (He.frT h.get? adL) p).1 (He.cT (He.frT h.get? adL) p).2 = true ∧ ∃ o, h.get? (He.cT (He.frT h.get? adL) p).2 = some o ∧ He.emptyTab o = true := by
    intro p hp
    obtain ⟨a1, a2⟩ := He.ba (List.all_eq_true.mp tb p hp)
    refine ⟨a1, ?_⟩
    split at a2
    · rename_i o ho
      exact ⟨o, ho, a2⟩
    · cases a2
  refine ⟨⟨congrArg Prod.fst e1, mo, fun p hp => (tab1 p hp).1, fun p hp => ?_, fun p hp => ?_⟩, congrArg Prod.snd e⟩
  · obtain ⟨_, o, ho, z⟩ := tab1 p hp
    exact He.frT_none ho z
  · obtain ⟨_, o, ho, z⟩ := tab1 p hp
    rw [ho, He.emptyTab_eq z]
def hk : PySem.W.Hook where
  α := AlZ
  obs := fun s => obsZ s.heap.get?
  val := valZ
  says := fun w h => ∃ K : PySem.W.Frag, K.In h ∧ Says w h K
  of := fun _ _ e => ⟨_, He.frT_in, says_of e⟩
  keeps := fun _ _ _ z k => let ⟨K, hK, c⟩ := z; ⟨K, PySem.W.Frag.In.keeps hK k, ⟨⟨c.x.t, c.x.more, c.x.hd, c.x.out, fun p hp => k _ _ (c.x.empty p hp)⟩, c.p⟩⟩
def ob (s : PySem.W.SharedT) : AlZ := obsZ (HandSHeadRun.getT s)
theorem ob_eq (s : PySem.W.SharedT) : ob s = hk.obs s.abs := by
  show obsZ (HandSHeadRun.getT s) = obsZ s.abs.heap.get?
  rw [funext (HandSHeadRun.getT_eq s)]
theorem runF (w : World) : HandSHeadRun.RunEq R (PySem.W.view R.prog [82]) hk ob 8000 loose (w.withFollow "special-get-raises" false) := by
  intro os
  kernel_rfl
theorem runT (w : World) : HandSHeadRun.RunEq R (PySem.W.view R.prog [82]) hk ob 8000 loose (w.withFollow "special-get-raises" true) := by
  intro os
  kernel_rfl
theorem run (w : World) : HandSHeadRun.RunEq R (PySem.W.view R.prog [82]) hk ob 8000 loose w := PySem.W.byRow2 "special-get-raises" runF runT w
end Bt
set_option Elab.async false
set_option linter.all false
set_option maxRecDepth 100000
set_option maxHeartbeats 4000000
/-! The end: the law's promise at the caller. -/
namespace Bt
open PySem PySem.Spec PyProof.Rows L2 HotX L2H LamX PySem.W
/-- tracked at the law's entry: the two tables; the script, where the written part does not know it -/
def hp0 (K : Frag) (a T1 T2 : Addr) (o : Obj) (xs : List V) : Hp := fun b => if b = T1 ∨ b = T2 then some (.tbl #[]) else if b = a ∧ K.lookup a = none then some (.frz o (.lst xs)) else none
theorem hp0_of {K : Frag} {a T1 T2 b : Addr} {o : Obj} {xs : List V} {u : HO} (h : hp0 K a T1 T2 o xs b = some u) : ((b = T1 ∨ b = T2) ∧ u = .tbl #[]) ∨ (b = a ∧ K.lookup a = none ∧ u = .frz o (.lst xs)) := by
  unfold hp0 at h
  split at h
  · rename_i q
    exact .inl ⟨q, (Option.some.inj h).symm⟩
  · split at h
    · rename_i q
      exact .inr ⟨q.1, q.2, (Option.some.inj h).symm⟩
    · cases h
abbrev tab0 : Obj := { cls := .none, data := .fields #[] }
abbrev lst0 (vs : List Value) : Obj := { cls := .type "list", data := .seq vs.toArray }
section
variable {P : Program} {w : World} {K : Frag} {mg mb : Str → Option Value} {k : Nat} {fa a c1 c2 T1 T2 : Addr} {x : Str} {sp : Sp} {s : Shared} {vs : List Value} {ns : List Int}
theorem law_end (KX : K.In s.heap) (hns : s.heap.Ns mainGlobals mg) (hb : s.heap.Ns builtinsNs mb) (hbb : ∀ x : Str, x ≠ "__name__" → mb x = bootBuiltins x) (hlim : s.heap.NoLimit) (hg : s.gens = #[])
    (e1 : s.heap.get? T1 = some tab0) (e2 : s.heap.get? T2 = some tab0) (n1 : K.lookup T1 = none) (n2 : K.lookup T2 = none) (C1 : CodeHd s.heap c1 T1) (C2 : CodeHd s.heap c2 T2)
    (hbm : ∃ (bm : Addr) (o : Obj), mg "__builtins__" = some (.ref bm) ∧ bm ≠ builtinsNs ∧ s.heap.get? bm = some o ∧ o.cls = .type "module" ∧ o.dict = some builtinsNs ∧ o.data = .plain)
    (ha : s.heap.get? a = some (lst0 vs)) (hi : IntsAre vs ns) (hl : ns.length ≤ sizeLine) (hr : Room k callerA) (gd : callerA.guards = some [])
    (F : ∀ base : Heap, K.In base → base.Ns mainGlobals mg → TabB base mg c1 T1 → TabB base mg c2 T2 → Okg P w K mg base C8.CX0 k fa [x] sp)
    (hsp : ∀ H : Hp, H T1 = some (.tbl #[]) → H T2 = some (.tbl #[]) → SqL K H a (ns.map V.int) → sp [.ref a] H (fun v _ => v = .bl true) fun _ _ _ => False) :
    codeAny (model P w) callerA (.call (.ref fa) ⟨[.ref a], []⟩) (fun r s' => r = .ok (.ret (.bool true)) ∧ OldK s.heap s'.heap ∧ s'.os = s.os ∧ AllBare s'.gens) s := by
  have rv := vals_ints hi
  have lv := hi.length
  have a1 : a ≠ T1 := fun z => by
    rw [z, e1] at ha
    cases ha
  have a2 : a ≠ T2 := fun z => by
    rw [z, e2] at ha
    cases ha
  obtain ⟨H, eH⟩ : ∃ H, H = hp0 K a T1 T2 (lst0 vs) (ns.map V.int) := ⟨_, rfl⟩
  have hT1 : H T1 = some (.tbl #[]) := by rw [eH]; exact if_pos (.inl rfl)
  have hT2 : H T2 = some (.tbl #[]) := by rw [eH]; exact if_pos (.inr rfl)
  have of : ∀ {b u}, H b = some u → ((b = T1 ∨ b = T2) ∧ u = .tbl #[]) ∨ (b = a ∧ K.lookup a = none ∧ u = .frz (lst0 vs) (.lst (ns.map V.int))) := fun h => hp0_of (by rw [← eH]; exact h)
  -- an object that is no list and no empty table is not tracked
  have off : ∀ {b : Addr} {o : Obj}, s.heap.get? b = some o → o ≠ tab0 → o ≠ lst0 vs → H b = none := fun {b o} e m1 m2 => by
    cases q : H b with
    | none => rfl
    | some u =>
      rcases of q with ⟨z | z, _⟩ | ⟨z, _⟩
      · rw [z, e1] at e
        exact absurd (Option.some.inj e).symm m1
      · rw [z, e2] at e
        exact absurd (Option.some.inj e).symm m1
      · rw [z, ha] at e
        exact absurd (Option.some.inj e).symm m2
  have kept : ∀ {b : Addr} {o : Obj}, s.heap.get? b = some o → o ≠ tab0 → o ≠ lst0 vs → (hidT s.heap H).get? b = some o := fun e m1 m2 => hidT_get e (off e m1 m2)
  have names : ∀ {b : Addr} {m : Str → Option Value}, s.heap.Ns b m → (hidT s.heap H).Ns b m := fun {b m} ⟨o, es, ep, e, d, r⟩ => ⟨o, es, ep, kept e (fun z => by rw [z] at d; cases d) (fun z => by rw [z] at d; cases d), d, r⟩
  have kin : K.In (hidT s.heap H) := fun b o e => hidT_get (KX b o e) (by
    cases q : H b with
    | none => rfl
    | some u =>
      rcases of q with ⟨z | z, _⟩ | ⟨z, y, _⟩
      · rw [z, n1] at e; cases e
      · rw [z, n2] at e; cases e
      · rw [z, y] at e; cases e)
  have glob := names hns
  have tb : ∀ {c T : Addr}, s.heap.get? T = some tab0 → CodeHd s.heap c T → TabB (hidT s.heap H) mg c T := fun {c T} eT C => by
    refine ⟨?_, ?_, fun z => ?_⟩
    · obtain ⟨o, us, file, tf, flags, tg, inF, text, tt, q1, q2, q3, q4, q⟩ := C
      refine ⟨o, us, file, tf, flags, tg, inF, text, tt, kept q1 (fun z => ?_) (fun z => ?_), q2, q3, q4, q⟩
      · rw [z] at q2
        cases q2
      · rw [z] at q3
        cases q3
    · obtain ⟨bm, o, b1, b2, b3, b4, b5, b6⟩ := hbm
      refine ⟨bm, o, b1, b2, fun z => ?_, fun z => ?_, kept b3 (fun z => by rw [z] at b6; cases b6) (fun z => by rw [z] at b6; cases b6), b4, b5, b6⟩
      · obtain ⟨og, es, ep, eg, dg, _⟩ := hns
        rw [z, eg] at b3
        cases b3
        rw [dg] at b6
        cases b6
      · rw [z, eT] at b3
        cases b3
        cases b6
    · obtain ⟨og, es, ep, eg, dg, _⟩ := hns
      rw [z, eT] at eg
      cases eg
      cases dg
  have sq : SqL K H a (ns.map V.int) := by
    cases q : K.lookup a with
    | none => exact .inl (.inr ⟨lst0 vs, by rw [eH]; exact (if_neg (fun z => z.elim a1 a2)).trans (if_pos ⟨rfl, q⟩)⟩)
    | some o =>
      have e := KX a o q
      rw [ha] at e
      cases e
      exact .inr ⟨_, vs.toArray, _, q, rfl, rfl, rfl, by rw [List.size_toArray, lv]; exact hl, by simpa using rv⟩
  have hok : HOk P w H s.heap := fun b u e => by
    rcases of e with ⟨z | z, rfl⟩ | ⟨z, _, rfl⟩
    · rw [z]; exact e1
    · rw [z]; exact e2
    · rw [z]
      exact ⟨ha, by rw [List.length_map]; exact hl, vs, _, rv, ha⟩
  have nolim : (hidT s.heap H).NoLimit := let ⟨mc, h1, h2⟩ := hlim; ⟨mc, names h1, h2⟩
  have env : Env0 P w K mg (hidT s.heap H) callerA [] s H := ⟨rfl, ⟨kin, glob, ⟨mb, names hb, hbb⟩, nolim⟩, fun b o e => of_hidT e, Nat.le_of_eq (hidT_size _ _), trivial, fun b hb => absurd (show b ∈ ([] : List Addr) from hb) (by simp), hok, .of_eq hg⟩
  obtain ⟨fd, fn, bi, _⟩ := F _ kin glob (tb e1 C1) (tb e2 C2)
  have bi := bi s [.ref a] KX rfl
  rw [List.append_nil] at bi
  refine codeAny_mono (fn.run callerA [] s H ⟨[.ref a], []⟩ [.ref a] [.ref a] _ _ gd hr env bi (.cons rfl .nil) (hsp H hT1 hT2 sq)) fun r s' h => ?_
  cases r with
  | error e => exact absurd (show False from h) id
  | ok fl =>
    cases fl with
    | next => exact False.elim h
    | brk => exact False.elim h
    | cont => exact False.elim h
    | ret u =>
      obtain ⟨v, H', os, bare, un, hok', rv', q⟩ := h
      have q : v = .bl true := q
      subst q
      obtain rfl : u = Value.bool true := rv'
      have same : ∀ b o, s.heap.get? b = some o → b ≠ T1 → b ≠ T2 → s'.heap.get? b = some o := fun b o e m1 m2 => by
        cases q : H b with
        | none => exact un.keep b o e q (fun z => absurd (show b ∈ ([] : List Addr) from z) (by simp)) (by simp)
        | some u =>
          rcases of q with ⟨z | z, _⟩ | ⟨z, _, rfl⟩
          · exact absurd z m1
          · exact absurd z m2
          · have t := (hok' b _ (un.frzs b _ _ q)).1
            rw [z, ha] at e
            cases e
            exact t
      have more : ∀ {T : Addr}, H T = some (.tbl #[]) → ∃ ms : Array Value, s'.heap.get? T = some { cls := .none, data := .fields ms } := fun {T} hT => by
        obtain ⟨ms, z⟩ := un.tbls T #[] hT
        exact ⟨_, hok' T _ z⟩
      have as : ∀ {c T : Addr} {o : Obj}, s.heap.get? T = some tab0 → CodeHd s.heap c T → H T = some (.tbl #[]) → s.heap.get? T = some o → asItWas s.heap s'.heap T o := fun {c T o} eT C hT e => by
        obtain ⟨ms, z⟩ := more hT
        rw [eT] at e
        cases e
        exact .inr (.inl ⟨(C.tab eT).isCodeTable, rfl, #[], ms, rfl, by rw [Array.empty_append]; exact z⟩)
      refine ⟨rfl, ⟨fun b o e => ?_, fun b o e => ?_⟩, os, bare⟩
      · by_cases m1 : b = T1
        · rw [m1] at e ⊢
          exact as e1 C1 hT1 e
        · by_cases m2 : b = T2
          · rw [m2] at e ⊢
            exact as e2 C2 hT2 e
          · exact .inl (same b o e m1 m2)
      · by_cases m1 : b = T1
        · rw [m1]
          exact ⟨_, (more hT1).choose_spec⟩
        · by_cases m2 : b = T2
          · rw [m2]
            exact ⟨_, (more hT2).choose_spec⟩
          · exact ⟨o, same b o e m1 m2⟩
end
end Bt
set_option Elab.async false
set_option linter.all false
set_option maxRecDepth 100000
set_option maxHeartbeats 0
namespace Bt
open PySem PySem.Spec PyProof.Rows L2 HotX L2H LamX PySem.W
theorem room57 : Room 57 callerA := ⟨rfl, by decide +kernel, by decide +kernel⟩
theorem law_name : (HandSHeadRun.topDef R.prog 82).name = ("law" : Str) := by kernel_rfl
theorem law_walk : WalkO (view R.prog [82]) loose (XL (view R.prog [82]) []) hk.says (OpenLaw.row PySem.Challenge.rw_bentthrough_k57_whole_desk_trials).toRowW (HandSHeadRun.topDef R.prog 82) [] (fun f vs => PySem.call f vs) := by
  refine Att.attach_callB (l := PySem.Challenge.rw_bentthrough_k57_whole_desk_trials) (n := 63) rfl (by kernel_rfl) fun w s₀ s₁ mg mb fa o pm cd doc a vs ns G Y ho hd hcd hmg hobj hints hlen hbits hg => ?_
  obtain ⟨K, KX, S⟩ := Y
  have hw := hw_of S KX G.T.g
  rw [law_name] at hmg
  have hl := hw.toHd.glo "law" (by decide +kernel)
  rw [hmg] at hl
  obtain rfl : fa = He.ga K "law" := by
    injection hl with hl
    injection hl
  have ne := apart S
  have m1 : (("_law_turn", none) : He.Defn) ∈ tfL := List.mem_cons_self
  have m2 : (("_law_tried", none) : He.Defn) ∈ tfL := List.mem_cons_of_mem _ List.mem_cons_self
  have h63 : (63 : Nat) ≤ sizeLine := by rw [sizeLine_eq]; decide
  refine law_end (x := "_law_cells") (sp := spLaw K) (mb := mb) KX G.T.g G.T.b G.T.builtins G.T.nolimit hg (S.x.empty _ m1) (S.x.empty _ m2) (S.x.out _ m1) (S.x.out _ m2) (codeHd_of_K KX (S.x.hd _ m1)) (codeHd_of_K KX (S.x.hd _ m2)) G.T.bmain hobj hints (Nat.le_trans hlen h63) room57 rfl (fun base kb nb t1 t2 => ?_) (fun H h1 h2 sq => ?_)
  · exact ok_law hw ⟨t1, t2, fun z => by
      obtain ⟨og, es, ep, eg, _⟩ := nb
      rw [eg] at z
      cases z⟩
  · exact ⟨a, ns, rfl, sq, by omega, tok_new ne h1 h2, fun _ => rfl⟩
end Bt
open PySem PySem.W PySem.Calls PyProof.Rows
theorem PySem.Challenge.cw_bentthrough_k57_whole_desk_trials_holds : PySem.Challenge.rw_bentthrough_k57_whole_desk_trials.Holds := by
  w_on; o_law
  refine HandSHeadRun.head_any (r := OpenLaw.row PySem.Challenge.rw_bentthrough_k57_whole_desk_trials) (q := view (OpenLaw.row PySem.Challenge.rw_bentthrough_k57_whole_desk_trials).prog [82]) (H := Bt.hk) (ob := Bt.ob) (M := 8000) (loose := Bt.loose) (d := HandSHeadRun.topDef (OpenLaw.row PySem.Challenge.rw_bentthrough_k57_whole_desk_trials).prog 82) (kwd := []) Bt.ob_eq
    (by kernel_rfl) (fun s => by kernel_rfl) Bt.run (by kernel_rfl) (by kernel_rfl) (by kernel_rfl) (by rfl) (by first | assumption | decide +kernel) (by decide +kernel) ⟨rfl, rfl, rfl, rfl, rfl, by decide +kernel⟩ ?hw ?hc
  case hw => w_witness2
  case hc => exact Bt.law_walk
