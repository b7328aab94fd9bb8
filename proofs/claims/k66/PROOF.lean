import PyProof.Rows.All
import Wide.All
import OpenK.AllK
import Wide.FinOn
import HandS.ForMost
import HandS.Walk
import KE.GoesEnum
import PyProof.InstNe
import HandS.IsInst
import HandS.Property
import HandS.MakeKwOnly
import HandS.Star
import HandS.FStr
import HandS.Flow
import HandS.SortInts
import HandS.Conv
import HandS.SlotsOwn
import PySem.Challenge.RW_restworld_k66_whole_circles_made_and_sho
set_option Elab.async false
set_option linter.all false
set_option maxRecDepth 100000
set_option maxHeartbeats 4000000
/-! enumerate over a tuple -/
namespace PySem
open Sem (wp)
abbrev k66Enum (it : Addr) : Obj := { cls := .type "enumerate", data := .fields #[.none, .bool false, .ref it, rawInt 0, .none, .none] }
theorem k66_meets_enum {v : Value} {o : Obj} {H : Heap → Prop} (B : Begins v o H) :
    Meets (Builtin.«enumerate.__new__» ⟨[.type "enumerate", v], []⟩)
      (fun _ R s => H s.heap ∧
        R (.ok (.ret (.ref (s.heap.push o).objs.size)))
          { s with heap := Heap.push (s.heap.push o) (k66Enum s.heap.objs.size) }) :=
  .of_wp fun prog w A R s h => by
    obtain ⟨hp, g, d, tk, os⟩ := s
    obtain ⟨h1, h2⟩ := h
    have hsub := sub_enumerate
    have go : ∀ {A' : Around} {E Q : Value → Shared → Prop}, Q (.ref hp.objs.size) ⟨hp.push o, g, d, tk, os⟩ →
        wpAny (model prog w) A' (pyIter v) Q E ⟨hp, g, d, tk, os⟩ :=
      fun q => B.iter prog w _ _ ⟨hp, g, d, tk, os⟩ _ h1 q
    wp_walk using go
    refine wpAny_stack_any fun st =>
      wpAny_pure ?_
    split
    · rename_i c _ _ _ _ _
      cases (c == Value.type "enumerate") <;> (wp_walk using go; exact ⟨_, rfl, h2⟩)
    · wp_walk using go
      exact ⟨_, rfl, h2⟩

section
variable {prog : Program} {w : World} {A : Around} {E : Value → Shared → Prop} {s : Shared}
theorem k66_call_enum {v : Value} {o : Obj} {H : Heap → Prop} {Q : Value → Shared → Prop} (B : Begins v o H) (h1 : H s.heap)
    (h : ∀ h', IsEnum h' (s.heap.objs.size + 1) s.heap.objs.size 0 .none → h'.get? s.heap.objs.size = some o →
      (∀ b u, s.heap.get? b = some u → h'.get? b = some u) → Q (.ref (s.heap.objs.size + 1)) { s with heap := h' }) :
    wpAny (model prog w) A (call (.type "enumerate") [v]) Q E s := by
  refine callType_new F.called_enumerate (by decide)
    (F.typeCall_enumerate_1 _) (F.newCall_enumerate_1 _) (fun obj => F.args_object_init_2 obj _)
    F.entry_enumerate_new (k66_meets_enum B) ⟨h1, ?_⟩
  have z : (s.heap.push o).objs.size = s.heap.objs.size + 1 := Heap.size_push ..
  show _ ∧ _
  rw [z]
  generalize hh : Heap.push (s.heap.push o) (k66Enum s.heap.objs.size) = h2
  have he : IsEnum h2 (s.heap.objs.size + 1) s.heap.objs.size 0 .none := by
    rw [← hh, ← z]
    exact Heap.get?_push_size (s.heap.push o) rfl
  refine ⟨⟨_, he, rfl⟩, h _ he ?_ fun b u x => ?_⟩
  · rw [← hh]
    exact Heap.get?_push_of_some _ (Heap.get?_push_size _ B.free)
  · rw [← hh]
    exact Heap.get?_push_of_some _ (Heap.get?_push_of_some _ x)
end
end PySem
namespace L2
open PySem PySem.Spec PyProof.Rows
/-- the tuple at a, its items in new pairs with their places -/
def K66Ite (K : PySem.W.Frag) (a : Addr) : It where
  go := fun i H => ∃ (xs : List V) (x : V), SqT K H a xs ∧ xs[i]? = some x
  yld := fun i H v H' => ∃ T x, v = .ref T ∧ H T = none ∧ H' = upd H T (.tup [.int (i : Nat), x]) ∧ ∀ xs, SqT K H a xs → xs[i]? = some x
  stop := fun i H => ∃ xs : List V, SqT K H a xs ∧ xs.length = i

theorem k66_turn_enum {P : Program} {w : World} {K : PySem.W.Frag} {elts : List Expr} {kk : Nat} {tpos : Pos} (a e it : Addr) (hae : a ≠ it) :
    Turn P w K (.Tuple elts kk tpos) (K66Ite K a) [e, it] e
      (fun i h => (∃ old, IsEnum h e it ((i : Nat) : Int) old) ∧ h.IsTupleIter it a i ∧ e ≠ it) where
  mem := by simp
  obj := fun i h st b hb => by
    obtain ⟨⟨old, he⟩, ⟨o, ho, hc, hd⟩, _⟩ := st
    rcases (show b = e ∨ b = it from by simpa using hb) with z | z
    · subst z
      exact ⟨_, he, fun v q => nomatch q⟩
    · subst z
      exact ⟨o, ho, fun v q => by rw [hd] at q; cases q⟩
  keep := fun i h h' st k => by
    obtain ⟨⟨old, he⟩, hi, hne⟩ := st
    exact ⟨⟨old, k e (by simp) _ he⟩, hi.at fun o q => k it (by simp) o q, hne⟩
  item := by
    intro X hP hw hK hc i pins s σ H E I hf st hg
    subst hP hw hK
    obtain ⟨⟨old, he⟩, hit, hne⟩ := st
    obtain ⟨xs, x, hq, hx⟩ := hg
    obtain ⟨its, rv, p, hz⟩ := I.tuple hq
    obtain ⟨u, hu, ru⟩ := rv.get hx
    have hel : e < s.heap.objs.size := Heap.lt_size he
    have hil : it < s.heap.objs.size := by
      obtain ⟨_, q, _⟩ := hit
      exact Heap.lt_size q
    have hlt : i < its.toArray.size := by
      have q := (List.getElem?_eq_some_iff.mp hu).1
      simpa using q
    have hea : e ∉ [it, a] := fun q => by
      rcases (show e = it ∨ e = a from by simpa using q) with z | z
      · exact hne z
      · subst z
        obtain ⟨o, ho, hcl, _⟩ := p
        rw [show s.heap.get? e = some _ from he] at ho
        cases ho
        exact absurd hcl (by simp)
    have D := Draws.tuple (prog := X.prog) (w := X.w) (A := X.A.in1) (I.ok.hd hc) it a hae its.toArray
    refine wpAny_pyNext_enum_itemC D he ⟨hit, p⟩ hlt hne hea fun y h' tk hP ho hst hT hsz hk => ?_
    have ey : y = u := by
      have q : its[i]? = some y := by simpa using hP
      rw [hu] at q
      exact (Option.some.inj q).symm
    subst ey
    refine ⟨_, rfl, wpAny_letOwnedTupleGo_enum (s := { s with heap := h', toks := tk + 1 }) ho fun h'' he' sb => ?_⟩
    have hT2 := (sb.2 _ (Nat.ne_of_gt hel)).trans hT
    have new : ObjOk X.prog X.w (upd H s.heap.objs.size (.tup [.int (i : Nat), x])) h'' s.heap.objs.size (.tup [.int (i : Nat), x]) :=
      ⟨by show 2 ≤ sizeLine; decide, [.int i tk, y], .cons ⟨_, rfl⟩ (.cons ru .nil), ⟨_, hT2, rfl, _, rfl⟩⟩
    have I1 : Inv X pins σ (upd H s.heap.objs.size (.tup [.int (i : Nat), x])) { s with heap := h'', toks := tk + 1 } :=
      I.turnedNew (ch := [e, it])
        (fun b ob hb q => (sb.2 b (fun z => hb (by simp [z]))).trans (hk b ob (fun z => hb (by simp [z])) (fun z => hb (by simp [z])) q))
        hf (Nat.le_refl _) new
    refine ⟨.ref s.heap.objs.size, _, I1, rfl, ⟨_, x, rfl, I.hok.fresh (Nat.le_refl _), rfl, fun ys hy => ?_⟩, ⟨⟨y, ?_⟩, ?_, hne⟩, fun b hb => ?_⟩
    · rw [I.tuple_inj hy hq]
      exact hx
    · rw [show ((i + 1 : Nat) : Int) = (i : Int) + 1 from by omega]
      exact he'
    · exact hst.1.at fun o q => (sb.2 it (Ne.symm hne)).trans q
    · have hb' : b < s.heap.objs.size := by
        rcases (show b = e ∨ b = it from by simpa using hb) with z | z
        · rw [z]
          exact hel
        · rw [z]
          exact hil
      rw [upd_ne (Nat.ne_of_lt hb')]
      exact (hf b hb).1
  done := by
    intro X hP hw hK hc i pins s σ H E I hf st hg
    subst hP hw hK
    obtain ⟨⟨old, he⟩, hit, hne⟩ := st
    obtain ⟨xs, hq, hx⟩ := hg
    obtain ⟨its, rv, p, hz⟩ := I.tuple hq
    obtain ⟨f0, f1, f2, f3, f4, f5⟩ := hf it (by simp)
    have hl := rv.length
    have hn : its.toArray.size = i := by
      rw [← hx, hl]
      simp
    have D := Draws.tuple (prog := X.prog) (w := X.w) (A := X.A.in1) (I.ok.hd hc) it a hae its.toArray
    refine wpAny_pyNext_enum_endD D he (by rw [hn]; exact ⟨hit, p⟩) fun h' eb => ?_
    exact ⟨rfl, I.turned (t' := s.toks) (fun b o hb q => eb b o hb q) f0 f1 f3 f4 f5⟩
  self := fun A i s Q E st h => by
    obtain ⟨⟨_, he⟩, _⟩ := st
    exact wpAny_pyIter_enum he h

def k66_iEnum (K : PySem.W.Frag) (ta : TA) : TI := fun σ H R =>
  ta σ H fun vs H1 => ∃ a xs, vs = [.ref a] ∧ SqT K H1 a xs ∧ R (K66Ite K a) H1
/-- for i, x in enumerate(t), t a tuple -/
theorem k66_pi_enum {X : Cx} {e : Expr} {ta : TA} {p pos tpos : Pos} {elts : List Expr} {kk : Nat} (hg : Gl X "enumerate") (hm : X.mg "enumerate" = none)
    (ha : PA X [e] ta) (hs : starEach [e] X.env = [(false, eval e X.env)] := by rfl) :
    PI X (.Tuple elts kk tpos) (.Call (.Name "enumerate" p) [e] [] pos) (k66_iEnum X.K ta) := by
  refine ⟨fun pins s σ H R I h => ?_⟩
  refine Call_ (ld_blt I hg hm boot_enumerate
    (PyProof.Rows.callWith_type1 (thn (ha.run pos pins s σ H _ I h) fun us s1 ⟨vs, H1, I1, r1, q1⟩ => ?_) hs rfl))
  obtain ⟨a, xs, rfl, hq, q⟩ := q1
  cases r1 with
  | cons r rr =>
    cases rr
    cases r
    obtain ⟨its, rv, p', hz⟩ := I1.tuple hq
    have hal : a < s1.heap.objs.size := by
      obtain ⟨o, ho, _⟩ := p'
      exact Heap.lt_size ho
    refine k66_call_enum (begins_tuple a its.toArray) p' fun h' he hit hk => wpAny_pyIter_enum he ?_
    refine ⟨s1.heap.objs.size + 1, [s1.heap.objs.size + 1, s1.heap.objs.size], _, _, H1, rfl, I1.kept (t' := s1.toks) hk,
      k66_turn_enum a (s1.heap.objs.size + 1) s1.heap.objs.size (Nat.ne_of_lt hal),
      ⟨⟨.none, he⟩, ⟨_, hit, rfl, rfl⟩, Nat.succ_ne_self _⟩, fun b hb => ?_, q⟩
    have hle : s1.heap.objs.size ≤ b := by
      rcases (show b = s1.heap.objs.size + 1 ∨ b = s1.heap.objs.size from by simpa using hb) with z | z
      · rw [z]
        exact Nat.le_add_right _ _
      · rw [z]
        exact Nat.le_refl _
    exact I1.fpOk hle (I1.hok.fresh hle)
theorem k66_walk_enum {K : PySem.W.Frag} {a : Addr} {xs : List V} : Walk (K66Ite K a) xs.length (fun H => SqT K H a xs) (YPair (fun i => some (.int (i : Nat))) (fun i => xs[i]?)) := by
  refine ⟨fun i _ hi q => ⟨xs, xs[i], q, by simp [hi]⟩, fun _ q => ⟨xs, q, rfl⟩, ?_⟩
  intro i H v H' _ q y
  obtain ⟨T, x, h1, h2, h3, h4⟩ := y
  exact ⟨T, _, x, h1, h2, h3, rfl, h4 xs q⟩
end L2

/-! own `in`, `==`, `!=`, repr and truth of an instance -/
namespace L2
open PySem PySem.Spec PyProof.Rows
section
variable {X : Cx} {CX : CXT} {pins : List (Addr × Obj)} {σ : St} {H : Hp} {s : Shared} {k : Nat} {a f C dx : Addr} {fs : List (Str × V)} {fd : FuncData} {ps : List Str} {sp : Sp} {E : XK}
theorem k66_inst (I : Inv X pins σ H s) (e : H a = some (.ins C dx fs)) : ∃ ox od, PySem.W.InstAt s.heap a ox C (some od) := by
  obtain ⟨mA, O, _⟩ := ins_get I.hok e
  obtain ⟨od, J, _⟩ := O.look
  exact ⟨_, od, J⟩
/-- a def runs within other surroundings of the same frames -/
theorem k66_run {A : Around} {Q : VK} {us : List Value} {vs : List V} (F : FnOk X.prog X.w X.K X.mg X.base CX k f fd ps sp) (hr : Room k A) (e0 : Env0 X.prog X.w X.K X.mg X.base A X.stack s H)
    (hb : Binds X.K fd ps []) (hx : Passes CX X E) (I : Inv X pins σ H s) (r : Vals vs us) (h : sp vs H Q E) :
    wpAny (model X.prog X.w) A (call (.ref f) us) (EP X pins σ Q) X.xe s := by
  have hl : (us ++ []).length = ps.length := by
    rw [List.append_nil, ← r.length]
    exact F.len _ _ _ _ h
  have b := hb s us I.kIn hl
  rw [List.append_nil] at b
  refine wpAny_call (codeAny_mono (F.run A X.stack s H ⟨us, []⟩ us vs Q E hr e0 b r h) fun r s' q => ?_)
  cases r with
  | error e => exact hx pins σ H s e s' I q
  | ok fl => cases fl <;> first | exact I.after q | exact (show False from q).elim
/-- v in x, x an instance of the class at C: its def answers True or False -/
def k66rIn (C : Addr) (sp : Sp) (E : XK) : R2 := fun x y H Q => ∃ a dx fs, y = .ref a ∧ H a = some (.ins C dx fs) ∧ sp [y, x] H (fun z H' => ∃ b, z = .bl b ∧ Q (.bl b) H') E
theorem k66_in (hs : PySem.W.findIn X.K (.ref C) "__contains__" = some (some (.ref f))) (hf : PySem.W.isFn X.K (.ref f) = true) (F : FnOk X.prog X.w X.K X.mg X.base CX k f fd ps sp) (hr : Room k X.A) (hb : Binds X.K fd ps [])
    (hx : Passes CX X E) : OpR X (compareOp .In) (k66rIn C sp E) := by
  intro pins s σ H x y v u Q I rx ry h
  obtain ⟨a, dx, fs, rfl, ha, q⟩ := h
  cases (show u = Value.ref a from ry)
  obtain ⟨ox, od, J⟩ := k66_inst I ha
  obtain ⟨m, hF⟩ := I.fr
  refine PySem.W.in_K hF I.ok.mod.kin J hs hf (wpAny_mono (k66_run (us := [.ref a, v]) (vs := [.ref a, x]) F hr I.env0 hb hx I (.cons rfl (.cons rx .nil)) q) (fun w s' z => ?_) fun _ _ y => y)
  obtain ⟨z', H', I', rz, b, rfl, qz⟩ := z
  cases (show w = Value.bool b from rz)
  exact wpAny_truthy_bool ⟨.bl b, H', I', rfl, qz⟩
/-- x == y, x an instance of the class at C, y of any type that is not below it -/
def k66rEq (K : PySem.W.Frag) (C : Addr) (sp : Sp) (E : XK) : R2 := fun x y H Q => ∃ a dx fs t, x = .ref a ∧ H a = some (.ins C dx fs) ∧ TyX K H y t ∧ PySem.W.notFirst K C t = true ∧ sp [x, y] H (fun z H' => ∃ b, z = .bl b ∧ Q (.bl b) H') E
theorem k66_eq (hs : PySem.W.findIn X.K (.ref C) "__eq__" = some (some (.ref f))) (hf : PySem.W.isFn X.K (.ref f) = true) (F : FnOk X.prog X.w X.K X.mg X.base CX k f fd ps sp) (hr : Room k X.A) (hb : Binds X.K fd ps [])
    (hx : Passes CX X E) : OpR X (compareOp .Eq) (k66rEq X.K C sp E) := by
  intro pins s σ H x y v u Q I rx ry h
  obtain ⟨a, dx, fs, t, rfl, ha, ty, hn, q⟩ := h
  cases (show v = Value.ref a from rx)
  obtain ⟨ox, od, J⟩ := k66_inst I ha
  obtain ⟨m, hF⟩ := I.fr
  obtain ⟨P, Z, p, _⟩ := kit_of I ry ty
  show wpAny _ _ (richCompare .Eq (.ref a) u) _ _ _
  refine PySem.W.cmp_K (op := .Eq) hr.units0 hF I.ok.mod.kin J (Z.ty _ _ I.kIn p) hn hs hf ?_
  refine wpAny_mono (k66_run (us := [.ref a, u]) (vs := [.ref a, y]) F hr I.env0 hb hx I (.cons rfl (.cons ry .nil)) q) (fun w s' z => ?_) fun _ _ y => y
  obtain ⟨z', H', I', rz, b, rfl, qz⟩ := z
  cases (show w = Value.bool b from rz)
  exact ⟨.bl b, H', I', rfl, qz⟩
end
end L2
namespace PySem.W
open PySem PySem.Calls PyProof.Rows Builtin
section
variable {prog : Program} {w : World} {A : Around} {E : Value → Shared → Prop} {s : Shared} {K : Frag} {x C L f : Addr} {h₀ : Heap} {m : Str → Option Value} {ox : Obj} {od : Option Obj} {b tb : Value}
theorem k66_ifBoundB {M : Model} {name : Str} {id : String} {args : List Value} {Q : Option Value → Shared → Prop} (X : K.In s.heap) (I : InstAt s.heap x ox C od) (hs : findIn K (.ref C) name = some (some (.builtin id)))
    (hb : ∀ self, bindSpecial (.builtin id) self = pure (.builtin id, [self])) (h : wpAny M A (call (.builtin id) (.ref x :: args)) (fun v => Q (some v)) E s) : wpAny M A (callSpecialIfBound? (.ref x) name args) Q E s := by
  have fin : wpAny M A (call (.builtin id) ([.ref x] ++ args) >>= fun v => pure (some v)) Q E s :=
    wpAny_bind (wpAny_mono h (fun _ _ z => wpAny_pure z) fun _ _ z => z)
  simp only [callSpecialIfBound?, bindSpecialIfBound?]
  refine wpAny_holding ?_
  refine wpAny_bind (wpAny_bind (wpAny_bind (I.type.here ((looks_findIn X hs).here ?_))))
  refine wpAny_bind (wpAny_askSetting (wpAny_ite ?_))
  split
  · exact wpAny_bind ((Looks.of_pure (hb _)).here (wpAny_pure (by exact fin)))
  · exact wpAny_tryCatch (wpAny_bind ((Looks.of_pure (hb _)).here (wpAny_pure (by exact fin))))
/-- x != y by the class's own __eq__ alone -/
theorem k66_cmpNe {Q : Value → Shared → Prop} (hu : A.units + 1 < cLine) (F : Fr h₀ L s.heap m) (X₀ : K.In h₀) (I : InstAt s.heap x ox C od) (hb : Looks (model prog w) s.heap (typeOf b) tb) (hn : notFirst K C tb = true)
    (hne : findIn K (.ref C) "__ne__" = some (some (.builtin "object.__ne__"))) (hm : mroIn K C (.type "object") = some true) (hs : findIn K (.ref C) "__eq__" = some (some (.ref f))) (hf : isFn K (.ref f) = true)
    (h : wpAny (model prog w) A.in1 (call (.ref f) [.ref x, b]) (fun v s' => ∃ c, v = .bool c ∧ Q (.bool (!c)) s') E s) : wpAny (model prog w) A (richCompare .NotEq (.ref x) b) Q E s := by
  have X := X₀.keeps F.keep
  have one : wpAny (model prog w) A (tryCompare (.ref x) "__ne__" b) (fun r s' => ∃ v, r = some v ∧ Q v s') E s := by
    unfold tryCompare
    refine wpAny_bind (k66_ifBoundB X I hne PySem.F.cmp_object.ne.bind (wpAny_call (codeAny_call_builtin PySem.F.cmp_object.ne.plain PySem.F.cmpEntry_ne
      (check_slot PySem.F.cmpKind_ne PySem.F.cmpSplit_ne (I.type.andThen (looks_mroIn X hm)) (PySem.F.cmpArgs_ne _ _) ?_))))
    unfold Builtin.«object.__ne__»
    refine wpAny_bind (m := slotArgs "__ne__" 1 _) (wpAny_pure ?_)
    refine wpAny_bind (m := cRoomFor _ _) (wpAny_cRoomFor (by show A.units + 1 < cLine; exact hu) ?_)
    refine wpAny_bind (m := callSpecialIfBound? (.ref x) (Str.ofString "__eq__") _) (ifBound_K X I hs hf (wpAny_mono h (fun r s' hq => ?_) fun _ _ y => y))
    obtain ⟨c, rfl, q⟩ := hq
    refine wpAny_bind (m := truthy (.bool c)) (wpAny_truthy_bool ?_)
    exact wpAny_pure (wpAny_pure ⟨_, rfl, q⟩)
  unfold richCompare
  simp only [oneThing_ref]
  refine wpAny_holding (wpAny_bind (wpAny_cRoomFor (Nat.lt_of_succ_lt hu) ?_))
  rw [cmpInfo_NotEq]
  dsimp only
  refine wpAny_bind (I.type.here (wpAny_bind (hb.here ?_)))
  split
  · rename_i q
    have e : subIn K tb (.ref C) = some false := by
      rcases Bool.or_eq_true_iff.mp hn with e | e
      · rw [beq_iff_eq.mp e] at q
        simp at q
      · exact beq_iff_eq.mp e
    refine wpAny_bind ((looks_subIn X e).here ?_)
    simp only [Bool.false_eq_true, if_false]
    refine wpAny_bind (wpAny_mono one (fun r s' z => ?_) fun _ _ y => y)
    obtain ⟨v, rfl, hq⟩ := z
    exact wpAny_pure hq
  · refine wpAny_bind (wpAny_pure ?_)
    simp only [Bool.false_eq_true, if_false]
    refine wpAny_bind (wpAny_mono one (fun r s' z => ?_) fun _ _ y => y)
    obtain ⟨v, rfl, hq⟩ := z
    exact wpAny_pure hq
end
end PySem.W
namespace L2
open PySem PySem.Spec PyProof.Rows
section
variable {X : Cx} {CX : CXT} {pins : List (Addr × Obj)} {σ : St} {H : Hp} {s : Shared} {k : Nat} {a f C dx : Addr} {fs : List (Str × V)} {fd : FuncData} {ps : List Str} {sp : Sp} {E : XK}
/-- x != y, x an instance of the class at C (own __eq__, no own __ne__) -/
def k66rNe (K : PySem.W.Frag) (C : Addr) (sp : Sp) (E : XK) : R2 := fun x y H Q => ∃ a dx fs t, x = .ref a ∧ H a = some (.ins C dx fs) ∧ TyX K H y t ∧ PySem.W.notFirst K C t = true ∧ sp [x, y] H (fun z H' => ∃ b, z = .bl b ∧ Q (.bl (!b)) H') E
theorem k66_ne (hne : PySem.W.findIn X.K (.ref C) "__ne__" = some (some (.builtin "object.__ne__"))) (hm : PySem.W.mroIn X.K C (.type "object") = some true) (hs : PySem.W.findIn X.K (.ref C) "__eq__" = some (some (.ref f)))
    (hf : PySem.W.isFn X.K (.ref f) = true) (F : FnOk X.prog X.w X.K X.mg X.base CX k f fd ps sp) (hr : Room (k + 1) X.A) (hb : Binds X.K fd ps []) (hx : Passes CX X E) : OpR X (compareOp .NotEq) (k66rNe X.K C sp E) := by
  intro pins s σ H x y v u Q I rx ry h
  obtain ⟨a, dx, fs, t, rfl, ha, ty, hn, q⟩ := h
  cases (show v = Value.ref a from rx)
  obtain ⟨ox, od, J⟩ := k66_inst I ha
  obtain ⟨m, hF⟩ := I.fr
  obtain ⟨P, Z, p, _⟩ := kit_of I ry ty
  show wpAny _ _ (richCompare .NotEq (.ref a) u) _ _ _
  refine PySem.W.k66_cmpNe (hu_of hr) hF I.ok.mod.kin J (Z.ty _ _ I.kIn p) hn hne hm hs hf ?_
  refine wpAny_mono (k66_run (us := [.ref a, u]) (vs := [.ref a, y]) F hr.in1 I.env0.in1 hb hx I (.cons rfl (.cons ry .nil)) q) (fun w s' z => ?_) fun _ _ y => y
  obtain ⟨z', H', I', rz, b, rfl, qz⟩ := z
  cases (show w = Value.bool b from rz)
  exact ⟨b, rfl, .bl (!b), H', I', rfl, qz⟩
/-- repr(x), x an instance of the class at C whose __repr__ is at f -/
def k66rRepr (C : Addr) (sp : Sp) (E : XK) : List V → Hp → VK → Prop := fun xs H Q => ∃ a dx fs, xs = [V.ref a] ∧ H a = some (.ins C dx fs) ∧ sp [.ref a] H (fun z H' => ∃ t, z = .str t ∧ Q (.str t) H') E
theorem k66_repr (hs : PySem.W.findIn X.K (.ref C) "__repr__" = some (some (.ref f))) (hf : PySem.W.isFn X.K (.ref f) = true) (F : FnOk X.prog X.w X.K X.mg X.base CX k f fd ps sp) (hr : Room (k + 1) X.A) (hb : Binds X.K fd ps [])
    (hx : Passes CX X E) : CallR X (.builtin "repr") (k66rRepr C sp E) := by
  intro pins s σ H xs us Q I r h
  obtain ⟨a, dx, fs, rfl, ha, q⟩ := h
  cases r with
  | cons r1 r2 =>
    cases r2
    cases r1
    obtain ⟨ox, od, J⟩ := k66_inst I ha
    obtain ⟨m, hF⟩ := I.fr
    refine PySem.W.repr_K (by show X.A.units + 1 < cLine; exact hu_of hr) hF I.ok.mod.kin J hs hf ?_
    refine wpAny_mono (k66_run (us := [.ref a]) (vs := [.ref a]) F hr.in1 I.env0.in1 hb hx I (.cons rfl .nil) q) (fun w s' z => ?_) fun _ _ y => y
    obtain ⟨z', H', I', rz, t, rfl, qz⟩ := z
    obtain ⟨u, rfl⟩ := rz
    exact ⟨.str t, H', I', ⟨u, rfl⟩, qz⟩
/-- the truth of an instance whose class has neither __bool__ nor __len__ -/
theorem k66_truth {e : Expr} {ta : TE} (hb : PySem.W.findIn X.K (.ref C) "__bool__" = some none) (hl : PySem.W.findIn X.K (.ref C) "__len__" = some none) (ha : PE X e ta)
    (he : ∀ whole, isTrue e X.env whole = (do let v ← whole; standAt e.pos; holding [v] (truthy v))) : PT X e (fun σ H Q => ta σ H fun x H' => ∃ a dx fs, x = .ref a ∧ H' a = some (.ins C dx fs) ∧ Q true H') := by
  refine ⟨fun pins s σ H Q I h => ?_⟩
  refine isTrue_plain (thn (ha.run pins s σ H _ I h) fun v s1 ⟨x, H1, I1, r1, a, dx, fs, ex, hi, q⟩ => ?_) (he _)
  subst ex
  cases (show v = Value.ref a from r1)
  obtain ⟨ox, od, J⟩ := k66_inst I1 hi
  obtain ⟨m, hF⟩ := I1.fr
  exact PySem.W.truthy_K0 hF I1.ok.mod.kin J hb hl ⟨H1, I1, q⟩
end
end L2

/-! a def whose call wants no guard around it (repr of a tuple): its promise, its call, the end of a law -/
namespace L2
open PySem PySem.Spec PyProof.Rows
/-- FnOk where nothing is being shown around the call -/
structure K66Fn (P : Program) (w : World) (K : PySem.W.Frag) (mg : Str → Option Value) (base : Heap) (CX : CXT) (k : Nat) (f : Addr) (fd : FuncData) (ps : List Str) (sp : Sp) : Prop where
  len : ∀ vs H Q E, sp vs H Q E → vs.length = ps.length
  run : ∀ (A : Around) (outer : List Env) (s : Shared) (H : Hp) (args : Args) (us : List Value) (vs : List V) (Q : VK) (E : XK),
    Room k A → A.guards = some [] → Env0 P w K mg base A outer s H → BindsTo s fd args (ps.zip us) → Vals vs us → sp vs H Q E →
      codeAny (model P w) A (.call (.ref f) args) (CR CX outer P w H s Q E) s
section
variable {P : Program} {w : World} {K : PySem.W.Frag} {mg : Str → Option Value} {base : Heap} {CX : CXT} {k : Nat}
theorem K66Fn.of {f : Addr} {fd : FuncData} {ps : List Str} {sp : Sp} (F : FnOk P w K mg base CX k f fd ps sp) : K66Fn P w K mg base CX k f fd ps sp :=
  ⟨F.len, fun A outer s H args us vs Q E hr _ => F.run A outer s H args us vs Q E hr⟩
theorem k66_fn_of {f : Addr} {name qual : Str} {params : Arguments} {body : List Stmt} {scope : Scope} {dV kV doc pm cdv ct oc : Value} {an od : Option Addr} {osl : Array (Option Value)} {N ps : List Str} {sp : Sp}
    (lk : K.lookup f = some ⟨oc, od, .func (PySem.W.fnOf name qual params body scope dV kV doc pm an cdv ct), osl⟩) (hcd : PySem.W.codeIn K cdv qual = true) (S : FnScope N ps scope) (len : ∀ vs H Q E, sp vs H Q E → vs.length = ps.length)
    (hbody : ∀ (A : Around) (outer : List Env) (s : Shared) (H : Hp) (vs : List V) (Q : VK) (E : XK), Room k (A.deeper (envOfC qual scope s.heap.objs.size f cdv)) → A.guards = some [] → sp vs H Q E →
      ∃ t, PSs (cxOf CX P w K mg base N qual scope f cdv A outer s H E) body t ∧ t { nx := fun _ H' => Q .non H', rt := Q } (start N vs) H) :
    K66Fn P w K mg base CX (k + 1) f (PySem.W.fnOf name qual params body scope dV kV doc pm an cdv ct) ps sp := by
  refine ⟨len, fun A outer s H args us vs Q E hr hg e0 hb r hsp => ?_⟩
  have hl := len _ _ _ _ hsp
  have kp : ∀ b o, base.get? b = some o → s.heap.get? b = some o := fun b o e => (e0.bs b o e).1
  have KX : K.In s.heap := e0.mod.kin.keeps kp
  have lim : s.heap.NoLimit := e0.mod.nolimit.keeps kp
  have kinds : ∀ y ∈ ps.zip us, scope.names.lookup y.1 = some .local ∨ (scope.names.lookup y.1 = some .cell ∧ ((cellsFrom (s.heap.objs.size + 1) scope.names []).lookup y.1).isSome = true) := by
    rintro ⟨n, v⟩ hy
    rcases S.par n (List.of_mem_zip hy).1 with q | q
    · exact .inl q
    · exact .inr ⟨q, PySem.W.cellsFrom_some _ _ _ (.inl q)⟩
  refine codeAny_call_function hr.depth (KX _ _ lk) rfl S.co S.gen rfl (PySem.W.codeRec_of KX hcd) (hb _ _ _ _ (wpAny_newFunctionEnv_cells S.kind kinds fun env he s1 x => ?_))
  subst he
  refine ⟨lim.keeps x.toInCall.keep, codeAny_func ?_⟩
  obtain ⟨t, ht, hq⟩ := hbody A outer s H vs Q E (hr.deeper _) hg hsp
  have I := inv_start (CX := CX) (E := E) S hr.hd e0 hl r x
  have fin : ∀ {s' σ' H'} {v : V} {u : Value}, Inv (cxOf CX P w K mg base N qual scope f cdv A outer s H E) [] σ' H' s' → RelV v u → Q v H' → CE outer P w H s Q u s' :=
    fun {s' σ' H' v u} J rv q => ⟨v, H', J.os, J.bare, J.base, J.hok, rv, q⟩
  refine wpAny_mono (ht.run [] s1 (start N vs) H _ I hq) (fun fl s' hs => ?_) fun e s' hs => hs
  cases fl with
  | next =>
    obtain ⟨σ', H', J, q⟩ := hs
    exact fin (v := V.non) (u := Value.none) J rfl q
  | ret u =>
    obtain ⟨v, σ', H', J, rv, q⟩ := hs
    exact fin J rv q
  | brk =>
    obtain ⟨_, _, _, q⟩ := hs
    cases q
  | cont =>
    obtain ⟨_, _, _, q⟩ := hs
    cases q
/-- a def by its body -/
theorem Fun.k66 {x qual : Str} {st : Stmt} {f : Addr} {fd : FuncData} {N ps : List Str} {sp : Sp} (F : Fun K x qual st f fd) (S : FnScope N ps (defScope st)) (len : ∀ vs H Q E, sp vs H Q E → vs.length = ps.length)
    (hbody : ∀ (cdv : Value) (A : Around) (outer : List Env) (s : Shared) (H : Hp) (vs : List V) (Q : VK) (E : XK), Room k (A.deeper (envOfC qual (defScope st) s.heap.objs.size f cdv)) → A.guards = some [] → sp vs H Q E →
      ∃ t, PSs (cxOf CX0 P w K mg base N qual (defScope st) f cdv A outer s H E).nox (defBody st) t ∧ t { nx := fun _ H' => Q .non H', rt := Q } (start N vs) H) :
    K66Fn P w K mg base CX0 (k + 1) f fd ps sp := by
  obtain ⟨oc, od, kV, doc, pm, an, cdv, ct, osl, rfl, lk, hcd⟩ := F.ex
  refine k66_fn_of lk hcd S len fun A outer s H vs Q E hr hg hsp => ?_
  obtain ⟨t, h, q⟩ := hbody cdv A outer s H vs Q E hr hg hsp
  exact ⟨t, h.nox, q⟩
end
section
variable {X : Cx} {CX : CXT} {k : Nat} {f : Addr} {fd : FuncData} {ps : List Str} {sp : Sp} {E : XK} {x : Str} {p pos : Pos} {e : Expr} {es : List Expr} {t : TA}
/-- f(e, ..) -/
theorem k66_call (F : K66Fn X.prog X.w X.K X.mg X.base CX k f fd ps sp) (hr : Room k X.A) (hgd : X.A.guards = some []) (hg : Gl X x) (hm : X.mg x = some (.ref f)) (hk : PySem.W.keepIn X.K (.ref f) = true) (hb : Binds X.K fd ps [])
    (hx : Passes CX X E) (ha : PA X (e :: es) t) (hdb : (x == ("__debug__" : Str)) = false := by decide) (he : starEach (e :: es) X.env = (false, eval e X.env) :: starEach es X.env := by rfl)
    (hpl : (backTo pos (starEach es X.env)).any (·.1) = false := by rfl) : PE X (.Call (.Name x p) (e :: es) [] pos) (tCall sp [] E t) := by
  refine ⟨fun pins s σ H Q I h => ?_⟩
  refine wpAny_Call_Name_kw (ld_glob I hg hm (PySem.W.callWith_K (h₀ := X.base) I.ok.mod.kin hk (thn (ha.run pos pins s σ H _ I h) fun us s1 ⟨vs, H1, I1, r, q⟩ => ⟨I1.kIn, ?_⟩) he hpl) hdb)
  have q' : sp (vs ++ []) H1 Q E := q
  rw [List.append_nil] at q'
  have hl : (us ++ []).length = ps.length := by
    rw [List.append_nil, ← r.length]
    exact F.len _ _ _ _ q'
  have b := hb s1 us I1.kIn hl
  rw [List.append_nil] at b
  refine wpAny_call (codeAny_mono (F.run X.A X.stack s1 H1 ⟨us, []⟩ us vs Q E hr hgd I1.env0 b r q') fun rr s' z => ?_)
  cases rr with
  | error e => exact hx pins σ H1 s1 e s' I1 z
  | ok fl => cases fl <;> first | exact I1.after z | exact (show False from z).elim
/-- repr of data -/
def k66rReprD (K : PySem.W.Frag) : List V → Hp → VK → Prop := fun xs H Q => ∃ a d, xs = [V.ref a] ∧ Dp K H (.ref a) d ∧ d.showable = true ∧ d.hasDict = false ∧ d.depth ≤ 50 ∧ d.shown.length ≤ sizeLine ∧ Q (.str d.shown) H
theorem k66_reprD (hr : Room k X.A) (hgd : X.A.guards = some []) : CallR X (.builtin "repr") (k66rReprD X.K) := by
  intro pins s σ H xs us Q I r h
  obtain ⟨a, d, rfl, hd, hs, hn, hz, hl, q⟩ := h
  cases r with
  | cons r1 r2 =>
    cases r2
    obtain ⟨as, rd⟩ := Dp.reads I d _ _ hd r1
    cases r1
    have hu := hr.units
    refine repr_of_reads' rd hs (fun z => by rw [hn] at z; cases z) hgd (by omega) (fun _ _ z => z) (fun h' u tk hk => ?_) hl
    exact ⟨.str d.shown, H, I.kept (t' := tk) hk, ⟨u, rfl⟩, q⟩
end
section
variable {P : Program} {w : World} {K : PySem.W.Frag} {mg mb : Str → Option Value} {k : Nat} {fa a : Addr} {fd : FuncData} {x : Str} {sp : Sp} {s₁ : Shared} {vs : List Value} {ns : List Int}
/-- the law's promise at the heap behind the top -/
theorem k66_law_call (KX : K.In s₁.heap) (hns : s₁.heap.Ns mainGlobals mg) (hb : s₁.heap.Ns builtinsNs mb) (hbb : ∀ x : Str, x ≠ "__name__" → mb x = bootBuiltins x) (hlim : s₁.heap.NoLimit) (hg : s₁.gens = #[])
    (ha : s₁.heap.get? a = some { cls := .type "list", data := .seq vs.toArray }) (hi : IntsAre vs ns) (hl : ns.length ≤ sizeLine) (hr : Room k callerA)
    (F : ∀ base : Heap, K.In base → base.Ns mainGlobals mg → K66Fn P w K mg base CX0 k fa fd [x] sp) (hbind : ∀ (s : Shared) (u : Value), BindsTo s fd ⟨[u], []⟩ [(x, u)])
    (hsp : ∀ H : Hp, Only H → SqL K H a (ns.map V.int) → sp [.ref a] H (fun v _ => v = .bl true) fun _ _ _ => False) :
    codeAny (model P w) callerA (.call (.ref fa) ⟨[.ref a], []⟩) (fun r s' => r = .ok (.ret (.bool true)) ∧ OldK s₁.heap s'.heap ∧ s'.os = s₁.os ∧ AllBare s'.gens) s₁ := by
  have rv := vals_ints hi
  have lenV := hi.length
  have none_in : ∀ b : Addr, b ∉ ([] : List Addr) := fun b z => nomatch z
  have core : ∀ H : Hp, Only H → SqL K H a (ns.map V.int) → HOk P w H s₁.heap → (∀ b, H b ≠ none → b = a) → (H a ≠ none → K.lookup a = none) →
      codeAny (model P w) callerA (.call (.ref fa) ⟨[.ref a], []⟩) (fun r s' => r = .ok (.ret (.bool true)) ∧ OldK s₁.heap s'.heap ∧ s'.os = s₁.os ∧ AllBare s'.gens) s₁ := by
    intro H hO hS hok hA hK
    have at_a : ∀ {b : Addr} {u : HO}, H b = some u → b = a := fun {b u} q => hA b (by rw [q]; exact fun z => nomatch z)
    have plain : ∀ {b : Addr} {o : Obj} {es : Array DictEntry} {ep : Nat}, s₁.heap.get? b = some o → o.data = .dict es ep → H b = none := by
      intro b o es ep e d
      cases q : H b with
      | none => rfl
      | some u =>
        cases at_a q
        rw [ha] at e
        cases e
        exact nomatch (show Data.seq vs.toArray _ = Data.dict es ep from d)
    have nsK : ∀ {b : Addr} {m : Str → Option Value}, s₁.heap.Ns b m → (hidT s₁.heap H).Ns b m := by
      rintro b m ⟨o, es, ep, e, d, r⟩
      exact ⟨o, es, ep, hidT_get e (plain e d), d, r⟩
    have inK : K.In (hidT s₁.heap H) := by
      intro b o e
      refine hidT_get (KX b o e) ?_
      cases q : H b with
      | none => rfl
      | some u =>
        cases at_a q
        rw [hK (by rw [q]; exact fun z => nomatch z)] at e
        cases e
    obtain ⟨mc, l1, l2⟩ := hlim
    have e0 : Env0 P w K mg (hidT s₁.heap H) callerA [] s₁ H :=
      ⟨rfl, ⟨inK, nsK hns, ⟨mb, nsK hb, hbb⟩, ⟨mc, nsK l1, l2⟩⟩, fun b o e => of_hidT e, Nat.le_of_eq (hidT_size _ _), trivial, fun b z => absurd z (none_in b), hok, .of_eq hg⟩
    refine codeAny_mono ((F _ inK (nsK hns)).run callerA [] s₁ H ⟨[.ref a], []⟩ [.ref a] [.ref a] _ _ hr rfl e0 (hbind s₁ (.ref a)) (.cons rfl .nil) (hsp H hO hS)) fun r s' h => ?_
    cases r with
    | error e => exact (show False from h).elim
    | ok fl =>
      cases fl with
      | ret u =>
        obtain ⟨v, H', os, bare, un, hok', r', q⟩ := h
        obtain rfl : v = .bl true := q
        cases (show u = Value.bool true from r')
        refine ⟨rfl, OldK.of_keep fun b o e => ?_, os, bare⟩
        cases q : H b with
        | none => exact un.keep b o e q (none_in b) (none_in b)
        | some u =>
          rcases hO b with z | ⟨ob, xs, z⟩
          · rw [q] at z
            cases z
          · obtain ⟨e1, _⟩ := hok b _ z
            obtain ⟨e2, _⟩ := hok' b _ (un.frzs b ob _ z)
            rw [e] at e1
            cases e1
            exact e2
      | next => exact (show False from h).elim
      | brk => exact (show False from h).elim
      | cont => exact (show False from h).elim
  cases hk : K.lookup a with
  | some o =>
    have e := KX a o hk
    rw [ha] at e
    cases e
    refine core (fun _ => none) (fun _ => .inl rfl) (.inr ⟨_, vs.toArray, _, hk, rfl, rfl, rfl, ?_, ?_⟩) (fun b u z => nomatch (show (none : Option HO) = some u from z)) (fun b z => absurd rfl z) fun z => absurd rfl z
    · rw [List.size_toArray, lenV]
      exact hl
    · simpa using rv
  | none =>
    refine core (fun b => if b = a then some (.frz { cls := .type "list", data := .seq vs.toArray } (.lst (ns.map V.int))) else none) (fun b => ?_) (.inl (.inr ⟨_, if_pos rfl⟩)) (fun b u z => ?_) (fun b z => ?_) fun _ => hk
    · by_cases q : b = a
      · exact .inr ⟨_, _, if_pos q⟩
      · exact .inl (if_neg q)
    · by_cases q : b = a
      · have z' := (if_pos q).symm.trans z
        cases z'
        subst q
        exact ⟨ha, by rw [List.length_map]; exact hl, vs, _, rv, ha⟩
      · have z' := (if_neg q).symm.trans z
        cases z'
    · by_cases q : b = a
      · exact q
      · exact absurd (if_neg q) z
end
theorem k66_walk_of {l : PySem.W.OpenLaw} {n k : Nat} {q : Program} {loose : List Str} {XP : (Str → Option Value) → Heap → Prop} {YP : World → Heap → Prop} {d : DefRec} {K : Params → PySem.W.Frag} {sp : World → Sp} {x : Str}
    (hn : l.most = some n) (hn2 : n ≤ sizeLine) (hdf : d.params.defaults = []) (hr : Room k callerA) (hY : ∀ (w : World) (h : Heap), YP w h → (K w.params).In h)
    (F : ∀ (w : World) (mg : Str → Option Value) (fa : Addr) (h : Heap), (K w.params).In h → h.Ns mainGlobals mg → mg d.name = some (.ref fa) →
      ∃ fd : FuncData, (∀ (s : Shared) (u : Value), BindsTo s fd ⟨[u], []⟩ [(x, u)]) ∧ ∀ base : Heap, (K w.params).In base → base.Ns mainGlobals mg → K66Fn l.prog w (K w.params) mg base CX0 k fa fd [x] (sp w))
    (hsp : ∀ (w : World) (H : Hp) (a : Addr) (ns : List Int), ns.length ≤ n → Only H → SqL (K w.params) H a (ns.map V.int) → sp w [.ref a] H (fun v _ => v = .bl true) fun _ _ _ => False) :
    PySem.W.WalkO q loose XP YP l.row.toRowW d [] (fun f vs => PySem.call f vs) := by
  refine Att.attach_call hn hdf fun w s₀ s₁ mg mb fa o pm cd doc a vs ns G Y ho hd hcd hmg hobj hints hlen hg => ?_
  have KX := hY w _ Y
  obtain ⟨fd, hb, hF⟩ := F w mg fa _ KX G.T.g hmg
  exact k66_law_call KX G.T.g G.T.b G.T.builtins G.T.nolimit hg hobj hints (Nat.le_trans hlen hn2) hr hF hb fun H hO hS => hsp w H a ns hlen hO hS
end L2

/-! the plain law of circles: no program in sight -/
namespace K66
/-- the numbers below n that f takes -/
def lowF (n : Nat) (f : Nat → Bool) : List Nat := (List.range n).filter f
theorem lowF_succ (n : Nat) (f : Nat → Bool) : lowF (n + 1) f = if f n then lowF n f ++ [n] else lowF n f := by
  unfold lowF
  rw [List.range_succ, List.filter_append]
  cases e : f n <;> simp [e]
theorem lowF_congr {n : Nat} {f g : Nat → Bool} (h : ∀ x, x < n → f x = g x) : lowF n f = lowF n g :=
  List.filter_congr fun x hx => h x (List.mem_range.mp hx)
theorem mem_lowF {n : Nat} {f : Nat → Bool} {x : Nat} : x ∈ lowF n f ↔ x < n ∧ f x = true := by
  unfold lowF
  rw [List.mem_filter, List.mem_range]
theorem has_lowF (n : Nat) (f : Nat → Bool) (x : Nat) : (lowF n f).contains x = (decide (x < n) && f x) := by
  rw [Bool.eq_iff_iff, List.contains_iff_mem, mem_lowF, Bool.and_eq_true, decide_eq_true_eq]
theorem lowF_len (n : Nat) (f : Nat → Bool) : (lowF n f).length ≤ n := by
  have q := List.length_filter_le f (List.range n)
  rw [List.length_range] at q
  exact q
theorem lowF_rise (n : Nat) (f : Nat → Bool) : (lowF n f).Pairwise (· < ·) := List.Pairwise.filter _ List.pairwise_lt_range
theorem lowF_last {n : Nat} {f : Nat → Bool} (h : f n = true) : (lowF (n + 1) f).getLast? = some n ∧ (lowF (n + 1) f).dropLast = lowF n f := by
  rw [lowF_succ, if_pos h]
  simp
/-- from N down, while g holds of the next lower one -/
def desc (g : Nat → Bool) : Nat → Nat
  | 0 => 0
  | s + 1 => if g s then desc g s else s + 1
theorem desc_le (g : Nat → Bool) : ∀ N, desc g N ≤ N
  | 0 => Nat.le_refl _
  | s + 1 => by
    unfold desc
    split
    · exact Nat.le_succ_of_le (desc_le g s)
    · exact Nat.le_refl _
theorem desc_all (g : Nat → Bool) : ∀ N x, desc g N ≤ x → x < N → g x = true
  | 0, x, _, h => absurd h (Nat.not_lt_zero _)
  | s + 1, x, h1, h2 => by
    unfold desc at h1
    split at h1
    · rename_i e
      by_cases q : x = s
      · rw [q]
        exact e
      · exact desc_all g s x h1 (by omega)
    · omega
theorem desc_stop (g : Nat → Bool) : ∀ N, desc g N = 0 ∨ g (desc g N - 1) = false
  | 0 => .inl rfl
  | s + 1 => by
    unfold desc
    split
    · exact desc_stop g s
    · rename_i e
      exact .inr (by simpa using e)
theorem desc_eq {g : Nat → Bool} : ∀ {N s}, s ≤ N → (∀ x, s ≤ x → x < N → g x = true) → (s = 0 ∨ g (s - 1) = false) → desc g N = s := by
  intro N s h1 h2 h3
  have a := desc_all g N
  have b := desc_stop g N
  have c := desc_le g N
  generalize desc g N = d at a b c
  rcases Nat.lt_trichotomy d s with l | l | l
  · rcases h3 with z | z
    · omega
    · rw [a (s - 1) (by omega) (by omega)] at z
      cases z
  · exact l
  · rcases b with z | z
    · omega
    · rw [h2 (d - 1) (by omega) (by omega)] at z
      cases z
/-! the least base -/
def innerM (step : Nat) : Nat → Nat → Nat → Option (Nat × Nat)
  | 0, _, _ => none
  | k + 1, number, often => if number % step = 0 then innerM step k (number / step) (often + 1) else some (number, often)
def nextStep (s : Nat) : Nat := if s = 2 then s + 1 else s + 2
def addFound (found : List (Nat × Nat)) (s o : Nat) : List (Nat × Nat) := if 0 < o then found ++ [(s, o)] else found
def outerM : Nat → Nat → Nat → List (Nat × Nat) → Option (Nat × List (Nat × Nat))
  | 0, _, _, _ => none
  | k + 1, number, step, found =>
    if step * step ≤ number then
      match innerM step 20 number 0 with
      | none => none
      | some (n, o) => outerM k n (nextStep step) (addFound found step o)
    else some (number, found)
def lastFound (n : Nat) (found : List (Nat × Nat)) : List (Nat × Nat) := if 1 < n then found ++ [(n, 1)] else found
def apartM (number : Nat) : List (Nat × Nat) :=
  match outerM 20 number 2 [] with
  | none => []
  | some (n, found) => lastFound n found
def flat (l : List (Nat × Nat)) : List Nat := l.flatMap fun q => List.replicate q.2 q.1
def prodL (l : List Nat) : Nat := l.foldr (· * ·) 1
theorem apart_ok : ∀ n, 1 ≤ n → n ≤ 18 → (outerM 20 n 2 []).isSome = true ∧ prodL (flat (apartM n)) = n := by
  have h : ∀ n, n < 19 → 1 ≤ n → ((outerM 20 n 2 []).isSome = true ∧ prodL (flat (apartM n)) = n) := by decide +kernel
  exact fun n h1 h2 => h n (by omega) h1
/-- each once, as a dict keeps its keys -/
def onceIn (acc : List Nat) (l : List Nat) : List Nat := l.foldl (fun acc x => if acc.contains x then acc else acc ++ [x]) acc
def stays (b : Nat) (known : List Nat) (less : Nat) : Bool := known.all fun r => known.contains ((r + less) % b)
def lessM (st : Nat × List Nat) (prime : Nat) : Nat × List Nat :=
  if stays st.1 st.2 (st.1 / prime) then (st.1 / prime, onceIn [] (st.2.map (· % (st.1 / prime)))) else st
def leastM (b : Nat) (rests : List Nat) : Nat × List Nat := (flat (apartM b)).foldl lessM (b, onceIn [] rests)
def expand (n w : Nat) (lot : List Nat) : List Nat := lowF (n * w) fun r => lot.contains (r % n)
def subs : List Nat → List (List Nat)
  | [] => [[]]
  | x :: l => subs l ++ (subs l).map (x :: ·)
theorem filter_subs (f : Nat → Bool) : ∀ l : List Nat, l.filter f ∈ subs l
  | [] => by simp [subs]
  | x :: l => by
    have q := filter_subs f l
    rw [List.filter_cons]
    unfold subs
    rw [List.mem_append]
    split
    · exact .inr (List.mem_map.mpr ⟨_, q, rfl⟩)
    · exact .inl q
def sOf (n : Nat) (lot : List Nat) : List Nat := lowF (leastM n lot).1 fun x => (leastM n lot).2.contains x
def pOf (n : Nat) (lot : List Nat) : Nat := (leastM n lot).1
def check (n : Nat) (lot : List Nat) : Bool :=
  let p := pOf n lot
  let S := sOf n lot
  decide (1 ≤ p) && decide (p ≤ 6) && decide (n % p = 0) && ((List.range n).all fun x => S.contains (x % p) == lot.contains x) &&
    ((List.range p).all fun q => decide (q = 0) || (List.range 22).any fun i => S.contains ((22 + i) % p) != S.contains ((22 + i + q) % p)) &&
    ([1, 2, 3].all fun w => decide ((leastM (n * w) (expand n w lot)).1 = p) && (leastM (n * w) (expand n w lot)).2.isPerm S) &&
    decide (expand n 1 lot = lot) && decide (S = lowF p fun x => S.contains x)
theorem check_all : ((List.range 7).all fun n => decide (n = 0) || (subs (List.range n)).all fun lot => check n lot) = true := by decide +kernel
structure Leasts (n : Nat) (lot : List Nat) : Prop where
  p1 : 1 ≤ pOf n lot
  p6 : pOf n lot ≤ 6
  dv : n % pOf n lot = 0
  eq : ∀ x, (sOf n lot).contains (x % pOf n lot) = lot.contains (x % n)
  mis : ∀ q, 1 ≤ q → q < pOf n lot → ∃ j, 22 ≤ j ∧ j < 44 ∧ (sOf n lot).contains (j % pOf n lot) ≠ (sOf n lot).contains ((j + q) % pOf n lot)
  tell : ∀ w, 1 ≤ w → w ≤ 3 → ∃ K, leastM (n * w) (expand n w lot) = (pOf n lot, K) ∧ K.Perm (sOf n lot)
  one : expand n 1 lot = lot
  low : sOf n lot = lowF (pOf n lot) fun x => (sOf n lot).contains x
theorem key {n : Nat} (h1 : 1 ≤ n) (h6 : n ≤ 6) (g : Nat → Bool) : Leasts n (lowF n g) := by
  have a := List.all_eq_true.mp check_all n (List.mem_range.mpr (by omega))
  rw [Bool.or_eq_true, decide_eq_true_eq] at a
  have b := a.resolve_left (by omega)
  have c := List.all_eq_true.mp b (lowF n g) (filter_subs g (List.range n))
  generalize lowF n g = lot at c
  unfold check at c
  simp only [Bool.and_eq_true, decide_eq_true_eq] at c
  obtain ⟨⟨⟨⟨⟨⟨⟨c1, c2⟩, c3⟩, c4⟩, c5⟩, c6⟩, c7⟩, c8⟩ := c
  refine ⟨c1, c2, c3, fun x => ?_, fun q hq1 hq2 => ?_, fun w hw1 hw2 => ?_, c7, c8⟩
  · have d := eq_of_beq (List.all_eq_true.mp c4 (x % n) (List.mem_range.mpr (Nat.mod_lt _ (by omega))))
    rw [← d]
    rw [Nat.mod_mod_of_dvd _ (Nat.dvd_of_mod_eq_zero c3)]
  · have d := List.all_eq_true.mp c5 q (List.mem_range.mpr hq2)
    rw [Bool.or_eq_true, decide_eq_true_eq] at d
    obtain ⟨i, hi, e⟩ := List.any_eq_true.mp (d.resolve_left (by omega))
    exact ⟨22 + i, by omega, by have := List.mem_range.mp hi; omega, by simpa using e⟩
  · have d := List.all_eq_true.mp c6 w (by
      have : w = 1 ∨ w = 2 ∨ w = 3 := by omega
      rcases this with z | z | z <;> simp [z])
    rw [Bool.and_eq_true, decide_eq_true_eq] at d
    refine ⟨(leastM (n * w) (expand n w lot)).2, ?_, List.isPerm_iff.mp d.2⟩
    rw [← d.1]
/-- a circle told by what is in it -/
structure Cir (F : Nat → Bool) (b0 p : Nat) (S : List Nat) : Prop where
  p1 : 1 ≤ p
  p6 : p ≤ 6
  b9 : b0 ≤ 9
  per : ∀ x, b0 ≤ x → F x = S.contains (x % p)
  mis : ∀ q, 1 ≤ q → q < p → ∃ j, 22 ≤ j ∧ j < 44 ∧ F j ≠ F (j + q)
  low : S = lowF p fun x => S.contains x
/-- whether a number is in a drawn circle -/
def hasC (f : Nat → Bool) (b n : Nat) (lot : List Nat) (x : Nat) : Bool := if x < b then f x else lot.contains (x % n)
theorem cir {f g : Nat → Bool} {b n : Nat} (hb : b ≤ 6) (h1 : 1 ≤ n) (h6 : n ≤ 6) : Cir (hasC f b n (lowF n g)) b (pOf n (lowF n g)) (sOf n (lowF n g)) := by
  have k := key h1 h6 g
  generalize lowF n g = lot at k
  refine ⟨k.p1, k.p6, by omega, fun x hx => ?_, fun q h2 h3 => ?_, k.low⟩
  · unfold hasC
    rw [if_neg (by omega), k.eq]
  · obtain ⟨j, j1, j2, j3⟩ := k.mis q h2 h3
    refine ⟨j, j1, j2, ?_⟩
    unfold hasC
    rw [if_neg (by omega), if_neg (by omega), ← k.eq, ← k.eq]
    exact j3
/-- the least start -/
def startOf (F : Nat → Bool) (p : Nat) (S : List Nat) (b : Nat) : Nat := desc (fun x => F x == S.contains (x % p)) b
section
variable {F : Nat → Bool} {b0 p : Nat} {S : List Nat}
theorem startOf_le : startOf F p S b0 ≤ b0 := desc_le _ _
theorem Cir.from (C : Cir F b0 p S) (x : Nat) (h : startOf F p S b0 ≤ x) : F x = S.contains (x % p) := by
  by_cases q : x < b0
  · exact eq_of_beq (desc_all _ _ x h q)
  · exact C.per x (by omega)
theorem Cir.stop (C : Cir F b0 p S) : startOf F p S b0 = 0 ∨ F (startOf F p S b0 - 1) ≠ S.contains ((startOf F p S b0 - 1) % p) := by
  rcases desc_stop (fun x => F x == S.contains (x % p)) b0 with z | z
  · exact .inl z
  · exact .inr fun e => by
      have y : (F (startOf F p S b0 - 1) == S.contains ((startOf F p S b0 - 1) % p)) = false := z
      rw [e, beq_self_eq_true] at y
      cases y
/-- told with more early ones, the least start is the same -/
theorem Cir.more (C : Cir F b0 p S) {b1 : Nat} (h : b0 ≤ b1) : startOf F p S b1 = startOf F p S b0 := by
  refine desc_eq (Nat.le_trans startOf_le h) (fun x hx _ => ?_) ?_
  · rw [C.from x hx]
    exact beq_self_eq_true _
  · rcases C.stop with z | z
    · exact .inl z
    · exact .inr (by simpa using z)
/-- what the law finds of the flags: with the least base the least start -/
theorem Cir.found (C : Cir F b0 p S) : desc (fun x => F x == F (x + p)) (66 - p) = startOf F p S b0 := by
  have a := @startOf_le F b0 p S
  have p1 := C.p1
  have p6 := C.p6
  have b9 := C.b9
  refine desc_eq (by omega) (fun x hx _ => ?_) ?_
  · rw [C.from x hx, C.from (x + p) (by omega), Nat.add_mod_right]
    exact beq_self_eq_true _
  · rcases C.stop with z | z
    · exact .inl z
    · by_cases z0 : startOf F p S b0 = 0
      · exact .inl z0
      refine .inr ?_
      show (F (startOf F p S b0 - 1) == F (startOf F p S b0 - 1 + p)) = false
      rw [C.from (startOf F p S b0 - 1 + p) (by omega), Nat.add_mod_right]
      simpa using z
/-- with a smaller base no start -/
theorem Cir.not (C : Cir F b0 p S) {q : Nat} (h1 : 1 ≤ q) (h2 : q < p) : 22 < desc (fun x => F x == F (x + q)) (66 - q) := by
  obtain ⟨j, j1, j2, j3⟩ := C.mis q h1 h2
  have p6 := C.p6
  refine Nat.lt_of_not_le fun l => j3 ?_
  exact eq_of_beq (desc_all (fun x => F x == F (x + q)) (66 - q) j (by omega) (by omega))
theorem Cir.start22 (C : Cir F b0 p S) : startOf F p S b0 ≤ 22 := by
  have a := @startOf_le F b0 p S
  have b9 := C.b9
  omega
/-- its least form holds the same numbers -/
theorem Cir.has (C : Cir F b0 p S) (x : Nat) : (if x < startOf F p S b0 then (lowF (startOf F p S b0) F).contains x else S.contains (x % p)) = F x := by
  split
  · rename_i l
    rw [has_lowF, decide_eq_true l, Bool.true_and]
  · rename_i l
    rw [C.from x (by omega)]
theorem turn_perm : ∀ s, s ≤ 9 → ∀ p, p ≤ 6 → ((List.range' s p).map (· % p)).Perm (List.range p) := by
  have h : ∀ s, s < 10 → ∀ p, p < 7 → ((List.range' s p).map (· % p)).isPerm (List.range p) = true := by decide +kernel
  exact fun s hs p hp => List.isPerm_iff.mp (h s (by omega) p (by omega))
/-- the rests that the law finds, before they are sorted -/
def lotFrom (F : Nat → Bool) (s p : Nat) : List Nat := ((List.range' s p).filter F).map (· % p)
theorem Cir.lot (C : Cir F b0 p S) : (lotFrom F (startOf F p S b0) p).Perm S := by
  have a := @startOf_le F b0 p S
  have b9 := C.b9
  have e : lotFrom F (startOf F p S b0) p = ((List.range' (startOf F p S b0) p).map (· % p)).filter fun x => S.contains x := by
    unfold lotFrom
    rw [List.filter_map]
    congr 1
    refine List.filter_congr fun x hx => ?_
    have l := (List.mem_range'_1.mp hx).1
    rw [C.from x l]
    rfl
  rw [e]
  have q := (turn_perm (startOf F p S b0) (by omega) p C.p6).filter fun x => S.contains x
  have l := C.low
  unfold lowF at l
  rw [← l] at q
  exact q
end
/-! sorted lists -/
theorem sorted_eq {l m : List Int} (h : l.Perm m) (hl : l.Pairwise (· ≤ ·)) (hm : m.Pairwise (· ≤ ·)) : l = m := by
  induction l generalizing m with
  | nil => exact h.nil_eq
  | cons a l ih =>
    cases m with
    | nil => exact absurd h.symm.nil_eq (by simp)
    | cons b m =>
      rw [List.pairwise_cons] at hl hm
      have e : a = b := by
        have h1 := h.subset (List.mem_cons_self ..)
        have h2 := h.symm.subset (List.mem_cons_self ..)
        rcases List.mem_cons.mp h1 with z | z
        · exact z
        · rcases List.mem_cons.mp h2 with y | y
          · exact y.symm
          · exact Int.le_antisymm (hl.1 _ y) (hm.1 _ z)
      subst e
      rw [ih h.cons_inv hl.2 hm.2]
end K66

/-! the text by places -/
namespace K66
open PySem L2
def top (i : Nat) : Stmt := PySem.Challenge.pw_restworld_k66_whole_circles_made_and_sho.main.body.getD i (.Pass ⟨0, 0, 0, 0⟩)
abbrev sIsInt : Stmt := top 6
abbrev sBetw : Stmt := top 7
abbrev sCheck : Stmt := top 8
abbrev sApart : Stmt := top 9
abbrev sRise : Stmt := top 12
abbrev sBase : Stmt := top 13
abbrev sForm : Stmt := top 14
abbrev sInit : Stmt := inClass (top 15) 0
abbrev sPE : Stmt := inClass (top 15) 1
abbrev sPS : Stmt := inClass (top 15) 2
abbrev sPB : Stmt := inClass (top 15) 3
abbrev sPR : Stmt := inClass (top 15) 4
abbrev sCont : Stmt := inClass (top 15) 5
abbrev sEq : Stmt := inClass (top 15) 6
abbrev sRepr : Stmt := inClass (top 15) 7
abbrev sHas : Stmt := top 16
abbrev sKeg : Stmt := top 18
abbrev sTap : Stmt := top 19
abbrev sAny : Stmt := top 20
abbrev sSet : Stmt := top 21
abbrev sLHas : Stmt := top 22
abbrev sFlags : Stmt := top 23
abbrev sLForm : Stmt := top 24
abbrev sShown : Stmt := top 25
abbrev sCirc : Stmt := top 26
abbrev sAgain : Stmt := top 27
abbrev sShows : Stmt := top 28
abbrev sRight : Stmt := top 29
abbrev sLaw : Stmt := top 30
theorem scIsInt : FnScope ["value"] ["value"] (defScope sIsInt) := ⟨rfl, rfl, rfl, by decide +kernel, rfl, by decide +kernel, by decide +kernel⟩
theorem scBetw : FnScope ["value", "least", "most"] ["value", "least", "most"] (defScope sBetw) := ⟨rfl, rfl, rfl, by decide +kernel, rfl, by decide +kernel, by decide +kernel⟩
theorem scCheck : FnScope ["value", "least", "most"] ["value", "least", "most"] (defScope sCheck) := ⟨rfl, rfl, rfl, by decide +kernel, rfl, by decide +kernel, by decide +kernel⟩
theorem scApart : FnScope ["number", "found", "step", "often"] ["number"] (defScope sApart) := ⟨rfl, rfl, rfl, by decide +kernel, rfl, by decide +kernel, by decide +kernel⟩
theorem scRise : FnScope ["value", "most", "index", "number"] ["value", "most"] (defScope sRise) := ⟨rfl, rfl, rfl, by decide +kernel, rfl, by decide +kernel, by decide +kernel⟩
theorem scBase : FnScope ["base", "rests", "known", "prime", "often", "turn", "less", "rest"] ["base", "rests"] (defScope sBase) := ⟨rfl, rfl, rfl, by decide +kernel, rfl, by decide +kernel, by decide +kernel⟩
theorem scForm : FnScope ["early", "start", "base", "rests", "known", "inside"] ["early", "start", "base", "rests"] (defScope sForm) := ⟨rfl, rfl, rfl, by decide +kernel, rfl, by decide +kernel, by decide +kernel⟩
theorem scInit : FnScope ["self", "early", "start", "base", "rests", "fault"] ["self", "early", "start", "base", "rests"] (defScope sInit) := ⟨rfl, rfl, rfl, by decide +kernel, rfl, by decide +kernel, by decide +kernel⟩
theorem scPE : FnScope ["self"] ["self"] (defScope sPE) := ⟨rfl, rfl, rfl, by decide +kernel, rfl, by decide +kernel, by decide +kernel⟩
theorem scPS : FnScope ["self"] ["self"] (defScope sPS) := ⟨rfl, rfl, rfl, by decide +kernel, rfl, by decide +kernel, by decide +kernel⟩
theorem scPB : FnScope ["self"] ["self"] (defScope sPB) := ⟨rfl, rfl, rfl, by decide +kernel, rfl, by decide +kernel, by decide +kernel⟩
theorem scPR : FnScope ["self"] ["self"] (defScope sPR) := ⟨rfl, rfl, rfl, by decide +kernel, rfl, by decide +kernel, by decide +kernel⟩
theorem scCont : FnScope ["self", "value"] ["self", "value"] (defScope sCont) := ⟨rfl, rfl, rfl, by decide +kernel, rfl, by decide +kernel, by decide +kernel⟩
theorem scEq : FnScope ["self", "other"] ["self", "other"] (defScope sEq) := ⟨rfl, rfl, rfl, by decide +kernel, rfl, by decide +kernel, by decide +kernel⟩
theorem scRepr : FnScope ["self"] ["self"] (defScope sRepr) := ⟨rfl, rfl, rfl, by decide +kernel, rfl, by decide +kernel, by decide +kernel⟩
theorem scHas : FnScope ["form", "number"] ["form", "number"] (defScope sHas) := ⟨rfl, rfl, rfl, by decide +kernel, rfl, by decide +kernel, by decide +kernel⟩
theorem scKeg : FnScope ["_law_cells", "_law_at", "_law_own", "_law_blend", "_law_k"] ["_law_cells", "_law_at"] (defScope sKeg) := ⟨rfl, rfl, rfl, by decide +kernel, rfl, by decide +kernel, by decide +kernel⟩
theorem scTap : FnScope ["_law_keg_here", "_law_upto", "_law_figure", "_law_blend"] ["_law_keg_here", "_law_upto"] (defScope sTap) := ⟨rfl, rfl, rfl, by decide +kernel, rfl, by decide +kernel, by decide +kernel⟩
theorem scAny : FnScope ["_law_keg_here", "_law_things"] ["_law_keg_here", "_law_things"] (defScope sAny) := ⟨rfl, rfl, rfl, by decide +kernel, rfl, by decide +kernel, by decide +kernel⟩
theorem scSet : FnScope ["_law_keg_here", "_law_most", "_law_begin", "_law_n", "_law_lows", "_law_lot", "_law_x", "_law_r"] ["_law_keg_here", "_law_most"] (defScope sSet) := ⟨rfl, rfl, rfl, by decide +kernel, rfl, by decide +kernel, by decide +kernel⟩
theorem scLHas : FnScope ["_law_c", "_law_x"] ["_law_c", "_law_x"] (defScope sLHas) := ⟨rfl, rfl, rfl, by decide +kernel, rfl, by decide +kernel, by decide +kernel⟩
theorem scFlags : FnScope ["_law_c", "_law_wide", "_law_x"] ["_law_c", "_law_wide"] (defScope sFlags) := ⟨rfl, rfl, rfl, by decide +kernel, rfl, by decide +kernel, by decide +kernel⟩
theorem scLForm : FnScope ["_law_flags_here", "_law_wide", "_law_p", "_law_begin", "_law_lot", "_law_x"] ["_law_flags_here"] (defScope sLForm) := ⟨rfl, rfl, rfl, by decide +kernel, rfl, by decide +kernel, by decide +kernel⟩
theorem scShown : FnScope ["_law_circle_here"] ["_law_circle_here"] (defScope sShown) := ⟨rfl, rfl, rfl, by decide +kernel, rfl, by decide +kernel, by decide +kernel⟩
theorem scCirc : FnScope ["_law_c"] ["_law_c"] (defScope sCirc) := ⟨rfl, rfl, rfl, by decide +kernel, rfl, by decide +kernel, by decide +kernel⟩
theorem scAgain : FnScope ["_law_keg_here", "_law_c", "_law_lows", "_law_begin", "_law_n", "_law_lot", "_law_more", "_law_wide", "_law_x", "_law_r"] ["_law_keg_here", "_law_c"] (defScope sAgain) := ⟨rfl, rfl, rfl, by decide +kernel, rfl, by decide +kernel, by decide +kernel⟩
theorem scShows : FnScope ["_law_mine", "_law_c", "_law_flags_here", "_law_due", "_law_far", "_law_x", "_law_thing"] ["_law_mine", "_law_c"] (defScope sShows) := ⟨rfl, rfl, rfl, by decide +kernel, rfl, by decide +kernel, by decide +kernel⟩
theorem scRight : FnScope ["_law_keg_here", "_law_before", "_law_old", "_law_turn", "_law_c", "_law_d", "_law_mine", "_law_mate", "_law_due"] ["_law_keg_here"] (defScope sRight) := ⟨rfl, rfl, rfl, by decide +kernel, rfl, by decide +kernel, by decide +kernel⟩
theorem scLaw : FnScope ["_law_cells", "_law_at"] ["_law_cells"] (defScope sLaw) := ⟨rfl, rfl, rfl, by decide +kernel, rfl, by decide +kernel, by decide +kernel⟩
end K66

namespace K66
open PySem L2
/-- what the top leaves besides the defs -/
structure Txt (K : PySem.W.Frag) (mg : Str → Option Value) (C : Addr) : Prop where
  cl : Cls K C
  nF : NoAttr K C "form"
  mgC : mg "Circle" = some (.ref C)
  ca : PySem.W.findIn K (.ref C) "__class__" = some (some (.builtin "object.__class__"))
  cn : PySem.W.specialIn K (.builtin "object.__class__") "__get__" = some (some (.builtin "getset_descriptor.__get__"))
  ct : PySem.W.takesIn K (.builtin "object.__class__") = some true
  cm : PySem.W.mroIn K C (.type "object") = some true
  isi : mg "isinstance" = none
  int : mg "int" = none
  bool : mg "bool" = none
  tuple : mg "tuple" = none
  len : mg "len" = none
  enum : mg "enumerate" = none
  dict : mg "dict" = none
  all : mg "all" = none
  range : mg "range" = none
  list : mg "list" = none
  sorted : mg "sorted" = none
  min : mg "min" = none
  max : mg "max" = none
  abs : mg "abs" = none
  divmod : mg "divmod" = none
  repr : mg "repr" = none
  str : mg "str" = none
  most : ∃ t, mg "MOST_CIRCLE" = some (.int 20000 t)
/-- a def of the top and how it is called -/
structure Df (K : PySem.W.Frag) (mg : Str → Option Value) (x : Str) (st : Stmt) (f : Addr) (fd : FuncData) (ps : List Str) : Prop where
  F : Fun K x x st f fd
  m : mg x = some (.ref f)
  b : Binds K fd ps []
/-- the kinds that is_integer is asked of -/
def kinds : List String := ["int", "bool", "NoneType", "str", "tuple", "list", "dict"]
def spIsInt (K : PySem.W.Frag) : Sp := fun vs H Q _ => ∃ v T, vs = [v] ∧ TyX K H v (.type T) ∧ T ∈ kinds ∧ Q (.bl (T == "int")) H
def spBetw : Sp := fun vs H Q _ => ∃ i j k : Int, vs = [.int i, .int j, .int k] ∧ Q (.bl (decide (j ≤ i) && decide (i ≤ k))) H
def spCheck : Sp := fun vs H Q _ => ∃ i j k : Int, vs = [.int i, .int j, .int k] ∧ j ≤ i ∧ i ≤ k ∧ Q .non H
theorem iteB {b : Bool} {A B : Prop} (hT : b = true → A) (hF : b = false → B) : if b = true then A else B := by
  cases b
  · exact iteF (hF rfl)
  · exact iteT (hT rfl)
section
variable {P : Program} {w : World} {K : PySem.W.Frag} {mg : Str → Option Value} {base : Heap} {C : Addr}
theorem ok_isInt {f : Addr} {fd : FuncData} (D : Df K mg "is_integer" sIsInt f fd ["value"]) (T : Txt K mg C) : FnOk P w K mg base CX0 1 f fd ["value"] (spIsInt K) := by
  refine D.F.ok scIsInt (fun vs H Q E h => ?_) (fun cdv A outer s H vs Q E hr h => ?_)
  · obtain ⟨v, t, rfl, _⟩ := h
    rfl
  · obtain ⟨v, t, rfl, ty, ht, k⟩ := h
    refine ⟨_, pss_one (ps_ret (pe_and
      (pe_callB call_isi (by rfl) T.isi (by decide +kernel) (pa_cons (pv 0) (pa_cons (pe_bltn (v := .ty "int") (by rfl) T.int (by decide +kernel) rfl) pa_nil)))
      (pe_one (pe_not (pe_callB call_isi (by rfl) T.isi (by decide +kernel) (pa_cons (pv 0) (pa_cons (pe_bltn (v := .ty "bool") (by rfl) T.bool (by decide +kernel) rfl) pa_nil))))))), ?_⟩
    obtain ⟨b1, b2, e1, e2, e3⟩ : ∃ b1 b2 : Bool, PySem.W.kitOne K (.type t) (.type "int") = some b1 ∧ PySem.W.kitOne K (.type t) (.type "bool") = some b2 ∧ (t == "int") = (b1 && !b2) := by
      unfold kinds at ht
      rcases (by simpa using ht : t = "int" ∨ t = "bool" ∨ t = "NoneType" ∨ t = "str" ∨ t = "tuple" ∨ t = "list" ∨ t = "dict") with rfl | rfl | rfl | rfl | rfl | rfl | rfl
      · exact ⟨true, false, kit_ty (by decide +kernel), kit_ty (by decide +kernel), by decide +kernel⟩
      · exact ⟨true, true, kit_ty (by decide +kernel), kit_ty (by decide +kernel), by decide +kernel⟩
      · exact ⟨false, false, kit_ty (by decide +kernel), kit_ty (by decide +kernel), by decide +kernel⟩
      · exact ⟨false, false, kit_ty (by decide +kernel), kit_ty (by decide +kernel), by decide +kernel⟩
      · exact ⟨false, false, kit_ty (by decide +kernel), kit_ty (by decide +kernel), by decide +kernel⟩
      · exact ⟨false, false, kit_ty (by decide +kernel), kit_ty (by decide +kernel), by decide +kernel⟩
      · exact ⟨false, false, kit_ty (by decide +kernel), kit_ty (by decide +kernel), by decide +kernel⟩
    rw [e3] at k
    refine ⟨_, rfl, v, _, _, _, b1, rfl, .ty "int", ty, e1, b1, rfl, iteB (fun e => ?_) (fun e => ?_)⟩
    · subst e
      exact ⟨_, rfl, v, _, _, _, b2, rfl, .ty "bool", ty, e2, b2, rfl, k⟩
    · subst e
      exact k
theorem ok_betw {f fI : Addr} {fd fdI : FuncData} (D : Df K mg "is_between" sBetw f fd ["value", "least", "most"]) (DI : Df K mg "is_integer" sIsInt fI fdI ["value"]) (T : Txt K mg C) : FnOk P w K mg base CX0 2 f fd ["value", "least", "most"] spBetw := by
  have GI : FnOk P w K mg base CX0 1 fI fdI ["value"] (spIsInt K) := ok_isInt DI T
  refine D.F.ok scBetw (fun vs H Q E h => ?_) (fun cdv A outer s H vs Q E hr h => ?_)
  · obtain ⟨i, j, k, rfl, _⟩ := h
    rfl
  · obtain ⟨i, j, k, rfl, q⟩ := h
    refine ⟨_, pss_one (ps_ret (pe_and (pe_call GI hr rfl DI.m DI.F.kp DI.b .nil pass0 (pa_cons (pv 0) pa_nil)) (pe_one (pe_chain op_le op_le (pv 1) (pv 0) (pv 2))))), ?_⟩
    refine ⟨_, rfl, .int i, "int", rfl, .base (.int i), by unfold kinds; simp, true, rfl, ?_⟩
    refine iteT ⟨_, rfl, _, rfl, _, _, rfl, rfl, _, rfl, iteB (fun e => ?_) (fun e => ?_)⟩
    · refine ⟨_, rfl, _, _, rfl, rfl, ?_⟩
      rw [e, Bool.true_and] at q
      exact q
    · rw [e, Bool.false_and] at q
      exact q
theorem ok_check {f fB fI : Addr} {fd fdB fdI : FuncData} (D : Df K mg "check_between" sCheck f fd ["value", "least", "most"]) (DB : Df K mg "is_between" sBetw fB fdB ["value", "least", "most"]) (DI : Df K mg "is_integer" sIsInt fI fdI ["value"]) (T : Txt K mg C) :
    FnOk P w K mg base CX0 3 f fd ["value", "least", "most"] spCheck := by
  have GB : FnOk P w K mg base CX0 2 fB fdB ["value", "least", "most"] spBetw := ok_betw DB DI T
  refine D.F.ok scCheck (fun vs H Q E h => ?_) (fun cdv A outer s H vs Q E hr h => ?_)
  · obtain ⟨i, j, k, rfl, _⟩ := h
    rfl
  · obtain ⟨i, j, k, rfl, h1, h2, q⟩ := h
    refine ⟨_, pss_one (ps_if (pt_not (pt_val (pe_call GB hr rfl DB.m DB.F.kp DB.b .nil pass0 (pa_cons (pv 0) (pa_cons (pv 1) (pa_cons (pv 2) pa_nil)))))) (pss_one ps_never) pss_nil), ?_⟩
    refine ⟨_, rfl, _, rfl, _, rfl, i, j, k, rfl, _, rfl, ?_⟩
    rw [decide_eq_true h1, decide_eq_true h2]
    exact iteF q
end
end K66

namespace K66
open PySem L2
/-- numbers as values -/
def nums (l : List Nat) : List V := l.map fun n => V.int (n : Nat)
theorem nums_len (l : List Nat) : (nums l).length = l.length := List.length_map ..
theorem nums_at {l : List Nat} {i : Nat} {x : V} (h : (nums l)[i]? = some x) : ∃ n : Nat, l[i]? = some n ∧ x = .int (n : Nat) := by
  unfold nums at h
  rw [List.getElem?_map] at h
  cases e : l[i]? with
  | none =>
    rw [e] at h
    cases h
  | some n =>
    rw [e] at h
    exact ⟨n, rfl, (Option.some.inj h).symm⟩
theorem nums_get {l : List Nat} {i n : Nat} (h : l[i]? = some n) : (nums l)[i]? = some (.int (n : Nat)) := by
  unfold nums
  rw [List.getElem?_map, h]
  rfl
theorem same_put {H H1 : Hp} (s : Same H H1) {p : Addr} (hp : H p = none) (o : HO) : Same H (upd H1 p o) := fun b u e => by
  rw [upd_ne (fun q => by rw [q, hp] at e; cases e)]
  exact s b u e
theorem same_new {H H1 : Hp} (s : Same H H1) {p : Addr} (hp : H1 p = none) (o : HO) : Same H (upd H1 p o) := same_put s (s.free hp) o
theorem prev_lt {l : List Nat} (hl : l.Pairwise (· < ·)) {j n : Nat} (hn : l[j + 1]? = some n) : ∃ k, l[j]? = some k ∧ k < n := by
  obtain ⟨h1, h2⟩ := List.getElem?_eq_some_iff.mp hn
  exact ⟨l[j], List.getElem?_eq_getElem (by omega), by rw [← h2]; exact List.pairwise_iff_getElem.mp hl j (j + 1) (by omega) h1 (by omega)⟩
def spRise : Sp := fun vs H Q _ => ∃ (a : Addr) (m : V) (l : List Nat), vs = [.ref a, m] ∧ H a = some (.tup (nums l)) ∧ l.Pairwise (· < ·) ∧ (m = .non ∨ ∃ b : Int, m = .int b ∧ ∀ x ∈ l, (x : Int) ≤ b) ∧ ∀ H', Same H H' → Q (.int (-1)) H'
section
variable {P : Program} {w : World} {K : PySem.W.Frag} {mg : Str → Option Value} {base : Heap} {C : Addr}
theorem ok_rise {f fI : Addr} {fd fdI : FuncData} (D : Df K mg "rising_fault" sRise f fd ["value", "most"]) (DI : Df K mg "is_integer" sIsInt fI fdI ["value"]) (T : Txt K mg C) : FnOk P w K mg base CX0 2 f fd ["value", "most"] spRise := by
  have GI : FnOk P w K mg base CX0 1 fI fdI ["value"] (spIsInt K) := ok_isInt DI T
  refine D.F.ok scRise (fun vs H Q E h => ?_) (fun cdv A outer s H vs Q E hr h => ?_)
  · obtain ⟨a, m, l, rfl, _⟩ := h
    rfl
  · obtain ⟨a, m, l, rfl, ha, hl, hm, q⟩ := h
    refine ⟨_, pss_cons (ps_if (pt_not (pt_val (pe_callB call_isi (by rfl) T.isi (by decide +kernel) (pa_cons (pv 0) (pa_cons (pe_bltn (v := .ty "tuple") (by rfl) T.tuple (by decide +kernel) rfl) pa_nil))))) (pss_one ps_never) pss_nil)
      (pss_cons (ps_for PassesOwn.never rfl (k66_pi_enum (by rfl) T.enum (pa_cons (pv 0) pa_nil)) (pg_tup rfl (pgs_cons (pg_name (i := 2) scRise.nd rfl (Or.inl rfl)) (pgs_cons (pg_name (i := 3) scRise.nd rfl (Or.inl rfl)) pgs_nil)))
        (pss_cons (ps_if (PW.pt (pw_or (pt_not (pt_val (pe_call GI hr rfl DI.m DI.F.kp DI.b .nil pass0 (pa_cons (pv 3) pa_nil)))) (pw_or (pt_cmpR op_lt (pv 3) pe_int (nomark _))
            (pw_or1 (PW.pt (pw_and (pt_cmpR op_notN (pv 1) pe_non (nomark _)) (pw_and1 (pt_cmpR op_gt (pv 3) (pv 1) (nomark _)))))))))
            (pss_one ps_never) pss_nil)
        (pss_one (ps_if (PW.pt (pw_and (pt_cmpR op_gt (pv 2) pe_int (nomark _)) (pw_and1 (pt_cmpR op_le (pv 3) (pe_ix ix_tup (pv 0) (pe_op op_sub (pv 2) pe_int) (fun _ _ => rfl)) (nomark _)))))
            (pss_one ps_never) pss_nil))))
      (pss_one (ps_ret (pe_un un_neg pe_int)))), ?_⟩
    refine ⟨_, rfl, .ref a, _, _, _, true, rfl, .ty "tuple", .base (.tup ha), kit_ty (by decide +kernel), true, rfl, ?_⟩
    refine iteF ?_
    refine ⟨_, rfl, a, _, rfl, .of ha, ?_⟩
    refine for_it (k66_walk_enum (xs := nums l)) (fun i σ H' => (∃ u v, σ = [some (.ref a), some m, u, v]) ∧ Same H H') ⟨⟨_, _, rfl⟩, Same.refl H⟩ (fun i σ H' _ ⟨_, s⟩ => .of (s a _ ha)) ?_ ?_
    · rintro i x σ H1 H2 hi ⟨⟨u, v, rfl⟩, s1⟩ ⟨t, y, z, rfl, ht, rfl, hy, hz⟩
      cases hy
      obtain ⟨n, hn, rfl⟩ := nums_at hz
      have s2 : Same H (upd H1 t (.tup [.int (i : Nat), .int (n : Nat)])) := same_new s1 ht _
      refine ⟨t, _, rfl, .of upd_same, rfl, _, _, rfl, _, _, rfl, rfl, ?_⟩
      refine ⟨_, rfl, .int (n : Nat), "int", rfl, .base (.int _), by unfold kinds; simp, true, rfl, ?_⟩
      refine iteF ⟨_, rfl, _, _, rfl, rfl, _, rfl, ?_⟩
      rw [decide_eq_false (show ¬ ((n : Nat) : Int) < 0 by omega)]
      refine iteF ⟨_, rfl, rfl, _, rfl, ?_⟩
      have hnl : n ∈ l := List.mem_of_getElem? hn
      rcases hm with rfl | ⟨b, rfl, hb⟩
      · refine iteF ?_
        refine iteF ?_
        refine ⟨_, rfl, _, _, rfl, rfl, _, rfl, iteB (fun e => ?_) (fun e => ?_)⟩
        · obtain ⟨j, rfl⟩ : ∃ j, i = j + 1 := ⟨i - 1, by have := of_decide_eq_true e; omega⟩
          obtain ⟨k, hk, hkn⟩ := prev_lt hl hn
          refine ⟨_, rfl, _, rfl, _, rfl, _, _, rfl, rfl, a, _, _, _, rfl, rfl, .of (s2 a _ ha), (by rw [show ((j + 1 : Nat) : Int) - 1 = ((j : Nat) : Int) by omega]; exact atI_nat (nums_get hk)), _, _, rfl, rfl, _, rfl, ?_⟩
          rw [decide_eq_false (show ¬ ((n : Nat) : Int) ≤ ((k : Nat) : Int) by omega)]
          exact iteF ⟨⟨_, _, rfl⟩, s2⟩
        · exact iteF ⟨⟨_, _, rfl⟩, s2⟩
      · refine iteT ⟨_, rfl, _, rfl, _, _, rfl, rfl, _, rfl, ?_⟩
        rw [decide_eq_false (show ¬ b < ((n : Nat) : Int) by have := hb n hnl; omega)]
        refine iteF ?_
        refine ⟨_, rfl, _, _, rfl, rfl, _, rfl, iteB (fun e => ?_) (fun e => ?_)⟩
        · obtain ⟨j, rfl⟩ : ∃ j, i = j + 1 := ⟨i - 1, by have := of_decide_eq_true e; omega⟩
          obtain ⟨k, hk, hkn⟩ := prev_lt hl hn
          refine ⟨_, rfl, _, rfl, _, rfl, _, _, rfl, rfl, a, _, _, _, rfl, rfl, .of (s2 a _ ha), (by rw [show ((j + 1 : Nat) : Int) - 1 = ((j : Nat) : Int) by omega]; exact atI_nat (nums_get hk)), _, _, rfl, rfl, _, rfl, ?_⟩
          rw [decide_eq_false (show ¬ ((n : Nat) : Int) ≤ ((k : Nat) : Int) by omega)]
          exact iteF ⟨⟨_, _, rfl⟩, s2⟩
        · exact iteF ⟨⟨_, _, rfl⟩, s2⟩
    · rintro σ H1 ⟨_, s1⟩
      exact ⟨_, rfl, q _ s1⟩
/-- pairs of numbers at addresses -/
def PairsAt (H : Hp) : List Addr → List (Nat × Nat) → Prop
  | [], [] => True
  | r :: rs, q :: qs => H r = some (.tup [.int (q.1 : Nat), .int (q.2 : Nat)]) ∧ PairsAt H rs qs
  | _, _ => False
theorem PairsAt.same {H H1 : Hp} (s : Same H H1) : ∀ {rs : List Addr} {qs : List (Nat × Nat)}, PairsAt H rs qs → PairsAt H1 rs qs
  | [], [], _ => True.intro
  | _ :: _, _ :: _, ⟨a, b⟩ => ⟨s _ _ a, b.same s⟩
theorem PairsAt.put {H : Hp} {p : Addr} {xs ys : List V} (hp : H p = some (.lst xs)) : ∀ {rs : List Addr} {qs : List (Nat × Nat)}, PairsAt H rs qs → PairsAt (upd H p (.lst ys)) rs qs
  | [], [], _ => True.intro
  | _ :: _, _ :: _, ⟨a, b⟩ => ⟨by rw [upd_ne (ne_of a hp (by intro z; cases z))]; exact a, b.put hp⟩
theorem PairsAt.snoc {H : Hp} {r : Addr} {x : Nat × Nat} (h : H r = some (.tup [.int (x.1 : Nat), .int (x.2 : Nat)])) : ∀ {rs : List Addr} {qs : List (Nat × Nat)}, PairsAt H rs qs → PairsAt H (rs ++ [r]) (qs ++ [x])
  | [], [], _ => ⟨h, True.intro⟩
  | _ :: _, _ :: _, ⟨a, b⟩ => ⟨a, b.snoc h⟩
theorem PairsAt.len {H : Hp} : ∀ {rs : List Addr} {qs : List (Nat × Nat)}, PairsAt H rs qs → rs.length = qs.length
  | [], [], _ => rfl
  | _ :: _, _ :: _, ⟨_, b⟩ => congrArg (· + 1) b.len
theorem PairsAt.get {H : Hp} : ∀ {rs : List Addr} {qs : List (Nat × Nat)} {i : Nat} {r : Addr}, PairsAt H rs qs → rs[i]? = some r → ∃ q, qs[i]? = some q ∧ H r = some (.tup [.int (q.1 : Nat), .int (q.2 : Nat)])
  | _ :: _, q :: _, 0, _, ⟨a, _⟩, h => ⟨q, rfl, by cases h; exact a⟩
  | _ :: _, _ :: _, i + 1, _, ⟨_, b⟩, h => b.get (i := i) h
/-- the list of pairs at p -/
def FoundAt (H : Hp) (p : Addr) (qs : List (Nat × Nat)) : Prop := ∃ rs : List Addr, H p = some (.lst (rs.map V.ref)) ∧ PairsAt H rs qs
def spApart : Sp := fun vs H Q _ => ∃ n : Nat, vs = [.int (n : Nat)] ∧ 1 ≤ n ∧ n ≤ 18 ∧ ∀ (H' : Hp) (t : Addr) (rs : List Addr), Same H H' → H' t = some (.tup (rs.map V.ref)) → PairsAt H' rs (apartM n) → Q (.ref t) H'
theorem innerM_le {step : Nat} (hs : 2 ≤ step) : ∀ {k n o a b}, innerM step k n o = some (a, b) → a ≤ n
  | 0, n, o, a, b, h => by cases h
  | k + 1, n, o, a, b, h => by
    unfold innerM at h
    split at h
    · exact Nat.le_trans (innerM_le hs h) (Nat.div_le_self _ _)
    · cases h
      exact Nat.le_refl _
theorem ok_apart {f : Addr} {fd : FuncData} (D : Df K mg "apart_of" sApart f fd ["number"]) (T : Txt K mg C) : FnOk P w K mg base CX0 1 f fd ["number"] spApart := by
  refine D.F.ok scApart (fun vs H Q E h => ?_) (fun cdv A outer s H vs Q E hr h => ?_)
  · obtain ⟨n, rfl, _⟩ := h
    rfl
  · obtain ⟨n, rfl, h1, h18, q⟩ := h
    refine ⟨_, pss_cons (ps_par (i := 1) (j := 2) (by rfl) scApart.nd rfl rfl (by decide) rfl rfl (pa_cons (pe_lst pa_nil) (pa_cons pe_int pa_nil)) (by rfl))
      (pss_cons (ps_while PassesOwn.never (pt_cmpR op_le (pe_op op_mul (pv 2) (pv 2)) (pv 0) (nomark _))
        (pss_cons (ps_set (i := 3) scApart.nd rfl (Or.inl rfl) pe_int)
        (pss_cons (ps_while PassesOwn.never (pt_cmpR op_eq (pe_op op_mod (pv 0) (pv 2)) pe_int (nomark _))
          (pss_one (ps_par (i := 0) (j := 3) (by rfl) scApart.nd rfl rfl (by decide) rfl rfl (pa_cons (pe_op op_fdiv (pv 0) (pv 2)) (pa_cons (pe_op op_add (pv 3) pe_int) pa_nil)) (by rfl))))
        (pss_cons (ps_if (pt_cmpR op_gt (pv 3) pe_int (nomark _))
          (pss_one (ps_expr (pe_bm PySem.F.plainAttrs_list PySem.F.slot_list_append PySem.F.type_list_append mt_append (pv 1) (pa_cons (pe_tup (pa_cons (pv 2) (pa_cons (pv 3) pa_nil))) pa_nil)))) pss_nil)
        (pss_one (ps_set (i := 2) scApart.nd rfl (Or.inl rfl) (pe_ifExp (pt_cmpR op_eq (pv 2) pe_int (nomark _)) (pe_op op_add (pv 2) pe_int) (pe_op op_add (pv 2) pe_int))))))))
      (pss_one (ps_ret (pe_ifExp (pt_cmpR op_gt (pv 0) pe_int (nomark _)) (pe_tup (StX.pa_star (pv 1) (pa_cons (pe_tup (pa_cons (pv 0) (pa_cons pe_int pa_nil))) pa_nil)))
        (pe_callTy call_tuple_of (by rfl) T.tuple (by decide +kernel) (pa_cons (pv 1) pa_nil)))))), ?_⟩
    refine ⟨Nat.zero_le _, fun p hp => ?_⟩
    refine ⟨_, _, rfl, ?_⟩
    obtain ⟨⟨m, fin⟩, hfin⟩ := Option.isSome_iff_exists.mp (apart_ok n h1 h18).1
    have hap : apartM n = lastFound m fin := by
      unfold apartM
      rw [hfin]
    rw [hap] at q
    refine ⟨fun k σ H' => ∃ (nu st : Nat) (found : List (Nat × Nat)) (o : Option V), σ = [some (.int (nu : Nat)), some (.ref p), some (.int (st : Nat)), o] ∧ Same H H' ∧ FoundAt H' p found ∧ outerM k nu st found = some (m, fin) ∧ nu ≤ 18 ∧ 2 ≤ st ∧ st ≤ 6 ∧ found.length + k ≤ 20,
      ⟨20, n, 2, [], none, rfl, same_new (Same.refl H) hp _, ⟨[], upd_same, True.intro⟩, hfin, h18, Nat.le_refl _, by decide, by decide⟩, ?_⟩
    rintro k σ H1 ⟨nu, st, found, o, rfl, s1, fo, ho, hn18, hs2, hs6, hfl⟩
    cases k with
    | zero => cases ho
    | succ k =>
      unfold outerM at ho
      refine ⟨_, rfl, _, rfl, _, _, rfl, rfl, .inl ⟨by omega, by omega⟩, _, rfl, _, _, rfl, rfl, _, rfl, iteB (fun e => ?_) (fun e => ?_)⟩
      · have hst : st * st ≤ nu := by
          have := of_decide_eq_true e
          rw [← Int.natCast_mul] at this
          omega
        have hs4 : st ≤ 4 := Nat.le_of_lt_succ (Nat.lt_of_not_le fun h => by
          have := Nat.mul_le_mul h h
          omega)
        rw [if_pos hst] at ho
        cases hI : innerM st 20 nu 0 with
        | none =>
          rw [hI] at ho
          cases ho
        | some r =>
          obtain ⟨n', o'⟩ := r
          rw [hI] at ho
          have hn' : n' ≤ 18 := Nat.le_trans (innerM_le hs2 hI) hn18
          refine ⟨_, fun σ' H' w => ⟨k, Nat.lt_succ_self _, w⟩, ?_⟩
          refine ⟨fun j σ H' => ∃ a b : Nat, σ = [some (.int (a : Nat)), some (.ref p), some (.int (st : Nat)), some (.int (b : Nat))] ∧ H' = H1 ∧ innerM st j a b = some (n', o'), ⟨20, nu, 0, rfl, rfl, hI⟩, ?_⟩
          rintro j σ H2 ⟨a, b, rfl, eH, hj⟩
          have eH' := eH.symm
          subst eH'
          cases j with
          | zero => cases hj
          | succ j =>
            unfold innerM at hj
            refine ⟨_, rfl, _, rfl, _, _, rfl, rfl, (by show (0 : Int) < (st : Nat); omega), rfl, _, rfl, iteB (fun e1 => ?_) (fun e1 => ?_)⟩
            · have hz : a % st = 0 := by
                have := of_decide_eq_true e1
                injection this with this
                rw [← Int.natCast_emod] at this
                omega
              rw [if_pos hz] at hj
              refine ⟨_, fun σ' H' w => ⟨j, Nat.lt_succ_self _, w⟩, ?_⟩
              refine ⟨_, rfl, _, rfl, _, _, rfl, rfl, ⟨by show (0 : Int) < (st : Nat); omega, by show ((st : Nat) : Int) < 1073741824; omega⟩, _, rfl, _, _, rfl, rfl, _, _, rfl, ?_⟩
              refine ⟨a / st, b + 1, ?_, rfl, hj⟩
              rw [Int.natCast_ediv, Int.natCast_succ]
              rfl
            · have hz : ¬ a % st = 0 := fun z => by
                have y : ¬ V.int (((a : Nat) : Int) % ((st : Nat) : Int)) = V.int 0 := of_decide_eq_false e1
                rw [← Int.natCast_emod, z] at y
                exact y rfl
              rw [if_neg hz] at hj
              cases hj
              refine ⟨_, rfl, _, _, rfl, rfl, _, rfl, iteB (fun e2 => ?_) (fun e2 => ?_)⟩
              · have ho' : 0 < o' := by
                  have := of_decide_eq_true e2
                  omega
                have ef : addFound found st o' = found ++ [(st, o')] := if_pos ho'
                obtain ⟨rs, hL, hP⟩ := fo
                refine ⟨_, rfl, .inl ⟨rfl, _, .of hL⟩, _, rfl, _, rfl, (by show 2 ≤ sizeLine; decide), fun t ht => ?_⟩
                have ntp : t ≠ p := fun z => by
                  rw [z, hL] at ht
                  cases ht
                have hL' : upd H1 t (.tup [.int (st : Nat), .int (o' : Nat)]) p = some (.lst (rs.map V.ref)) := by
                  rw [upd_ne ntp.symm]
                  exact hL
                refine ⟨p, _, _, rfl, rfl, hL', ?_, ?_⟩
                · rw [List.length_map, hP.len]
                  exact Nat.lt_of_le_of_lt (show found.length ≤ 30 by omega) (by decide)
                have hl3 : (addFound found st o').length + k ≤ 20 := by
                  rw [ef, List.length_append, List.length_singleton]
                  omega
                have f3 : FoundAt (upd (upd H1 t (.tup [.int (st : Nat), .int (o' : Nat)])) p (.lst (rs.map V.ref ++ [V.ref t]))) p (addFound found st o') := by
                  refine ⟨rs ++ [t], ?_, ?_⟩
                  · rw [upd_same, List.map_append]
                    rfl
                  · rw [ef]
                    exact .snoc (by rw [upd_ne ntp, upd_same]) (.put hL' (hP.same (same_new (Same.refl _) ht _)))
                have s3 := same_put (same_new s1 ht (.tup [.int (st : Nat), .int (o' : Nat)])) hp (.lst (rs.map V.ref ++ [V.ref t]))
                refine ⟨_, rfl, rfl, _, rfl, iteB (fun e3 => ?_) (fun e3 => ?_)⟩
                · have h2 : st = 2 := by
                    have := of_decide_eq_true e3
                    injection this with this
                    omega
                  refine ⟨_, rfl, _, _, rfl, rfl, n', nextStep st, _, some (.int (o' : Nat)), ?_, s3, f3, ho, hn', ?_, ?_, hl3⟩
                  · rw [show nextStep st = st + 1 from if_pos h2]
                    rfl
                  · rw [show nextStep st = st + 1 from if_pos h2]
                    omega
                  · rw [show nextStep st = st + 1 from if_pos h2]
                    omega
                · have h2 : ¬ st = 2 := fun z => of_decide_eq_false e3 (by rw [z]; rfl)
                  refine ⟨_, rfl, _, _, rfl, rfl, n', nextStep st, _, some (.int (o' : Nat)), ?_, s3, f3, ho, hn', ?_, ?_, hl3⟩
                  · rw [show nextStep st = st + 2 from if_neg h2]
                    rfl
                  · rw [show nextStep st = st + 2 from if_neg h2]
                    omega
                  · rw [show nextStep st = st + 2 from if_neg h2]
                    omega
              · have ho' : ¬ 0 < o' := by
                  have := of_decide_eq_false e2
                  omega
                have ef : addFound found st o' = found := if_neg ho'
                have hl3 : (addFound found st o').length + k ≤ 20 := by
                  rw [ef]
                  omega
                have f3 : FoundAt H1 p (addFound found st o') := by
                  rw [ef]
                  exact fo
                have s3 := s1
                refine ⟨_, rfl, rfl, _, rfl, iteB (fun e3 => ?_) (fun e3 => ?_)⟩
                · have h2 : st = 2 := by
                    have := of_decide_eq_true e3
                    injection this with this
                    omega
                  refine ⟨_, rfl, _, _, rfl, rfl, n', nextStep st, _, some (.int (o' : Nat)), ?_, s3, f3, ho, hn', ?_, ?_, hl3⟩
                  · rw [show nextStep st = st + 1 from if_pos h2]
                    rfl
                  · rw [show nextStep st = st + 1 from if_pos h2]
                    omega
                  · rw [show nextStep st = st + 1 from if_pos h2]
                    omega
                · have h2 : ¬ st = 2 := fun z => of_decide_eq_false e3 (by rw [z]; rfl)
                  refine ⟨_, rfl, _, _, rfl, rfl, n', nextStep st, _, some (.int (o' : Nat)), ?_, s3, f3, ho, hn', ?_, ?_, hl3⟩
                  · rw [show nextStep st = st + 2 from if_neg h2]
                    rfl
                  · rw [show nextStep st = st + 2 from if_neg h2]
                    omega
                  · rw [show nextStep st = st + 2 from if_neg h2]
                    omega
      · have hst : ¬ st * st ≤ nu := fun z => by
          have := of_decide_eq_false e
          rw [← Int.natCast_mul] at this
          omega
        rw [if_neg hst] at ho
        cases ho
        obtain ⟨rs, hL, hP⟩ := fo
        refine ⟨_, rfl, _, _, rfl, rfl, _, rfl, iteB (fun e2 => ?_) (fun e2 => ?_)⟩
        · have hm : 1 < m := by
            have := of_decide_eq_true e2
            omega
          refine ⟨_, rfl, p, _, rfl, .inr (.of hL), _, rfl, (by show 2 ≤ sizeLine; decide), fun t ht => ?_⟩
          refine ⟨?_, fun u hu => ?_⟩
          · rw [List.length_append, List.length_map, hP.len]
            exact Nat.le_trans (show fin.length + 1 ≤ 31 by omega) (by decide)
          · have s2 : Same H1 (upd (upd H1 t (.tup [.int (m : Nat), .int 1])) u (.tup (rs.map V.ref ++ [V.ref t]))) := same_new (same_new (Same.refl _) ht _) hu _
            refine q _ u (rs ++ [t]) (s1.trans s2) ?_ ?_
            · rw [upd_same, List.map_append]
              rfl
            · rw [show lastFound m fin = fin ++ [(m, 1)] from if_pos hm]
              refine .snoc ?_ (hP.same s2)
              have ntu : t ≠ u := fun z => by
                rw [← z, upd_same] at hu
                cases hu
              rw [upd_ne ntu, upd_same]
              rfl
        · have hm : ¬ 1 < m := by
            have := of_decide_eq_false e2
            omega
          refine ⟨_, rfl, p, _, rfl, .inl ⟨.of hL, fun u hu => ?_⟩⟩
          have s2 : Same H1 (upd H1 u (.tup (rs.map V.ref))) := same_new (Same.refl _) hu _
          refine q _ u rs (s1.trans s2) upd_same ?_
          rw [show lastFound m fin = fin from if_neg hm]
          exact hP.same s2
end
end K66

namespace K66
open PySem L2
/-! ### a dict of numbers -/
def keyKV (l : List Nat) : List (Key × V) := l.map fun n => (Sum.inl ((n : Nat) : Int), V.bl true)
theorem keyKV_any (l : List Nat) (n : Nat) : ((keyKV l).any fun kv => decide (kv.1 = Sum.inl ((n : Nat) : Int))) = l.contains n := by
  unfold keyKV
  rw [List.any_map, Bool.eq_iff_iff, List.contains_iff_mem, List.any_eq_true]
  constructor
  · rintro ⟨x, hx, e⟩
    have e' : (Sum.inl ((x : Nat) : Int) : Key) = Sum.inl ((n : Nat) : Int) := of_decide_eq_true e
    injection e' with e'
    have : x = n := by omega
    rw [← this]
    exact hx
  · intro h
    exact ⟨n, h, decide_eq_true rfl⟩
theorem keyKV_val (l : List Nat) (n : Nat) : (valV (keyKV l) (Sum.inl ((n : Nat) : Int))).isSome = l.contains n := by
  rw [← valV_any]
  exact keyKV_any l n
theorem keyKV_put (l : List Nat) (n : Nat) : putK (keyKV l) (Sum.inl ((n : Nat) : Int)) (V.bl true) = keyKV (if l.contains n then l else l ++ [n]) := by
  unfold putK
  rw [keyKV_any]
  split
  · rename_i h
    unfold keyKV
    rw [List.map_map]
    refine List.map_congr_left fun x _ => ?_
    show (if (Sum.inl ((x : Nat) : Int) : Key) = Sum.inl ((n : Nat) : Int) then _ else _) = _
    split <;> rfl
  · unfold keyKV
    rw [List.map_append]
    rfl
theorem keyKV_merge : ∀ (l acc : List Nat), mergeK (keyKV acc) (keyKV l) = keyKV (onceIn acc l)
  | [], acc => rfl
  | n :: l, acc => by
    show mergeK (putK (keyKV acc) (Sum.inl ((n : Nat) : Int)) (V.bl true)) (keyKV l) = _
    rw [keyKV_put, keyKV_merge l]
    rfl
theorem onceIn_len : ∀ (l acc : List Nat), (onceIn acc l).length ≤ acc.length + l.length
  | [], acc => Nat.le_refl _
  | n :: l, acc => by
    have q := onceIn_len l (if acc.contains n then acc else acc ++ [n])
    have e : onceIn acc (n :: l) = onceIn (if acc.contains n then acc else acc ++ [n]) l := rfl
    rw [e, List.length_cons]
    split at q
    · rename_i h
      rw [if_pos h]
      omega
    · rename_i h
      rw [if_neg h]
      rw [List.length_append, List.length_singleton] at q
      omega
/-- pairs of a number and True -/
def KeysAt (H : Hp) (rs : List Addr) (ks : List Nat) : Prop := Paired (fun (p : Addr) (n : Nat) => H p = some (.tup [.int (n : Nat), .bl true])) rs ks
theorem KeysAt.imp {H H1 : Hp} {rs : List Addr} {ks : List Nat} (s : ∀ p xs, H p = some (.tup xs) → H1 p = some (.tup xs)) (h : KeysAt H rs ks) : KeysAt H1 rs ks := by
  unfold KeysAt at h ⊢
  induction h with
  | nil => exact .nil
  | cons a _ ih => exact .cons (s _ _ a) ih
theorem KeysAt.paired {K : PySem.W.Frag} {H : Hp} {rs : List Addr} {ks : List Nat} (h : KeysAt H rs ks) : Paired (fun p kv => SqT K H p [kV kv.1, kv.2]) rs (keyKV ks) := by
  unfold KeysAt at h
  induction h with
  | nil => exact .nil
  | cons a _ ih => exact .cons (.of a) ih
theorem KeysAt.len {H : Hp} {rs : List Addr} {ks : List Nat} (h : KeysAt H rs ks) : rs.length = ks.length := by
  unfold KeysAt at h
  induction h with
  | nil => rfl
  | cons _ _ ih => rw [List.length_cons, List.length_cons, ih]
/-- a turn of [(.., True) for ..]: the new pair at t joins the list at D -/
theorem keys_turn {H H1 : Hp} {D t : Addr} {rs : List Addr} {ks : List Nat} {n : Nat} {v : V} (s : Same H H1) (hD : H D = none) (hL : H1 D = some (.lst (rs.map V.ref))) (hK : KeysAt H1 rs ks) (ht : H1 t = none) (hv : v = .int (n : Nat)) :
    upd H1 t (.tup [v, .bl true]) D = some (.lst (rs.map V.ref)) ∧
    ∃ rs', (upd (upd H1 t (.tup [v, .bl true])) D (.lst (rs.map V.ref ++ [V.ref t]))) D = some (.lst (rs'.map V.ref)) ∧ KeysAt (upd (upd H1 t (.tup [v, .bl true])) D (.lst (rs.map V.ref ++ [V.ref t]))) rs' (ks ++ [n]) ∧
      Same H (upd (upd H1 t (.tup [v, .bl true])) D (.lst (rs.map V.ref ++ [V.ref t]))) := by
  subst hv
  have ntD : t ≠ D := fun z => by
    rw [z, hL] at ht
    cases ht
  refine ⟨by rw [upd_ne ntD.symm]; exact hL, rs ++ [t], ?_, ?_, same_put (same_new s ht _) hD _⟩
  · rw [upd_same, List.map_append]
    rfl
  · refine Paired.snoc (KeysAt.imp (fun p xs e => ?_) hK) ?_
    · rw [upd_ne (ne_of e hL (by intro z; cases z)), upd_ne (ne_of_none e ht)]
      exact e
    · rw [upd_ne ntD, upd_same]
/-- a dict locked for a walk, then let go -/
theorem same_lock {H H1 : Hp} {d : Addr} {u v : HO} (hd : H d = some u) (s : Same (upd H d v) H1) : Same H (upd H1 d u) := fun b o e => by
  by_cases q : b = d
  · rw [q, upd_same, ← hd, ← q]
    exact e
  · rw [upd_ne q]
    exact s b o (by rw [upd_ne q]; exact e)
theorem take_at {α : Type} {l : List α} {i : Nat} {x : α} (h : l[i]? = some x) : l.take (i + 1) = l.take i ++ [x] := by
  obtain ⟨h1, h2⟩ := List.getElem?_eq_some_iff.mp h
  rw [← h2, List.take_succ_eq_append_getElem h1]
theorem drop_at {α : Type} {l : List α} {i : Nat} {x : α} (h : l[i]? = some x) : l.drop i = x :: l.drop (i + 1) := by
  obtain ⟨h1, h2⟩ := List.getElem?_eq_some_iff.mp h
  rw [← h2]
  exact List.drop_eq_getElem_cons h1
theorem keyKV_at {l : List Nat} {i : Nat} {k : Key} {v : V} (h : (keyKV l)[i]? = some (k, v)) : ∃ n : Nat, l[i]? = some n ∧ k = Sum.inl ((n : Nat) : Int) := by
  unfold keyKV at h
  rw [List.getElem?_map] at h
  cases e : l[i]? with
  | none =>
    rw [e] at h
    cases h
  | some n =>
    rw [e] at h
    injection h with h
    injection h with h1 h2
    exact ⟨n, rfl, h1.symm⟩
theorem apart_small : ∀ n, 1 ≤ n → n ≤ 18 → ∀ q ∈ apartM n, q.2 ≤ 4 := by
  have h : ∀ n, n < 19 → ((apartM n).all fun q => decide (q.2 ≤ 4)) = true := by decide +kernel
  exact fun n _ h2 q hq => of_decide_eq_true (List.all_eq_true.mp (h n (by omega)) q hq)
theorem flat_cons (q : Nat × Nat) (l : List (Nat × Nat)) : flat (q :: l) = List.replicate q.2 q.1 ++ flat l := by
  unfold flat
  rw [List.flatMap_cons]
theorem rep_step {p n j : Nat} (h : j < n) (l : List Nat) : List.replicate (n - j) p ++ l = p :: (List.replicate (n - (j + 1)) p ++ l) := by
  rw [show n - j = n - (j + 1) + 1 by omega, List.replicate_succ]
  rfl
theorem emod_cast (a b : Nat) : ((a : Nat) : Int) % ((b : Nat) : Int) = ((a % b : Nat) : Int) := (Int.natCast_emod a b).symm
theorem div_cast (a b : Nat) : ((a : Nat) : Int) / ((b : Nat) : Int) = ((a / b : Nat) : Int) := (Int.natCast_ediv a b).symm
theorem addmod_cast (r b p : Nat) : (((r : Nat) : Int) + ((b : Nat) : Int) / ((p : Nat) : Int)) % ((b : Nat) : Int) = (((r + b / p) % b : Nat) : Int) := by
  rw [div_cast, ← Int.natCast_add, emod_cast]
theorem less_ok {p b : Nat} {rem : List Nat} (hd : prodL (p :: rem) ∣ b) (hb : 1 ≤ b) : 1 ≤ p ∧ p ≤ b ∧ 1 ≤ b / p ∧ b / p ≤ b ∧ prodL rem ∣ b / p ∧ prodL rem ∣ b := by
  have e : prodL (p :: rem) = p * prodL rem := rfl
  rw [e] at hd
  have h1 : p ∣ b := Nat.dvd_trans (Nat.dvd_mul_right _ _) hd
  have h2 : p ≤ b := Nat.le_of_dvd (by omega) h1
  have h3 : 1 ≤ p := Nat.pos_of_ne_zero fun z => by
    rw [z] at h1
    have := Nat.eq_zero_of_zero_dvd h1
    omega
  refine ⟨h3, h2, Nat.div_pos h2 h3, Nat.div_le_self _ _, ?_, Nat.dvd_trans (Nat.dvd_mul_left _ _) hd⟩
  obtain ⟨c, hc⟩ := hd
  refine ⟨c, ?_⟩
  rw [hc, Nat.mul_assoc, Nat.mul_div_cancel_left _ h3]
def spBase : Sp := fun vs H Q _ => ∃ (b : Nat) (a : Addr) (rests : List Nat), vs = [.int (b : Nat), .ref a] ∧ H a = some (.tup (nums rests)) ∧ 1 ≤ b ∧ b ≤ 18 ∧ rests.length ≤ 18 ∧
  ∀ (H' : Hp) (t d : Addr) (p : Nat) (known : List Nat), Same H H' → leastM b rests = (p, known) → 1 ≤ p → p ≤ 18 → known.length ≤ 18 → H' t = some (.tup [.int (p : Nat), .ref d]) → H' d = some (.dK (keyKV known)) → Q (.ref t) H'
/-- the slots and the heap of least_base between two turns -/
def BaseAt (H0 : Hp) (rem : List Nat) (fin : Nat × List Nat) (b : Nat) (known : List Nat) (d : Addr) (H' : Hp) : Prop :=
  Same H0 H' ∧ H' d = some (.dK (keyKV known)) ∧ rem.foldl lessM (b, known) = fin ∧ prodL rem ∣ b ∧ 1 ≤ b ∧ b ≤ 18 ∧ known.length ≤ 18
section
variable {P : Program} {w : World} {K : PySem.W.Frag} {mg : Str → Option Value} {base : Heap} {C : Addr}
theorem ok_base {f fA : Addr} {fd fdA : FuncData} (D : Df K mg "least_base" sBase f fd ["base", "rests"]) (DA : Df K mg "apart_of" sApart fA fdA ["number"]) (T : Txt K mg C) : FnOk P w K mg base CX0 2 f fd ["base", "rests"] spBase := by
  have GA : FnOk P w K mg base CX0 1 fA fdA ["number"] spApart := ok_apart DA T
  refine D.F.ok scBase (fun vs H Q E h => ?_) (fun cdv A outer s H vs Q E hr h => ?_)
  · obtain ⟨b, a, rests, rfl, _⟩ := h
    rfl
  · obtain ⟨b, a, rests, rfl, ha, hb1, hb18, hl, q⟩ := h
    have hu := hu_of hr
    refine ⟨_, pss_cons (ps_set (i := 2) scBase.nd rfl (Or.inr rfl) (pe_callTy (call_dictP rfl) (by rfl) T.dict (by decide +kernel) (pa_cons
        (pe_lc (own := [("rest", 7)]) (g := gName 7) (tt := tYes) rfl scBase.nd (pi_tup (pv 1)) (blkOk_by (own := [("rest", 7)]) (N := ["base", "rests", "known", "prime", "often", "turn", "less", "rest"]) (sc := defScope sBase) (by decide +kernel))
          (fun _ _ _ _ _ => pg_name (i := 7) scBase.nd rfl (Or.inl rfl)) (fun _ _ _ _ _ => pts_nil) (fun _ _ _ _ _ => pe_tup (pa_cons (pv 7) (pa_cons pe_bl pa_nil)))) pa_nil)))
      (pss_cons (ps_for PassesOwn.never rfl (pi_tup (pe_call GA hr rfl DA.m DA.F.kp DA.b .nil pass0 (pa_cons (pv 0) pa_nil)))
          (pg_tup rfl (pgs_cons (pg_name (i := 3) scBase.nd rfl (Or.inl rfl)) (pgs_cons (pg_name (i := 4) scBase.nd rfl (Or.inl rfl)) pgs_nil)))
        (pss_one (ps_for PassesOwn.never rfl (pi_range1 (by rfl) T.range (pa_cons (pv 4) pa_nil)) (pg_name (i := 5) scBase.nd rfl (Or.inl rfl))
          (pss_cons (ps_set (i := 6) scBase.nd rfl (Or.inr rfl) (pe_op op_fdiv (pv 0) (pv 3)))
          (pss_one (ps_if (pt_val (pe_callB (cr_all rfl) (by rfl) T.all (by decide +kernel) (pa_cons (pe_lock
              (pe_lc (own := [("rest", 7)]) (g := gName 7) (tt := tYes) rfl scBase.nd (pi_keys (pv 2)) (blkOk_by (own := [("rest", 7)]) (N := ["base", "rests", "known", "prime", "often", "turn", "less", "rest"]) (sc := defScope sBase) (by decide +kernel))
                (fun _ _ _ _ _ => pg_name (i := 7) scBase.nd rfl (Or.inl rfl)) (fun _ _ _ _ _ => pts_nil) (fun _ _ _ _ _ => pe_cmp (pc_din hu (pe_op op_mod (pe_op op_add (pv 7) (pv 6)) (pv 0)) (pv 2)) rfl))) pa_nil)))
            (pss_one (ps_asg (pe_tup (pa_cons (pv 6) (pa_cons (pe_callTy (call_dictP rfl) (by rfl) T.dict (by decide +kernel) (pa_cons (pe_lock
              (pe_lc (own := [("rest", 7)]) (g := gName 7) (tt := tYes) rfl scBase.nd (pi_keys (pv 2)) (blkOk_by (own := [("rest", 7)]) (N := ["base", "rests", "known", "prime", "often", "turn", "less", "rest"]) (sc := defScope sBase) (by decide +kernel))
                (fun _ _ _ _ _ => pg_name (i := 7) scBase.nd rfl (Or.inl rfl)) (fun _ _ _ _ _ => pts_nil) (fun _ _ _ _ _ => pe_tup (pa_cons (pe_op op_mod (pv 7) (pv 6)) (pa_cons pe_bl pa_nil))))) pa_nil)) pa_nil)))
              (pg_tup rfl (pgs_cons (pg_name (i := 0) scBase.nd rfl (Or.inr rfl)) (pgs_cons (pg_name (i := 2) scBase.nd rfl (Or.inr rfl)) pgs_nil))))) pss_nil))))))
      (pss_one (ps_ret (pe_tup (pa_cons (pv 0) (pa_cons (pv 2) pa_nil)))))), ?_⟩
    -- known = dict([(rest, True) for rest in rests])
    refine ⟨_, rfl, a, rfl, ⟨_, .of ha⟩, fun L nL => lc_tup (K := K) (a := a) (xs := nums rests) (fun i H' => Same H H' ∧ ∃ rs : List Addr, H' L = some (.lst (rs.map V.ref)) ∧ KeysAt H' rs (rests.take i))
      ⟨same_new (Same.refl H) nL _, [], upd_same, .nil⟩ (fun i H' _ z => .of (z.1 a _ ha)) ?_ ?_⟩
    · rintro i x H1 hx ⟨s1, rs, hL, hK⟩
      obtain ⟨n, hn, rfl⟩ := nums_at hx
      refine ⟨rfl, _, rfl, (by show 2 ≤ sizeLine; decide), fun t ht => ?_⟩
      obtain ⟨e1, rs', e2, e3, e4⟩ := keys_turn (n := n) s1 nL hL hK ht rfl
      refine ⟨_, e1, ?_, e4, rs', e2, by rw [take_at hn]; exact e3⟩
      have hi : i < rests.length := (List.getElem?_eq_some_iff.mp hn).1
      rw [List.length_map, hK.len, List.length_take]
      exact Nat.lt_of_le_of_lt (show min i rests.length ≤ 18 by omega) (by decide)
    · rintro H1 ⟨s1, rs, hL, hK⟩
      rw [nums_len, List.take_length] at hK
      refine ⟨L, rs, keyKV rests, rfl, .of hL, hK.paired, fun d nd => ?_⟩
      rw [show mergeK [] (keyKV rests) = keyKV (onceIn [] rests) from keyKV_merge rests []]
      have hk18 : (onceIn [] rests).length ≤ 18 := Nat.le_trans (onceIn_len rests []) (by simpa using hl)
      -- for prime, often in apart_of(base)
      refine ⟨_, rfl, b, rfl, hb1, hb18, fun H2 tp qs s2 htp hqs => ?_⟩
      have hd2 : H2 d = some (.dK (keyKV (onceIn [] rests))) := s2 _ _ upd_same
      have sH2 : Same H H2 := s1.trans ((same_new (Same.refl H1) nd _).trans s2)
      obtain ⟨fin, hfin⟩ : ∃ fin, leastM b rests = fin := ⟨_, rfl⟩
      have hfin' : (flat (apartM b)).foldl lessM (b, onceIn [] rests) = fin := hfin
      refine ⟨tp, rfl, ⟨_, .of htp⟩, for_tup (K := K) (a := tp) (xs := qs.map V.ref) (fun i σ H' => ∃ (b' : Nat) (known : List Nat) (d' : Addr) (x3 x4 x5 x6 : Option V),
        σ = [some (.int (b' : Nat)), some (.ref a), some (.ref d'), x3, x4, x5, x6, none] ∧ BaseAt H2 (flat ((apartM b).drop i)) fin b' known d' H')
        ⟨b, _, d, none, none, none, none, rfl, Same.refl H2, hd2, hfin', by rw [List.drop_zero, (apart_ok b hb1 hb18).2]; exact Nat.dvd_refl _, hb1, hb18, hk18⟩ (fun i σ H' _ ⟨_, _, _, _, _, _, _, _, z⟩ => .of (z.1 tp _ htp)) ?_ ?_⟩
      · rintro i x σ H3 hx ⟨b', known, d', x3, x4, x5, x6, rfl, hB⟩
        obtain ⟨r, hr', rfl⟩ : ∃ r, qs[i]? = some r ∧ x = V.ref r := by
          rw [List.getElem?_map] at hx
          cases e : qs[i]? with
          | none =>
            rw [e] at hx
            cases hx
          | some r =>
            rw [e] at hx
            exact ⟨r, rfl, (Option.some.inj hx).symm⟩
        obtain ⟨⟨p, o⟩, hq0, hr0⟩ := hqs.get hr'
        have ho4 : o ≤ 4 := apart_small b hb1 hb18 _ (List.mem_of_getElem? hq0)
        refine ⟨r, _, rfl, .of (hB.1 r _ hr0), rfl, _, _, rfl, _, _, rfl, rfl, ?_⟩
        refine ⟨_, rfl, (o : Nat), rfl, by omega, by omega, for_range (lo := 0) (n := o) (fun j σ H' => ∃ (b' : Nat) (known : List Nat) (d' : Addr) (x5 x6 : Option V),
          σ = [some (.int (b' : Nat)), some (.ref a), some (.ref d'), some (.int (p : Nat)), some (.int (o : Nat)), x5, x6, none] ∧ BaseAt H2 (List.replicate (o - j) p ++ flat ((apartM b).drop (i + 1))) fin b' known d' H')
          ⟨b', known, d', x5, x6, rfl, ?_⟩ ?_ ?_⟩
        · rw [drop_at hq0, flat_cons] at hB
          exact hB
        · rintro j σ H4 hj ⟨b1, kn, d1, y5, y6, rfl, sB, hd1, hf, hdv, h1, h18, hkl⟩
          rw [rep_step hj] at hf hdv
          obtain ⟨p1, p2, l1, l2, v1, v2⟩ := less_ok hdv h1
          refine ⟨_, rfl, _, rfl, _, _, rfl, rfl, ⟨by show (0 : Int) < (p : Nat); omega, by show ((p : Nat) : Int) < 1073741824; omega⟩, ?_⟩
          -- if all([(rest + less) % base in known for rest in known])
          refine ⟨d1, _, hd1, trivial, fun od => ?_⟩
          refine ⟨_, rfl, d1, od, rfl, .inl ⟨_, upd_same, fun L1 nL1 => lc_it (walk_keys (d := d1) (o := od)) (fun i H' => Same (upd H4 d1 (.frz od (.dK (keyKV kn)))) H' ∧
            H' L1 = some (.lst (((kn.take i).map fun r => kn.contains ((r + b1 / p) % b1)).map V.bl))) ⟨same_new (Same.refl _) nL1 _, upd_same⟩ (fun i H' _ z => z.1 d1 _ upd_same) ?_ ?_⟩⟩
          · rintro i1 x H5 H6 hi1 ⟨s5, hL1⟩ ⟨rfl, k, v, hk, rfl⟩
            obtain ⟨n, hn, rfl⟩ := keyKV_at hk
            refine ⟨rfl, _, rfl, _, rfl, _, _, rfl, rfl, _, rfl, _, _, rfl, rfl, (by show (0 : Int) < (b1 : Nat); omega), _, rfl, d1, _, rfl, .inl ⟨_, Sum.inl ((((n + b1 / p) % b1 : Nat)) : Int), .inr ⟨od, s5 d1 _ upd_same⟩, ?_, rfl⟩, ?_⟩
            · show V.int _ = V.int _
              rw [addmod_cast]
            · refine ⟨_, hL1, ?_, same_put s5 nL1 _, ?_⟩
              · rw [List.length_map, List.length_map, List.length_take]
                exact Nat.lt_of_le_of_lt (show min i1 kn.length ≤ 18 by omega) (by decide)
              · rw [upd_same, take_at hn, List.map_append, List.map_append, keyKV_val]
                rfl
          · rintro H5 ⟨s5, hL1⟩
            have nLd : L1 ≠ d1 := fun z => by
              rw [z, upd_same] at nL1
              cases nL1
            rw [show (keyKV kn).length = kn.length from List.length_map .., List.take_length] at hL1
            refine ⟨s5 d1 _ upd_same, L1, _, rfl, .of (by rw [upd_ne nLd]; exact hL1), _, rfl, iteB (fun e => ?_) (fun e => ?_)⟩
            · have hst : stays b1 kn (b1 / p) = true := by
                unfold stays
                rw [List.all_map] at e
                exact e
              have s6 : Same H4 (upd H5 d1 (.dK (keyKV kn))) := same_lock hd1 s5
              have hd6 : upd H5 d1 (.dK (keyKV kn)) d1 = some (.dK (keyKV kn)) := upd_same
              generalize upd H5 d1 (.dK (keyKV kn)) = H6 at s6 hd6
              refine ⟨_, rfl, d1, _, hd6, trivial, fun od2 => ?_⟩
              refine ⟨_, rfl, d1, od2, rfl, .inl ⟨_, upd_same, fun L2 nL2 => lc_it (walk_keys (d := d1) (o := od2)) (fun i H' => Same (upd H6 d1 (.frz od2 (.dK (keyKV kn)))) H' ∧
                ∃ rs : List Addr, H' L2 = some (.lst (rs.map V.ref)) ∧ KeysAt H' rs ((kn.take i).map (· % (b1 / p)))) ⟨same_new (Same.refl _) nL2 _, [], upd_same, .nil⟩ (fun i H' _ z => z.1 d1 _ upd_same) ?_ ?_⟩⟩
              · rintro i1 x H7 H8 hi1 ⟨s7, rs2, hL2, hK2⟩ ⟨rfl, k, v, hk, rfl⟩
                obtain ⟨n, hn, rfl⟩ := keyKV_at hk
                refine ⟨rfl, _, rfl, _, rfl, _, _, rfl, rfl, (by show (0 : Int) < ((b1 : Nat) : Int) / ((p : Nat) : Int); rw [div_cast]; omega), (by show 2 ≤ sizeLine; decide), fun t ht => ?_⟩
                obtain ⟨e1, rs', e2, e3, e4⟩ := keys_turn (n := n % (b1 / p)) (v := .int (((n : Nat) : Int) % (((b1 : Nat) : Int) / ((p : Nat) : Int)))) s7 nL2 hL2 hK2 ht (by rw [div_cast, emod_cast])
                refine ⟨_, e1, ?_, e4, rs', e2, by rw [take_at hn, List.map_append]; exact e3⟩
                rw [List.length_map, hK2.len, List.length_map, List.length_take]
                exact Nat.lt_of_le_of_lt (show min i1 kn.length ≤ 18 by omega) (by decide)
              · rintro H7 ⟨s7, rs2, hL2, hK2⟩
                have nLd2 : L2 ≠ d1 := fun z => by
                  rw [z, upd_same] at nL2
                  cases nL2
                rw [show (keyKV kn).length = kn.length from List.length_map .., List.take_length] at hK2
                have s8 : Same H6 (upd H7 d1 (.dK (keyKV kn))) := same_lock hd6 s7
                have fz : H7 d1 = some (.frz od2 (.dK (keyKV kn))) := s7 d1 _ upd_same
                have hK8 : KeysAt (upd H7 d1 (.dK (keyKV kn))) rs2 (kn.map (· % (b1 / p))) := hK2.imp fun q xs e => by
                  rw [upd_ne (ne_of e fz (by intro z; cases z))]
                  exact e
                have hL8 : upd H7 d1 (.dK (keyKV kn)) L2 = some (.lst (rs2.map V.ref)) := by
                  rw [upd_ne nLd2]
                  exact hL2
                refine ⟨fz, L2, rs2, keyKV (kn.map (· % (b1 / p))), rfl, .of hL8, hK8.paired, fun d2 nd2 => ?_⟩
                rw [show mergeK [] (keyKV (kn.map (· % (b1 / p)))) = keyKV (onceIn [] (kn.map (· % (b1 / p)))) from keyKV_merge _ []]
                refine ⟨by show 2 ≤ sizeLine; decide, fun t2 ht2 => ?_⟩
                have n2 : d2 ≠ t2 := fun z => by
                  rw [← z, upd_same] at ht2
                  cases ht2
                refine ⟨t2, _, rfl, .of upd_same, rfl, _, _, rfl, _, _, rfl, rfl, ?_⟩
                refine ⟨b1 / p, _, d2, _, _, by rw [← div_cast]; rfl, sB.trans (s6.trans (s8.trans (same_new (same_new (Same.refl _) nd2 _) ht2 _))), by rw [upd_ne n2, upd_same], ?_, v1, l1, by omega, ?_⟩
                · rw [← hf]
                  show _ = List.foldl lessM (lessM (b1, kn) p) _
                  rw [show lessM (b1, kn) p = (b1 / p, onceIn [] (kn.map (· % (b1 / p)))) from if_pos hst]
                · exact Nat.le_trans (onceIn_len _ []) (by simpa using hkl)
            · refine ⟨b1, kn, d1, _, _, rfl, sB.trans (same_lock hd1 s5), upd_same, ?_, v2, h1, h18, hkl⟩
              rw [← hf]
              show _ = List.foldl lessM (lessM (b1, kn) p) _
              rw [show lessM (b1, kn) p = (b1, kn) from if_neg (fun z => by
                have y : stays b1 kn (b1 / p) = false := by
                  unfold stays
                  rw [List.all_map] at e
                  exact e
                rw [y] at z
                cases z)]
        · rintro σ H4 ⟨b1, kn, d1, y5, y6, rfl, hB1⟩
          rw [Nat.sub_self] at hB1
          exact ⟨b1, kn, d1, _, _, _, _, rfl, hB1⟩
      · rintro σ H3 ⟨b1, kn, d1, x3, x4, x5, x6, rfl, sB, hd1, hf, hdv, h1, h18, hkl⟩
        rw [List.length_map, hqs.len, List.drop_length] at hf
        have hf' : (b1, kn) = fin := hf
        refine ⟨_, rfl, _, rfl, (by show 2 ≤ sizeLine; decide), fun t ht => ?_⟩
        have ntd : d1 ≠ t := fun z => by
          rw [← z, hd1] at ht
          cases ht
        exact q _ t d1 b1 kn (sH2.trans (sB.trans (same_new (Same.refl H3) ht _))) (hfin.trans hf'.symm) h1 h18 hkl upd_same (by rw [upd_ne ntd]; exact hd1)
end
end K66

namespace K66
open PySem L2
theorem pe_imp {X : Cx} {e : Expr} {t t' : TE} (h : PE X e t) (hi : ∀ σ H Q, t' σ H Q → t σ H Q) : PE X e t' := ⟨fun pins s σ H Q I q => h.run pins s σ H Q I (hi σ H Q q)⟩
theorem pt_imp {X : Cx} {e : Expr} {t t' : TT} (h : PT X e t) (hi : ∀ σ H Q, t' σ H Q → t σ H Q) : PT X e t' := ⟨fun pins s σ H Q I q => h.run pins s σ H Q I (hi σ H Q q)⟩
/-- the last of the numbers below s + 1 tells of s -/
theorem lowF_ends (F : Nat → Bool) (s : Nat) : (lowF (s + 1) F = [] ∧ F s = false) ∨ ∃ l y, lowF (s + 1) F = l ++ [y] ∧ F s = decide (y = s) := by
  rw [lowF_succ]
  cases e : F s with
  | true => exact .inr ⟨lowF s F, s, by simp, by simp⟩
  | false =>
    rw [if_neg Bool.false_ne_true]
    rcases List.eq_nil_or_concat (lowF s F) with z | ⟨l, y, z⟩
    · exact .inl ⟨z, rfl⟩
    · rw [List.concat_eq_append] at z
      refine .inr ⟨l, y, z, ?_⟩
      have hy : y ∈ lowF s F := by
        rw [z]
        simp
      have := (mem_lowF.mp hy).1
      exact (decide_eq_false (by omega)).symm
theorem nums_app (l : List Nat) (y : Nat) : nums (l ++ [y]) = nums l ++ [V.int (y : Nat)] := by
  unfold nums
  rw [List.map_append]
  rfl
/-- the least form at t -/
def FormAt (H : Hp) (t : Addr) (L : List Nat) (s p : Nat) (S : List Nat) : Prop :=
  ∃ e r, H t = some (.tup [.ref e, .int (s : Nat), .int (p : Nat), .ref r]) ∧ H e = some (.tup (nums L)) ∧ H r = some (.tup (nums S))
theorem FormAt.same {H H1 : Hp} {t : Addr} {L S : List Nat} {s p : Nat} (h : FormAt H t L s p S) (k : Same H H1) : FormAt H1 t L s p S := by
  obtain ⟨e, r, h1, h2, h3⟩ := h
  exact ⟨e, r, k _ _ h1, k _ _ h2, k _ _ h3⟩
def spForm : Sp := fun vs H Q _ => ∃ (F : Nat → Bool) (start b p : Nat) (e a : Addr) (rests K0 S : List Nat), vs = [.ref e, .int (start : Nat), .int (b : Nat), .ref a] ∧ H e = some (.tup (nums (lowF start F))) ∧ H a = some (.tup (nums rests)) ∧
  start ≤ 9 ∧ 1 ≤ b ∧ b ≤ 18 ∧ rests.length ≤ 18 ∧ leastM b rests = (p, K0) ∧ K0.Perm S ∧ S.Pairwise (· < ·) ∧
  ∀ (H' : Hp) (t : Addr), Same H H' → FormAt H' t (lowF (startOf F p S start) F) (startOf F p S start) p S → Q (.ref t) H'
theorem key_list (l : List Nat) : ((keyKV l).map fun kv => kV kv.1) = (l.map fun n => ((n : Nat) : Int)).map V.int := by
  unfold keyKV
  rw [List.map_map, List.map_map]
  rfl
theorem sorted_nums {ns : List Int} {K0 S : List Nat} (h : ns.Perm (K0.map fun n => ((n : Nat) : Int))) (hs : ns.Pairwise (· ≤ ·)) (hp : K0.Perm S) (hS : S.Pairwise (· < ·)) : ns.map V.int = nums S := by
  have e : ns = S.map fun n => ((n : Nat) : Int) := by
    refine sorted_eq (h.trans (hp.map _)) hs ?_
    rw [List.pairwise_map]
    exact hS.imp fun h => by omega
  rw [e]
  unfold nums
  rw [List.map_map]
  rfl
section
variable {P : Program} {w : World} {K : PySem.W.Frag} {mg : Str → Option Value} {base : Heap} {C : Addr}
theorem ok_form {f fB fA : Addr} {fd fdB fdA : FuncData} (D : Df K mg "least_form" sForm f fd ["early", "start", "base", "rests"]) (DB : Df K mg "least_base" sBase fB fdB ["base", "rests"]) (DA : Df K mg "apart_of" sApart fA fdA ["number"]) (T : Txt K mg C) :
    FnOk P w K mg base CX0 3 f fd ["early", "start", "base", "rests"] spForm := by
  have GB : FnOk P w K mg base CX0 2 fB fdB ["base", "rests"] spBase := ok_base DB DA T
  refine D.F.ok scForm (fun vs H Q E h => ?_) (fun cdv A outer s H vs Q E hr h => ?_)
  · obtain ⟨F, start, b, p, e, a, rests, K0, S, rfl, _⟩ := h
    rfl
  · obtain ⟨F, start, b, p, e, a, rests, K0, S, rfl, he, ha, hs9, hb1, hb18, hl, hK, hKS, hS, q⟩ := h
    have hu := hu_of hr
    refine ⟨_, pss_cons (ps_asg (pe_call GB hr rfl DB.m DB.F.kp DB.b .nil pass0 (pa_cons (pv 2) (pa_cons (pv 3) pa_nil))) (pg_tup rfl (pgs_cons (pg_name (i := 2) scForm.nd rfl (Or.inl rfl)) (pgs_cons (pg_name (i := 4) scForm.nd rfl (Or.inl rfl)) pgs_nil))))
      (pss_cons (ps_set (i := 5) scForm.nd rfl (Or.inl rfl) (pe_callTy call_list_of (by rfl) T.list (by decide +kernel) (pa_cons (pv 0) pa_nil)))
      (pss_cons (ps_while PassesOwn.never (PW.pt (pw_and (pt_cmpR op_gt (pv 1) pe_int (nomark _)) (pw_and1 (pt_cmpR op_eq
          (pe_imp (t' := fun σ H' Q => ∃ (ins : Addr) (s : Nat), σ[5]? = some (some (.ref ins)) ∧ σ[1]? = some (some (.int (s + 1 : Nat))) ∧ H' ins = some (.lst (nums (lowF (s + 1) F))) ∧ Q (.bl (F s)) H')
            (pe_and (pe_cmpR op_gt (pe_callB call_len_seq (by rfl) T.len PySem.boot_len (pa_cons (pv 5) pa_nil)) pe_int (nomark _))
              (pe_one (pe_cmpR op_eq (pe_ix ix_list (pv 5) (pe_un un_neg pe_int) (fun _ _ => rfl)) (pe_op op_sub (pv 1) pe_int) (nomark _)))) ?E1)
          (pe_cmp (pc_din hu (pe_op op_mod (pe_op op_sub (pv 1) pe_int) (pv 2)) (pv 4)) rfl) (nomark _)))))
        (pss_cons (ps_set (i := 1) scForm.nd rfl (Or.inl rfl) (pe_op op_sub (pv 1) pe_int))
        (pss_one (ps_if (pt_imp (t' := fun σ H' Q => ∃ (ins : Addr) (s : Nat), σ[5]? = some (some (.ref ins)) ∧ σ[1]? = some (some (.int (s : Nat))) ∧ H' ins = some (.lst (nums (lowF (s + 1) F))) ∧ Q (F s) H')
            (PW.pt (pw_and (pt_cmpR op_gt (pe_callB call_len_seq (by rfl) T.len PySem.boot_len (pa_cons (pv 5) pa_nil)) pe_int (nomark _))
              (pw_and1 (pt_cmpR op_eq (pe_ix ix_list (pv 5) (pe_un un_neg pe_int) (fun _ _ => rfl)) (pv 1) (nomark _))))) ?E2)
          (pss_one (ps_expr (pe_bm0 PySem.F.plainAttrs_list PySem.F.slot_list_pop PySem.F.type_list_pop mt_pop (pv 5)))) pss_nil))))
      (pss_one (ps_ret (pe_imp (t' := fun σ H' Q => ∃ (ins d : Addr) (m : Nat), σ[1]? = some (some (.int (m : Nat))) ∧ σ[2]? = some (some (.int (p : Nat))) ∧ σ[4]? = some (some (.ref d)) ∧ σ[5]? = some (some (.ref ins)) ∧
          H' ins = some (.lst (nums (lowF m F))) ∧ H' d = some (.dK (keyKV K0)) ∧ K0.length < 64 ∧ ∀ (H2 : Hp) (t : Addr), Same H' H2 → FormAt H2 t (lowF m F) m p S → Q (.ref t) H2)
        (pe_tup (pa_cons (pe_callTy call_tuple_of (by rfl) T.tuple (by decide +kernel) (pa_cons (pv 5) pa_nil)) (pa_cons (pv 1) (pa_cons (pv 2) (pa_cons
        (pe_callTy call_tuple_of (by rfl) T.tuple (by decide +kernel) (pa_cons (pe_callB cr_sorted (by rfl) T.sorted (by decide +kernel) (pa_cons (pe_callTy (call_listD rfl) (by rfl) T.list (by decide +kernel) (pa_cons (pv 4) pa_nil)) pa_nil)) pa_nil)) pa_nil))))) ?E3))))), ?_⟩
    case E1 =>
      rintro σ H1 Q1 ⟨ins, s, h5, h1, hI, k⟩
      rcases lowF_ends F s with ⟨z, zF⟩ | ⟨l, y, z, zF⟩
      · rw [z] at hI
        rw [zF] at k
        exact ⟨_, h5, ins, _, rfl, .inl (.of hI), _, _, rfl, rfl, _, rfl, iteF k⟩
      · rw [z, nums_app] at hI
        rw [zF] at k
        refine ⟨_, h5, ins, _, rfl, .inl (.of hI), _, _, rfl, rfl, _, rfl, iteB (fun e => ?_) (fun e => ?_)⟩
        · refine ⟨_, h5, 1, rfl, ins, _, _, _, rfl, rfl, .of hI, atI_last _ _, _, h1, _, _, rfl, rfl, rfl, ?_⟩
          rw [show decide (V.int (y : Nat) = V.int (((s + 1 : Nat) : Int) - 1)) = decide (y = s) from by
            rw [Bool.eq_iff_iff, decide_eq_true_eq, decide_eq_true_eq]
            constructor
            · intro q
              injection q with q
              omega
            · intro q
              rw [q]
              congr 1
              omega]
          exact k
        · have := of_decide_eq_false e
          rw [List.length_append, List.length_singleton] at this
          omega
    case E2 =>
      rintro σ H1 Q1 ⟨ins, s, h5, h1, hI, k⟩
      rcases lowF_ends F s with ⟨z, zF⟩ | ⟨l, y, z, zF⟩
      · rw [z] at hI
        rw [zF] at k
        exact ⟨_, h5, ins, _, rfl, .inl (.of hI), _, _, rfl, rfl, _, rfl, iteF k⟩
      · rw [z, nums_app] at hI
        rw [zF] at k
        refine ⟨_, h5, ins, _, rfl, .inl (.of hI), _, _, rfl, rfl, _, rfl, iteB (fun e => ?_) (fun e => ?_)⟩
        · refine ⟨_, h5, 1, rfl, ins, _, _, _, rfl, rfl, .of hI, atI_last _ _, _, h1, rfl, _, rfl, ?_⟩
          rw [show decide (V.int (y : Nat) = V.int (s : Nat)) = decide (y = s) from by
            rw [Bool.eq_iff_iff, decide_eq_true_eq, decide_eq_true_eq]
            constructor
            · intro q
              injection q with q
              omega
            · intro q
              rw [q]]
          exact k
        · have := of_decide_eq_false e
          rw [List.length_append, List.length_singleton] at this
          omega
    case E3 =>
      rintro σ H1 Q1 ⟨ins, d, m, h1, h2, h4, h5, hI, hd, hK18, k⟩
      refine ⟨_, h5, ins, _, rfl, .inl ⟨.of hI, fun e' ne' => ?_⟩⟩
      have se : Same H1 (upd H1 e' (.tup (nums (lowF m F)))) := same_new (Same.refl _) ne' _
      refine ⟨_, h1, _, h2, _, h4, d, _, rfl, .inl (se _ _ hd), fun l nl => ?_⟩
      rw [key_list]
      refine ⟨l, _, rfl, .of upd_same, by rw [List.length_map]; exact hK18, fun ns' r hperm hsort nr => ?_⟩
      rw [sorted_nums hperm hsort hKS hS]
      refine ⟨r, _, rfl, .inl ⟨.of upd_same, fun r' nr' => ?_⟩⟩
      refine ⟨by show 4 ≤ sizeLine; decide, fun t' nt' => ?_⟩
      have s3 := same_new (same_new (Same.refl _) nl (.lst ((K0.map fun n => ((n : Nat) : Int)).map V.int))) nr (.lst (nums S))
      have s4 := same_new s3 nr' (.tup (nums S))
      have n1 : r' ≠ t' := fun z => by
        rw [← z, upd_same] at nt'
        cases nt'
      have s5 := same_new s4 nt' (.tup [.ref e', .int (m : Nat), .int (p : Nat), .ref r'])
      exact k _ t' (se.trans s5) ⟨e', r', upd_same, s5 _ _ upd_same, by rw [upd_ne n1, upd_same]⟩
    refine ⟨_, rfl, _, rfl, b, a, rests, rfl, ha, hb1, hb18, hl, fun H1 t d p' known s1 hk p1 p18 hkl ht hd => ?_⟩
    rw [hK] at hk
    cases hk
    refine ⟨t, _, rfl, .of ht, rfl, _, _, rfl, _, _, rfl, rfl, ?_⟩
    refine ⟨_, rfl, e, _, rfl, .inr (.of (s1 _ _ he)), fun ins nins => ?_⟩
    have hKc : ∀ x, K0.contains x = S.contains x := fun x => by
      rw [Bool.eq_iff_iff, List.contains_iff_mem, List.contains_iff_mem]
      exact hKS.mem_iff
    refine ⟨fun m σ H' => σ = [some (.ref e), some (.int (m : Nat)), some (.int (p : Nat)), some (.ref a), some (.ref d), some (.ref ins)] ∧ Same H1 H' ∧ H' ins = some (.lst (nums (lowF m F))) ∧ startOf F p S m = startOf F p S start,
      ⟨start, rfl, same_new (Same.refl H1) nins _, upd_same, rfl⟩, ?_⟩
    rintro m σ H2 ⟨rfl, s2, hI, hm⟩
    refine ⟨_, rfl, _, _, rfl, rfl, _, rfl, iteB (fun e1 => ?_) (fun e1 => ?_)⟩
    · obtain ⟨n, rfl⟩ : ∃ n, m = n + 1 := ⟨m - 1, by have := of_decide_eq_true e1; omega⟩
      have e0 : ((n + 1 : Nat) : Int) - 1 = ((n : Nat) : Int) := by omega
      refine ⟨ins, n, rfl, rfl, hI, _, rfl, _, _, rfl, rfl, _, rfl, _, _, rfl, rfl, (by show (0 : Int) < (p : Nat); omega), _, rfl, d, _, rfl, .inl ⟨_, Sum.inl (((n % p : Nat)) : Int), .inl (s2 _ _ hd), ?_, rfl⟩, rfl, _, rfl, iteB (fun e2 => ?_) (fun e2 => ?_)⟩
      · show V.int _ = V.int _
        rw [e0, emod_cast]
      · have e3 : F n = S.contains (n % p) := by
          have := of_decide_eq_true e2
          injection this with this
          rw [this, keyKV_val, hKc]
        have hm' : startOf F p S n = startOf F p S start := by
          rw [← hm]
          show desc _ n = desc _ (n + 1)
          rw [desc, if_pos (by rw [e3]; exact beq_self_eq_true _)]
        refine ⟨_, fun σ' H' w => ⟨n, Nat.lt_succ_self _, w⟩, ?_⟩
        refine ⟨_, rfl, _, _, rfl, rfl, ins, n, rfl, (by show some (some (V.int (((n + 1 : Nat) : Int) - 1))) = _; rw [e0]), hI, iteB (fun e4 => ?_) (fun e4 => ?_)⟩
        · have el := lowF_last e4
          have eL : lowF (n + 1) F = lowF n F ++ [n] := by rw [lowF_succ, if_pos e4]
          rw [eL, nums_app] at hI
          refine ⟨_, rfl, .inl ⟨rfl, _, .of hI⟩, ins, _, V.int (n : Nat), rfl, rfl, hI, ?_, ?_⟩
          · simp
          · refine ⟨by show [some (V.ref e), some (V.int (((n + 1 : Nat) : Int) - 1)), _, _, _, _] = _; rw [e0], same_put s2 nins _, ?_, hm'⟩
            rw [upd_same, List.dropLast_concat]
        · have eL : lowF (n + 1) F = lowF n F := by rw [lowF_succ, e4]; rfl
          rw [eL] at hI
          exact ⟨by show [some (V.ref e), some (V.int (((n + 1 : Nat) : Int) - 1)), _, _, _, _] = _; rw [e0], s2, hI, hm'⟩
      · have e3 : ¬ F n = S.contains (n % p) := fun z => by
          refine of_decide_eq_false e2 ?_
          rw [keyKV_val, hKc, z]
        have hm' : startOf F p S (n + 1) = n + 1 := by
          show desc _ (n + 1) = _
          rw [desc, if_neg (fun z => e3 (eq_of_beq z))]
        rw [hm'] at hm
        refine ⟨ins, d, n + 1, rfl, rfl, rfl, rfl, hI, s2 _ _ hd, by omega, fun H3 t' s3 hf => ?_⟩
        rw [hm] at hf
        exact q H3 t' (s1.trans (s2.trans s3)) hf
    · have e0 : m = 0 := by
        have := of_decide_eq_false e1
        omega
      subst e0
      have hm0 : 0 = startOf F p S start := hm
      refine ⟨ins, d, 0, rfl, rfl, rfl, rfl, hI, s2 _ _ hd, by omega, fun H3 t' s3 hf => ?_⟩
      rw [hm0] at hf
      exact q H3 t' (s1.trans (s2.trans s3)) hf
end
end K66

namespace K66
open PySem L2
/-! ### the class -/
def fF (t : Addr) : List (Str × V) := [("form", V.ref t)]
theorem fF_get (t : Addr) : (fF t).lookup ("form" : Str) = some (.ref t) := by
  unfold fF
  rw [List.lookup_cons_self]
/-- a circle at x, its least form at t -/
def CircAt (C : Addr) (H : Hp) (x t : Addr) (L : List Nat) (s p : Nat) (S : List Nat) : Prop := (∃ dx, H x = some (.ins C dx (fF t))) ∧ FormAt H t L s p S
theorem CircAt.same {C : Addr} {H H1 : Hp} {x t : Addr} {L S : List Nat} {s p : Nat} (h : CircAt C H x t L s p S) (k : Same H H1) : CircAt C H1 x t L s p S := by
  obtain ⟨⟨dx, h1⟩, h2⟩ := h
  exact ⟨⟨dx, k _ _ h1⟩, h2.same k⟩
/-- what was told of the circle -/
structure Told (F : Nat → Bool) (start b p : Nat) (rests S : List Nat) : Prop where
  s9 : start ≤ 9
  b1 : 1 ≤ b
  b18 : b ≤ 18
  rise : rests.Pairwise (· < ·)
  low : ∀ r ∈ rests, r < b
  len : rests.length ≤ 18
  tell : ∃ K0, leastM b rests = (p, K0) ∧ K0.Perm S
  S : S.Pairwise (· < ·)
def spInit (C : Addr) : Sp := fun vs H Q _ => ∃ (F : Nat → Bool) (start b p : Nat) (x dx e a : Addr) (rests S : List Nat), vs = [.ref x, .ref e, .int (start : Nat), .int (b : Nat), .ref a] ∧ H x = some (.ins C dx []) ∧
  H e = some (.tup (nums (lowF start F))) ∧ H a = some (.tup (nums rests)) ∧ Told F start b p rests S ∧
  ∀ (H' : Hp) (t : Addr), (∀ c o, c ≠ x → H c = some o → H' c = some o) → CircAt C H' x t (lowF (startOf F p S start) F) (startOf F p S start) p S → Q .non H'
def spGet (C : Addr) (i : Nat) : Sp := fun vs H Q _ => ∃ (x dx t : Addr) (xs : List V) (v : V), vs = [.ref x] ∧ H x = some (.ins C dx (fF t)) ∧ H t = some (.tup xs) ∧ xs[i]? = some v ∧ Q v H
def hasM (L : List Nat) (s p : Nat) (S : List Nat) (x : Nat) : Bool := if x < s then L.contains x else S.contains (x % p)
def spHas : Sp := fun vs H Q _ => ∃ (t : Addr) (L S : List Nat) (s p x : Nat), vs = [.ref t, .int (x : Nat)] ∧ FormAt H t L s p S ∧ 1 ≤ p ∧ Q (.bl (hasM L s p S x)) H
def spCont (K : PySem.W.Frag) (C : Addr) : Sp := fun vs H Q _ => ∃ (x t : Addr) (L S : List Nat) (s p : Nat) (v : V) (b : Bool), vs = [.ref x, v] ∧ CircAt C H x t L s p S ∧ 1 ≤ p ∧
  ((∃ n : Nat, v = .int (n : Nat) ∧ b = hasM L s p S n) ∨ (∃ i : Int, v = .int i ∧ i < 0 ∧ b = false) ∨ (∃ T, TyX K H v (.type T) ∧ T ∈ kinds ∧ T ≠ "int" ∧ b = false)) ∧ Q (.bl b) H
theorem nums_flat (l : List Nat) : (nums l).all flatV = true := by
  unfold nums
  rw [List.all_map, List.all_eq_true]
  intro x _
  rfl
theorem nums_in (l : List Nat) (x : Nat) : inV (.int (x : Nat)) (nums l) = l.contains x := by
  unfold inV nums
  rw [List.any_map, Bool.eq_iff_iff, List.any_eq_true, List.contains_iff_mem]
  constructor
  · rintro ⟨y, hy, e⟩
    have e' : (((y : Nat) : Int) == ((x : Nat) : Int)) = true := e
    have : y = x := by
      have := eq_of_beq e'
      omega
    rw [← this]
    exact hy
  · intro h
    exact ⟨x, h, beq_self_eq_true ((x : Nat) : Int)⟩
section
variable {P : Program} {w : World} {K : PySem.W.Frag} {mg : Str → Option Value} {base : Heap} {C : Addr}
theorem ok_init {f fR fC fBt fF' fB fA fI : Addr} {fd fdR fdC fdBt fdF fdB fdA fdI : FuncData} (D : Fun K "__init__" "Circle.__init__" sInit f fd) (DR : Df K mg "rising_fault" sRise fR fdR ["value", "most"]) (DC : Df K mg "check_between" sCheck fC fdC ["value", "least", "most"])
    (DBt : Df K mg "is_between" sBetw fBt fdBt ["value", "least", "most"]) (DF : Df K mg "least_form" sForm fF' fdF ["early", "start", "base", "rests"]) (DB : Df K mg "least_base" sBase fB fdB ["base", "rests"]) (DA : Df K mg "apart_of" sApart fA fdA ["number"])
    (DI : Df K mg "is_integer" sIsInt fI fdI ["value"]) (T : Txt K mg C) : FnOk P w K mg base CX0 4 f fd ["self", "early", "start", "base", "rests"] (spInit C) := by
  have GR : FnOk P w K mg base CX0 2 fR fdR ["value", "most"] spRise := ok_rise DR DI T
  have GC : FnOk P w K mg base CX0 3 fC fdC ["value", "least", "most"] spCheck := ok_check DC DBt DI T
  have GF : FnOk P w K mg base CX0 3 fF' fdF ["early", "start", "base", "rests"] spForm := ok_form DF DB DA T
  obtain ⟨tm, hmost⟩ := T.most
  refine D.ok scInit (fun vs H Q E h => ?_) (fun cdv A outer s H vs Q E hr h => ?_)
  · obtain ⟨F, start, b, p, x, dx, e, a, rests, S, rfl, _⟩ := h
    rfl
  · obtain ⟨F, start, b, p, x, dx, e, a, rests, S, rfl, hx, he, ha, B, q⟩ := h
    have hr2 : Room 2 _ := hr.mono (by decide)
    refine ⟨_, pss_cons (ps_set (i := 5) scInit.nd rfl (Or.inl rfl) (pe_call GR hr2 rfl DR.m DR.F.kp DR.b .nil pass0 (pa_cons (pv 1) (pa_cons pe_non pa_nil))))
      (pss_cons (ps_if (pt_cmpR op_ne (pv 5) (pe_un un_neg pe_int) (nomark _)) (pss_one ps_never) pss_nil)
      (pss_cons (ps_expr (pe_call GC hr rfl DC.m DC.F.kp DC.b .nil pass0 (pa_cons (pv 2) (pa_cons
        (pe_imp (t' := fun σ H' Q => σ[1]? = some (some (.ref e)) ∧ H' e = some (.tup (nums (lowF start F))) ∧ ∀ j : Int, j ≤ (start : Nat) → Q (.int j) H')
          (pe_ifExp (pt_cmpR op_gt (pe_callB call_len_seq (by rfl) T.len PySem.boot_len (pa_cons (pv 1) pa_nil)) pe_int (nomark _)) (pe_op op_add (pe_ix ix_tup (pv 1) (pe_un un_neg pe_int) (fun _ _ => rfl)) pe_int) pe_int) ?E1)
        (pa_cons (pe_glob (v := .int 20000) rfl hmost ⟨_, rfl⟩) pa_nil)))))
      (pss_cons (ps_expr (pe_call GC hr rfl DC.m DC.F.kp DC.b .nil pass0 (pa_cons (pv 3) (pa_cons pe_int (pa_cons (pe_glob (v := .int 20000) rfl hmost ⟨_, rfl⟩) pa_nil)))))
      (pss_cons (ps_set (i := 5) scInit.nd rfl (Or.inl rfl) (pe_call GR hr2 rfl DR.m DR.F.kp DR.b .nil pass0 (pa_cons (pv 4) (pa_cons (pe_op op_sub (pv 3) pe_int) pa_nil))))
      (pss_cons (ps_if (pt_cmpR op_ne (pv 5) (pe_un un_neg pe_int) (nomark _)) (pss_one ps_never) pss_nil)
      (pss_one (ps_fld (pv 0) (pe_call GF hr rfl DF.m DF.F.kp DF.b .nil pass0 (pa_cons (pv 1) (pa_cons (pv 2) (pa_cons (pv 3) (pa_cons (pv 4) pa_nil))))) rfl))))))), ?_⟩
    case E1 =>
      rintro σ H1 Q1 ⟨h1, hE, k⟩
      rcases List.eq_nil_or_concat (lowF start F) with z | ⟨l, y, z⟩
      · rw [z] at hE
        exact ⟨_, h1, e, _, rfl, .inr (.of hE), _, _, rfl, rfl, _, rfl, iteF (k 0 (by omega))⟩
      · rw [List.concat_eq_append] at z
        have hy : y < start := by
          have : y ∈ lowF start F := by
            rw [z]
            simp
          exact (mem_lowF.mp this).1
        rw [z, nums_app] at hE
        refine ⟨_, h1, e, _, rfl, .inr (.of hE), _, _, rfl, rfl, _, rfl, iteB (fun _ => ?_) (fun z => ?_)⟩
        · exact ⟨_, h1, 1, rfl, e, _, _, _, rfl, rfl, .of hE, atI_last _ _, _, _, rfl, rfl, k _ (by show ((y : Nat) : Int) + 1 ≤ _; omega)⟩
        · exact k 0 (by omega)
    refine ⟨_, rfl, e, .non, lowF start F, rfl, he, lowF_rise _ _, .inl rfl, fun H1 s1 => ?_⟩
    refine ⟨_, rfl, 1, rfl, rfl, _, rfl, iteNS rfl ?_⟩
    have b1 := B.b1
    have b18 := B.b18
    have s9 := B.s9
    refine ⟨_, rfl, rfl, s1 _ _ he, fun j hj => ⟨(start : Nat), j, 20000, rfl, hj, by omega, ?_⟩⟩
    refine ⟨_, rfl, (b : Nat), 1, 20000, rfl, by omega, by omega, ?_⟩
    refine ⟨_, rfl, _, rfl, _, _, rfl, rfl, a, .int ((b : Nat) - 1), rests, rfl, s1 _ _ ha, B.rise, .inr ⟨_, rfl, fun r hr => by have := B.low r hr; omega⟩, fun H2 s2 => ?_⟩
    refine ⟨_, rfl, 1, rfl, rfl, _, rfl, iteNS rfl ?_⟩
    obtain ⟨K0, hK, hP⟩ := B.tell
    have s12 := s1.trans s2
    refine ⟨_, rfl, _, rfl, _, rfl, _, rfl, F, start, b, p, e, a, rests, K0, S, rfl, s12 _ _ he, s12 _ _ ha, s9, b1, b18, B.len, hK, hP, B.S, fun H3 t s3 hf => ?_⟩
    have s13 := s12.trans s3
    refine ⟨_, rfl, x, C, dx, [], rfl, s13 _ _ hx, T.cl, T.nF, (by show 0 < 1000; decide), ?_⟩
    refine q _ t (fun c o hc h => by rw [upd_ne hc]; exact s13 _ _ h) ⟨⟨dx, upd_same⟩, ?_⟩
    obtain ⟨e', r', f1, f2, f3⟩ := hf
    have hx3 := s13 _ _ hx
    refine ⟨e', r', ?_, ?_, ?_⟩
    · rw [upd_ne (ne_of f1 hx3 (by intro z; cases z))]
      exact f1
    · rw [upd_ne (ne_of f2 hx3 (by intro z; cases z))]
      exact f2
    · rw [upd_ne (ne_of f3 hx3 (by intro z; cases z))]
      exact f3
theorem ok_has {f : Addr} {fd : FuncData} (D : Df K mg "has" sHas f fd ["form", "number"]) : FnOk P w K mg base CX0 1 f fd ["form", "number"] spHas := by
  refine D.F.ok scHas (fun vs H Q E h => ?_) (fun cdv A outer s H vs Q E hr h => ?_)
  · obtain ⟨t, L, S, st, p, x, rfl, _⟩ := h
    rfl
  · obtain ⟨t, L, S, st, p, x, rfl, ⟨e, r, h1, h2, h3⟩, p1, q⟩ := h
    refine ⟨_, pss_one (ps_ret (pe_ifExp (pt_cmpR op_lt (pv 1) (pe_ix ix_tup (pv 0) pe_int (fun _ _ => rfl)) (nomark _)) (pe_cmpR op_in_seq (pv 1) (pe_ix ix_tup (pv 0) pe_int (fun _ _ => rfl)) (by with_unfolding_all rfl))
      (pe_cmpR op_in_seq (pe_op op_mod (pv 1) (pe_ix ix_tup (pv 0) pe_int (fun _ _ => rfl))) (pe_ix ix_tup (pv 0) pe_int (fun _ _ => rfl)) (by with_unfolding_all rfl)))), ?_⟩
    unfold hasM at q
    refine ⟨_, rfl, _, rfl, t, _, 1, _, rfl, rfl, .of h1, atI_nat (j := 1) rfl, _, _, rfl, rfl, _, rfl, iteB (fun e1 => ?_) (fun e1 => ?_)⟩
    · have hl : x < st := by
        have := of_decide_eq_true e1
        omega
      rw [if_pos hl] at q
      refine ⟨_, rfl, _, rfl, t, _, 0, _, rfl, rfl, .of h1, atI_nat (j := 0) rfl, e, _, rfl, .inr (.of h2), rfl, nums_flat _, ?_⟩
      rw [nums_in]
      exact q
    · have hl : ¬ x < st := by
        have := of_decide_eq_false e1
        omega
      rw [if_neg hl] at q
      refine ⟨_, rfl, _, rfl, t, _, 2, _, rfl, rfl, .of h1, atI_nat (j := 2) rfl, _, _, rfl, rfl, (by show (0 : Int) < (p : Nat); omega), _, rfl, t, _, 3, _, rfl, rfl, .of h1, atI_nat (j := 3) rfl, r, _, rfl, .inr (.of h3), rfl, nums_flat _, ?_⟩
      show Q (.bl (inV (V.int (((x : Nat) : Int) % ((p : Nat) : Int))) (nums S))) H
      rw [emod_cast, nums_in]
      exact q
end
end K66

namespace K66
open PySem L2
/-- the data of a form -/
def dNums (l : List Nat) : PyData := .tuple (l.map fun n => PyData.int (n : Nat))
def dForm (L : List Nat) (s p : Nat) (S : List Nat) : PyData := .tuple [dNums L, .int (s : Nat), .int (p : Nat), dNums S]
theorem dpAll_nums (K : PySem.W.Frag) (H : Hp) : ∀ l : List Nat, DpAll K H (nums l) (l.map fun n => PyData.int (n : Nat))
  | [] => .nil
  | n :: l => .cons (.int _) (dpAll_nums K H l)
theorem dp_nums {K : PySem.W.Frag} {H : Hp} {a : Addr} {l : List Nat} (h : H a = some (.tup (nums l))) : Dp K H (.ref a) (dNums l) := .tup (.of h) (dpAll_nums K H l)
theorem FormAt.dp {K : PySem.W.Frag} {H : Hp} {t : Addr} {L S : List Nat} {s p : Nat} (h : FormAt H t L s p S) : Dp K H (.ref t) (dForm L s p S) := by
  obtain ⟨e, r, h1, h2, h3⟩ := h
  exact .tup (.of h1) (.cons (dp_nums h2) (.cons (.int _) (.cons (.int _) (.cons (dp_nums h3) .nil))))
theorem depthAll_nums : ∀ l : List Nat, PyData.depthAll (l.map fun n => PyData.int (n : Nat)) = 0
  | [] => by simp [PyData.depthAll]
  | n :: l => by
    rw [List.map_cons, PyData.depthAll, depthAll_nums l]
    rfl
theorem depth_nums (l : List Nat) : (dNums l).depth = 1 := by
  unfold dNums
  rw [PyData.depth, depthAll_nums]
theorem depth_form (L S : List Nat) (s p : Nat) : (dForm L s p S).depth = 2 := by
  unfold dForm
  rw [PyData.depth, PyData.depthAll, PyData.depthAll, PyData.depthAll, PyData.depthAll, PyData.depthAll, depth_nums, depth_nums]
  rfl
theorem canLayAll_nums : ∀ l : List Nat, PyData.canLayAll0 (l.map fun n => PyData.int (n : Nat)) = true
  | [] => by simp [PyData.canLayAll0]
  | n :: l => by
    rw [List.map_cons, PyData.canLayAll0, canLayAll_nums l]
    rfl
theorem canLay_nums (l : List Nat) : (dNums l).canLay0 = true := by
  unfold dNums
  rw [PyData.canLay0, canLayAll_nums]
theorem shaped_form (L S : List Nat) (s p : Nat) : SeqAt.shaped (dForm L s p S) = true := by
  unfold SeqAt.shaped
  rw [depth_form]
  unfold dForm
  rw [PyData.canLay0, PyData.canLayAll0, PyData.canLayAll0, PyData.canLayAll0, PyData.canLayAll0, canLay_nums, canLay_nums]
  rfl
theorem eqv_form (L S : List Nat) (s p : Nat) : PyData.eqv (dForm L s p S) (dForm L s p S) = true := SeqAt.eqv_refl _ (SeqAt.canLay_of_shaped (shaped_form L S s p))
/-- what == asks of the class besides Txt -/
structure TxtEq (K : PySem.W.Frag) (C : Addr) : Prop where
  kT : PySem.W.kitOne K (.type "tuple") (.ref C) = some false
  kS : PySem.W.kitOne K (.type "str") (.ref C) = some false
  nC : PySem.W.notFirst K C (.ref C) = true
  nT : PySem.W.notFirst K C (.type "tuple") = true
  nS : PySem.W.notFirst K C (.type "str") = true
def spEq (K : PySem.W.Frag) (C : Addr) : Sp := fun vs H Q _ => ∃ (x t : Addr) (L S : List Nat) (s p : Nat) (y : V) (b : Bool), vs = [.ref x, y] ∧ CircAt C H x t L s p S ∧
  ((∃ (x2 t2 : Addr) (L2 S2 : List Nat) (s2 p2 : Nat), y = .ref x2 ∧ CircAt C H x2 t2 L2 s2 p2 S2 ∧ b = PyData.eqv (dForm L s p S) (dForm L2 s2 p2 S2)) ∨
   (∃ T, TyX K H y (.type T) ∧ (T = "tuple" ∨ T = "str") ∧ b = false)) ∧ Q (.bl b) H
def byText (p : Nat) : Str := (Str.empty ++ ("Circle by " : Str)) ++ (toString ((p : Nat) : Int) : String)
def spRepr (C : Addr) : Sp := fun vs H Q _ => ∃ (x t : Addr) (L S : List Nat) (s p : Nat), vs = [.ref x] ∧ CircAt C H x t L s p S ∧ p ≤ 6 ∧ Q (.str (byText p)) H
theorem byText_len : ∀ p, p ≤ 6 → (byText p).length ≤ 20 := by
  have h : ∀ p, p < 7 → (byText p).length ≤ 20 := by decide +kernel
  exact fun p hp => h p (by omega)
section
variable {P : Program} {w : World} {K : PySem.W.Frag} {mg : Str → Option Value} {base : Heap} {C : Addr}
theorem ok_pe {f : Addr} {fd : FuncData} (D : Fun K "early" "Circle.early" sPE f fd) (T : Txt K mg C) : FnOk P w K mg base CX0 1 f fd ["self"] (spGet C 0) := by
  refine D.ok scPE (fun vs H Q E h => ?_) (fun cdv A outer s H vs Q E hr h => ?_)
  · obtain ⟨x, dx, t, xs, v, rfl, _⟩ := h
    rfl
  · obtain ⟨x, dx, t, xs, v, rfl, hx, ht, hv, q⟩ := h
    exact ⟨_, pss_one (ps_ret (pe_ix ix_tup (pe_fld (pv 0) rfl) pe_int (fun _ _ => rfl))), _, rfl, x, C, dx, _, _, rfl, hx, T.cl, T.nF, fF_get _, t, _, 0, _, rfl, rfl, .of ht, atI_nat (j := 0) hv, q⟩
theorem ok_ps {f : Addr} {fd : FuncData} (D : Fun K "start" "Circle.start" sPS f fd) (T : Txt K mg C) : FnOk P w K mg base CX0 1 f fd ["self"] (spGet C 1) := by
  refine D.ok scPS (fun vs H Q E h => ?_) (fun cdv A outer s H vs Q E hr h => ?_)
  · obtain ⟨x, dx, t, xs, v, rfl, _⟩ := h
    rfl
  · obtain ⟨x, dx, t, xs, v, rfl, hx, ht, hv, q⟩ := h
    exact ⟨_, pss_one (ps_ret (pe_ix ix_tup (pe_fld (pv 0) rfl) pe_int (fun _ _ => rfl))), _, rfl, x, C, dx, _, _, rfl, hx, T.cl, T.nF, fF_get _, t, _, 1, _, rfl, rfl, .of ht, atI_nat (j := 1) hv, q⟩
theorem ok_pb {f : Addr} {fd : FuncData} (D : Fun K "base" "Circle.base" sPB f fd) (T : Txt K mg C) : FnOk P w K mg base CX0 1 f fd ["self"] (spGet C 2) := by
  refine D.ok scPB (fun vs H Q E h => ?_) (fun cdv A outer s H vs Q E hr h => ?_)
  · obtain ⟨x, dx, t, xs, v, rfl, _⟩ := h
    rfl
  · obtain ⟨x, dx, t, xs, v, rfl, hx, ht, hv, q⟩ := h
    exact ⟨_, pss_one (ps_ret (pe_ix ix_tup (pe_fld (pv 0) rfl) pe_int (fun _ _ => rfl))), _, rfl, x, C, dx, _, _, rfl, hx, T.cl, T.nF, fF_get _, t, _, 2, _, rfl, rfl, .of ht, atI_nat (j := 2) hv, q⟩
theorem ok_pr {f : Addr} {fd : FuncData} (D : Fun K "rests" "Circle.rests" sPR f fd) (T : Txt K mg C) : FnOk P w K mg base CX0 1 f fd ["self"] (spGet C 3) := by
  refine D.ok scPR (fun vs H Q E h => ?_) (fun cdv A outer s H vs Q E hr h => ?_)
  · obtain ⟨x, dx, t, xs, v, rfl, _⟩ := h
    rfl
  · obtain ⟨x, dx, t, xs, v, rfl, hx, ht, hv, q⟩ := h
    exact ⟨_, pss_one (ps_ret (pe_ix ix_tup (pe_fld (pv 0) rfl) pe_int (fun _ _ => rfl))), _, rfl, x, C, dx, _, _, rfl, hx, T.cl, T.nF, fF_get _, t, _, 3, _, rfl, rfl, .of ht, atI_nat (j := 3) hv, q⟩
theorem ok_cont {f fI fH : Addr} {fd fdI fdH : FuncData} (D : Fun K "__contains__" "Circle.__contains__" sCont f fd) (DI : Df K mg "is_integer" sIsInt fI fdI ["value"]) (DH : Df K mg "has" sHas fH fdH ["form", "number"]) (T : Txt K mg C) :
    FnOk P w K mg base CX0 2 f fd ["self", "value"] (spCont K C) := by
  have GI : FnOk P w K mg base CX0 1 fI fdI ["value"] (spIsInt K) := ok_isInt DI T
  have GH : FnOk P w K mg base CX0 1 fH fdH ["form", "number"] spHas := ok_has DH
  refine D.ok scCont (fun vs H Q E h => ?_) (fun cdv A outer s H vs Q E hr h => ?_)
  · obtain ⟨x, t, L, S, st, p, v, b, rfl, _⟩ := h
    rfl
  · obtain ⟨x, t, L, S, st, p, v, b, rfl, ⟨⟨dx, hx⟩, hF⟩, p1, hv, q⟩ := h
    refine ⟨_, pss_one (ps_ret (pe_and (pe_call GI hr rfl DI.m DI.F.kp DI.b .nil pass0 (pa_cons (pv 1) pa_nil)) (pe_and (pe_cmpR op_ge (pv 1) pe_int (nomark _))
      (pe_one (pe_call GH hr rfl DH.m DH.F.kp DH.b .nil pass0 (pa_cons (pe_fld (pv 0) rfl) (pa_cons (pv 1) pa_nil))))))), ?_⟩
    rcases hv with ⟨n, rfl, rfl⟩ | ⟨i, rfl, hi, rfl⟩ | ⟨T', ty, hk, hne, rfl⟩
    · refine ⟨_, rfl, .int (n : Nat), "int", rfl, .base (.int _), by unfold kinds; simp, true, rfl, iteT ⟨_, rfl, _, _, rfl, rfl, _, rfl, iteB (fun _ => ?_) (fun e => ?_)⟩⟩
      · exact ⟨_, rfl, x, C, dx, _, _, rfl, hx, T.cl, T.nF, fF_get _, _, rfl, t, L, S, st, p, n, rfl, hF, p1, q⟩
      · have := of_decide_eq_false e
        omega
    · refine ⟨_, rfl, .int i, "int", rfl, .base (.int _), by unfold kinds; simp, true, rfl, iteT ⟨_, rfl, _, _, rfl, rfl, _, rfl, iteB (fun e => ?_) (fun e => ?_)⟩⟩
      · have := of_decide_eq_true e
        omega
      · exact q
    · refine ⟨_, rfl, v, T', rfl, ty, hk, (T' == "int"), rfl, iteB (fun e => absurd (eq_of_beq e) hne) (fun _ => q)⟩
theorem ok_eq {f : Addr} {fd : FuncData} (D : Fun K "__eq__" "Circle.__eq__" sEq f fd) (T : Txt K mg C) (TE : TxtEq K C) : FnOk P w K mg base CX0 1 f fd ["self", "other"] (spEq K C) := by
  refine D.ok scEq (fun vs H Q E h => ?_) (fun cdv A outer s H vs Q E hr h => ?_)
  · obtain ⟨x, t, L, S, st, p, v, b, rfl, _⟩ := h
    rfl
  · obtain ⟨x, t, L, S, st, p, v, b, rfl, ⟨⟨dx, hx⟩, hF⟩, hv, q⟩ := h
    refine ⟨_, pss_one (ps_ret (pe_and (pe_callB call_isi (by rfl) T.isi (by decide +kernel) (pa_cons (pv 1) (pa_cons (pe_glob (v := .ref C) (by rfl) T.mgC rfl) pa_nil)))
      (pe_one (pe_cmpR (op_eqD hr.units) (pe_fld (pv 0) rfl) (pe_fld (pv 1) rfl) (nomark _))))), ?_⟩
    rcases hv with ⟨x2, t2, L2', S2, s2, p2, rfl, ⟨⟨dx2, hx2⟩, hF2⟩, rfl⟩ | ⟨T', ty, hk, rfl⟩
    · refine ⟨_, rfl, .ref x2, _, _, _, true, rfl, .own C, .base (.ins hx2 T.cl T.ca T.cn T.ct T.cm), ?_, true, rfl, iteT ?_⟩
      · unfold PySem.W.kitOne
        rw [if_pos (beq_self_eq_true _)]
      · exact ⟨_, rfl, x, C, dx, _, _, rfl, hx, T.cl, T.nF, fF_get _, _, rfl, x2, C, dx2, _, _, rfl, hx2, T.cl, T.nF, fF_get _, _, _, hF.dp, hF2.dp, shaped_form _ _ _ _, shaped_form _ _ _ _, q⟩
    · refine ⟨_, rfl, v, _, _, _, false, rfl, .own C, ty, ?_, false, rfl, iteF q⟩
      rcases hk with rfl | rfl
      · exact TE.kT
      · exact TE.kS
theorem ok_repr {f : Addr} {fd : FuncData} (D : Fun K "__repr__" "Circle.__repr__" sRepr f fd) (T : Txt K mg C) : FnOk P w K mg base CX0 1 f fd ["self"] (spRepr C) := by
  refine D.ok scRepr (fun vs H Q E h => ?_) (fun cdv A outer s H vs Q E hr h => ?_)
  · obtain ⟨x, t, L, S, st, p, rfl, _⟩ := h
    rfl
  · obtain ⟨x, t, L, S, st, p, rfl, ⟨⟨dx, hx⟩, ⟨e, r, h1, h2, h3⟩⟩, p6, q⟩ := h
    refine ⟨_, pss_one (ps_ret (pe_joined (PJ.cons pe_str (PJ.cons (pe_fmt (pe_ix ix_tup (pe_fld (pv 0) rfl) pe_int (fun _ _ => rfl))) PJ.nil)))), ?_⟩
    refine ⟨_, rfl, by decide +kernel, _, rfl, x, C, dx, _, _, rfl, hx, T.cl, T.nF, fF_get _, t, _, 2, _, rfl, rfl, .of h1, atI_nat (j := 2) rfl, .inr ⟨(p : Nat), rfl, ?_, _, rfl, ?_, q⟩⟩
    · have : ∀ p, p < 7 → (((p : Nat) : Int).natAbs.log2 < 1920) := by decide +kernel
      exact this p (by omega)
    · exact Nat.le_trans (byText_len p p6) (by decide)
end
end K66

namespace K66
open PySem L2
/-! ### the draws -/
def But (k : Addr) (H H' : Hp) : Prop := ∀ c o, c ≠ k → H c = some o → H' c = some o
theorem But.refl (k : Addr) (H : Hp) : But k H H := fun _ _ _ e => e
theorem But.trans {k : Addr} {H H1 H2 : Hp} (a : But k H H1) (b : But k H1 H2) : But k H H2 := fun c o n e => b c o n (a c o n e)
theorem Same.but {k : Addr} {H H1 : Hp} (a : Same H H1) : But k H H1 := fun c o _ e => a c o e
theorem But.new {k p : Addr} {H H1 : Hp} (a : But k H H1) (hp : H1 p = none) (o : HO) : But k H (upd H1 p o) := fun c u n e => by
  rw [upd_ne (ne_of_none (a c u n e) hp)]
  exact a c u n e
theorem But.put {k p : Addr} {H H1 : Hp} (a : But k H H1) (hp : H p = none) (o : HO) : But k H (upd H1 p o) := fun c u n e => by
  rw [upd_ne (fun q => by rw [q, hp] at e; cases e)]
  exact a c u n e
theorem But.own {k : Addr} {H H1 : Hp} (a : But k H H1) (o : HO) : But k H (upd H1 k o) := fun c u n e => by
  rw [upd_ne n]
  exact a c u n e
def KegAt (H : Hp) (k : Addr) : Prop := ∃ a b c : Int, H k = some (.lst [.int a, .int b, .int c]) ∧ 0 ≤ b ∧ b < 2147482801
theorem KegAt.of {H H1 : Hp} {k : Addr} (h : KegAt H k) (e : H1 k = H k) : KegAt H1 k := by
  obtain ⟨a, b, c, h1, h2⟩ := h
  exact ⟨a, b, c, e.trans h1, h2⟩
def spKeg (K : PySem.W.Frag) : Sp := fun vs H Q _ => ∃ (a : Addr) (n : Nat) (ns : List Int), vs = [.ref a, .int (n : Nat)] ∧ SqL K H a (ns.map V.int) ∧ ns.length ≤ 63 ∧ n ≤ 10 ∧ ∀ (H' : Hp) (k : Addr), Same H H' → H k = none → KegAt H' k → Q (.ref k) H'
def spTap : Sp := fun vs H Q _ => ∃ (k : Addr) (u : Nat), vs = [.ref k, .int (u : Nat)] ∧ KegAt H k ∧ 1 ≤ u ∧ u ≤ 100 ∧ ∀ (H' : Hp) (r : Nat), But k H H' → KegAt H' k → r < u → Q (.int (r : Nat)) H'
def spAny : Sp := fun vs H Q _ => ∃ (k l : Addr) (xs : List V), vs = [.ref k, .ref l] ∧ l ≠ k ∧ KegAt H k ∧ H l = some (.lst xs) ∧ 1 ≤ xs.length ∧ xs.length ≤ 100 ∧ ∀ (H' : Hp) (r : Nat) (x : V), But k H H' → KegAt H' k → xs[r]? = some x → Q x H'
section
variable {P : Program} {w : World} {K : PySem.W.Frag} {mg : Str → Option Value} {base : Heap} {C : Addr}
theorem ok_tap {f : Addr} {fd : FuncData} (D : Df K mg "_law_tap" sTap f fd ["_law_keg_here", "_law_upto"]) (T : Txt K mg C) : FnOk P w K mg base CX0 1 f fd ["_law_keg_here", "_law_upto"] spTap := by
  refine D.F.ok scTap (fun vs H Q E h => ?_) (fun cdv A outer s H vs Q E hr h => ?_)
  · obtain ⟨k, u, rfl, _⟩ := h
    rfl
  · obtain ⟨k, u, rfl, ⟨a, b, c, hk, b0, b1⟩, u1, u2, q⟩ := h
    refine ⟨_, pss_cons (ps_if (pt_cmpR op_gt (pe_ix ix_list (pv 0) pe_int (fun _ _ => rfl)) pe_int (nomark _))
        (pss_cons (ps_asg (pe_callB call_divmod (by rfl) T.divmod (by decide +kernel) (pa_cons (pe_ix ix_list (pv 0) pe_int (fun _ _ => rfl)) (pa_cons (pv 1) pa_nil)))
            (pg_tup rfl (pgs_cons (pg_sub (pv 0) pe_int set_list) (pgs_cons (pg_name (i := 2) scTap.nd rfl (Or.inl rfl)) pgs_nil))))
          (pss_one (ps_ret (pv 2)))) pss_nil)
      (pss_cons (ps_asg (pe_op op_add (pe_ix ix_list (pv 0) pe_int (fun _ _ => rfl)) pe_int) (pg_sub (pv 0) pe_int set_list))
      (pss_cons (ps_set (i := 3) scTap.nd rfl (Or.inl rfl) (pe_op op_mul (pe_ix ix_list (pv 0) pe_int (fun _ _ => rfl))
        (pe_op op_add (pe_op op_mod (pe_callTy call_int1 (by rfl) T.int (by decide +kernel) (pa_cons (pe_op op_fdiv (pe_ix ix_list (pv 0) pe_int (fun _ _ => rfl)) pe_int) pa_nil)) pe_int) pe_int)))
      (pss_cons (ps_asg (pe_op op_mod (pe_callTy call_int1 (by rfl) T.int (by decide +kernel) (pa_cons (pe_op op_add (pe_op op_add (pv 3) (pe_op op_mul pe_int (pe_ix ix_list (pv 0) pe_int (fun _ _ => rfl)))) pe_int) pa_nil)) pe_int)
        (pg_sub (pv 0) pe_int set_list))
      (pss_one (ps_ret (pe_op op_mod (pe_callTy call_int1 (by rfl) T.int (by decide +kernel) (pa_cons (pe_op op_fdiv (pe_ix ix_list (pv 0) pe_int (fun _ _ => rfl)) pe_int) pa_nil)) (pv 1))))))), ?_⟩
    have hu : (0 : Int) < (u : Nat) := by omega
    refine ⟨_, rfl, k, _, 0, _, rfl, rfl, .of hk, rfl, _, _, rfl, rfl, _, rfl, iteB (fun _ => ?_) (fun _ => ?_)⟩
    · refine ⟨_, rfl, k, _, 0, _, rfl, rfl, .of hk, rfl, _, rfl, _, _, rfl, ⟨hu, by show ((u : Nat) : Int) < 1073741824; omega⟩, fun t ht => ?_⟩
      have nkt : k ≠ t := fun z => by
        rw [← z, hk] at ht
        cases ht
      have hk1 : upd H t (.tup [.int (a / (u : Nat)), .int (a % (u : Nat))]) k = some (.lst [.int a, .int b, .int c]) := by
        rw [upd_ne nkt]
        exact hk
      refine ⟨t, _, rfl, .of upd_same, rfl, _, _, rfl, _, rfl, k, _, 0, _, rfl, rfl, hk1, rfl, _, _, rfl, rfl, ?_⟩
      obtain ⟨r, hr'⟩ : ∃ r : Nat, a % (u : Nat) = (r : Nat) := ⟨(a % (u : Nat)).toNat, by have := Int.emod_nonneg a (show ((u : Nat) : Int) ≠ 0 by omega); omega⟩
      refine ⟨_, rfl, ?_⟩
      show Q (V.int (a % ((u : Nat) : Int))) _
      rw [hr']
      refine q _ r (((But.refl k H).new ht _).own _) ⟨_, b, c, upd_same, b0, b1⟩ ?_
      have := Int.emod_lt_of_pos a hu
      omega
    · refine ⟨_, rfl, k, _, 2, _, rfl, rfl, .of hk, rfl, _, _, rfl, rfl, _, rfl, k, _, 2, _, rfl, rfl, hk, rfl, ?_⟩
      refine ⟨_, rfl, k, _, 1, _, rfl, rfl, .of upd_same, rfl, _, rfl, k, _, 1, _, rfl, rfl, .of upd_same, rfl, _, _, rfl, rfl, ⟨by decide, by decide⟩, .inl ⟨_, rfl, _, _, rfl, rfl, (by show (0 : Int) < 43003; decide), _, _, rfl, rfl, _, _, rfl, rfl, .inl ⟨by omega, by omega⟩, ?_⟩⟩
      refine ⟨_, rfl, _, rfl, k, _, 2, _, rfl, rfl, .of upd_same, rfl, _, _, rfl, rfl, .inl ⟨by decide, by decide⟩, _, _, rfl, rfl, _, _, rfl, rfl, .inl ⟨_, rfl, _, _, rfl, rfl, (by show (0 : Int) < 2147482801; decide), _, rfl, k, _, 1, _, rfl, rfl, upd_same, rfl, ?_⟩⟩
      refine ⟨_, rfl, k, _, 1, _, rfl, rfl, .of upd_same, rfl, _, _, rfl, rfl, ⟨by decide, by decide⟩, .inl ⟨_, rfl, _, rfl, _, _, rfl, rfl, hu, ?_⟩⟩
      generalize b * (b / 8 % 43003 + 89) + 10103 * (c + 1) + 53 = y
      obtain ⟨r, hr'⟩ : ∃ r : Nat, y % 2147482801 / 8192 % (u : Nat) = (r : Nat) := ⟨(y % 2147482801 / 8192 % (u : Nat)).toNat, by have := Int.emod_nonneg (y % 2147482801 / 8192) (show ((u : Nat) : Int) ≠ 0 by omega); omega⟩
      show Q (V.int (y % 2147482801 / 8192 % ((u : Nat) : Int))) _
      rw [hr']
      refine q _ r (((But.refl k H).own _).own _) ⟨a, y % 2147482801, c + 1, upd_same, ?_, ?_⟩ ?_
      · exact Int.emod_nonneg _ (by decide)
      · exact Int.emod_lt_of_pos _ (by decide)
      · have := Int.emod_lt_of_pos (y % 2147482801 / 8192) hu
        omega
theorem ok_any {f fT : Addr} {fd fdT : FuncData} (D : Df K mg "_law_any" sAny f fd ["_law_keg_here", "_law_things"]) (DT : Df K mg "_law_tap" sTap fT fdT ["_law_keg_here", "_law_upto"]) (T : Txt K mg C) : FnOk P w K mg base CX0 2 f fd ["_law_keg_here", "_law_things"] spAny := by
  have GT : FnOk P w K mg base CX0 1 fT fdT ["_law_keg_here", "_law_upto"] spTap := ok_tap DT T
  refine D.F.ok scAny (fun vs H Q E h => ?_) (fun cdv A outer s H vs Q E hr h => ?_)
  · obtain ⟨k, l, xs, rfl, _⟩ := h
    rfl
  · obtain ⟨k, l, xs, rfl, nlk, hk, hl, h1, h2, q⟩ := h
    refine ⟨_, pss_one (ps_ret (pe_ix ix_list (pv 1) (pe_call GT hr rfl DT.m DT.F.kp DT.b .nil pass0 (pa_cons (pv 0) (pa_cons (pe_callB call_len_seq (by rfl) T.len PySem.boot_len (pa_cons (pv 1) pa_nil)) pa_nil))) (fun _ _ => rfl))), ?_⟩
    refine ⟨_, rfl, _, rfl, _, rfl, l, _, rfl, .inl (.of hl), k, xs.length, rfl, hk, h1, h2, fun H1 r b1 k1 hr1 => ?_⟩
    have hx : xs[r]? = some xs[r] := List.getElem?_eq_getElem hr1
    exact ⟨l, xs, (r : Nat), xs[r], rfl, rfl, .of (b1 l _ nlk hl), atI_nat hx, q H1 r _ b1 k1 hx⟩
theorem ok_keg {f : Addr} {fd : FuncData} (D : Df K mg "_law_keg" sKeg f fd ["_law_cells", "_law_at"]) (T : Txt K mg C) : FnOk P w K mg base CX0 1 f fd ["_law_cells", "_law_at"] (spKeg K) := by
  refine D.F.ok scKeg (fun vs H Q E h => ?_) (fun cdv A outer s H vs Q E hr h => ?_)
  · obtain ⟨a, n, ns, rfl, _⟩ := h
    rfl
  · obtain ⟨a, n, ns, rfl, hS, hl, hn, q⟩ := h
    refine ⟨_, pss_cons (ps_set (i := 2) scKeg.nd rfl (Or.inl rfl)
        (pe_imp (t' := fun σ H' Q => σ[0]? = some (some (.ref a)) ∧ σ[1]? = some (some (.int (n : Nat))) ∧ H' = H ∧ ∀ o : Int, Q (.int o) H')
          (pe_ifExp (pt_cmpR op_lt (pv 1) (pe_callB call_len_seq (by rfl) T.len PySem.boot_len (pa_cons (pv 0) pa_nil)) (nomark _)) (pe_ix ix_list (pv 0) (pv 1) (fun _ _ => rfl)) pe_int) ?E1))
      (pss_cons (ps_set (i := 3) scKeg.nd rfl (Or.inl rfl) (pe_op op_add pe_int (pe_op op_mul pe_int (pv 1))))
      (pss_cons (ps_for PassesOwn.never rfl (pi_range1 (by rfl) T.range (pa_cons (pe_callB (call_min2 rfl) (by rfl) T.min (by decide +kernel) (pa_cons (pe_callB call_len_seq (by rfl) T.len PySem.boot_len (pa_cons (pv 0) pa_nil)) (pa_cons pe_int pa_nil))) pa_nil)) (pg_name (i := 4) scKeg.nd rfl (Or.inl rfl))
        (pss_one (ps_set (i := 3) scKeg.nd rfl (Or.inl rfl) (pe_op op_mod (pe_callTy call_int1 (by rfl) T.int (by decide +kernel) (pa_cons
          (pe_op op_add (pe_op op_add (pe_op op_mul (pv 3) (pe_op op_add pe_int (pe_op op_mul pe_int (pv 4)))) (pe_op op_mul pe_int (pe_ix ix_list (pv 0) (pv 4) (fun _ _ => rfl)))) pe_int) pa_nil)) pe_int))))
      (pss_one (ps_ret (pe_lst (pa_cons
        (pe_imp (t' := fun σ H' Q => (∃ o : Int, σ[2]? = some (some (.int o))) ∧ ∀ z : Int, Q (.int z) H')
          (pe_ifExp (PW.pt (pw_or (pt_cmpR op_lt (pv 2) pe_int (nomark _)) (pw_or1 (pt_cmpR op_ge (pv 2) (pe_op op_pow pe_int pe_int) (nomark _))))) (pe_callB call_abs (by rfl) T.abs (by decide +kernel) (pa_cons (pv 2) pa_nil)) pe_int) ?E2)
        (pa_cons (pe_op op_mod (pe_callTy call_int1 (by rfl) T.int (by decide +kernel) (pa_cons (pe_op op_add (pe_op op_mul (pv 3) pe_int) (pe_op op_mul (pv 2) pe_int)) pa_nil)) pe_int) (pa_cons pe_int pa_nil)))))))), ?_⟩
    case E1 =>
      rintro σ H1 Q1 ⟨h0, h1, rfl, k⟩
      refine ⟨_, h1, _, h0, a, _, rfl, .inl hS, _, _, rfl, rfl, _, rfl, iteB (fun e => ?_) (fun e => k 0)⟩
      have hlt : n < ns.length := by
        have := of_decide_eq_true e
        rw [List.length_map] at this
        omega
      exact ⟨_, h0, _, h1, a, _, _, _, rfl, rfl, hS, atI_nat (j := n) (by rw [List.getElem?_map, List.getElem?_eq_getElem hlt]; rfl), k _⟩
    case E2 =>
      rintro σ H1 Q1 ⟨⟨o, h2⟩, k⟩
      refine ⟨_, h2, _, _, rfl, rfl, _, rfl, iteB (fun e => ?_) (fun e => ?_)⟩
      · exact iteT ⟨_, h2, o, rfl, k _⟩
      · refine ⟨_, h2, _, _, rfl, rfl, ⟨by decide, by decide, by decide⟩, _, _, rfl, rfl, _, rfl, iteB (fun _ => ?_) (fun _ => k 0)⟩
        exact ⟨_, h2, o, rfl, k _⟩
    refine ⟨rfl, rfl, rfl, fun o => ?_⟩
    refine ⟨_, rfl, _, _, rfl, rfl, .inl ⟨by decide, by decide⟩, _, _, rfl, rfl, ?_⟩
    refine ⟨_, rfl, a, _, rfl, .inl hS, _, _, rfl, _, rfl, by split <;> omega, by split <;> omega, ?_⟩
    refine for_range (lo := 0) (n := (if (8 : Int) < ((ns.map V.int).length : Nat) then (8 : Int) else ((ns.map V.int).length : Nat)).toNat) (fun i σ H' => ∃ (b : Int) (v : Option V), σ = [some (.ref a), some (.int (n : Nat)), some (.int o), some (.int b), v] ∧ H' = H ∧ 0 ≤ b ∧ b < 2147482801)
      ⟨_, _, rfl, rfl, by show (0 : Int) ≤ 258779 + 23011 * ((n : Nat) : Int); omega, by show (258779 : Int) + 23011 * ((n : Nat) : Int) < 2147482801; omega⟩ ?_ ?_
    · rintro i σ H1 hi ⟨b, v, rfl, rfl, b0, b1⟩
      have hlt : i < ns.length := by
        rw [List.length_map] at hi
        split at hi <;> omega
      have hi8 : i < 8 := by
        split at hi <;> omega
      refine ⟨_, rfl, _, rfl, _, _, rfl, rfl, .inl ⟨by decide, by decide⟩, _, _, rfl, rfl, _, _, rfl, rfl, .inl ⟨by omega, by omega⟩, _, rfl, _, rfl, a, _, _, _, rfl, rfl, hS, (by rw [Int.zero_add]; exact atI_nat (j := i) (by rw [List.getElem?_map, List.getElem?_eq_getElem hlt]; rfl)), _, _, rfl, rfl, .inl ⟨by decide, by decide⟩, _, _, rfl, rfl, _, _, rfl, rfl, .inl ⟨_, rfl, _, _, rfl, rfl, (by show (0 : Int) < 2147482801; decide), ?_⟩⟩
      exact ⟨_, _, rfl, rfl, Int.emod_nonneg _ (by decide), Int.emod_lt_of_pos _ (by decide)⟩
    · rintro σ H1 ⟨b, v, rfl, rfl, b0, b1⟩
      refine ⟨⟨o, rfl⟩, fun z => ?_⟩
      refine ⟨_, rfl, _, _, rfl, rfl, .inl ⟨by omega, by omega⟩, _, rfl, _, _, rfl, rfl, .inr ⟨by decide, by decide⟩, _, _, rfl, rfl, .inl ⟨_, rfl, _, _, rfl, rfl, (by show (0 : Int) < 2147482801; decide), ?_⟩⟩
      refine ⟨by show 3 ≤ sizeLine; decide, fun p hp => ?_⟩
      exact q _ p (same_new (Same.refl _) hp _) hp ⟨_, _, _, upd_same, Int.emod_nonneg _ (by decide), Int.emod_lt_of_pos _ (by decide)⟩
end
end K66

namespace K66
open PySem L2
/-- a drawn circle: its early ones, its start, its base, its rests -/
def CAt (H : Hp) (c : Addr) (L : List Nat) (b n : Nat) (R : List Nat) : Prop := ∃ l r : Addr, H c = some (.tup [.ref l, .int (b : Nat), .int (n : Nat), .ref r]) ∧ H l = some (.lst (nums L)) ∧ H r = some (.lst (nums R))
theorem CAt.same {H H1 : Hp} {c : Addr} {L R : List Nat} {b n : Nat} (h : CAt H c L b n R) (s : Same H H1) : CAt H1 c L b n R := by
  obtain ⟨l, r, h1, h2, h3⟩ := h
  exact ⟨l, r, s _ _ h1, s _ _ h2, s _ _ h3⟩
/-- a drawn circle apart from the keg at k -/
def CApart (H : Hp) (k c : Addr) (L : List Nat) (b n : Nat) (R : List Nat) : Prop := ∃ l r : Addr, c ≠ k ∧ l ≠ k ∧ r ≠ k ∧ H c = some (.tup [.ref l, .int (b : Nat), .int (n : Nat), .ref r]) ∧ H l = some (.lst (nums L)) ∧ H r = some (.lst (nums R))
theorem CApart.at {H : Hp} {k c : Addr} {L R : List Nat} {b n : Nat} (h : CApart H k c L b n R) : CAt H c L b n R := by
  obtain ⟨l, r, _, _, _, h1, h2, h3⟩ := h
  exact ⟨l, r, h1, h2, h3⟩
theorem CApart.but {H H1 : Hp} {k c : Addr} {L R : List Nat} {b n : Nat} (h : CApart H k c L b n R) (s : But k H H1) : CApart H1 k c L b n R := by
  obtain ⟨l, r, n1, n2, n3, h1, h2, h3⟩ := h
  exact ⟨l, r, n1, n2, n3, s _ _ n1 h1, s _ _ n2 h2, s _ _ n3 h3⟩
def spSet : Sp := fun vs H Q _ => ∃ (k : Addr), vs = [.ref k, .int 6] ∧ KegAt H k ∧ ∀ (H' : Hp) (c : Addr) (f g : Nat → Bool) (b n : Nat), But k H H' → KegAt H' k → b ≤ 6 → 1 ≤ n → n ≤ 6 → H c = none → CApart H' k c (lowF b f) b n (lowF n g) → Q (.ref c) H'
def spLHas : Sp := fun vs H Q _ => ∃ (c : Addr) (L R : List Nat) (b n x : Nat), vs = [.ref c, .int (x : Nat)] ∧ CAt H c L b n R ∧ 1 ≤ n ∧ Q (.bl (hasM L b n R x)) H
def flagsM (F : Nat → Bool) (w : Nat) : List V := (List.range w).map fun x => V.bl (F x)
def spFlags : Sp := fun vs H Q _ => ∃ (c : Addr) (L R : List Nat) (b n w : Nat), vs = [.ref c, .int (w : Nat)] ∧ CAt H c L b n R ∧ 1 ≤ n ∧ w ≤ 100 ∧ ∀ (H' : Hp) (p : Addr), Same H H' → H p = none → H' p = some (.lst (flagsM (hasM L b n R) w)) → Q (.ref p) H'
def spShown (C : Addr) : Sp := fun vs H Q _ => ∃ (x t : Addr) (L S : List Nat) (s p : Nat), vs = [.ref x] ∧ CircAt C H x t L s p S ∧ ∀ (H' : Hp) (t' : Addr), Same H H' → FormAt H' t' L s p S → Q (.ref t') H'
def spCirc (C : Addr) : Sp := fun vs H Q _ => ∃ (c : Addr) (F : Nat → Bool) (b n p : Nat) (R S : List Nat), vs = [.ref c] ∧ CAt H c (lowF b F) b n R ∧ Told F b n p R S ∧
  ∀ (H' : Hp) (x t : Addr), Same H H' → H x = none → CircAt C H' x t (lowF (startOf F p S b) F) (startOf F p S b) p S → Q (.ref x) H'
def spAgain : Sp := fun vs H Q _ => ∃ (k c : Addr) (L R : List Nat) (b n : Nat), vs = [.ref k, .ref c] ∧ KegAt H k ∧ CApart H k c L b n R ∧ 1 ≤ n ∧ n ≤ 6 ∧ b ≤ 6 ∧
  ∀ (H' : Hp) (d : Addr) (m w : Nat), But k H H' → KegAt H' k → m < 4 → 1 ≤ w → w ≤ 3 → H d = none → CApart H' k d (lowF (b + m) (hasM L b n R)) (b + m) (n * w) (expand n w R) → Q (.ref d) H'
theorem lowF_ext (f : Nat → Bool) (i : Nat) (b : Bool) : ∃ f' : Nat → Bool, lowF (i + 1) f' = if b = true then lowF i f ++ [i] else lowF i f := by
  refine ⟨fun x => if x = i then b else f x, ?_⟩
  rw [lowF_succ, if_pos rfl]
  have e : lowF i (fun x => if x = i then b else f x) = lowF i f := lowF_congr fun x hx => if_neg (by omega)
  rw [e]
theorem KegAt.some {H : Hp} {k p : Addr} (h : KegAt H k) (hp : H p = none) : p ≠ k := fun z => by
  obtain ⟨a, b, c, e, _⟩ := h
  rw [← z, hp] at e
  cases e
theorem zadd (i : Nat) : (0 : Int) + ((i : Nat) : Int) = ((i : Nat) : Int) := Int.zero_add _
section
variable {P : Program} {w : World} {K : PySem.W.Frag} {mg : Str → Option Value} {base : Heap} {C : Addr}
theorem ok_lhas {f : Addr} {fd : FuncData} (D : Df K mg "_law_has" sLHas f fd ["_law_c", "_law_x"]) (T : Txt K mg C) : FnOk P w K mg base CX0 1 f fd ["_law_c", "_law_x"] spLHas := by
  refine D.F.ok scLHas (fun vs H Q E h => ?_) (fun cdv A outer s H vs Q E hr h => ?_)
  · obtain ⟨c, L, R, b, n, x, rfl, _⟩ := h
    rfl
  · obtain ⟨c, L, R, b, n, x, rfl, ⟨l, r, h1, h2, h3⟩, n1, q⟩ := h
    refine ⟨_, pss_one (ps_ret (pe_ifExp (pt_cmpR op_lt (pv 1) (pe_ix ix_tup (pv 0) pe_int (fun _ _ => rfl)) (nomark _)) (pe_cmpR op_in_seq (pv 1) (pe_ix ix_tup (pv 0) pe_int (fun _ _ => rfl)) (by with_unfolding_all rfl))
      (pe_cmpR op_in_seq (pe_op op_mod (pe_callTy call_int1 (by rfl) T.int (by decide +kernel) (pa_cons (pv 1) pa_nil)) (pe_ix ix_tup (pv 0) pe_int (fun _ _ => rfl))) (pe_ix ix_tup (pv 0) pe_int (fun _ _ => rfl)) (by with_unfolding_all rfl)))), ?_⟩
    unfold hasM at q
    refine ⟨_, rfl, _, rfl, c, _, 1, _, rfl, rfl, .of h1, atI_nat (j := 1) rfl, _, _, rfl, rfl, _, rfl, iteB (fun e1 => ?_) (fun e1 => ?_)⟩
    · have hl : x < b := by
        have := of_decide_eq_true e1
        omega
      rw [if_pos hl] at q
      refine ⟨_, rfl, _, rfl, c, _, 0, _, rfl, rfl, .of h1, atI_nat (j := 0) rfl, l, _, rfl, .inl (.of h2), rfl, nums_flat _, ?_⟩
      rw [nums_in]
      exact q
    · have hl : ¬ x < b := by
        have := of_decide_eq_false e1
        omega
      rw [if_neg hl] at q
      refine ⟨_, rfl, .inl ⟨_, rfl, _, rfl, c, _, 2, _, rfl, rfl, .of h1, atI_nat (j := 2) rfl, _, _, rfl, rfl, (by show (0 : Int) < (n : Nat); omega), _, rfl, c, _, 3, _, rfl, rfl, .of h1, atI_nat (j := 3) rfl, r, _, rfl, .inl (.of h3), rfl, nums_flat _, ?_⟩⟩
      show Q (.bl (inV (V.int (((x : Nat) : Int) % ((n : Nat) : Int))) (nums R))) H
      rw [emod_cast, nums_in]
      exact q
theorem ok_flags {f fH : Addr} {fd fdH : FuncData} (D : Df K mg "_law_flags" sFlags f fd ["_law_c", "_law_wide"]) (DH : Df K mg "_law_has" sLHas fH fdH ["_law_c", "_law_x"]) (T : Txt K mg C) : FnOk P w K mg base CX0 2 f fd ["_law_c", "_law_wide"] spFlags := by
  have GH : FnOk P w K mg base CX0 1 fH fdH ["_law_c", "_law_x"] spLHas := ok_lhas DH T
  refine D.F.ok scFlags (fun vs H Q E h => ?_) (fun cdv A outer s H vs Q E hr h => ?_)
  · obtain ⟨c, L, R, b, n, w, rfl, _⟩ := h
    rfl
  · obtain ⟨c, L, R, b, n, w, rfl, hc, n1, w1, q⟩ := h
    refine ⟨_, pss_one (ps_ret (pe_lc (own := [("_law_x", 2)]) (g := gName 2) (tt := tYes) rfl scFlags.nd (pi_range1 (by rfl) T.range (pa_cons (pv 1) pa_nil)) (blkOk_by (own := [("_law_x", 2)]) (N := ["_law_c", "_law_wide", "_law_x"]) (sc := defScope sFlags) (by decide +kernel))
        (fun _ _ _ _ _ => pg_name (i := 2) scFlags.nd rfl (Or.inl rfl)) (fun _ _ _ _ _ => pts_nil) (fun _ _ _ _ _ => pe_call GH hr rfl DH.m DH.F.kp DH.b .nil pass0 (pa_cons (pv 0) (pa_cons (pv 2) pa_nil))))), ?_⟩
    refine ⟨_, rfl, (w : Nat), rfl, by omega, by omega, fun D1 nD => lc_range (lo := 0) (n := w) (fun i H' => Same H H' ∧ H' D1 = some (.lst (flagsM (hasM L b n R) i))) ⟨same_new (Same.refl _) nD _, upd_same⟩ ?_ ?_⟩
    · rintro i H1 hi ⟨s1, hL⟩
      refine ⟨rfl, _, rfl, _, rfl, c, L, R, b, n, i, by rw [zadd]; rfl, hc.same s1, n1, _, hL, ?_, same_put s1 nD _, ?_⟩
      · unfold flagsM
        rw [List.length_map, List.length_range]
        exact Nat.lt_of_lt_of_le hi (Nat.le_trans w1 (by decide))
      · rw [upd_same]
        unfold flagsM
        rw [List.range_succ, List.map_append]
        rfl
    · rintro H1 ⟨s1, hL⟩
      exact q H1 D1 s1 nD hL
theorem ok_set {f fT fY : Addr} {fd fdT fdY : FuncData} (D : Df K mg "_law_set" sSet f fd ["_law_keg_here", "_law_most"]) (DT : Df K mg "_law_tap" sTap fT fdT ["_law_keg_here", "_law_upto"]) (DY : Df K mg "_law_any" sAny fY fdY ["_law_keg_here", "_law_things"]) (T : Txt K mg C) :
    FnOk P w K mg base CX0 3 f fd ["_law_keg_here", "_law_most"] spSet := by
  have GT : FnOk P w K mg base CX0 1 fT fdT ["_law_keg_here", "_law_upto"] spTap := ok_tap DT T
  have GY : FnOk P w K mg base CX0 2 fY fdY ["_law_keg_here", "_law_things"] spAny := ok_any DY DT T
  refine D.F.ok scSet (fun vs H Q E h => ?_) (fun cdv A outer s H vs Q E hr h => ?_)
  · obtain ⟨k, rfl, _⟩ := h
    rfl
  · obtain ⟨k, rfl, hk, q⟩ := h
    have hr1 : Room 1 _ := hr.mono (by decide)
    refine ⟨_, pss_cons (ps_par (i := 2) (j := 3) (by rfl) scSet.nd rfl rfl (by decide) rfl rfl (pa_cons (pe_call GY hr rfl DY.m DY.F.kp DY.b .nil pass0 (pa_cons (pv 0) (pa_cons (pe_lst (pa_cons pe_int (pa_cons pe_int (pa_cons pe_int (pa_cons pe_int (pa_cons pe_int pa_nil)))))) pa_nil)))
        (pa_cons (pe_op op_add pe_int (pe_call GT hr1 rfl DT.m DT.F.kp DT.b .nil pass0 (pa_cons (pv 0) (pa_cons (pv 1) pa_nil)))) pa_nil)) (by rfl))
      (pss_cons (ps_setLc (i := 4) (own := [("_law_x", 6)]) (g := gName 6) rfl scSet.nd rfl rfl (sw_true rfl rfl rfl (by decide +kernel)) (pi_range1 (by rfl) T.range (pa_cons (pv 2) pa_nil)) (blkOk_by (own := [("_law_x", 6)]) (N := ["_law_keg_here", "_law_most", "_law_begin", "_law_n", "_law_lows", "_law_lot", "_law_x", "_law_r"]) (sc := defScope sSet) (by decide +kernel))
        (fun _ _ _ _ _ => pg_name (i := 6) scSet.nd rfl (Or.inl rfl)) (fun _ _ _ _ _ => pts_one (pt_cmpR op_eq (pe_call GT hr1 rfl DT.m DT.F.kp DT.b .nil pass0 (pa_cons (pv 0) (pa_cons pe_int pa_nil))) pe_int (nomark _))) (fun _ _ _ _ _ => pv 6))
      (pss_cons (ps_setLc (i := 5) (own := [("_law_r", 7)]) (g := gName 7) rfl scSet.nd rfl rfl (sw_true rfl rfl rfl (by decide +kernel)) (pi_range1 (by rfl) T.range (pa_cons (pv 3) pa_nil)) (blkOk_by (own := [("_law_r", 7)]) (N := ["_law_keg_here", "_law_most", "_law_begin", "_law_n", "_law_lows", "_law_lot", "_law_x", "_law_r"]) (sc := defScope sSet) (by decide +kernel))
        (fun _ _ _ _ _ => pg_name (i := 7) scSet.nd rfl (Or.inl rfl)) (fun _ _ _ _ _ => pts_one (pt_cmpR op_eq (pe_call GT hr1 rfl DT.m DT.F.kp DT.b .nil pass0 (pa_cons (pv 0) (pa_cons pe_int pa_nil))) pe_int (nomark _))) (fun _ _ _ _ _ => pv 7))
      (pss_one (ps_ret (pe_tup (pa_cons (pv 4) (pa_cons (pv 2) (pa_cons (pv 3) (pa_cons (pv 5) pa_nil))))))))), ?_⟩
    refine ⟨_, rfl, by show 5 ≤ sizeLine; decide, fun l nl => ?_⟩
    have nlk : l ≠ k := hk.some nl
    refine ⟨k, l, _, rfl, nlk, hk.of (upd_ne nlk.symm), upd_same, by decide, by decide, fun H1 r0 x b1 k1 hx => ?_⟩
    obtain ⟨b, rfl, hb⟩ : ∃ b : Nat, x = .int (b : Nat) ∧ b ≤ 6 := by
      match r0, hx with
      | 0, h => cases h; exact ⟨0, rfl, by decide⟩
      | 1, h => cases h; exact ⟨0, rfl, by decide⟩
      | 2, h => cases h; exact ⟨1, rfl, by decide⟩
      | 3, h => cases h; exact ⟨3, rfl, by decide⟩
      | 4, h => cases h; exact ⟨6, rfl, by decide⟩
    have b1' : But k H H1 := ((But.refl k H).new nl _).trans b1
    refine ⟨_, rfl, _, rfl, k, 6, rfl, k1, by decide, by decide, fun H2 r b2 k2 hr2 => ?_⟩
    have b2' : But k H H2 := b1'.trans b2
    refine ⟨_, _, rfl, rfl, _, _, rfl, ?_⟩
    refine ⟨_, rfl, (b : Nat), rfl, by omega, by omega, fun D1 nD1 => lc_range (lo := 0) (n := b) (fun i H' => But k H2 H' ∧ KegAt H' k ∧ ∃ f, H' D1 = some (.lst (nums (lowF i f))))
      ⟨(But.refl k H2).new nD1 _, k2.of (upd_ne (k2.some nD1).symm), fun _ => true, upd_same⟩ ?_ ?_⟩
    · rintro i H3 hi ⟨b3, k3, f, hL⟩
      refine ⟨rfl, _, rfl, k, 2, rfl, k3, by decide, by decide, fun H4 r4 b4 k4 hr4 => ⟨rfl, _, rfl, ?_⟩⟩
      have nDk := k2.some nD1
      have hL4 := b4 D1 _ nDk hL
      obtain ⟨f', hf'⟩ := lowF_ext f i (decide (V.int (r4 : Nat) = V.int 0))
      refine iteB (fun e => ?_) (fun e => ?_)
      · rw [e, if_pos rfl] at hf'
        refine ⟨_, rfl, _, hL4, ?_, (b3.trans b4).put nD1 _, k4.of (upd_ne nDk.symm), f', ?_⟩
        · rw [nums_len]
          exact Nat.lt_of_le_of_lt (lowF_len _ _) (Nat.lt_of_lt_of_le hi (Nat.le_trans hb (by decide)))
        · rw [upd_same, hf', nums_app, zadd]
      · rw [e, if_neg Bool.false_ne_true] at hf'
        exact ⟨b3.trans b4, k4, f', by rw [hf']; exact hL4⟩
    · rintro H3 ⟨b3, k3, f, hL⟩
      have nDk := k2.some nD1
      refine ⟨_, rfl, 1 + (r : Nat), rfl, by omega, by omega, fun D2 nD2 => lc_range (lo := 0) (n := (1 + ((r : Nat) : Int)).toNat) (fun i H' => But k H3 H' ∧ KegAt H' k ∧ ∃ g, H' D2 = some (.lst (nums (lowF i g))))
        ⟨(But.refl k H3).new nD2 _, k3.of (upd_ne (k3.some nD2).symm), fun _ => true, upd_same⟩ ?_ ?_⟩
      · rintro i H4 hi ⟨b4, k4, g, hL2⟩
        refine ⟨rfl, _, rfl, k, 3, rfl, k4, by decide, by decide, fun H5 r5 b5 k5 hr5 => ⟨rfl, _, rfl, ?_⟩⟩
        have nDk2 := k3.some nD2
        have hL5 := b5 D2 _ nDk2 hL2
        obtain ⟨g', hg'⟩ := lowF_ext g i (decide (V.int (r5 : Nat) = V.int 0))
        refine iteB (fun e => ?_) (fun e => ?_)
        · rw [e, if_pos rfl] at hg'
          refine ⟨_, rfl, _, hL5, ?_, (b4.trans b5).put nD2 _, k5.of (upd_ne nDk2.symm), g', ?_⟩
          · rw [nums_len]
            exact Nat.lt_of_le_of_lt (lowF_len _ _) (Nat.lt_of_lt_of_le (show i < 10 by omega) (by decide))
          · rw [upd_same, hg', nums_app, zadd]
        · rw [e, if_neg Bool.false_ne_true] at hg'
          exact ⟨b4.trans b5, k5, g', by rw [hg']; exact hL5⟩
      · rintro H4 ⟨b4, k4, g, hL2⟩
        have nDk2 := k3.some nD2
        have hL4 := b4 D1 _ nDk hL
        have hn : (1 + ((r : Nat) : Int)).toNat = r + 1 := by omega
        rw [hn] at hL2
        refine ⟨_, rfl, _, rfl, _, rfl, _, rfl, by show 4 ≤ sizeLine; decide, fun c nc => ?_⟩
        have s5 : But k H4 (upd H4 c (.tup [.ref D1, .int (b : Nat), .int (1 + (r : Nat)), .ref D2])) := (But.refl k H4).new nc _
        have b04 : But k H H4 := b2'.trans (b3.trans b4)
        have nck := k4.some nc
        refine q _ c f g b (r + 1) (b04.trans s5) (k4.of (upd_ne nck.symm)) hb (by omega) (by omega) ?_ ⟨D1, D2, nck, nDk, nDk2, ?_, ?_, ?_⟩
        · cases e : H c with
          | none => rfl
          | some o =>
            rw [b04 c o nck e] at nc
            cases nc
        · rw [upd_same]
          show some (HO.tup [V.ref D1, V.int (b : Nat), V.int (1 + (r : Nat)), V.ref D2]) = _
          rw [show (1 : Int) + ((r : Nat) : Int) = ((r + 1 : Nat) : Int) by omega]
        · exact s5 _ _ nDk hL4
        · exact s5 _ _ nDk2 hL2
end
end K66

namespace K66
open PySem L2
/-- the four properties -/
structure Props (K : PySem.W.Frag) (C g0 g1 g2 g3 : Addr) (d0 d1 d2 d3 : FuncData) : Prop where
  p0 : ∃ p, PropOf K C "early" p g0
  p1 : ∃ p, PropOf K C "start" p g1
  p2 : ∃ p, PropOf K C "base" p g2
  p3 : ∃ p, PropOf K C "rests" p g3
  F0 : Fun K "early" "Circle.early" sPE g0 d0
  F1 : Fun K "start" "Circle.start" sPS g1 d1
  F2 : Fun K "base" "Circle.base" sPB g2 d2
  F3 : Fun K "rests" "Circle.rests" sPR g3 d3
  b0 : Binds K d0 ["self"] []
  b1 : Binds K d1 ["self"] []
  b2 : Binds K d2 ["self"] []
  b3 : Binds K d3 ["self"] []
section
variable {P : Program} {w : World} {K : PySem.W.Frag} {mg : Str → Option Value} {base : Heap} {C : Addr}
theorem ok_shown {f g0 g1 g2 g3 : Addr} {fd d0 d1 d2 d3 : FuncData} (D : Df K mg "_law_shown" sShown f fd ["_law_circle_here"]) (R : Props K C g0 g1 g2 g3 d0 d1 d2 d3) (T : Txt K mg C) : FnOk P w K mg base CX0 3 f fd ["_law_circle_here"] (spShown C) := by
  have G0 : FnOk P w K mg base CX0 1 g0 d0 ["self"] (spGet C 0) := ok_pe R.F0 T
  have G1 : FnOk P w K mg base CX0 1 g1 d1 ["self"] (spGet C 1) := ok_ps R.F1 T
  have G2 : FnOk P w K mg base CX0 1 g2 d2 ["self"] (spGet C 2) := ok_pb R.F2 T
  have G3 : FnOk P w K mg base CX0 1 g3 d3 ["self"] (spGet C 3) := ok_pr R.F3 T
  obtain ⟨p0, q0⟩ := R.p0
  obtain ⟨p1, q1⟩ := R.p1
  obtain ⟨p2, q2⟩ := R.p2
  obtain ⟨p3, q3⟩ := R.p3
  refine D.F.ok scShown (fun vs H Q E h => ?_) (fun cdv A outer s H vs Q E hr h => ?_)
  · obtain ⟨x, t, L, S, s, p, rfl, _⟩ := h
    rfl
  · obtain ⟨x, t, L, S, st, p, rfl, ⟨⟨dx, hx⟩, ⟨e, r, h1, h2, h3⟩⟩, q⟩ := h
    refine ⟨_, pss_one (ps_ret (pe_tup (pa_cons (pe_prop (pv 0) T.cl q0 G0 hr R.b0 .nil pass0 rfl) (pa_cons (pe_prop (pv 0) T.cl q1 G1 hr R.b1 .nil pass0 rfl)
      (pa_cons (pe_prop (pv 0) T.cl q2 G2 hr R.b2 .nil pass0 rfl) (pa_cons (pe_prop (pv 0) T.cl q3 G3 hr R.b3 .nil pass0 rfl) pa_nil)))))), ?_⟩
    refine ⟨_, rfl, x, dx, _, rfl, hx, x, dx, t, _, _, rfl, hx, h1, rfl, ?_⟩
    refine ⟨_, rfl, x, dx, _, rfl, hx, x, dx, t, _, _, rfl, hx, h1, rfl, ?_⟩
    refine ⟨_, rfl, x, dx, _, rfl, hx, x, dx, t, _, _, rfl, hx, h1, rfl, ?_⟩
    refine ⟨_, rfl, x, dx, _, rfl, hx, x, dx, t, _, _, rfl, hx, h1, rfl, by show 4 ≤ sizeLine; decide, fun t' nt => ?_⟩
    have s1 := same_new (Same.refl H) nt (.tup [.ref e, .int (st : Nat), .int (p : Nat), .ref r])
    exact q _ t' s1 ⟨e, r, upd_same, s1 _ _ h2, s1 _ _ h3⟩
theorem ok_circ {f fN : Addr} {fd fdN : FuncData} (D : Df K mg "_law_circle" sCirc f fd ["_law_c"]) (M : Mk K C fN) (bN : Binds K fdN ["self", "early", "start", "base", "rests"] [])
    (GN : ∀ {P : Program} {w : World} {base : Heap}, FnOk P w K mg base CX0 4 fN fdN ["self", "early", "start", "base", "rests"] (spInit C)) (T : Txt K mg C) : FnOk P w K mg base CX0 6 f fd ["_law_c"] (spCirc C) := by
  have GN' : FnOk P w K mg base CX0 4 fN fdN ["self", "early", "start", "base", "rests"] (spInit C) := GN
  refine D.F.ok scCirc (fun vs H Q E h => ?_) (fun cdv A outer s H vs Q E hr h => ?_)
  · obtain ⟨c, F, b, n, p, R, S, rfl, _⟩ := h
    rfl
  · obtain ⟨c, F, b, n, p, R, S, rfl, ⟨l, r, h1, h2, h3⟩, B, q⟩ := h
    refine ⟨_, pss_one (ps_ret (pe_make M GN' hr rfl T.mgC bN .nil pass0 (pa_cons (pe_callTy call_tuple_of (by rfl) T.tuple (by decide +kernel) (pa_cons (pe_ix ix_tup (pv 0) pe_int (fun _ _ => rfl)) pa_nil))
      (pa_cons (pe_ix ix_tup (pv 0) pe_int (fun _ _ => rfl)) (pa_cons (pe_ix ix_tup (pv 0) pe_int (fun _ _ => rfl)) (pa_cons (pe_callTy call_tuple_of (by rfl) T.tuple (by decide +kernel) (pa_cons (pe_ix ix_tup (pv 0) pe_int (fun _ _ => rfl)) pa_nil)) pa_nil)))))), ?_⟩
    refine ⟨_, rfl, c, _, 0, _, rfl, rfl, .of h1, atI_nat (j := 0) rfl, l, _, rfl, .inl ⟨.of h2, fun e ne => ?_⟩⟩
    have s1 := same_new (Same.refl H) ne (.tup (nums (lowF b F)))
    refine ⟨_, rfl, c, _, 1, _, rfl, rfl, .of (s1 _ _ h1), atI_nat (j := 1) rfl, _, rfl, c, _, 2, _, rfl, rfl, .of (s1 _ _ h1), atI_nat (j := 2) rfl, ?_⟩
    refine ⟨_, rfl, c, _, 3, _, rfl, rfl, .of (s1 _ _ h1), atI_nat (j := 3) rfl, r, _, rfl, .inl ⟨.of (s1 _ _ h3), fun a na => ?_⟩⟩
    have s2 := same_new s1 na (.tup (nums R))
    intro x dx nx ndx nex
    have s3 := same_new s2 ndx (.own x)
    have nx' : upd (upd (upd H e (.tup (nums (lowF b F)))) a (.tup (nums R))) dx (.own x) x = none := by
      rw [upd_ne nex.symm]
      exact nx
    have s4 := same_new s3 nx' (.ins C dx [])
    have he4 : upd (upd (upd (upd H e (.tup (nums (lowF b F)))) a (.tup (nums R))) dx (.own x)) x (.ins C dx []) e = some (.tup (nums (lowF b F))) :=
      same_new (same_new (same_new (Same.refl _) na _) ndx _) nx' _ _ _ upd_same
    have ha4 : upd (upd (upd (upd H e (.tup (nums (lowF b F)))) a (.tup (nums R))) dx (.own x)) x (.ins C dx []) a = some (.tup (nums R)) :=
      same_new (same_new (Same.refl _) ndx _) nx' _ _ _ upd_same
    refine ⟨F, b, n, p, x, dx, e, a, R, S, rfl, upd_same, he4, ha4, B, fun H' t k cf => ⟨rfl, ?_⟩⟩
    have hx0 : H x = none := s2.free nx
    exact q H' x t (fun u o hu => k u o (fun z => by rw [z, hx0] at hu; cases hu) (s4 u o hu)) hx0 cf
theorem ok_again {f fT fH : Addr} {fd fdT fdH : FuncData} (D : Df K mg "_law_again" sAgain f fd ["_law_keg_here", "_law_c"]) (DT : Df K mg "_law_tap" sTap fT fdT ["_law_keg_here", "_law_upto"]) (DH : Df K mg "_law_has" sLHas fH fdH ["_law_c", "_law_x"]) (T : Txt K mg C) :
    FnOk P w K mg base CX0 2 f fd ["_law_keg_here", "_law_c"] spAgain := by
  have GT : FnOk P w K mg base CX0 1 fT fdT ["_law_keg_here", "_law_upto"] spTap := ok_tap DT T
  have GH : FnOk P w K mg base CX0 1 fH fdH ["_law_c", "_law_x"] spLHas := ok_lhas DH T
  refine D.F.ok scAgain (fun vs H Q E h => ?_) (fun cdv A outer s H vs Q E hr h => ?_)
  · obtain ⟨k, c, L, R, b, n, rfl, _⟩ := h
    rfl
  · obtain ⟨k, c, L, R, b, n, rfl, hk, hc, n1, n6, b6, q⟩ := h
    refine ⟨_, pss_cons (ps_asg (pv 1) (pg_tup rfl (pgs_cons (pg_name (i := 2) scAgain.nd rfl (Or.inl rfl)) (pgs_cons (pg_name (i := 3) scAgain.nd rfl (Or.inl rfl)) (pgs_cons (pg_name (i := 4) scAgain.nd rfl (Or.inr rfl)) (pgs_cons (pg_name (i := 5) scAgain.nd rfl (Or.inr rfl)) pgs_nil))))))
      (pss_cons (ps_par (i := 6) (j := 7) (by rfl) scAgain.nd rfl rfl (by decide) rfl rfl (pa_cons (pe_call GT hr rfl DT.m DT.F.kp DT.b .nil pass0 (pa_cons (pv 0) (pa_cons pe_int pa_nil)))
        (pa_cons (pe_op op_add pe_int (pe_call GT hr rfl DT.m DT.F.kp DT.b .nil pass0 (pa_cons (pv 0) (pa_cons pe_int pa_nil)))) pa_nil)) (by rfl))
      (pss_cons (ps_setLc (i := 2) (own := [("_law_x", 8)]) (g := gName 8) rfl scAgain.nd rfl rfl (sw_true rfl rfl rfl (by decide +kernel)) (pi_range1 (by rfl) T.range (pa_cons (pe_op op_add (pv 3) (pv 6)) pa_nil)) (blkOk_by (own := [("_law_x", 8)]) (N := ["_law_keg_here", "_law_c", "_law_lows", "_law_begin", "_law_n", "_law_lot", "_law_more", "_law_wide", "_law_x", "_law_r"]) (sc := defScope sAgain) (by decide +kernel))
        (fun _ _ _ _ _ => pg_name (i := 8) scAgain.nd rfl (Or.inl rfl)) (fun _ _ _ _ _ => pts_one (pt_val (pe_call GH hr rfl DH.m DH.F.kp DH.b .nil pass0 (pa_cons (pv 1) (pa_cons (pv 8) pa_nil))))) (fun _ _ _ _ _ => pv 8))
      (pss_one (ps_ret (pe_tup (pa_cons (pv 2) (pa_cons (pe_op op_add (pv 3) (pv 6)) (pa_cons (pe_op op_mul (pv 4) (pv 7)) (pa_cons
        (pe_lc (own := [("_law_r", 9)]) (g := gName 9) rfl scAgain.nd (pi_range1 (by rfl) T.range (pa_cons (pe_op op_mul (pv 4) (pv 7)) pa_nil)) (blkOk_by (own := [("_law_r", 9)]) (N := ["_law_keg_here", "_law_c", "_law_lows", "_law_begin", "_law_n", "_law_lot", "_law_more", "_law_wide", "_law_x", "_law_r"]) (sc := defScope sAgain) (by decide +kernel))
        (fun _ _ _ _ _ => pg_name (i := 9) scAgain.nd rfl (Or.inl rfl)) (fun _ _ _ _ _ => pts_one (pt_cmpR (r := rIn K false) op_in_seq (pe_op op_mod (pe_callTy call_int1 (by rfl) T.int (by decide +kernel) (pa_cons (pv 9) pa_nil)) (pv 4)) (pv 5) (by with_unfolding_all rfl))) (fun _ _ _ _ _ => pv 9)) pa_nil))))))))), ?_⟩
    obtain ⟨l, r, c1, c2, c3, h1, h2, h3⟩ := id hc
    refine ⟨_, rfl, c, _, rfl, .of h1, rfl, _, _, rfl, _, _, rfl, _, _, rfl, _, _, rfl, rfl, ?_⟩
    refine ⟨_, rfl, k, 4, rfl, hk, by decide, by decide, fun H1 m b1 k1 hm => ?_⟩
    refine ⟨_, rfl, k, 3, rfl, k1, by decide, by decide, fun H2 w0 b2 k2 hw => ⟨_, _, rfl, rfl, _, _, rfl, ?_⟩⟩
    have b02 := b1.trans b2
    have hc2 := hc.but b02
    have wc : (1 : Int) + ((w0 : Nat) : Int) = ((w0 + 1 : Nat) : Int) := by omega
    refine ⟨_, rfl, _, rfl, _, _, rfl, rfl, (b : Nat) + (m : Nat), rfl, by omega, by omega, fun D1 nD1 => lc_range (lo := 0) (n := b + m) (fun i H' => Same H2 H' ∧ H' D1 = some (.lst (nums (lowF i (hasM L b n R)))))
      ⟨same_new (Same.refl _) nD1 _, upd_same⟩ ?_ ?_⟩
    · rintro i H3 hi ⟨s3, hL⟩
      refine ⟨rfl, _, rfl, _, rfl, c, L, R, b, n, i, by rw [zadd]; rfl, hc2.at.same s3, n1, _, rfl, iteB (fun e => ?_) (fun e => ?_)⟩
      · refine ⟨_, rfl, _, hL, ?_, same_put s3 nD1 _, ?_⟩
        · rw [nums_len]
          exact Nat.lt_of_le_of_lt (lowF_len _ _) (Nat.lt_of_lt_of_le (show i < 10 by omega) (by decide))
        · rw [upd_same, lowF_succ, if_pos e, nums_app, zadd]
      · exact ⟨s3, by rw [lowF_succ, if_neg (by rw [e]; exact Bool.false_ne_true)]; exact hL⟩
    · rintro H3 ⟨s3, hL⟩
      have k3 : KegAt H3 k := by
        obtain ⟨x1, x2, x3, e1, e2⟩ := k2
        exact ⟨x1, x2, x3, s3 _ _ e1, e2⟩
      have mc : ((n : Nat) : Int) * (1 + ((w0 : Nat) : Int)) = ((n * (w0 + 1) : Nat) : Int) := by
        rw [wc, Int.natCast_mul]
      have nw18 : n * (w0 + 1) ≤ 18 := Nat.le_trans (Nat.mul_le_mul n6 (show w0 + 1 ≤ 3 by omega)) (by decide)
      refine ⟨_, rfl, _, rfl, _, rfl, _, _, rfl, rfl, _, rfl, _, rfl, _, _, rfl, rfl, .inl ⟨by omega, by omega⟩, ?_⟩
      refine ⟨_, rfl, _, rfl, _, _, rfl, rfl, .inl ⟨by omega, by omega⟩, ((n * (w0 + 1) : Nat) : Int), by show [V.int ((n : Nat) * (1 + (w0 : Nat)))] = _; rw [mc], by omega, by omega, fun D2 nD2 => lc_range (lo := 0) (n := n * (w0 + 1)) (fun i H' => Same H3 H' ∧ H' D2 = some (.lst (nums (lowF i (fun x => R.contains (x % n))))))
        ⟨same_new (Same.refl _) nD2 _, upd_same⟩ ?_ ?_⟩
      · rintro i H4 hi ⟨s4, hL2⟩
        have h3' : H4 r = some (.lst (nums R)) := s4 _ _ (s3 _ _ (b02 _ _ c3 h3))
        refine ⟨rfl, _, rfl, .inl ⟨_, rfl, _, rfl, _, _, rfl, rfl, (by show (0 : Int) < (n : Nat); omega), _, rfl, r, _, rfl, .inl (.of h3'), rfl, nums_flat _, _, rfl, ?_⟩⟩
        show if inV (V.int (((0 : Int) + ((i : Nat) : Int)) % ((n : Nat) : Int))) (nums R) = true then _ else _
        rw [zadd, emod_cast, nums_in]
        refine iteB (fun e => ?_) (fun e => ?_)
        · refine ⟨_, rfl, _, hL2, ?_, same_put s4 nD2 _, ?_⟩
          · rw [nums_len]
            exact Nat.lt_of_le_of_lt (lowF_len _ _) (Nat.lt_of_lt_of_le (show i < 19 by omega) (by decide))
          · rw [upd_same, lowF_succ, if_pos e, nums_app]
        · exact ⟨s4, by rw [lowF_succ, if_neg (by rw [e]; exact Bool.false_ne_true)]; exact hL2⟩
      · rintro H4 ⟨s4, hL2⟩
        refine ⟨by show 4 ≤ sizeLine; decide, fun d nd => ?_⟩
        have b04 : But k H H4 := b02.trans ((Same.but s3).trans (Same.but s4))
        have k4 : KegAt H4 k := by
          obtain ⟨x1, x2, x3, e1, e2⟩ := k3
          exact ⟨x1, x2, x3, s4 _ _ e1, e2⟩
        have ndk := k4.some nd
        have nDk := k2.some nD1
        have nDk2 := k3.some nD2
        refine q _ d m (w0 + 1) (b04.new nd _) (k4.of (upd_ne ndk.symm)) hm (by omega) (by omega) ?_ ⟨D1, D2, ndk, nDk, nDk2, ?_, ?_, ?_⟩
        · cases e : H d with
          | none => rfl
          | some o =>
            rw [b04 d o ndk e] at nd
            cases nd
        · rw [upd_same]
          show some (HO.tup [V.ref D1, V.int ((b : Nat) + (m : Nat)), V.int ((n : Nat) * (1 + (w0 : Nat))), V.ref D2]) = _
          rw [mc, Int.natCast_add]
        · rw [upd_ne (ne_of_none (s4 _ _ hL) nd)]
          exact s4 _ _ hL
        · rw [upd_ne (ne_of_none hL2 nd)]
          exact hL2
end
end K66

namespace K66
open PySem L2
theorem ps_imp {X : Cx} {st : Stmt} {t t' : TS} (h : PS X st t) (hi : ∀ D σ H, t' D σ H → t D σ H) : PS X st t' := ⟨fun pins s σ H D I q => h.run pins s σ H D I (hi D σ H q)⟩
def spLForm : Sp := fun vs H Q _ => ∃ (l : Addr) (F : Nat → Bool) (b0 p : Nat) (S : List Nat), vs = [.ref l] ∧ H l = some (.lst (flagsM F 66)) ∧ Cir F b0 p S ∧
  ∀ (H' : Hp) (t : Addr), Same H H' → FormAt H' t (lowF (startOf F p S b0) F) (startOf F p S b0) p S → Q (.ref t) H'
theorem flags_at (F : Nat → Bool) {w x : Nat} (h : x < w) : (flagsM F w)[x]? = some (V.bl (F x)) := by
  unfold flagsM
  rw [List.getElem?_map, List.getElem?_range h]
  rfl
theorem flags_len (F : Nat → Bool) (w : Nat) : (flagsM F w).length = w := by
  unfold flagsM
  rw [List.length_map, List.length_range]
theorem part_succ (F : Nat → Bool) (s p i : Nat) : ((List.range' s (i + 1)).filter F).map (fun x => ((x % p : Nat) : Int)) = if F (s + i) then ((List.range' s i).filter F).map (fun x => ((x % p : Nat) : Int)) ++ [(((s + i) % p : Nat) : Int)] else ((List.range' s i).filter F).map (fun x => ((x % p : Nat) : Int)) := by
  rw [List.range'_1_concat, List.filter_append, List.map_append]
  cases e : F (s + i) <;> simp [e]
theorem part_len (F : Nat → Bool) (s p i : Nat) : (((List.range' s i).filter F).map (fun x => ((x % p : Nat) : Int))).length ≤ i := by
  rw [List.length_map]
  have := List.length_filter_le F (List.range' s i)
  rw [List.length_range'] at this
  exact this
section
variable {P : Program} {w : World} {K : PySem.W.Frag} {mg : Str → Option Value} {base : Heap} {C : Addr}
theorem ok_lform {f : Addr} {fd : FuncData} (D : Df K mg "_law_form" sLForm f fd ["_law_flags_here"]) (T : Txt K mg C) : FnOk P w K mg base CX0 1 f fd ["_law_flags_here"] spLForm := by
  refine D.F.ok scLForm (fun vs H Q E h => ?_) (fun cdv A outer s H vs Q E hr h => ?_)
  · obtain ⟨l, F, b0, p, S, rfl, _⟩ := h
    rfl
  · obtain ⟨l, F, b0, p, S, rfl, hl, B, q⟩ := h
    refine ⟨_, pss_cons (ps_set (i := 1) scLForm.nd rfl (Or.inl rfl) (pe_callB call_len_seq (by rfl) T.len PySem.boot_len (pa_cons (pv 0) pa_nil)))
      (pss_cons (ps_for PassesOwn.never rfl (pi_range2 (by rfl) T.range (pa_cons pe_int (pa_cons (pe_op op_fdiv (pv 1) pe_int) pa_nil))) (pg_name (i := 2) scLForm.nd rfl (Or.inr rfl))
        (pss_cons (ps_set (i := 3) scLForm.nd rfl (Or.inl rfl) (pe_op op_sub (pv 1) (pv 2)))
        (pss_cons (ps_while PassesOwn.never (PW.pt (pw_and (pt_cmpR op_gt (pv 3) pe_int (nomark _)) (pw_and1 (pt_cmpR op_eq (pe_ix ix_list (pv 0) (pe_op op_sub (pv 3) pe_int) (fun _ _ => rfl))
            (pe_ix ix_list (pv 0) (pe_op op_add (pe_op op_sub (pv 3) pe_int) (pv 2)) (fun _ _ => rfl)) (nomark _)))))
          (pss_one (ps_set (i := 3) scLForm.nd rfl (Or.inl rfl) (pe_op op_sub (pv 3) pe_int))))
        (pss_one (ps_imp (t' := fun D σ H' => ∃ (m d : Nat), σ = [some (.ref l), some (.int 66), some (.int (d : Nat)), some (.int (m : Nat)), none, none] ∧ H' l = some (.lst (flagsM F 66)) ∧
            ((22 < m ∧ D.nx σ H') ∨ (m ≤ 22 ∧ d = p ∧ m = startOf F p S b0 ∧ ∀ (H2 : Hp) (t : Addr), Same H' H2 → FormAt H2 t (lowF (startOf F p S b0) F) (startOf F p S b0) p S → D.rt (.ref t) H2)))
          (ps_if (pt_cmpR op_le (pv 3) (pe_op op_fdiv (pv 1) pe_int) (nomark _))
          (pss_cons (ps_set (i := 4) scLForm.nd rfl (Or.inl rfl) (pe_callB cr_sorted (by rfl) T.sorted (by decide +kernel) (pa_cons
            (pe_lc (own := [("_law_x", 5)]) (g := gName 5) rfl scLForm.nd (pi_range2 (by rfl) T.range (pa_cons (pv 3) (pa_cons (pe_op op_add (pv 3) (pv 2)) pa_nil))) (blkOk_by (own := [("_law_x", 5)]) (N := ["_law_flags_here", "_law_wide", "_law_p", "_law_begin", "_law_lot", "_law_x"]) (sc := defScope sLForm) (by decide +kernel))
              (fun _ _ _ _ _ => pg_name (i := 5) scLForm.nd rfl (Or.inl rfl)) (fun _ _ _ _ _ => pts_one (pt_val (pe_ix (r := rIxL K) ix_list (pv 0) (pv 5) (fun _ _ => rfl))))
              (fun _ _ _ _ _ => pe_op op_mod (pe_callTy call_int1 (by rfl) T.int (by decide +kernel) (pa_cons (pv 5) pa_nil)) (pv 2))) pa_nil)))
          (pss_one (ps_ret (pe_tup (pa_cons (pe_callTy call_tuple_of (by rfl) T.tuple (by decide +kernel) (pa_cons
            (pe_lc (own := [("_law_x", 5)]) (g := gName 5) rfl scLForm.nd (pi_range1 (by rfl) T.range (pa_cons (pv 3) pa_nil)) (blkOk_by (own := [("_law_x", 5)]) (N := ["_law_flags_here", "_law_wide", "_law_p", "_law_begin", "_law_lot", "_law_x"]) (sc := defScope sLForm) (by decide +kernel))
              (fun _ _ _ _ _ => pg_name (i := 5) scLForm.nd rfl (Or.inl rfl)) (fun _ _ _ _ _ => pts_one (pt_val (pe_ix (r := rIxL K) ix_list (pv 0) (pv 5) (fun _ _ => rfl)))) (fun _ _ _ _ _ => pv 5)) pa_nil))
            (pa_cons (pv 3) (pa_cons (pv 2) (pa_cons (pe_callTy call_tuple_of (by rfl) T.tuple (by decide +kernel) (pa_cons (pv 4) pa_nil)) pa_nil))))))))
          pss_nil) ?X1)))))
      (pss_one ps_never)), ?_⟩
    case X1 =>
      rintro D σ H1 ⟨m, d, rfl, hl1, hw⟩
      refine ⟨_, rfl, _, rfl, _, _, rfl, rfl, ⟨by decide, by decide⟩, _, _, rfl, rfl, _, rfl, iteB (fun e => ?_) (fun e => ?_)⟩
      · have hm22 : m ≤ 22 := by
          have := of_decide_eq_true e
          omega
        rcases hw with ⟨z, _⟩ | ⟨_, rfl, rfl, k⟩
        · omega
        have hs9 : startOf F d S b0 ≤ 9 := Nat.le_trans startOf_le B.b9
        have p1 := B.p1
        have p6 := B.p6
        have hlot := B.lot
        generalize hsm : startOf F d S b0 = s0 at *
        have hn : (((s0 : Nat) : Int) + ((d : Nat) : Int) - ((s0 : Nat) : Int)).toNat = d := by omega
        refine ⟨_, rfl, _, rfl, _, rfl, _, _, rfl, rfl, (s0 : Nat), (s0 : Nat) + (d : Nat), rfl, ⟨by omega, by omega, by omega, by omega⟩, fun D1 nD1 => lc_range (lo := (s0 : Nat)) (n := (((s0 : Nat) : Int) + ((d : Nat) : Int) - ((s0 : Nat) : Int)).toNat)
          (fun i H' => Same H1 H' ∧ H' D1 = some (.lst ((((List.range' s0 i).filter F).map (fun x => ((x % d : Nat) : Int))).map V.int))) ⟨same_new (Same.refl _) nD1 _, upd_same⟩ ?_ ?_⟩
        · rintro i H2 hi ⟨s2, hL⟩
          rw [hn] at hi
          refine ⟨rfl, _, rfl, _, rfl, l, _, _, _, rfl, rfl, .of (s2 _ _ hl1), (by rw [← Int.natCast_add]; exact atI_nat (flags_at F (show s0 + i < 66 by omega))), _, rfl, ?_⟩
          refine iteB (fun e3 => ?_) (fun e3 => ?_)
          · refine ⟨_, rfl, .inl ⟨_, rfl, _, rfl, _, _, rfl, rfl, (by show (0 : Int) < (d : Nat); omega), _, hL, ?_, same_put s2 nD1 _, ?_⟩⟩
            · rw [List.length_map]
              exact Nat.lt_of_le_of_lt (part_len F s0 d i) (Nat.lt_of_lt_of_le (show i < 10 by omega) (by decide))
            · rw [upd_same, part_succ, if_pos e3, List.map_append]
              show some (HO.lst (_ ++ [V.int ((((s0 : Nat) : Int) + ((i : Nat) : Int)) % ((d : Nat) : Int))])) = _
              rw [← Int.natCast_add, emod_cast]
              rfl
          · exact ⟨s2, by rw [part_succ, if_neg (by rw [e3]; exact Bool.false_ne_true)]; exact hL⟩
        · rintro H2 ⟨s2, hL⟩
          rw [hn] at hL
          refine ⟨D1, _, rfl, .of hL, Nat.lt_of_le_of_lt (part_len F s0 d d) (by omega), fun ns' D2 hperm hsort nD2 => ?_⟩
          have hS : S.Pairwise (· < ·) := by
            rw [B.low]
            exact lowF_rise _ _
          have hmap : ((List.range' s0 d).filter F).map (fun x => ((x % d : Nat) : Int)) = (lotFrom F s0 d).map fun n => ((n : Nat) : Int) := by
            unfold lotFrom
            rw [List.map_map]
            rfl
          rw [hmap] at hperm
          rw [sorted_nums hperm hsort hlot hS]
          have s3 := same_new s2 nD2 (.lst (nums S))
          refine ⟨_, rfl, (s0 : Nat), rfl, by omega, by omega, fun D3 nD3 => lc_range (lo := 0) (n := s0) (fun i H' => Same (upd H2 D2 (.lst (nums S))) H' ∧ H' D3 = some (.lst (nums (lowF i F)))) ⟨same_new (Same.refl _) nD3 _, upd_same⟩ ?_ ?_⟩
          · rintro i H3 hi ⟨s4, hL3⟩
            refine ⟨rfl, _, rfl, _, rfl, l, _, _, _, rfl, rfl, .of (s4 _ _ (s3 _ _ hl1)), (by rw [zadd]; exact atI_nat (flags_at F (show i < 66 by omega))), _, rfl, ?_⟩
            refine iteB (fun e3 => ?_) (fun e3 => ?_)
            · refine ⟨_, rfl, _, hL3, ?_, same_put s4 nD3 _, ?_⟩
              · rw [nums_len]
                exact Nat.lt_of_le_of_lt (lowF_len _ _) (Nat.lt_of_lt_of_le (show i < 10 by omega) (by decide))
              · rw [upd_same, lowF_succ, if_pos e3, nums_app, zadd]
            · exact ⟨s4, by rw [lowF_succ, if_neg (by rw [e3]; exact Bool.false_ne_true)]; exact hL3⟩
          · rintro H3 ⟨s4, hL3⟩
            have hD2 : H3 D2 = some (.lst (nums S)) := s4 _ _ upd_same
            refine ⟨D3, _, rfl, .inl ⟨.of hL3, fun e' ne' => ?_⟩⟩
            have s5 := same_new (Same.refl H3) ne' (.tup (nums (lowF s0 F)))
            refine ⟨_, rfl, _, rfl, _, rfl, D2, _, rfl, .inl ⟨.of (s5 _ _ hD2), fun r' nr' => ⟨by show 4 ≤ sizeLine; decide, fun t nt => ?_⟩⟩⟩
            have s6 := same_new s5 nr' (.tup (nums S))
            have s7 := same_new s6 nt (.tup [.ref e', .int (s0 : Nat), .int (d : Nat), .ref r'])
            refine k _ t (s3.trans (s4.trans s7)) ⟨e', r', upd_same, ?_, ?_⟩
            · rw [upd_ne (ne_of_none (same_new (Same.refl _) nr' _ _ _ upd_same) nt)]
              exact same_new (Same.refl _) nr' _ _ _ upd_same
            · rw [upd_ne (ne_of_none upd_same nt), upd_same]
      · have hm22 : ¬ m ≤ 22 := by
          have := of_decide_eq_false e
          omega
        rcases hw with ⟨_, k⟩ | ⟨z, _⟩
        · exact k
        · omega
    have p1 := B.p1
    have p6 := B.p6
    refine ⟨_, rfl, l, _, rfl, .inl (.of hl), ?_⟩
    rw [flags_len]
    refine ⟨_, rfl, _, _, rfl, rfl, ⟨by decide, by decide⟩, 1, 22, rfl, ⟨by decide, by decide, by decide, by decide⟩, ?_⟩
    refine for_range (lo := 1) (n := 21) (fun i σ H' => ∃ x2 x3 : Option V, σ = [some (.ref l), some (.int 66), x2, x3, none, none] ∧ H' = H ∧ i + 1 ≤ p) ⟨none, none, rfl, rfl, by omega⟩ ?_ ?_
    · rintro i σ H1 hi ⟨x2, x3, rfl, rfl, hip⟩
      obtain ⟨d, hd⟩ : ∃ d : Nat, d = i + 1 := ⟨_, rfl⟩
      have hd' : (1 : Int) + ((i : Nat) : Int) = ((d : Nat) : Int) := by omega
      rw [hd']
      have hdp : d ≤ p := by omega
      refine ⟨_, rfl, _, rfl, _, _, rfl, rfl, ?_⟩
      have h66 : (66 : Int) - ((d : Nat) : Int) = ((66 - d : Nat) : Int) := by omega
      refine ⟨fun m σ H' => σ = [some (.ref l), some (.int 66), some (.int (d : Nat)), some (.int (m : Nat)), none, none] ∧ H' = H1 ∧ m + d ≤ 66 ∧ desc (fun x => F x == F (x + d)) m = desc (fun x => F x == F (x + d)) (66 - d),
        ⟨66 - d, by rw [← h66]; rfl, rfl, by omega, rfl⟩, ?_⟩
      rintro m σ H2 ⟨rfl, eH, hm, hdesc⟩
      subst eH
      have fin : desc (fun x => F x == F (x + d)) (66 - d) = m → (22 < m ∧ i + 1 + 1 ≤ p) ∨ (m ≤ 22 ∧ d = p ∧ m = startOf F p S b0) := fun z => by
        by_cases hq : d = p
        · subst hq
          have y := B.found
          rw [z] at y
          have := B.start22
          exact .inr ⟨by omega, rfl, y⟩
        · have y := B.not (q := d) (by omega) (by omega)
          exact .inl ⟨by omega, by omega⟩
      refine ⟨_, rfl, _, _, rfl, rfl, _, rfl, iteB (fun e1 => ?_) (fun e1 => ?_)⟩
      · obtain ⟨n, rfl⟩ : ∃ n, m = n + 1 := ⟨m - 1, by have := of_decide_eq_true e1; omega⟩
        have e0 : ((n + 1 : Nat) : Int) - 1 = ((n : Nat) : Int) := by omega
        refine ⟨_, rfl, _, rfl, _, _, rfl, rfl, l, _, _, _, rfl, rfl, .of hl, (by rw [e0]; exact atI_nat (flags_at F (show n < 66 by omega))), _, rfl, _, rfl, _, _, rfl, rfl, _, rfl, _, _, rfl, rfl, l, _, _, _, rfl, rfl, .of hl,
          (by rw [e0, ← Int.natCast_add]; exact atI_nat (flags_at F (show n + d < 66 by omega))), rfl, _, rfl, iteB (fun e2 => ?_) (fun e2 => ?_)⟩
        · have e3 : F n = F (n + d) := by
            have := of_decide_eq_true e2
            injection this
          refine ⟨_, fun σ' H' w => ⟨n, Nat.lt_succ_self _, w⟩, ?_⟩
          refine ⟨_, rfl, _, _, rfl, rfl, by show [_, _, _, some (V.int (((n + 1 : Nat) : Int) - 1)), _, _] = _; rw [e0], rfl, by omega, ?_⟩
          rw [← hdesc]
          show _ = desc _ (n + 1)
          rw [desc, if_pos (by rw [e3]; exact beq_self_eq_true _)]
        · have e3 : ¬ F n = F (n + d) := fun z => of_decide_eq_false e2 (by rw [z])
          have hself : desc (fun x => F x == F (x + d)) (n + 1) = n + 1 := by
            rw [desc, if_neg (fun z => e3 (eq_of_beq z))]
          refine ⟨n + 1, d, rfl, hl, ?_⟩
          rcases fin (hdesc.symm.trans hself) with ⟨z1, z2⟩ | ⟨z1, z2, z3⟩
          · exact .inl ⟨z1, _, _, rfl, rfl, z2⟩
          · exact .inr ⟨z1, z2, z3, fun H3 t s3 hf => q H3 t s3 hf⟩
      · have e0 : m = 0 := by
          have := of_decide_eq_false e1
          omega
        subst e0
        refine ⟨0, d, rfl, hl, ?_⟩
        rcases fin (hdesc.symm.trans rfl) with ⟨z1, z2⟩ | ⟨z1, z2, z3⟩
        · exact .inl ⟨z1, _, _, rfl, rfl, z2⟩
        · exact .inr ⟨z1, z2, z3, fun H3 t s3 hf => q H3 t s3 hf⟩
    · rintro σ H1 ⟨x2, x3, rfl, rfl, hip⟩
      omega
end
end K66

namespace K66
open PySem L2
/-! ### the text of a form is short -/
theorem piled_le {m : Nat} : ∀ {ts : List Str}, (∀ t ∈ ts, t.length ≤ m) → piled ts ≤ ts.length * (m + 2)
  | [], _ => by simp [piled_nil]
  | t :: ts, h => by
    rw [piled_cons, List.length_cons, Nat.succ_mul]
    have a := h t (List.mem_cons_self ..)
    have b := piled_le (ts := ts) fun u hu => h u (List.mem_cons_of_mem _ hu)
    omega
theorem tupleText_le (ts : List Str) : (tupleText ts).length ≤ piled ts + 5 := by
  have e1 : (("(" : Str)).length = 1 := by decide +kernel
  have e2 : (((if ts.length == 1 then ",)" else ")" : String)) : Str).length ≤ 2 := by
    split <;> decide +kernel
  unfold tupleText
  rw [strLen_append, strLen_append, e1]
  by_cases h : ts = []
  · subst h
    have : (Str.join ", " ([] : List Str)).length = 0 := by decide +kernel
    omega
  · have := join_length_add ts h
    omega
theorem shownAll_nums {l : List Nat} (h : ∀ n ∈ l, n < 10) : (PyData.shownAll (l.map fun n => PyData.int (n : Nat))).length = l.length ∧ ∀ t ∈ PyData.shownAll (l.map fun n => PyData.int (n : Nat)), t.length ≤ 3 := by
  have small : ∀ n, n < 10 → (PyData.shown (.int (n : Nat))).length ≤ 3 := by decide +kernel
  induction l with
  | nil => exact ⟨by simp [PyData.shownAll], fun t ht => by simp [PyData.shownAll] at ht⟩
  | cons n l ih =>
    have ⟨a, b⟩ := ih fun m hm => h m (List.mem_cons_of_mem _ hm)
    rw [List.map_cons, PyData.shownAll]
    refine ⟨by rw [List.length_cons, List.length_cons, a], fun t ht => ?_⟩
    rcases List.mem_cons.mp ht with rfl | ht
    · exact small n (h n (List.mem_cons_self ..))
    · exact b t ht
theorem shown_nums {l : List Nat} (h : ∀ n ∈ l, n < 10) (hl : l.length ≤ 10) : (dNums l).shown.length ≤ 60 := by
  have ⟨a, b⟩ := shownAll_nums h
  unfold dNums
  rw [PyData.shown]
  have c := tupleText_le (PyData.shownAll (l.map fun n => PyData.int (n : Nat)))
  have d := piled_le b
  rw [a] at d
  omega
theorem showable_nums {l : List Nat} (h : ∀ n ∈ l, n < 10) : (dNums l).showable = true := by
  unfold dNums
  rw [PyData.showable]
  have small : ∀ n, n < 10 → (PyData.showable (.int (n : Nat))) = true := by decide +kernel
  induction l with
  | nil => simp [PyData.showableAll]
  | cons n l ih => rw [List.map_cons, PyData.showableAll, small n (h n (List.mem_cons_self ..)), ih fun m hm => h m (List.mem_cons_of_mem _ hm)]; rfl
theorem lowF_small {s : Nat} (F : Nat → Bool) (h : s ≤ 10) : (∀ n ∈ lowF s F, n < 10) ∧ (lowF s F).length ≤ 10 :=
  ⟨fun n hn => Nat.lt_of_lt_of_le (mem_lowF.mp hn).1 h, Nat.le_trans (lowF_len s F) h⟩
structure Short (L : List Nat) (s p : Nat) (S : List Nat) : Prop where
  sh : (dForm L s p S).showable = true
  nd : (dForm L s p S).hasDict = false
  len : (dForm L s p S).shown.length ≤ sizeLine
theorem Cir.short {F : Nat → Bool} {b0 p : Nat} {S : List Nat} (B : Cir F b0 p S) : Short (lowF (startOf F p S b0) F) (startOf F p S b0) p S := by
  have s9 : startOf F p S b0 ≤ 9 := Nat.le_trans startOf_le B.b9
  have p6 := B.p6
  have ⟨l1, l2⟩ := lowF_small F (show startOf F p S b0 ≤ 10 by omega)
  have ⟨r1, r2⟩ : (∀ n ∈ S, n < 10) ∧ S.length ≤ 10 := by
    rw [B.low]
    exact lowF_small _ (by omega)
  generalize startOf F p S b0 = s at *
  have small : ∀ n, n < 10 → (PyData.shown (.int (n : Nat))).length ≤ 3 ∧ PyData.showable (.int (n : Nat)) = true := by decide +kernel
  refine ⟨?_, PyData.hasDict_of_canLay _ (SeqAt.canLay_of_shaped (shaped_form _ _ _ _)), ?_⟩
  · unfold dForm
    rw [PyData.showable, PyData.showableAll, PyData.showableAll, PyData.showableAll, PyData.showableAll, PyData.showableAll, showable_nums l1, showable_nums r1, (small s (by omega)).2, (small p (by omega)).2]
    rfl
  · unfold dForm
    rw [PyData.shown, PyData.shownAll, PyData.shownAll, PyData.shownAll, PyData.shownAll, PyData.shownAll]
    have c := tupleText_le [(dNums (lowF s F)).shown, PyData.shown (.int (s : Nat)), PyData.shown (.int (p : Nat)), (dNums S).shown]
    rw [piled_cons, piled_cons, piled_cons, piled_cons, piled_nil] at c
    have a1 := shown_nums l1 l2
    have a2 := shown_nums r1 r2
    have a3 := (small s (by omega)).1
    have a4 := (small p (by omega)).1
    exact Nat.le_trans c (Nat.le_trans (show _ ≤ 200 by omega) (by decide))
theorem byText_eq : ∀ p, p ≤ 6 → byText p = ("Circle by " : Str) ++ ((toString ((p : Nat) : Int) : String) : Str) ∧ ((p : Nat) : Int).natAbs.log2 < 1920 ∧ ((("Circle by " : Str)).length + (((toString ((p : Nat) : Int) : String) : Str)).length) ≤ sizeLine := by
  have h : ∀ p, p < 7 → byText p = ("Circle by " : Str) ++ ((toString ((p : Nat) : Int) : String) : Str) ∧ ((p : Nat) : Int).natAbs.log2 < 1920 ∧ ((("Circle by " : Str)).length + (((toString ((p : Nat) : Int) : String) : Str)).length) ≤ sizeLine := by decide +kernel
  exact fun p hp => h p (by omega)
/-- the class's own methods and what == != in, repr and truth ask -/
structure Own (K : PySem.W.Frag) (C fC fE fP : Addr) (dC dE dP : FuncData) : Prop where
  mC : Meth K C "__contains__" fC
  mE : Meth K C "__eq__" fE
  mP : Meth K C "__repr__" fP
  FC : Fun K "__contains__" "Circle.__contains__" sCont fC dC
  FE : Fun K "__eq__" "Circle.__eq__" sEq fE dE
  FP : Fun K "__repr__" "Circle.__repr__" sRepr fP dP
  bC : Binds K dC ["self", "value"] []
  bE : Binds K dE ["self", "other"] []
  bP : Binds K dP ["self"] []
  ne : PySem.W.findIn K (.ref C) "__ne__" = some (some (.builtin "object.__ne__"))
  tb : PySem.W.findIn K (.ref C) "__bool__" = some none
  tl : PySem.W.findIn K (.ref C) "__len__" = some none
def spShows (C : Addr) : Sp := fun vs H Q _ => ∃ (x c t : Addr) (Lc R S : List Nat) (b n b0 p : Nat), vs = [.ref x, .ref c] ∧ CAt H c Lc b n R ∧ 1 ≤ n ∧ Cir (hasM Lc b n R) b0 p S ∧
  CircAt C H x t (lowF (startOf (hasM Lc b n R) p S b0) (hasM Lc b n R)) (startOf (hasM Lc b n R) p S b0) p S ∧ ∀ H', Same H H' → Q (.bl true) H'
theorem far_eq : (10 : Int) ^ (30 : Int).toNat + 7 = ((10 ^ 30 + 7 : Nat) : Int) := by decide +kernel
section
variable {P : Program} {w : World} {K : PySem.W.Frag} {mg : Str → Option Value} {base : Heap} {C : Addr}
theorem ok_shows {f fF fL fH fS fI fHas fC fE fP g0 g1 g2 g3 : Addr} {fd fdF fdL fdH fdS fdI fdHas dC dE dP d0 d1 d2 d3 : FuncData} (D : Df K mg "_law_shows_right" sShows f fd ["_law_mine", "_law_c"]) (DF : Df K mg "_law_flags" sFlags fF fdF ["_law_c", "_law_wide"])
    (DL : Df K mg "_law_form" sLForm fL fdL ["_law_flags_here"]) (DH : Df K mg "_law_has" sLHas fH fdH ["_law_c", "_law_x"]) (DS : Df K mg "_law_shown" sShown fS fdS ["_law_circle_here"]) (DI : Df K mg "is_integer" sIsInt fI fdI ["value"])
    (DHas : Df K mg "has" sHas fHas fdHas ["form", "number"]) (R : Props K C g0 g1 g2 g3 d0 d1 d2 d3) (O : Own K C fC fE fP dC dE dP) (T : Txt K mg C) : K66Fn P w K mg base CX0 4 f fd ["_law_mine", "_law_c"] (spShows C) := by
  have GF : FnOk P w K mg base CX0 2 fF fdF ["_law_c", "_law_wide"] spFlags := ok_flags DF DH T
  have GL : FnOk P w K mg base CX0 1 fL fdL ["_law_flags_here"] spLForm := ok_lform DL T
  have GH : FnOk P w K mg base CX0 1 fH fdH ["_law_c", "_law_x"] spLHas := ok_lhas DH T
  have GS : FnOk P w K mg base CX0 3 fS fdS ["_law_circle_here"] (spShown C) := ok_shown DS R T
  have GC : FnOk P w K mg base CX0 2 fC dC ["self", "value"] (spCont K C) := ok_cont O.FC DI DHas T
  have GP : FnOk P w K mg base CX0 1 fP dP ["self"] (spRepr C) := ok_repr O.FP T
  refine D.F.k66 scShows (fun vs H Q E h => ?_) (fun cdv A outer s H vs Q E hr hg h => ?_)
  · obtain ⟨x, c, t, Lc, Rc, S, b, n, b0, p, rfl, _⟩ := h
    rfl
  · obtain ⟨x, c, t, Lc, Rc, S, b, n, b0, p, rfl, hc, n1, B, hx, q⟩ := h
    have hr2 : Room 2 _ := hr.mono (by decide)
    have hr1 : Room 1 _ := hr.mono (by decide)
    refine ⟨_, pss_cons (ps_set (i := 2) scShows.nd rfl (Or.inr rfl) (pe_call GF hr2 rfl DF.m DF.F.kp DF.b .nil pass0 (pa_cons (pv 1) (pa_cons pe_int pa_nil))))
      (pss_cons (ps_set (i := 3) scShows.nd rfl (Or.inl rfl) (pe_call GL hr1 rfl DL.m DL.F.kp DL.b .nil pass0 (pa_cons (pv 2) pa_nil)))
      (pss_cons (ps_if (PW.pt (pw_or (pt_cmpR op_ne (pe_callB (k66_reprD hr hg) (by rfl) T.repr (by decide +kernel) (pa_cons (pe_call GS hr rfl DS.m DS.F.kp DS.b .nil pass0 (pa_cons (pv 0) pa_nil)) pa_nil))
            (pe_callB (k66_reprD hr hg) (by rfl) T.repr (by decide +kernel) (pa_cons (pv 3) pa_nil)) (nomark _))
          (pw_or (pt_cmpR op_ne (pe_callB (k66_repr O.mP.at_ O.mP.fn GP hr2 O.bP pass0) (by rfl) T.repr (by decide +kernel) (pa_cons (pv 0) pa_nil))
            (pe_op op_add_str pe_str (pe_callTy call_str_int (by rfl) T.str (by decide +kernel) (pa_cons (pe_ix ix_tup (pv 3) pe_int (fun _ _ => rfl)) pa_nil))) (nomark _))
          (pw_or1 (pt_not (k66_truth O.tb O.tl (pv 0) (fun _ => rfl)))))))
        (pss_one ps_never) pss_nil)
      (pss_cons (ps_if (pt_cmpR (op_neD hr.units) (pe_lc (own := [("_law_x", 5)]) (g := gName 5) rfl scShows.nd (pi_range1 (by rfl) T.range (pa_cons pe_int pa_nil))
            (blkOk_by (own := [("_law_x", 5)]) (N := ["_law_mine", "_law_c", "_law_flags_here", "_law_due", "_law_far", "_law_x", "_law_thing"]) (sc := defScope sShows) (by decide +kernel))
            (fun _ _ _ _ _ => pg_name (i := 5) scShows.nd rfl (Or.inl rfl))
            (fun _ _ _ _ _ => pts_one (pt_cmpR op_ne (pe_cmpR (r := k66rIn C (spCont K C) E0) (k66_in O.mC.at_ O.mC.fn GC hr2 O.bC pass0) (pv 5) (pv 0) (by with_unfolding_all rfl)) (pe_ix (r := rIxL K) ix_list (pv 2) (pv 5) (fun _ _ => rfl)) (nomark _)))
            (fun _ _ _ _ _ => pv 5)) (pe_lst pa_nil) (nomark _)) (pss_one ps_never) pss_nil)
      (pss_cons (ps_set (i := 4) scShows.nd rfl (Or.inl rfl) (pe_op op_add (pe_op op_pow pe_int pe_int) pe_int))
      (pss_cons (ps_if (pt_cmpR op_ne (pe_cmpR (r := k66rIn C (spCont K C) E0) (k66_in O.mC.at_ O.mC.fn GC hr2 O.bC pass0) (pv 4) (pv 0) (by with_unfolding_all rfl)) (pe_call GH hr1 rfl DH.m DH.F.kp DH.b .nil pass0 (pa_cons (pv 1) (pa_cons (pv 4) pa_nil))) (nomark _)) (pss_one ps_never) pss_nil)
      (pss_one (ps_ret (pe_cmpR (op_eqD hr.units) (pe_lc (own := [("_law_thing", 6)]) (g := gName 6) rfl scShows.nd
            (pi_list (pe_lst (pa_cons (pe_un un_neg pe_int) (pa_cons (pe_un un_neg pe_int) (pa_cons pe_non (pa_cons pe_bl (pa_cons pe_bl (pa_cons pe_str (pa_cons (pe_tup (pa_cons pe_int pa_nil)) (pa_cons (pe_lst (pa_cons pe_int pa_nil)) (pa_cons pe_dnewK pa_nil)))))))))))
            (blkOk_by (own := [("_law_thing", 6)]) (N := ["_law_mine", "_law_c", "_law_flags_here", "_law_due", "_law_far", "_law_x", "_law_thing"]) (sc := defScope sShows) (by decide +kernel))
            (fun _ _ _ _ _ => pg_name (i := 6) scShows.nd rfl (Or.inl rfl))
            (fun _ _ _ _ _ => pts_one (pt_cmpR (r := k66rIn C (spCont K C) E0) (k66_in O.mC.at_ O.mC.fn GC hr2 O.bC pass0) (pv 6) (pv 0) (by with_unfolding_all rfl)))
            (fun _ _ _ _ _ => pv 6)) (pe_lst pa_nil) (nomark _))))))))), ?_⟩
    have sh := B.short
    have p1 := B.p1
    have p6 := B.p6
    have has := B.has
    have e0 : PyData.eqv (.list []) (.list []) = true := SeqAt.eqv_refl _ (by decide +kernel)
    have z0 : SeqAt.shaped (.list []) = true := by decide +kernel
    obtain ⟨s0, hs0⟩ : ∃ s0, startOf (hasM Lc b n Rc) p S b0 = s0 := ⟨_, rfl⟩
    rw [hs0] at hx sh has
    refine ⟨_, rfl, c, Lc, Rc, b, n, 66, rfl, hc, n1, by decide, fun H1 fl s1 nfl hfl => ?_⟩
    refine ⟨_, rfl, fl, hasM Lc b n Rc, b0, p, S, rfl, hfl, B, fun H2 du s2 hdu => ?_⟩
    rw [hs0] at hdu
    have s12 := s1.trans s2
    have hF : ∀ i, hasM (lowF s0 (hasM Lc b n Rc)) s0 p S i = hasM Lc b n Rc i := has
    obtain ⟨dx, hx0⟩ := hx.1
    -- repr(shown(mine)) != repr(due)
    refine ⟨_, rfl, x, t, _, S, s0, p, rfl, hx.same s12, fun H3 sw s3 hsw => ?_⟩
    have s13 := s12.trans s3
    refine ⟨sw, _, rfl, hsw.dp, sh.sh, sh.nd, by rw [depth_form]; decide, sh.len, ?_⟩
    refine ⟨_, rfl, du, _, rfl, (hdu.same s3).dp, sh.sh, sh.nd, by rw [depth_form]; decide, sh.len, ?_⟩
    generalize (dForm (lowF s0 (hasM Lc b n Rc)) s0 p S).shown = tx
    refine ⟨rfl, _, rfl, iteNS rfl ?_⟩
    obtain ⟨e', r', hd1, hd2, hd3⟩ := hdu.same s3
    have bt := byText_eq p p6
    refine ⟨_, rfl, x, dx, _, rfl, s13 _ _ hx0, x, t, _, S, s0, p, rfl, hx.same s13, p6, _, rfl, ?_⟩
    refine ⟨_, rfl, du, _, 2, _, rfl, rfl, .of hd1, atI_nat (j := 2) rfl, (p : Nat), rfl, bt.2.1, _, _, rfl, rfl, bt.2.2, rfl, _, rfl, iteNS (congrArg V.str bt.1) ?_⟩
    refine ⟨_, rfl, x, dx, _, rfl, s13 _ _ hx0, ?_⟩
    refine iteF ?_
    -- [x for x in range(66) if (x in mine) != flags[x]] != []
    have hfl3 : H3 fl = some (.lst (flagsM (hasM Lc b n Rc) 66)) := s3 _ _ (s2 _ _ hfl)
    refine ⟨66, rfl, by decide, by decide, fun D1 nD1 => lc_range (lo := 0) (n := 66) (fun i H' => Same H3 H' ∧ H' D1 = some (.lst [])) ⟨same_new (Same.refl _) nD1 _, upd_same⟩ ?_ ?_⟩
    · rintro i H4 hi ⟨s4, hL⟩
      have s14 := s13.trans s4
      refine ⟨rfl, _, rfl, _, rfl, x, dx, _, rfl, s14 _ _ hx0, x, t, _, S, s0, p, _, _, rfl, hx.same s14, p1, .inl ⟨i, by rw [zadd], rfl⟩, _, rfl, ?_⟩
      refine ⟨_, rfl, _, rfl, fl, _, _, _, rfl, rfl, .of (s4 _ _ hfl3), (by rw [zadd]; exact atI_nat (flags_at _ hi)), rfl, _, rfl, iteNS (congrArg V.bl (hF i)) ⟨s4, hL⟩⟩
    rintro H4 ⟨s4, hL⟩
    refine ⟨Nat.zero_le _, fun l2 nl2 => ?_⟩
    have s5 := same_new s4 nl2 (.lst [])
    have nDl : D1 ≠ l2 := fun z => by
      rw [← z, hL] at nl2
      cases nl2
    refine ⟨_, _, .lst (.of (by rw [upd_ne nDl]; exact hL)) .nil, .lst (.of upd_same) .nil, z0, z0, _, rfl, iteB (fun e => by rw [e0] at e; cases e) (fun _ => ?_)⟩
    generalize upd H4 l2 (.lst []) = H5 at s5
    have s15 := s13.trans s5
    -- far = 10 ** 30 + 7
    refine ⟨_, _, rfl, rfl, ⟨by decide, by decide, by decide⟩, _, _, rfl, rfl, ?_⟩
    refine ⟨_, rfl, _, rfl, x, dx, _, rfl, s15 _ _ hx0, x, t, _, S, s0, p, _, _, rfl, hx.same s15, p1, .inl ⟨10 ^ 30 + 7, congrArg V.int far_eq, rfl⟩, _, rfl, ?_⟩
    refine ⟨_, rfl, _, rfl, c, Lc, Rc, b, n, 10 ^ 30 + 7, congrArg (fun z => [V.ref c, V.int z]) far_eq, hc.same s15, n1, rfl, _, rfl, iteNS (congrArg V.bl (hF _)) ?_⟩
    -- the values that are no numbers from 0 on
    refine ⟨1, rfl, 6, rfl, by show 1 ≤ sizeLine; decide, fun t0 nt0 => ⟨by show 1 ≤ sizeLine; decide, fun l1 nl1 => fun d1 nd1 => ⟨by show 9 ≤ sizeLine; decide, fun a na => ?_⟩⟩⟩
    have u1 := same_new (Same.refl H5) nt0 (.tup [.int 0])
    have u2 := same_new (Same.refl _) nl1 (.lst [.int 1])
    have u3 := same_new (Same.refl _) nd1 (.dK [])
    have u4 := same_new (Same.refl _) na (.lst [.int (-1), .int (-6), .non, .bl true, .bl false, .str "0", .ref t0, .ref l1, .ref d1])
    have ht0 := u4 _ _ (u3 _ _ (u2 t0 _ upd_same))
    have hl1 := u4 _ _ (u3 l1 _ upd_same)
    have hd1' := u4 d1 _ upd_same
    have ha : (upd (upd (upd (upd H5 t0 (.tup [.int 0])) l1 (.lst [.int 1])) d1 (.dK [])) a (.lst [.int (-1), .int (-6), .non, .bl true, .bl false, .str "0", .ref t0, .ref l1, .ref d1])) a = some (.lst [.int (-1), .int (-6), .non, .bl true, .bl false, .str "0", .ref t0, .ref l1, .ref d1]) := upd_same
    have s5' := u1.trans (u2.trans (u3.trans u4))
    refine ⟨a, rfl, ⟨_, .of ha⟩, fun D2 nD2 => lc_list (K := K) (a := a) (xs := [.int (-1), .int (-6), .non, .bl true, .bl false, .str "0", .ref t0, .ref l1, .ref d1]) (fun i H' => Same (upd (upd (upd (upd H5 t0 (.tup [.int 0])) l1 (.lst [.int 1])) d1 (.dK [])) a (.lst [.int (-1), .int (-6), .non, .bl true, .bl false, .str "0", .ref t0, .ref l1, .ref d1])) H' ∧ H' D2 = some (.lst []))
      ⟨same_new (Same.refl _) nD2 _, upd_same⟩ (fun i H' _ z => .of (z.1 _ _ ha)) ?_ ?_⟩
    · rintro i v H6 hv ⟨s6, hL6⟩
      have s16 := s15.trans (s5'.trans s6)
      have no : (∃ i : Int, v = .int i ∧ i < 0 ∧ false = false) ∨ (∃ T, TyX K H6 v (.type T) ∧ T ∈ kinds ∧ T ≠ "int" ∧ false = false) := by
        have kn : ∀ T ∈ ["bool", "NoneType", "str", "tuple", "list", "dict"], T ∈ kinds ∧ T ≠ "int" := by decide +kernel
        have tell : ∀ T, TyX K H6 v (.type T) → T ∈ ["bool", "NoneType", "str", "tuple", "list", "dict"] → ∃ T, TyX K H6 v (.type T) ∧ T ∈ kinds ∧ T ≠ "int" ∧ false = false := fun T h1 h2 => ⟨T, h1, (kn T h2).1, (kn T h2).2, rfl⟩
        match i, hv with
        | 0, h => cases h; exact .inl ⟨-1, rfl, by decide, rfl⟩
        | 1, h => cases h; exact .inl ⟨-6, rfl, by decide, rfl⟩
        | 2, h => cases h; exact .inr (tell "NoneType" (.base .non) (by simp))
        | 3, h => cases h; exact .inr (tell "bool" (.base (.bl _)) (by simp))
        | 4, h => cases h; exact .inr (tell "bool" (.base (.bl _)) (by simp))
        | 5, h => cases h; exact .inr (tell "str" (.base (.str _)) (by simp))
        | 6, h => cases h; exact .inr (tell "tuple" (.base (.tup (s6 _ _ ht0))) (by simp))
        | 7, h => cases h; exact .inr (tell "list" (.base (.lst (s6 _ _ hl1))) (by simp))
        | 8, h => cases h; exact .inr (tell "dict" (.base (.dK (s6 _ _ hd1'))) (by simp))
      exact ⟨rfl, _, rfl, _, rfl, x, dx, _, rfl, s16 _ _ hx0, x, t, _, S, s0, p, v, false, rfl, hx.same s16, p1, .inr no, _, rfl, _, rfl, iteF ⟨s6, hL6⟩⟩
    · rintro H6 ⟨s6, hL6⟩
      refine ⟨Nat.zero_le _, fun l3 nl3 => ?_⟩
      have nDl3 : D2 ≠ l3 := fun z => by
        rw [← z, hL6] at nl3
        cases nl3
      refine ⟨_, _, .lst (.of (by rw [upd_ne nDl3]; exact hL6)) .nil, .lst (.of upd_same) .nil, z0, z0, ?_⟩
      rw [e0]
      exact q _ (s15.trans (s5'.trans (same_new s6 nl3 _)))
end
end K66

namespace K66
open PySem L2
/-! ### told of a drawn circle -/
theorem hasM_eq (f : Nat → Bool) (b n : Nat) (R : List Nat) : hasM (lowF b f) b n R = hasC f b n R := by
  funext x
  unfold hasM hasC
  split
  · rename_i h
    rw [has_lowF, decide_eq_true h, Bool.true_and]
  · rfl
theorem lowF_hasM (f : Nat → Bool) (b n : Nat) (R : List Nat) : lowF b (hasM (lowF b f) b n R) = lowF b f := by
  refine lowF_congr fun x hx => ?_
  unfold hasM
  rw [if_pos hx, has_lowF, decide_eq_true hx, Bool.true_and]
theorem told {F : Nat → Bool} {b n w : Nat} {g : Nat → Bool} (hb : b ≤ 9) (n1 : 1 ≤ n) (n6 : n ≤ 6) (w1 : 1 ≤ w) (w3 : w ≤ 3) : Told F b (n * w) (pOf n (lowF n g)) (expand n w (lowF n g)) (sOf n (lowF n g)) := by
  have k := key n1 n6 g
  have h18 : n * w ≤ 18 := Nat.le_trans (Nat.mul_le_mul n6 w3) (by decide)
  refine ⟨hb, Nat.mul_pos n1 w1, h18, lowF_rise _ _, fun r hr => (mem_lowF.mp hr).1, Nat.le_trans (lowF_len _ _) h18, k.tell w w1 w3, ?_⟩
  rw [k.low]
  exact lowF_rise _ _
theorem told1 {F : Nat → Bool} {b n : Nat} {g : Nat → Bool} (hb : b ≤ 9) (n1 : 1 ≤ n) (n6 : n ≤ 6) : Told F b n (pOf n (lowF n g)) (lowF n g) (sOf n (lowF n g)) := by
  have t := told (F := F) (g := g) hb n1 n6 (Nat.le_refl 1) (by decide)
  rw [(key n1 n6 g).one, Nat.mul_one] at t
  exact t
/-- the first circle: every second number -/
def gE : Nat → Bool := fun x => x == 0
theorem low2 : lowF 2 gE = [0] := by decide +kernel
theorem p2 : pOf 2 (lowF 2 gE) = 2 := by decide +kernel
theorem S2 : sOf 2 (lowF 2 gE) = [0] := by decide +kernel
theorem told0 (F : Nat → Bool) : Told F 0 2 2 [0] [0] := by
  have t := told1 (F := F) (b := 0) (n := 2) (g := gE) (by decide) (by decide) (by decide)
  rw [p2, S2, low2] at t
  exact t
theorem KegAt.same {H H1 : Hp} {k : Addr} (h : KegAt H k) (s : Same H H1) : KegAt H1 k := by
  obtain ⟨a, b, c, h1, h2⟩ := h
  exact ⟨a, b, c, s _ _ h1, h2⟩
theorem FormAt.but {H H1 : Hp} {k t : Addr} {L S : List Nat} {s p : Nat} (h : FormAt H t L s p S) (hk : KegAt H k) (b : But k H H1) : FormAt H1 t L s p S := by
  obtain ⟨x1, x2, x3, e, _⟩ := hk
  obtain ⟨e', r, h1, h2, h3⟩ := h
  exact ⟨e', r, b _ _ (ne_of h1 e (by intro z; cases z)) h1, b _ _ (ne_of h2 e (by intro z; cases z)) h2, b _ _ (ne_of h3 e (by intro z; cases z)) h3⟩
theorem CircAt.but {C : Addr} {H H1 : Hp} {k x t : Addr} {L S : List Nat} {s p : Nat} (h : CircAt C H x t L s p S) (hk : KegAt H k) (b : But k H H1) : CircAt C H1 x t L s p S := by
  obtain ⟨⟨dx, h1⟩, h2⟩ := h
  refine ⟨⟨dx, ?_⟩, h2.but hk b⟩
  obtain ⟨x1, x2, x3, e, _⟩ := hk
  exact b _ _ (ne_of h1 e (by intro z; cases z)) h1
theorem vals_rev : ∀ {vs : List V} {us : List Value}, Vals vs us → Vals vs.reverse us.reverse
  | _, _, .nil => .nil
  | _, _, .cons a r => by
    rw [List.reverse_cons, List.reverse_cons]
    exact (vals_rev r).append (.cons a .nil)
theorem kb_init {K : PySem.W.Frag} {f : Addr} {fd : FuncData} (F : Fun K "__init__" "Circle.__init__" sInit f fd) : KBn K fd ["self", "early", "start", "base", "rests"] 1 ["rests", "base", "start", "early"] (fun us ws => us ++ ws.reverse) (fun vs zs => vs ++ zs.reverse) := by
  obtain ⟨oc, od, kV, doc, pm, an, cdv, ct, osl, rfl, lk, hcd⟩ := F.ex
  refine ⟨fun s us ws _ l1 l2 => ?_, fun r z => r.append (vals_rev z)⟩
  match us, ws, l1, l2 with
  | [a], [r, b, s, e], _, _ => exact .of_eq rfl
theorem made_same {H : Hp} {x dx C : Addr} (nx : H x = none) (ndx : H dx = none) (nex : dx ≠ x) : Same H (upd (upd H dx (.own x)) x (.ins C dx [])) :=
  same_new (same_new (Same.refl H) ndx _) (by rw [upd_ne nex.symm]; exact nx) _
theorem kept_same {H H1 H2 : Hp} {x : Addr} (nx : H x = none) (s : Same H H1) (k : ∀ c o, c ≠ x → H1 c = some o → H2 c = some o) : Same H H2 := fun u o hu =>
  k u o (fun z => by rw [z, nx] at hu; cases hu) (s u o hu)
def spRight : Sp := fun vs H Q _ => ∃ k : Addr, vs = [.ref k] ∧ KegAt H k ∧ ∀ H', But k H H' → Q (.bl true) H'
/-- all the defs of the top -/
structure Defs (K : PySem.W.Frag) (mg : Str → Option Value) (C fIs fBw fCk fAp fRi fBa fFo fHs fKe fTa fAn fSe fLh fFl fLf fSh fCi fAg fSw fRt fN : Addr)
    (dIs dBw dCk dAp dRi dBa dFo dHs dKe dTa dAn dSe dLh dFl dLf dSh dCi dAg dSw dRt dN : FuncData) : Prop where
  Is : Df K mg "is_integer" sIsInt fIs dIs ["value"]
  Bw : Df K mg "is_between" sBetw fBw dBw ["value", "least", "most"]
  Ck : Df K mg "check_between" sCheck fCk dCk ["value", "least", "most"]
  Ap : Df K mg "apart_of" sApart fAp dAp ["number"]
  Ri : Df K mg "rising_fault" sRise fRi dRi ["value", "most"]
  Ba : Df K mg "least_base" sBase fBa dBa ["base", "rests"]
  Fo : Df K mg "least_form" sForm fFo dFo ["early", "start", "base", "rests"]
  Hs : Df K mg "has" sHas fHs dHs ["form", "number"]
  Ke : Df K mg "_law_keg" sKeg fKe dKe ["_law_cells", "_law_at"]
  Ta : Df K mg "_law_tap" sTap fTa dTa ["_law_keg_here", "_law_upto"]
  An : Df K mg "_law_any" sAny fAn dAn ["_law_keg_here", "_law_things"]
  Se : Df K mg "_law_set" sSet fSe dSe ["_law_keg_here", "_law_most"]
  Lh : Df K mg "_law_has" sLHas fLh dLh ["_law_c", "_law_x"]
  Fl : Df K mg "_law_flags" sFlags fFl dFl ["_law_c", "_law_wide"]
  Lf : Df K mg "_law_form" sLForm fLf dLf ["_law_flags_here"]
  Sh : Df K mg "_law_shown" sShown fSh dSh ["_law_circle_here"]
  Ci : Df K mg "_law_circle" sCirc fCi dCi ["_law_c"]
  Ag : Df K mg "_law_again" sAgain fAg dAg ["_law_keg_here", "_law_c"]
  Sw : Df K mg "_law_shows_right" sShows fSw dSw ["_law_mine", "_law_c"]
  Rt : Df K mg "_law_right" sRight fRt dRt ["_law_keg_here"]
  N : Fun K "__init__" "Circle.__init__" sInit fN dN
  bN : Binds K dN ["self", "early", "start", "base", "rests"] []
  M : Mk K C fN
section
variable {P : Program} {w : World} {K : PySem.W.Frag} {mg : Str → Option Value} {base : Heap} {C : Addr}
variable {fIs fBw fCk fAp fRi fBa fFo fHs fKe fTa fAn fSe fLh fFl fLf fSh fCi fAg fSw fRt fN : Addr} {dIs dBw dCk dAp dRi dBa dFo dHs dKe dTa dAn dSe dLh dFl dLf dSh dCi dAg dSw dRt dN : FuncData}
variable {fC fE fP g0 g1 g2 g3 : Addr} {dC dE dP d0 d1 d2 d3 : FuncData}
theorem ok_right (A0 : Defs K mg C fIs fBw fCk fAp fRi fBa fFo fHs fKe fTa fAn fSe fLh fFl fLf fSh fCi fAg fSw fRt fN dIs dBw dCk dAp dRi dBa dFo dHs dKe dTa dAn dSe dLh dFl dLf dSh dCi dAg dSw dRt dN)
    (R : Props K C g0 g1 g2 g3 d0 d1 d2 d3) (O : Own K C fC fE fP dC dE dP) (TE : TxtEq K C) (T : Txt K mg C) : K66Fn P w K mg base CX0 7 fRt dRt ["_law_keg_here"] spRight := by
  have GN : FnOk P w K mg base CX0 4 fN dN ["self", "early", "start", "base", "rests"] (spInit C) := ok_init A0.N A0.Ri A0.Ck A0.Bw A0.Fo A0.Ba A0.Ap A0.Is T
  have GSe : FnOk P w K mg base CX0 3 fSe dSe ["_law_keg_here", "_law_most"] spSet := ok_set A0.Se A0.Ta A0.An T
  have GAg : FnOk P w K mg base CX0 2 fAg dAg ["_law_keg_here", "_law_c"] spAgain := ok_again A0.Ag A0.Ta A0.Lh T
  have GCi : FnOk P w K mg base CX0 6 fCi dCi ["_law_c"] (spCirc C) := ok_circ A0.Ci A0.M A0.bN (ok_init A0.N A0.Ri A0.Ck A0.Bw A0.Fo A0.Ba A0.Ap A0.Is T) T
  have GSw : K66Fn P w K mg base CX0 4 fSw dSw ["_law_mine", "_law_c"] (spShows C) := ok_shows A0.Sw A0.Fl A0.Lf A0.Lh A0.Sh A0.Is A0.Hs R O T
  have GFl : FnOk P w K mg base CX0 2 fFl dFl ["_law_c", "_law_wide"] spFlags := ok_flags A0.Fl A0.Lh T
  have GLf : FnOk P w K mg base CX0 1 fLf dLf ["_law_flags_here"] spLForm := ok_lform A0.Lf T
  have GE : FnOk P w K mg base CX0 1 fE dE ["self", "other"] (spEq K C) := ok_eq O.FE T TE
  have kb := kb_init A0.N
  refine A0.Rt.F.k66 scRight (fun vs H Q E h => ?_) (fun cdv A outer s H vs Q E hr hg h => ?_)
  · obtain ⟨k, rfl, _⟩ := h
    rfl
  · obtain ⟨k, rfl, hk, q⟩ := h
    have hr5 : Room 5 _ := hr.mono (by decide)
    have hr4 : Room 4 _ := hr.mono (by decide)
    have hr3 : Room 3 _ := hr.mono (by decide)
    have hr2 : Room 2 _ := hr.mono (by decide)
    have hr1 : Room 1 _ := hr.mono (by decide)
    refine ⟨_, pss_cons (ps_par (i := 1) (j := 2) (by rfl) scRight.nd rfl rfl (by decide) rfl rfl (pa_cons (pe_make A0.M GN hr5 rfl T.mgC A0.bN .nil pass0 (pa_cons (pe_tup pa_nil) (pa_cons pe_int (pa_cons pe_int (pa_cons (pe_tup (pa_cons pe_int pa_nil)) pa_nil)))))
        (pa_cons (pe_tup (pa_cons (pe_tup pa_nil) (pa_cons pe_int (pa_cons pe_int (pa_cons (pe_tup (pa_cons pe_int pa_nil)) pa_nil))))) pa_nil)) (by rfl))
      (pss_cons (ps_for PassesOwn.never rfl (pi_range1 (by rfl) T.range (pa_cons pe_int pa_nil)) (pg_name (i := 3) scRight.nd rfl (Or.inl rfl))
        (pss_cons (ps_set (i := 4) scRight.nd rfl (Or.inl rfl) (pe_call GSe hr3 rfl A0.Se.m A0.Se.F.kp A0.Se.b .nil pass0 (pa_cons (pv 0) (pa_cons pe_int pa_nil))))
        (pss_cons (ps_set (i := 5) scRight.nd rfl (Or.inl rfl) (pe_call GAg hr2 rfl A0.Ag.m A0.Ag.F.kp A0.Ag.b .nil pass0 (pa_cons (pv 0) (pa_cons (pv 4) pa_nil))))
        (pss_cons (ps_par (i := 6) (j := 7) (by rfl) scRight.nd rfl rfl (by decide) rfl rfl (pa_cons (pe_call GCi hr rfl A0.Ci.m A0.Ci.F.kp A0.Ci.b .nil pass0 (pa_cons (pv 4) pa_nil))
          (pa_cons (pe_makeK0 (ks := ["rests", "base", "start", "early"]) A0.M GN hr5 rfl T.mgC kb pass0 (pk_cons (pe_callTy call_tuple_of (by rfl) T.tuple (by decide +kernel) (pa_cons (pe_ix ix_tup (pv 5) pe_int (fun _ _ => rfl)) pa_nil))
            (pk_cons (pe_ix ix_tup (pv 5) pe_int (fun _ _ => rfl)) (pk_cons (pe_ix ix_tup (pv 5) pe_int (fun _ _ => rfl)) (pk_cons (pe_callTy call_tuple_of (by rfl) T.tuple (by decide +kernel) (pa_cons (pe_ix ix_tup (pv 5) pe_int (fun _ _ => rfl)) pa_nil)) pk_nil))))) pa_nil)) (by rfl))
        (pss_cons (ps_if (PW.pt (pw_or (pt_not (pt_val (k66_call GSw hr4 hg rfl A0.Sw.m A0.Sw.F.kp A0.Sw.b pass0 (pa_cons (pv 6) (pa_cons (pv 4) pa_nil)))))
            (pw_or1 (pt_not (pt_val (k66_call GSw hr4 hg rfl A0.Sw.m A0.Sw.F.kp A0.Sw.b pass0 (pa_cons (pv 7) (pa_cons (pv 4) pa_nil)))))))) (pss_one ps_never) pss_nil)
        (pss_cons (ps_set (i := 8) scRight.nd rfl (Or.inl rfl) (pe_call GLf hr1 rfl A0.Lf.m A0.Lf.F.kp A0.Lf.b .nil pass0 (pa_cons (pe_call GFl hr2 rfl A0.Fl.m A0.Fl.F.kp A0.Fl.b .nil pass0 (pa_cons (pv 4) (pa_cons pe_int pa_nil))) pa_nil)))
        (pss_cons (ps_if (PW.pt (pw_or (pt_cmpR (k66_ne O.ne T.cm O.mE.at_ O.mE.fn GE hr2 O.bE pass0) (pv 6) (pv 7) (nomark _))
            (pw_or (pt_cmpR op_ne (pe_cmpR (k66_eq O.mE.at_ O.mE.fn GE hr1 O.bE pass0) (pv 6) (pv 1) (nomark _)) (pe_cmpR (op_eqD hr.units) (pv 8) (pv 2) (nomark _)) (nomark _))
            (pw_or1 (pt_cmpR op_ne (pe_cmpR (k66_ne O.ne T.cm O.mE.at_ O.mE.fn GE hr2 O.bE pass0) (pv 6) (pv 1) (nomark _)) (pe_cmpR (op_neD hr.units) (pv 8) (pv 2) (nomark _)) (nomark _)))))) (pss_one ps_never) pss_nil)
        (pss_cons (ps_if (PW.pt (pw_or (pt_cmpR (k66_eq O.mE.at_ O.mE.fn GE hr1 O.bE pass0) (pv 6) (pv 8) (nomark _))
            (pw_or (pt_cmpR (k66_eq O.mE.at_ O.mE.fn GE hr1 O.bE pass0) (pv 6) (pv 4) (nomark _)) (pw_or1 (pt_cmpR (k66_eq O.mE.at_ O.mE.fn GE hr1 O.bE pass0) (pv 6) pe_str (nomark _)))))) (pss_one ps_never) pss_nil)
        (pss_one (ps_par (i := 1) (j := 2) (by rfl) scRight.nd rfl rfl (by decide) rfl rfl (pa_cons (pv 6) (pa_cons (pv 8) pa_nil)) (by rfl)))))))))))
      (pss_one (ps_ret pe_bl))), ?_⟩
    refine ⟨Nat.zero_le _, fun e0 ne0 => ⟨by show 1 ≤ sizeLine; decide, fun a0 na0 => ?_⟩⟩
    have s1 := same_new (Same.refl H) ne0 (.tup [])
    have s2 := same_new s1 na0 (.tup [.int 0])
    intro x0 dx0 nx0 ndx0 nex0
    have s3 := same_new s2 ndx0 (.own x0)
    have nx0' : upd (upd (upd H e0 (.tup [])) a0 (.tup [.int 0])) dx0 (.own x0) x0 = none := by
      rw [upd_ne nex0.symm]
      exact nx0
    have s4 := same_new s3 nx0' (.ins C dx0 [])
    have he0 : upd (upd (upd (upd H e0 (.tup [])) a0 (.tup [.int 0])) dx0 (.own x0)) x0 (.ins C dx0 []) e0 = some (.tup []) :=
      same_new (same_new (same_new (Same.refl _) na0 _) ndx0 _) nx0' _ _ _ upd_same
    have ha0 : upd (upd (upd (upd H e0 (.tup [])) a0 (.tup [.int 0])) dx0 (.own x0)) x0 (.ins C dx0 []) a0 = some (.tup [.int 0]) :=
      same_new (same_new (Same.refl _) ndx0 _) nx0' _ _ _ upd_same
    refine ⟨fun _ => false, 0, 2, 2, x0, dx0, e0, a0, [0], [0], rfl, upd_same, he0, ha0, told0 _, fun H1 t0 k1 cf => ⟨rfl, ?_⟩⟩
    have hx00 : H x0 = none := s2.free nx0
    have sH1 : Same H H1 := fun u o hu => k1 u o (fun z => by rw [z, hx00] at hu; cases hu) (s4 u o hu)
    refine ⟨Nat.zero_le _, fun e1 ne1 => ⟨by show 1 ≤ sizeLine; decide, fun a1 na1 => ⟨by show 4 ≤ sizeLine; decide, fun ol nol => ?_⟩⟩⟩
    have u1 := same_new (Same.refl H1) ne1 (.tup [])
    have u2 := same_new (Same.refl _) na1 (.tup [.int 0])
    have u3 := same_new (Same.refl _) nol (.tup [.ref e1, .int 0, .int 2, .ref a1])
    have u123 := u1.trans (u2.trans u3)
    refine ⟨_, _, rfl, 3, rfl, by decide, by decide, for_range (lo := 0) (n := 3) (fun i σ H' => ∃ (bf tb ol : Addr) (L : List Nat) (sb pb : Nat) (Sb : List Nat) (v3 v4 v5 v6 v7 v8 : Option V),
      σ = [some (.ref k), some (.ref bf), some (.ref ol), v3, v4, v5, v6, v7, v8] ∧ But k H H' ∧ KegAt H' k ∧ CircAt C H' bf tb L sb pb Sb ∧ FormAt H' ol L sb pb Sb)
      ⟨x0, t0, ol, [], 0, 2, [0], _, _, _, _, _, _, rfl, Same.but (sH1.trans u123), (hk.same sH1).same u123, cf.same u123, e1, a1, upd_same, u3 _ _ (u2 e1 _ upd_same), u3 _ _ upd_same⟩ ?_ ?_⟩
    · rintro i σ H2 hi ⟨bf, tb, ol, L, sb, pb, Sb, v3, v4, v5, v6, v7, v8, rfl, b2, k2, cb, fo⟩
      refine ⟨_, rfl, k, rfl, k2, fun H3 c f g b n b3 k3 hb n1 n6 nc hc => ?_⟩
      refine ⟨_, rfl, _, rfl, k, c, _, _, b, n, rfl, k3, hc, n1, n6, hb, fun H4 d m w0 b4 k4 hm w1 w3 nd hd => ?_⟩
      have B : Cir (hasM (lowF b f) b n (lowF n g)) b (pOf n (lowF n g)) (sOf n (lowF n g)) := by
        rw [hasM_eq]
        exact cir hb n1 n6
      have tl1 : Told (hasM (lowF b f) b n (lowF n g)) b n (pOf n (lowF n g)) (lowF n g) (sOf n (lowF n g)) := told1 (by omega) n1 n6
      have tl2 : Told (hasM (lowF b f) b n (lowF n g)) (b + m) (n * w0) (pOf n (lowF n g)) (expand n w0 (lowF n g)) (sOf n (lowF n g)) := told (by omega) n1 n6 w1 w3
      have hc4 := (hc.but b4).at
      have hc4' : CAt H4 c (lowF b (hasM (lowF b f) b n (lowF n g))) b n (lowF n g) := by
        rw [lowF_hasM]
        exact hc4
      generalize pOf n (lowF n g) = p at B tl1 tl2
      generalize sOf n (lowF n g) = S at B tl1 tl2
      have cb4 := (cb.but k2 b3).but k3 b4
      have fo4 := (fo.but k2 b3).but k3 b4
      have b04 := b2.trans (b3.trans b4)
      refine ⟨_, rfl, c, hasM (lowF b f) b n (lowF n g), b, n, p, lowF n g, S, rfl, hc4', tl1, fun H5 x t s5 nx cx => ?_⟩
      obtain ⟨dl, dr, _, _, _, hd1, hd2, hd3⟩ := hd
      refine ⟨_, rfl, d, _, 3, _, rfl, rfl, .of (s5 _ _ hd1), atI_nat (j := 3) rfl, dr, _, rfl, .inl ⟨.of (s5 _ _ hd3), fun a na => ?_⟩⟩
      have sA := same_new (Same.refl H5) na (.tup (nums (expand n w0 (lowF n g))))
      refine ⟨_, rfl, d, _, 2, _, rfl, rfl, .of (sA _ _ (s5 _ _ hd1)), atI_nat (j := 2) rfl, _, rfl, d, _, 1, _, rfl, rfl, .of (sA _ _ (s5 _ _ hd1)), atI_nat (j := 1) rfl, ?_⟩
      refine ⟨_, rfl, d, _, 0, _, rfl, rfl, .of (sA _ _ (s5 _ _ hd1)), atI_nat (j := 0) rfl, dl, _, rfl, .inl ⟨.of (sA _ _ (s5 _ _ hd2)), fun e ne => ?_⟩⟩
      have sE := same_new (Same.refl _) ne (.tup (nums (lowF (b + m) (hasM (lowF b f) b n (lowF n g)))))
      refine ⟨rfl, rfl, fun x2 dx2 nx2 ndx2 nex2 => ?_⟩
      have sMk := made_same (C := C) nx2 ndx2 nex2
      refine ⟨hasM (lowF b f) b n (lowF n g), b + m, n * w0, p, x2, dx2, e, a, expand n w0 (lowF n g), S, rfl, upd_same, sMk _ _ upd_same, sMk _ _ (sE _ _ upd_same), tl2, fun H6 t2 k6 cf2 => ⟨rfl, _, _, rfl, ?_⟩⟩
      have sM : Same H5 H6 := sA.trans (sE.trans (kept_same nx2 sMk k6))
      rw [B.more (Nat.le_add_right b m)] at cf2
      -- not shows_right(mine, c) or not shows_right(mate, c)
      refine ⟨_, rfl, _, rfl, x, c, t, lowF b f, lowF n g, S, b, n, b, p, rfl, (hc4.same s5).same sM, n1, B, cx.same sM, fun H7 s7 => ⟨true, rfl, iteF ?_⟩⟩
      refine ⟨_, rfl, _, rfl, x2, c, t2, lowF b f, lowF n g, S, b, n, b, p, rfl, ((hc4.same s5).same sM).same s7, n1, B, cf2.same s7, fun H8 s8 => ⟨true, rfl, iteF ?_⟩⟩
      have s68 := s7.trans s8
      -- due = form(flags(c, 66))
      refine ⟨_, rfl, c, lowF b f, lowF n g, b, n, 66, rfl, ((hc4.same s5).same sM).same s68, n1, by decide, fun H9 fl s9 nfl hfl => ?_⟩
      refine ⟨fl, hasM (lowF b f) b n (lowF n g), b, p, S, rfl, hfl, B, fun H10 du s10 hdu => ?_⟩
      have s610 := s68.trans (s9.trans s10)
      have cm := (cx.same sM).same s610
      have ct := cf2.same s610
      have s510 := sM.trans s610
      have cb10 := (cb4.same s5).same s510
      have fo10 := (fo4.same s5).same s510
      have hc10 := (hc4.same s5).same s510
      generalize startOf (hasM (lowF b f) b n (lowF n g)) p S b = s0 at cm ct hdu
      generalize lowF s0 (hasM (lowF b f) b n (lowF n g)) = L0 at cm ct hdu
      obtain ⟨dxm, hxm⟩ := cm.1
      obtain ⟨dxt, hxt⟩ := ct.1
      obtain ⟨dxb, hxb⟩ := cb10.1
      have tym : TyX K H10 (.ref x2) (.ref C) := .base (.ins hxt T.cl T.ca T.cn T.ct T.cm)
      have tyb : TyX K H10 (.ref bf) (.ref C) := .base (.ins hxb T.cl T.ca T.cn T.ct T.cm)
      refine ⟨_, rfl, _, rfl, x, dxm, _, _, rfl, hxm, tym, TE.nC, x, t, L0, S, s0, p, .ref x2, _, rfl, cm, .inl ⟨x2, t2, L0, S, s0, p, rfl, ct, rfl⟩, _, rfl, _, rfl, iteB (fun z => by rw [eqv_form] at z; cases z) (fun _ => ?_)⟩
      refine ⟨_, rfl, _, rfl, x, dxm, _, _, rfl, hxm, tyb, TE.nC, x, t, L0, S, s0, p, .ref bf, _, rfl, cm, .inl ⟨bf, tb, L, Sb, sb, pb, rfl, cb10, rfl⟩, _, rfl, ?_⟩
      refine ⟨_, rfl, _, rfl, _, _, hdu.dp, fo10.dp, shaped_form _ _ _ _, shaped_form _ _ _ _, ?_⟩
      generalize hq1 : PyData.eqv (dForm L0 s0 p S) (dForm L sb pb Sb) = bq
      refine ⟨rfl, _, rfl, iteNS rfl ?_⟩
      refine ⟨_, rfl, _, rfl, x, dxm, _, _, rfl, hxm, tyb, TE.nC, x, t, L0, S, s0, p, .ref bf, bq, rfl, cm, .inl ⟨bf, tb, L, Sb, sb, pb, rfl, cb10, hq1.symm⟩, _, rfl, ?_⟩
      refine ⟨_, rfl, _, rfl, _, _, hdu.dp, fo10.dp, shaped_form _ _ _ _, shaped_form _ _ _ _, ?_⟩
      rw [hq1]
      refine ⟨rfl, _, rfl, iteNS rfl ?_⟩
      -- mine == due or mine == c or mine == 'Circle by 2'
      obtain ⟨e9, r9, hdu1, _, _⟩ := id hdu
      obtain ⟨l9, q9, hc1, _, _⟩ := hc10
      refine ⟨_, rfl, _, rfl, x, dxm, _, _, rfl, hxm, .base (.tup hdu1), TE.nT, x, t, L0, S, s0, p, .ref du, false, rfl, cm, .inr ⟨"tuple", .base (.tup hdu1), .inl rfl, rfl⟩, _, rfl, _, rfl, iteF ?_⟩
      refine ⟨_, rfl, _, rfl, x, dxm, _, _, rfl, hxm, .base (.tup hc1), TE.nT, x, t, L0, S, s0, p, .ref c, false, rfl, cm, .inr ⟨"tuple", .base (.tup hc1), .inl rfl, rfl⟩, _, rfl, _, rfl, iteF ?_⟩
      refine ⟨_, rfl, x, dxm, _, _, rfl, hxm, .base (.str _), TE.nS, x, t, L0, S, s0, p, .str _, false, rfl, cm, .inr ⟨"str", .base (.str _), .inr rfl, rfl⟩, _, rfl, _, rfl, iteF ?_⟩
      refine ⟨_, rfl, _, rfl, _, _, rfl, x, t, du, L0, s0, p, S, _, _, _, _, _, _, rfl, b04.trans ((Same.but s5).trans (Same.but s510)), (k4.same s5).same s510, cm, hdu⟩
    · rintro σ H2 ⟨bf, tb, ol, L, sb, pb, Sb, v3, v4, v5, v6, v7, v8, rfl, b2, k2, cb, fo⟩
      exact q _ b2
end
end K66

namespace K66
open PySem L2
def spLaw (K : PySem.W.Frag) : Sp := fun vs H Q _ => ∃ (a : Addr) (ns : List Int), vs = [.ref a] ∧ SqL K H a (ns.map V.int) ∧ ns.length ≤ 63 ∧ ∀ H', Q (.bl true) H'
theorem all_true (n : Nat) : (List.replicate n true).all id = true := by
  induction n with
  | zero => rfl
  | succ n ih =>
    rw [List.replicate_succ, List.all_cons, ih]
    rfl
section
variable {P : Program} {w : World} {K : PySem.W.Frag} {mg : Str → Option Value} {base : Heap} {C : Addr}
variable {fIs fBw fCk fAp fRi fBa fFo fHs fKe fTa fAn fSe fLh fFl fLf fSh fCi fAg fSw fRt fN : Addr} {dIs dBw dCk dAp dRi dBa dFo dHs dKe dTa dAn dSe dLh dFl dLf dSh dCi dAg dSw dRt dN : FuncData}
variable {fC fE fP g0 g1 g2 g3 : Addr} {dC dE dP d0 d1 d2 d3 : FuncData}
theorem ok_law {f : Addr} {fd : FuncData} (D : Fun K "law" "law" sLaw f fd) (A0 : Defs K mg C fIs fBw fCk fAp fRi fBa fFo fHs fKe fTa fAn fSe fLh fFl fLf fSh fCi fAg fSw fRt fN dIs dBw dCk dAp dRi dBa dFo dHs dKe dTa dAn dSe dLh dFl dLf dSh dCi dAg dSw dRt dN)
    (R : Props K C g0 g1 g2 g3 d0 d1 d2 d3) (O : Own K C fC fE fP dC dE dP) (TE : TxtEq K C) (T : Txt K mg C) : K66Fn P w K mg base CX0 8 f fd ["_law_cells"] (spLaw K) := by
  have GR : K66Fn P w K mg base CX0 7 fRt dRt ["_law_keg_here"] spRight := ok_right A0 R O TE T
  have GK : FnOk P w K mg base CX0 1 fKe dKe ["_law_cells", "_law_at"] (spKeg K) := ok_keg A0.Ke T
  refine D.k66 scLaw (fun vs H Q E h => ?_) (fun cdv A outer s H vs Q E hr hg h => ?_)
  · obtain ⟨a, ns, rfl, _⟩ := h
    rfl
  · obtain ⟨a, ns, rfl, hS, hl, q⟩ := h
    have hr1 : Room 1 _ := hr.mono (by decide)
    refine ⟨_, pss_one (ps_ret (pe_callB (cr_all rfl) (by rfl) T.all (by decide +kernel) (pa_cons
        (pe_lc (own := [("_law_at", 1)]) (g := gName 1) (tt := tYes) rfl scLaw.nd (pi_range1 (by rfl) T.range (pa_cons (pe_callB (call_max2 rfl) (by rfl) T.max (by decide +kernel) (pa_cons pe_int (pa_cons
            (pe_callB (call_min2 rfl) (by rfl) T.min (by decide +kernel) (pa_cons (pe_callB call_len_seq (by rfl) T.len PySem.boot_len (pa_cons (pv 0) pa_nil)) (pa_cons pe_int pa_nil))) pa_nil))) pa_nil))
          (blkOk_by (own := [("_law_at", 1)]) (N := ["_law_cells", "_law_at"]) (sc := defScope sLaw) (by decide +kernel))
          (fun _ _ _ _ _ => pg_name (i := 1) scLaw.nd rfl (Or.inl rfl)) (fun _ _ _ _ _ => pts_nil)
          (fun _ _ _ _ _ => k66_call GR hr hg rfl A0.Rt.m A0.Rt.F.kp A0.Rt.b pass0 (pa_cons (pe_call GK hr1 rfl A0.Ke.m A0.Ke.F.kp A0.Ke.b .nil pass0 (pa_cons (pv 0) (pa_cons (pv 1) pa_nil))) pa_nil))) pa_nil))), ?_⟩
    refine ⟨_, rfl, a, _, rfl, .inl hS, _, _, rfl, _, _, rfl, _, rfl, ?_⟩
    generalize hj : (if (if (4 : Int) < ((ns.map V.int).length : Nat) then (4 : Int) else ((ns.map V.int).length : Nat)) > 2 then (if (4 : Int) < ((ns.map V.int).length : Nat) then (4 : Int) else ((ns.map V.int).length : Nat)) else 2) = j
    have hj4 : 2 ≤ j ∧ j ≤ 4 := by
      rw [← hj]
      split <;> split <;> omega
    refine ⟨by omega, by omega, fun D1 nD => lc_range (lo := 0) (n := j.toNat) (fun i H' => Same H H' ∧ H' D1 = some (.lst ((List.replicate i true).map V.bl))) ⟨same_new (Same.refl H) nD _, upd_same⟩ ?_ ?_⟩
    · rintro i H1 hi ⟨s1, hL⟩
      refine ⟨rfl, _, rfl, _, rfl, a, i, ns, by rw [zadd]; rfl, s1.seq hS, hl, by omega, fun H2 k s2 nk hk => ⟨k, rfl, hk, fun H3 b3 => ?_⟩⟩
      have keep : ∀ c o, H1 c = some o → H3 c = some o := fun c o e => b3 c o (fun z => by rw [z, nk] at e; cases e) (s2 _ _ e)
      refine ⟨_, keep _ _ hL, ?_, same_put (s1.trans keep) nD _, ?_⟩
      · rw [List.length_map, List.length_replicate]
        exact Nat.lt_of_lt_of_le (show i < 10 by omega) (by decide)
      · rw [upd_same, List.replicate_succ', List.map_append]
        rfl
    · rintro H1 ⟨s1, hL⟩
      refine ⟨D1, _, rfl, .of hL, ?_⟩
      rw [all_true]
      exact q _
end
end K66

namespace K66
open PySem L2
theorem kit_off {K : PySem.W.Frag} {C : Addr} {T : String} (ic : PySem.W.isClsIn K C = true) (tc : PySem.W.typeIn K (.ref C) = some (.type "type")) (s : PySem.W.subIn K (.type T) (.ref C) = some false) : PySem.W.kitOne K (.type T) (.ref C) = some false := by
  have i : (PySem.W.clsIn K C).isSome = true := ic
  have ne : ¬ (Value.type T == Value.ref C) = true := fun z => by
    have y := beq_iff_eq.mp z
    cases y
  unfold PySem.W.kitOne
  rw [if_neg ne]
  unfold PySem.W.kitCls
  dsimp only
  rw [if_pos (by rw [i, tc]; rfl)]
  exact s
theorem all_mk {l : PySem.W.OpenLaw} {w : World} {K : PySem.W.Frag} {h : Heap} {mg : Str → Option Value} {fa C fIs fBw fCk fAp fRi fBa fFo fHs fKe fTa fAn fSe fLh fFl fLf fSh fCi fAg fSw fRt fW fmN fmC fmE fmP fG0 fG1 fG2 fG3 pp0 pp1 pp2 pp3 : Addr} (X : K.In h) (G : h.Ns mainGlobals mg) (hfa : mg "law" = some (.ref fa))
    {odIs anIs odBw anBw odCk anCk odAp anAp odRi anRi odBa anBa odFo anFo odHs anHs odKe anKe odTa anTa odAn anAn odSe anSe odLh anLh odFl anFl odLf anLf odSh anSh odCi anCi odAg anAg odSw anSw odRt anRt odW anW odmN anmN odmC anmC odmE anmE odmP anmP odG0 anG0 odG1 anG1 odG2 anG2 odG3 anG3 : Option Addr} {slIs slBw slCk slAp slRi slBa slFo slHs slKe slTa slAn slSe slLh slFl slLf slSh slCi slAg slSw slRt slW slmN slmC slmE slmP slG0 slG1 slG2 slG3 : Array (Option Value)} {ocIs kVIs dcIs pmIs cdIs ctIs ocBw kVBw dcBw pmBw cdBw ctBw ocCk kVCk dcCk pmCk cdCk ctCk ocAp kVAp dcAp pmAp cdAp ctAp ocRi kVRi dcRi pmRi cdRi ctRi ocBa kVBa dcBa pmBa cdBa ctBa ocFo kVFo dcFo pmFo cdFo ctFo ocHs kVHs dcHs pmHs cdHs ctHs ocKe kVKe dcKe pmKe cdKe ctKe ocTa kVTa dcTa pmTa cdTa ctTa ocAn kVAn dcAn pmAn cdAn ctAn ocSe kVSe dcSe pmSe cdSe ctSe ocLh kVLh dcLh pmLh cdLh ctLh ocFl kVFl dcFl pmFl cdFl ctFl ocLf kVLf dcLf pmLf cdLf ctLf ocSh kVSh dcSh pmSh cdSh ctSh ocCi kVCi dcCi pmCi cdCi ctCi ocAg kVAg dcAg pmAg cdAg ctAg ocSw kVSw dcSw pmSw cdSw ctSw ocRt kVRt dcRt pmRt cdRt ctRt ocW kVW dcW pmW cdW ctW ocmN kVmN dcmN pmmN cdmN ctmN ocmC kVmC dcmC pmmC cdmC ctmC ocmE kVmE dcmE pmmE cdmE ctmE ocmP kVmP dcmP pmmP cdmP ctmP ocG0 kVG0 dcG0 pmG0 cdG0 ctG0 ocG1 kVG1 dcG1 pmG1 cdG1 ctG1 ocG2 kVG2 dcG2 pmG2 cdG2 ctG2 ocG3 kVG3 dcG3 pmG3 cdG3 ctG3 : Value} {tMost : Tok} {rs0 rs1 rs2 rs3 : List Value}
    (aC : PySem.W.nsIn K mainGlobals "Circle" = some (some (.ref C)))
    (aIs : PySem.W.nsIn K mainGlobals "is_integer" = some (some (.ref fIs)))
    (lIs : K.lookup fIs = some ⟨ocIs, odIs, .func (PySem.W.fnOf "is_integer" "is_integer" (defArgs sIsInt) (defBody sIsInt) (defScope sIsInt) .none kVIs dcIs pmIs anIs cdIs ctIs), slIs⟩)
    (cIs : PySem.W.codeIn K cdIs "is_integer" = true)
    (kIs : PySem.W.keepIn K (.ref fIs) = true)
    (aBw : PySem.W.nsIn K mainGlobals "is_between" = some (some (.ref fBw)))
    (lBw : K.lookup fBw = some ⟨ocBw, odBw, .func (PySem.W.fnOf "is_between" "is_between" (defArgs sBetw) (defBody sBetw) (defScope sBetw) .none kVBw dcBw pmBw anBw cdBw ctBw), slBw⟩)
    (cBw : PySem.W.codeIn K cdBw "is_between" = true)
    (kBw : PySem.W.keepIn K (.ref fBw) = true)
    (aCk : PySem.W.nsIn K mainGlobals "check_between" = some (some (.ref fCk)))
    (lCk : K.lookup fCk = some ⟨ocCk, odCk, .func (PySem.W.fnOf "check_between" "check_between" (defArgs sCheck) (defBody sCheck) (defScope sCheck) .none kVCk dcCk pmCk anCk cdCk ctCk), slCk⟩)
    (cCk : PySem.W.codeIn K cdCk "check_between" = true)
    (kCk : PySem.W.keepIn K (.ref fCk) = true)
    (aAp : PySem.W.nsIn K mainGlobals "apart_of" = some (some (.ref fAp)))
    (lAp : K.lookup fAp = some ⟨ocAp, odAp, .func (PySem.W.fnOf "apart_of" "apart_of" (defArgs sApart) (defBody sApart) (defScope sApart) .none kVAp dcAp pmAp anAp cdAp ctAp), slAp⟩)
    (cAp : PySem.W.codeIn K cdAp "apart_of" = true)
    (kAp : PySem.W.keepIn K (.ref fAp) = true)
    (aRi : PySem.W.nsIn K mainGlobals "rising_fault" = some (some (.ref fRi)))
    (lRi : K.lookup fRi = some ⟨ocRi, odRi, .func (PySem.W.fnOf "rising_fault" "rising_fault" (defArgs sRise) (defBody sRise) (defScope sRise) .none kVRi dcRi pmRi anRi cdRi ctRi), slRi⟩)
    (cRi : PySem.W.codeIn K cdRi "rising_fault" = true)
    (kRi : PySem.W.keepIn K (.ref fRi) = true)
    (aBa : PySem.W.nsIn K mainGlobals "least_base" = some (some (.ref fBa)))
    (lBa : K.lookup fBa = some ⟨ocBa, odBa, .func (PySem.W.fnOf "least_base" "least_base" (defArgs sBase) (defBody sBase) (defScope sBase) .none kVBa dcBa pmBa anBa cdBa ctBa), slBa⟩)
    (cBa : PySem.W.codeIn K cdBa "least_base" = true)
    (kBa : PySem.W.keepIn K (.ref fBa) = true)
    (aFo : PySem.W.nsIn K mainGlobals "least_form" = some (some (.ref fFo)))
    (lFo : K.lookup fFo = some ⟨ocFo, odFo, .func (PySem.W.fnOf "least_form" "least_form" (defArgs sForm) (defBody sForm) (defScope sForm) .none kVFo dcFo pmFo anFo cdFo ctFo), slFo⟩)
    (cFo : PySem.W.codeIn K cdFo "least_form" = true)
    (kFo : PySem.W.keepIn K (.ref fFo) = true)
    (aHs : PySem.W.nsIn K mainGlobals "has" = some (some (.ref fHs)))
    (lHs : K.lookup fHs = some ⟨ocHs, odHs, .func (PySem.W.fnOf "has" "has" (defArgs sHas) (defBody sHas) (defScope sHas) .none kVHs dcHs pmHs anHs cdHs ctHs), slHs⟩)
    (cHs : PySem.W.codeIn K cdHs "has" = true)
    (kHs : PySem.W.keepIn K (.ref fHs) = true)
    (aKe : PySem.W.nsIn K mainGlobals "_law_keg" = some (some (.ref fKe)))
    (lKe : K.lookup fKe = some ⟨ocKe, odKe, .func (PySem.W.fnOf "_law_keg" "_law_keg" (defArgs sKeg) (defBody sKeg) (defScope sKeg) .none kVKe dcKe pmKe anKe cdKe ctKe), slKe⟩)
    (cKe : PySem.W.codeIn K cdKe "_law_keg" = true)
    (kKe : PySem.W.keepIn K (.ref fKe) = true)
    (aTa : PySem.W.nsIn K mainGlobals "_law_tap" = some (some (.ref fTa)))
    (lTa : K.lookup fTa = some ⟨ocTa, odTa, .func (PySem.W.fnOf "_law_tap" "_law_tap" (defArgs sTap) (defBody sTap) (defScope sTap) .none kVTa dcTa pmTa anTa cdTa ctTa), slTa⟩)
    (cTa : PySem.W.codeIn K cdTa "_law_tap" = true)
    (kTa : PySem.W.keepIn K (.ref fTa) = true)
    (aAn : PySem.W.nsIn K mainGlobals "_law_any" = some (some (.ref fAn)))
    (lAn : K.lookup fAn = some ⟨ocAn, odAn, .func (PySem.W.fnOf "_law_any" "_law_any" (defArgs sAny) (defBody sAny) (defScope sAny) .none kVAn dcAn pmAn anAn cdAn ctAn), slAn⟩)
    (cAn : PySem.W.codeIn K cdAn "_law_any" = true)
    (kAn : PySem.W.keepIn K (.ref fAn) = true)
    (aSe : PySem.W.nsIn K mainGlobals "_law_set" = some (some (.ref fSe)))
    (lSe : K.lookup fSe = some ⟨ocSe, odSe, .func (PySem.W.fnOf "_law_set" "_law_set" (defArgs sSet) (defBody sSet) (defScope sSet) .none kVSe dcSe pmSe anSe cdSe ctSe), slSe⟩)
    (cSe : PySem.W.codeIn K cdSe "_law_set" = true)
    (kSe : PySem.W.keepIn K (.ref fSe) = true)
    (aLh : PySem.W.nsIn K mainGlobals "_law_has" = some (some (.ref fLh)))
    (lLh : K.lookup fLh = some ⟨ocLh, odLh, .func (PySem.W.fnOf "_law_has" "_law_has" (defArgs sLHas) (defBody sLHas) (defScope sLHas) .none kVLh dcLh pmLh anLh cdLh ctLh), slLh⟩)
    (cLh : PySem.W.codeIn K cdLh "_law_has" = true)
    (kLh : PySem.W.keepIn K (.ref fLh) = true)
    (aFl : PySem.W.nsIn K mainGlobals "_law_flags" = some (some (.ref fFl)))
    (lFl : K.lookup fFl = some ⟨ocFl, odFl, .func (PySem.W.fnOf "_law_flags" "_law_flags" (defArgs sFlags) (defBody sFlags) (defScope sFlags) .none kVFl dcFl pmFl anFl cdFl ctFl), slFl⟩)
    (cFl : PySem.W.codeIn K cdFl "_law_flags" = true)
    (kFl : PySem.W.keepIn K (.ref fFl) = true)
    (aLf : PySem.W.nsIn K mainGlobals "_law_form" = some (some (.ref fLf)))
    (lLf : K.lookup fLf = some ⟨ocLf, odLf, .func (PySem.W.fnOf "_law_form" "_law_form" (defArgs sLForm) (defBody sLForm) (defScope sLForm) .none kVLf dcLf pmLf anLf cdLf ctLf), slLf⟩)
    (cLf : PySem.W.codeIn K cdLf "_law_form" = true)
    (kLf : PySem.W.keepIn K (.ref fLf) = true)
    (aSh : PySem.W.nsIn K mainGlobals "_law_shown" = some (some (.ref fSh)))
    (lSh : K.lookup fSh = some ⟨ocSh, odSh, .func (PySem.W.fnOf "_law_shown" "_law_shown" (defArgs sShown) (defBody sShown) (defScope sShown) .none kVSh dcSh pmSh anSh cdSh ctSh), slSh⟩)
    (cSh : PySem.W.codeIn K cdSh "_law_shown" = true)
    (kSh : PySem.W.keepIn K (.ref fSh) = true)
    (aCi : PySem.W.nsIn K mainGlobals "_law_circle" = some (some (.ref fCi)))
    (lCi : K.lookup fCi = some ⟨ocCi, odCi, .func (PySem.W.fnOf "_law_circle" "_law_circle" (defArgs sCirc) (defBody sCirc) (defScope sCirc) .none kVCi dcCi pmCi anCi cdCi ctCi), slCi⟩)
    (cCi : PySem.W.codeIn K cdCi "_law_circle" = true)
    (kCi : PySem.W.keepIn K (.ref fCi) = true)
    (aAg : PySem.W.nsIn K mainGlobals "_law_again" = some (some (.ref fAg)))
    (lAg : K.lookup fAg = some ⟨ocAg, odAg, .func (PySem.W.fnOf "_law_again" "_law_again" (defArgs sAgain) (defBody sAgain) (defScope sAgain) .none kVAg dcAg pmAg anAg cdAg ctAg), slAg⟩)
    (cAg : PySem.W.codeIn K cdAg "_law_again" = true)
    (kAg : PySem.W.keepIn K (.ref fAg) = true)
    (aSw : PySem.W.nsIn K mainGlobals "_law_shows_right" = some (some (.ref fSw)))
    (lSw : K.lookup fSw = some ⟨ocSw, odSw, .func (PySem.W.fnOf "_law_shows_right" "_law_shows_right" (defArgs sShows) (defBody sShows) (defScope sShows) .none kVSw dcSw pmSw anSw cdSw ctSw), slSw⟩)
    (cSw : PySem.W.codeIn K cdSw "_law_shows_right" = true)
    (kSw : PySem.W.keepIn K (.ref fSw) = true)
    (aRt : PySem.W.nsIn K mainGlobals "_law_right" = some (some (.ref fRt)))
    (lRt : K.lookup fRt = some ⟨ocRt, odRt, .func (PySem.W.fnOf "_law_right" "_law_right" (defArgs sRight) (defBody sRight) (defScope sRight) .none kVRt dcRt pmRt anRt cdRt ctRt), slRt⟩)
    (cRt : PySem.W.codeIn K cdRt "_law_right" = true)
    (kRt : PySem.W.keepIn K (.ref fRt) = true)
    (aW : PySem.W.nsIn K mainGlobals "law" = some (some (.ref fW)))
    (lW : K.lookup fW = some ⟨ocW, odW, .func (PySem.W.fnOf "law" "law" (defArgs sLaw) (defBody sLaw) (defScope sLaw) .none kVW dcW pmW anW cdW ctW), slW⟩)
    (cW : PySem.W.codeIn K cdW "law" = true)
    (kW : PySem.W.keepIn K (.ref fW) = true)
    (amN : PySem.W.findIn K (.ref C) "__init__" = some (some (.ref fmN)))
    (imN : PySem.W.isFn K (.ref fmN) = true)
    (lmN : K.lookup fmN = some ⟨ocmN, odmN, .func (PySem.W.fnOf "__init__" "Circle.__init__" (defArgs sInit) (defBody sInit) (defScope sInit) .none kVmN dcmN pmmN anmN cdmN ctmN), slmN⟩)
    (cmN : PySem.W.codeIn K cdmN "Circle.__init__" = true)
    (kmN : PySem.W.keepIn K (.ref fmN) = true)
    (amC : PySem.W.findIn K (.ref C) "__contains__" = some (some (.ref fmC)))
    (imC : PySem.W.isFn K (.ref fmC) = true)
    (lmC : K.lookup fmC = some ⟨ocmC, odmC, .func (PySem.W.fnOf "__contains__" "Circle.__contains__" (defArgs sCont) (defBody sCont) (defScope sCont) .none kVmC dcmC pmmC anmC cdmC ctmC), slmC⟩)
    (cmC : PySem.W.codeIn K cdmC "Circle.__contains__" = true)
    (kmC : PySem.W.keepIn K (.ref fmC) = true)
    (amE : PySem.W.findIn K (.ref C) "__eq__" = some (some (.ref fmE)))
    (imE : PySem.W.isFn K (.ref fmE) = true)
    (lmE : K.lookup fmE = some ⟨ocmE, odmE, .func (PySem.W.fnOf "__eq__" "Circle.__eq__" (defArgs sEq) (defBody sEq) (defScope sEq) .none kVmE dcmE pmmE anmE cdmE ctmE), slmE⟩)
    (cmE : PySem.W.codeIn K cdmE "Circle.__eq__" = true)
    (kmE : PySem.W.keepIn K (.ref fmE) = true)
    (amP : PySem.W.findIn K (.ref C) "__repr__" = some (some (.ref fmP)))
    (imP : PySem.W.isFn K (.ref fmP) = true)
    (lmP : K.lookup fmP = some ⟨ocmP, odmP, .func (PySem.W.fnOf "__repr__" "Circle.__repr__" (defArgs sRepr) (defBody sRepr) (defScope sRepr) .none kVmP dcmP pmmP anmP cdmP ctmP), slmP⟩)
    (cmP : PySem.W.codeIn K cdmP "Circle.__repr__" = true)
    (kmP : PySem.W.keepIn K (.ref fmP) = true)
    (q0 : PySem.W.findIn K (.ref C) "early" = some (some (.ref pp0)))
    (qg0 : PySem.W.specialIn K (.ref pp0) "__get__" = some (some (.builtin "property.__get__")))
    (qt0 : PySem.W.takesIn K (.ref pp0) = some true)
    (qr0 : PySem.W.recIn K pp0 "property" = some (.ref fG0 :: rs0))
    (lG0 : K.lookup fG0 = some ⟨ocG0, odG0, .func (PySem.W.fnOf "early" "Circle.early" (defArgs sPE) (defBody sPE) (defScope sPE) .none kVG0 dcG0 pmG0 anG0 cdG0 ctG0), slG0⟩)
    (cG0 : PySem.W.codeIn K cdG0 "Circle.early" = true)
    (kG0 : PySem.W.keepIn K (.ref fG0) = true)
    (q1 : PySem.W.findIn K (.ref C) "start" = some (some (.ref pp1)))
    (qg1 : PySem.W.specialIn K (.ref pp1) "__get__" = some (some (.builtin "property.__get__")))
    (qt1 : PySem.W.takesIn K (.ref pp1) = some true)
    (qr1 : PySem.W.recIn K pp1 "property" = some (.ref fG1 :: rs1))
    (lG1 : K.lookup fG1 = some ⟨ocG1, odG1, .func (PySem.W.fnOf "start" "Circle.start" (defArgs sPS) (defBody sPS) (defScope sPS) .none kVG1 dcG1 pmG1 anG1 cdG1 ctG1), slG1⟩)
    (cG1 : PySem.W.codeIn K cdG1 "Circle.start" = true)
    (kG1 : PySem.W.keepIn K (.ref fG1) = true)
    (q2 : PySem.W.findIn K (.ref C) "base" = some (some (.ref pp2)))
    (qg2 : PySem.W.specialIn K (.ref pp2) "__get__" = some (some (.builtin "property.__get__")))
    (qt2 : PySem.W.takesIn K (.ref pp2) = some true)
    (qr2 : PySem.W.recIn K pp2 "property" = some (.ref fG2 :: rs2))
    (lG2 : K.lookup fG2 = some ⟨ocG2, odG2, .func (PySem.W.fnOf "base" "Circle.base" (defArgs sPB) (defBody sPB) (defScope sPB) .none kVG2 dcG2 pmG2 anG2 cdG2 ctG2), slG2⟩)
    (cG2 : PySem.W.codeIn K cdG2 "Circle.base" = true)
    (kG2 : PySem.W.keepIn K (.ref fG2) = true)
    (q3 : PySem.W.findIn K (.ref C) "rests" = some (some (.ref pp3)))
    (qg3 : PySem.W.specialIn K (.ref pp3) "__get__" = some (some (.builtin "property.__get__")))
    (qt3 : PySem.W.takesIn K (.ref pp3) = some true)
    (qr3 : PySem.W.recIn K pp3 "property" = some (.ref fG3 :: rs3))
    (lG3 : K.lookup fG3 = some ⟨ocG3, odG3, .func (PySem.W.fnOf "rests" "Circle.rests" (defArgs sPR) (defBody sPR) (defScope sPR) .none kVG3 dcG3 pmG3 anG3 cdG3 ctG3), slG3⟩)
    (cG3 : PySem.W.codeIn K cdG3 "Circle.rests" = true)
    (kG3 : PySem.W.keepIn K (.ref fG3) = true)
    (pg : PySem.W.plainGet K C Str.empty = true)
    (hd : PySem.W.hasDictIn K C = true)
    (po : PySem.W.plainOver K C = true)
    (sa : PySem.W.findIn K (.ref C) "__setattr__" = some (some (.builtin "object.__setattr__")))
    (mk : PySem.W.makesIn K C = true)
    (kc : PySem.W.keepIn K (.ref C) = true)
    (nF : PySem.W.findIn K (.ref C) "form" = some none)
    (ca : PySem.W.findIn K (.ref C) "__class__" = some (some (.builtin "object.__class__")))
    (cn : PySem.W.specialIn K (.builtin "object.__class__") "__get__" = some (some (.builtin "getset_descriptor.__get__")))
    (ct : PySem.W.takesIn K (.builtin "object.__class__") = some true)
    (cm : PySem.W.mroIn K C (.type "object") = some true)
    (ic : PySem.W.isClsIn K C = true)
    (tc : PySem.W.typeIn K (.ref C) = some (.type "type"))
    (sT : PySem.W.subIn K (.type "tuple") (.ref C) = some false)
    (sS : PySem.W.subIn K (.type "str") (.ref C) = some false)
    (nT : PySem.W.notFirst K C (.type "tuple") = true)
    (nS : PySem.W.notFirst K C (.type "str") = true)
    (ne : PySem.W.findIn K (.ref C) "__ne__" = some (some (.builtin "object.__ne__")))
    (tb : PySem.W.findIn K (.ref C) "__bool__" = some none)
    (tl : PySem.W.findIn K (.ref C) "__len__" = some none)
    (aM : PySem.W.nsIn K mainGlobals "MOST_CIRCLE" = some (some (.int 20000 tMost)))
    (zisi : PySem.W.nsIn K mainGlobals "isinstance" = some none)
    (zint : PySem.W.nsIn K mainGlobals "int" = some none)
    (zbool : PySem.W.nsIn K mainGlobals "bool" = some none)
    (ztuple : PySem.W.nsIn K mainGlobals "tuple" = some none)
    (zlen : PySem.W.nsIn K mainGlobals "len" = some none)
    (zenum : PySem.W.nsIn K mainGlobals "enumerate" = some none)
    (zdict : PySem.W.nsIn K mainGlobals "dict" = some none)
    (zall : PySem.W.nsIn K mainGlobals "all" = some none)
    (zrange : PySem.W.nsIn K mainGlobals "range" = some none)
    (zlist : PySem.W.nsIn K mainGlobals "list" = some none)
    (zsorted : PySem.W.nsIn K mainGlobals "sorted" = some none)
    (zmin : PySem.W.nsIn K mainGlobals "min" = some none)
    (zmax : PySem.W.nsIn K mainGlobals "max" = some none)
    (zabs : PySem.W.nsIn K mainGlobals "abs" = some none)
    (zdivmod : PySem.W.nsIn K mainGlobals "divmod" = some none)
    (zrepr : PySem.W.nsIn K mainGlobals "repr" = some none)
    (zstr : PySem.W.nsIn K mainGlobals "str" = some none)
    : ∃ fd : FuncData, (∀ (s : Shared) (v : Value), BindsTo s fd ⟨[v], []⟩ [("_law_cells", v)]) ∧ ∀ base : Heap, K.In base → base.Ns mainGlobals mg → K66Fn l.prog w K mg base CX0 8 fa fd ["_law_cells"] (spLaw K) := by
  have e := hfa.symm.trans (PySem.W.mg_of X G aW)
  cases e
  have T : Txt K mg C := { cl := ⟨pg, hd, po, sa⟩, nF := nF, mgC := PySem.W.mg_of X G aC, ca := ca, cn := cn, ct := ct, cm := cm, most := ⟨_, PySem.W.mg_of X G aM⟩, isi := PySem.W.mg_none_of X G zisi, int := PySem.W.mg_none_of X G zint, bool := PySem.W.mg_none_of X G zbool, tuple := PySem.W.mg_none_of X G ztuple, len := PySem.W.mg_none_of X G zlen, enum := PySem.W.mg_none_of X G zenum, dict := PySem.W.mg_none_of X G zdict, all := PySem.W.mg_none_of X G zall, range := PySem.W.mg_none_of X G zrange, list := PySem.W.mg_none_of X G zlist, sorted := PySem.W.mg_none_of X G zsorted, min := PySem.W.mg_none_of X G zmin, max := PySem.W.mg_none_of X G zmax, abs := PySem.W.mg_none_of X G zabs, divmod := PySem.W.mg_none_of X G zdivmod, repr := PySem.W.mg_none_of X G zrepr, str := PySem.W.mg_none_of X G zstr }
  have TE : TxtEq K C := ⟨kit_off ic tc sT, kit_off ic tc sS, by unfold PySem.W.notFirst; rw [beq_self_eq_true, Bool.true_or], nT, nS⟩
  have FIs := fun_mk (st := sIsInt) lIs cIs kIs
  have bIs := FIs.binds (ps := ["value"]) fun _ _ _ _ _ _ us hl => match us, hl with | [_], _ => rfl
  have FBw := fun_mk (st := sBetw) lBw cBw kBw
  have bBw := FBw.binds (ps := ["value", "least", "most"]) fun _ _ _ _ _ _ us hl => match us, hl with | [_, _, _], _ => rfl
  have FCk := fun_mk (st := sCheck) lCk cCk kCk
  have bCk := FCk.binds (ps := ["value", "least", "most"]) fun _ _ _ _ _ _ us hl => match us, hl with | [_, _, _], _ => rfl
  have FAp := fun_mk (st := sApart) lAp cAp kAp
  have bAp := FAp.binds (ps := ["number"]) fun _ _ _ _ _ _ us hl => match us, hl with | [_], _ => rfl
  have FRi := fun_mk (st := sRise) lRi cRi kRi
  have bRi := FRi.binds (ps := ["value", "most"]) fun _ _ _ _ _ _ us hl => match us, hl with | [_, _], _ => rfl
  have FBa := fun_mk (st := sBase) lBa cBa kBa
  have bBa := FBa.binds (ps := ["base", "rests"]) fun _ _ _ _ _ _ us hl => match us, hl with | [_, _], _ => rfl
  have FFo := fun_mk (st := sForm) lFo cFo kFo
  have bFo := FFo.binds (ps := ["early", "start", "base", "rests"]) fun _ _ _ _ _ _ us hl => match us, hl with | [_, _, _, _], _ => rfl
  have FHs := fun_mk (st := sHas) lHs cHs kHs
  have bHs := FHs.binds (ps := ["form", "number"]) fun _ _ _ _ _ _ us hl => match us, hl with | [_, _], _ => rfl
  have FKe := fun_mk (st := sKeg) lKe cKe kKe
  have bKe := FKe.binds (ps := ["_law_cells", "_law_at"]) fun _ _ _ _ _ _ us hl => match us, hl with | [_, _], _ => rfl
  have FTa := fun_mk (st := sTap) lTa cTa kTa
  have bTa := FTa.binds (ps := ["_law_keg_here", "_law_upto"]) fun _ _ _ _ _ _ us hl => match us, hl with | [_, _], _ => rfl
  have FAn := fun_mk (st := sAny) lAn cAn kAn
  have bAn := FAn.binds (ps := ["_law_keg_here", "_law_things"]) fun _ _ _ _ _ _ us hl => match us, hl with | [_, _], _ => rfl
  have FSe := fun_mk (st := sSet) lSe cSe kSe
  have bSe := FSe.binds (ps := ["_law_keg_here", "_law_most"]) fun _ _ _ _ _ _ us hl => match us, hl with | [_, _], _ => rfl
  have FLh := fun_mk (st := sLHas) lLh cLh kLh
  have bLh := FLh.binds (ps := ["_law_c", "_law_x"]) fun _ _ _ _ _ _ us hl => match us, hl with | [_, _], _ => rfl
  have FFl := fun_mk (st := sFlags) lFl cFl kFl
  have bFl := FFl.binds (ps := ["_law_c", "_law_wide"]) fun _ _ _ _ _ _ us hl => match us, hl with | [_, _], _ => rfl
  have FLf := fun_mk (st := sLForm) lLf cLf kLf
  have bLf := FLf.binds (ps := ["_law_flags_here"]) fun _ _ _ _ _ _ us hl => match us, hl with | [_], _ => rfl
  have FSh := fun_mk (st := sShown) lSh cSh kSh
  have bSh := FSh.binds (ps := ["_law_circle_here"]) fun _ _ _ _ _ _ us hl => match us, hl with | [_], _ => rfl
  have FCi := fun_mk (st := sCirc) lCi cCi kCi
  have bCi := FCi.binds (ps := ["_law_c"]) fun _ _ _ _ _ _ us hl => match us, hl with | [_], _ => rfl
  have FAg := fun_mk (st := sAgain) lAg cAg kAg
  have bAg := FAg.binds (ps := ["_law_keg_here", "_law_c"]) fun _ _ _ _ _ _ us hl => match us, hl with | [_, _], _ => rfl
  have FSw := fun_mk (st := sShows) lSw cSw kSw
  have bSw := FSw.binds (ps := ["_law_mine", "_law_c"]) fun _ _ _ _ _ _ us hl => match us, hl with | [_, _], _ => rfl
  have FRt := fun_mk (st := sRight) lRt cRt kRt
  have bRt := FRt.binds (ps := ["_law_keg_here"]) fun _ _ _ _ _ _ us hl => match us, hl with | [_], _ => rfl
  have FmN := fun_mk (st := sInit) lmN cmN kmN
  have bmN := FmN.binds (ps := ["self", "early", "start", "base", "rests"]) fun _ _ _ _ _ _ us hl => match us, hl with | [_, _, _, _, _], _ => rfl
  have FmC := fun_mk (st := sCont) lmC cmC kmC
  have bmC := FmC.binds (ps := ["self", "value"]) fun _ _ _ _ _ _ us hl => match us, hl with | [_, _], _ => rfl
  have FmE := fun_mk (st := sEq) lmE cmE kmE
  have bmE := FmE.binds (ps := ["self", "other"]) fun _ _ _ _ _ _ us hl => match us, hl with | [_, _], _ => rfl
  have FmP := fun_mk (st := sRepr) lmP cmP kmP
  have bmP := FmP.binds (ps := ["self"]) fun _ _ _ _ _ _ us hl => match us, hl with | [_], _ => rfl
  have FG0 := fun_mk (st := sPE) lG0 cG0 kG0
  have bG0 := FG0.binds (ps := ["self"]) fun _ _ _ _ _ _ us hl => match us, hl with | [_], _ => rfl
  have FG1 := fun_mk (st := sPS) lG1 cG1 kG1
  have bG1 := FG1.binds (ps := ["self"]) fun _ _ _ _ _ _ us hl => match us, hl with | [_], _ => rfl
  have FG2 := fun_mk (st := sPB) lG2 cG2 kG2
  have bG2 := FG2.binds (ps := ["self"]) fun _ _ _ _ _ _ us hl => match us, hl with | [_], _ => rfl
  have FG3 := fun_mk (st := sPR) lG3 cG3 kG3
  have bG3 := FG3.binds (ps := ["self"]) fun _ _ _ _ _ _ us hl => match us, hl with | [_], _ => rfl
  have A0 := Defs.mk (C := C) ⟨FIs, PySem.W.mg_of X G aIs, bIs⟩ ⟨FBw, PySem.W.mg_of X G aBw, bBw⟩ ⟨FCk, PySem.W.mg_of X G aCk, bCk⟩ ⟨FAp, PySem.W.mg_of X G aAp, bAp⟩ ⟨FRi, PySem.W.mg_of X G aRi, bRi⟩ ⟨FBa, PySem.W.mg_of X G aBa, bBa⟩ ⟨FFo, PySem.W.mg_of X G aFo, bFo⟩ ⟨FHs, PySem.W.mg_of X G aHs, bHs⟩ ⟨FKe, PySem.W.mg_of X G aKe, bKe⟩ ⟨FTa, PySem.W.mg_of X G aTa, bTa⟩ ⟨FAn, PySem.W.mg_of X G aAn, bAn⟩ ⟨FSe, PySem.W.mg_of X G aSe, bSe⟩ ⟨FLh, PySem.W.mg_of X G aLh, bLh⟩ ⟨FFl, PySem.W.mg_of X G aFl, bFl⟩ ⟨FLf, PySem.W.mg_of X G aLf, bLf⟩ ⟨FSh, PySem.W.mg_of X G aSh, bSh⟩ ⟨FCi, PySem.W.mg_of X G aCi, bCi⟩ ⟨FAg, PySem.W.mg_of X G aAg, bAg⟩ ⟨FSw, PySem.W.mg_of X G aSw, bSw⟩ ⟨FRt, PySem.W.mg_of X G aRt, bRt⟩ FmN bmN ⟨mk, amN, imN, kc⟩
  have R := Props.mk (C := C) ⟨pp0, ⟨q0, qg0, qt0, ⟨rs0, qr0⟩⟩⟩ ⟨pp1, ⟨q1, qg1, qt1, ⟨rs1, qr1⟩⟩⟩ ⟨pp2, ⟨q2, qg2, qt2, ⟨rs2, qr2⟩⟩⟩ ⟨pp3, ⟨q3, qg3, qt3, ⟨rs3, qr3⟩⟩⟩ FG0 FG1 FG2 FG3 bG0 bG1 bG2 bG3
  have O := Own.mk (C := C) ⟨amC, imC, kmC⟩ ⟨amE, imE, kmE⟩ ⟨amP, imP, kmP⟩ FmC FmE FmP bmC bmE bmP ne tb tl
  exact ⟨PySem.W.fnOf "law" "law" (defArgs sLaw) (defBody sLaw) (defScope sLaw) .none kVW dcW pmW anW cdW ctW, fun s v => .of_eq rfl, fun base _ _ => ok_law (fun_mk (st := sLaw) lW cW kW) A0 R O TE T⟩
theorem walk {l : PySem.W.OpenLaw} {q : Program} {loose : List Str} {XP : (Str → Option Value) → Heap → Prop} {YP : World → Heap → Prop} {d : DefRec} {K : Params → PySem.W.Frag} (hn : l.most = some 63) (hdf : d.params.defaults = [])
    (hY : ∀ (w : World) (h : Heap), YP w h → (K w.params).In h)
    (F : ∀ (w : World) (mg : Str → Option Value) (fa : Addr) (h : Heap), (K w.params).In h → h.Ns mainGlobals mg → mg d.name = some (.ref fa) →
      ∃ fd : FuncData, (∀ (s : Shared) (u : Value), BindsTo s fd ⟨[u], []⟩ [("_law_cells", u)]) ∧ ∀ base : Heap, (K w.params).In base → base.Ns mainGlobals mg → K66Fn l.prog w (K w.params) mg base CX0 8 fa fd ["_law_cells"] (spLaw (K w.params))) :
    PySem.W.WalkO q loose XP YP l.row.toRowW d [] (fun f vs => PySem.call f vs) :=
  k66_walk_of (n := 63) (k := 8) (x := "_law_cells") (sp := fun w => spLaw (K w.params)) hn (by decide) hdf ⟨rfl, by decide, by decide⟩ hY F (fun _ _ a ns hl _ hS => ⟨a, ns, rfl, hS, hl, fun _ => rfl⟩)
end K66
open PySem PySem.W PyProof.Rows in
set_option maxRecDepth 100000 in
set_option maxHeartbeats 0 in
theorem PySem.Challenge.cw_restworld_k66_whole_circles_made_and_sho_holds : PySem.Challenge.rw_restworld_k66_whole_circles_made_and_sho.Holds := by
  w_on; o_law; k_head; (case hw => w_witness2)
  k_fill
  refine K66.walk (l := PySem.Challenge.rw_restworld_k66_whole_circles_made_and_sho) rfl rfl (fun w h Y => PySem.W.kIn_of Y) ?F
  case F =>
    intro w mg fa h KX G hmg
    refine' K66.all_mk KX G hmg ?aC ?aIs ?lIs ?cIs ?kIs ?aBw ?lBw ?cBw ?kBw ?aCk ?lCk ?cCk ?kCk ?aAp ?lAp ?cAp ?kAp ?aRi ?lRi ?cRi ?kRi ?aBa ?lBa ?cBa ?kBa ?aFo ?lFo ?cFo ?kFo ?aHs ?lHs ?cHs ?kHs ?aKe ?lKe ?cKe ?kKe ?aTa ?lTa ?cTa ?kTa ?aAn ?lAn ?cAn ?kAn ?aSe ?lSe ?cSe ?kSe ?aLh ?lLh ?cLh ?kLh ?aFl ?lFl ?cFl ?kFl ?aLf ?lLf ?cLf ?kLf ?aSh ?lSh ?cSh ?kSh ?aCi ?lCi ?cCi ?kCi ?aAg ?lAg ?cAg ?kAg ?aSw ?lSw ?cSw ?kSw ?aRt ?lRt ?cRt ?kRt ?aW ?lW ?cW ?kW ?amN ?imN ?lmN ?cmN ?kmN ?amC ?imC ?lmC ?cmC ?kmC ?amE ?imE ?lmE ?cmE ?kmE ?amP ?imP ?lmP ?cmP ?kmP ?q0 ?qg0 ?qt0 ?qr0 ?lG0 ?cG0 ?kG0 ?q1 ?qg1 ?qt1 ?qr1 ?lG1 ?cG1 ?kG1 ?q2 ?qg2 ?qt2 ?qr2 ?lG2 ?cG2 ?kG2 ?q3 ?qg3 ?qt3 ?qr3 ?lG3 ?cG3 ?kG3 ?pg ?hd ?po ?sa ?mk ?kc ?nF ?ca ?cn ?ct ?cm ?ic ?tc ?sT ?sS ?nT ?nS ?ne ?tb ?tl ?aM ?zisi ?zint ?zbool ?ztuple ?zlen ?zenum ?zdict ?zall ?zrange ?zlist ?zsorted ?zmin ?zmax ?zabs ?zdivmod ?zrepr ?zstr
    (case aC => k_is)
    (case aIs => k_is)
    (case lIs => k_is)
    (case cIs => k_is)
    (case kIs => k_is)
    (case aBw => k_is)
    (case lBw => k_is)
    (case cBw => k_is)
    (case kBw => k_is)
    (case aCk => k_is)
    (case lCk => k_is)
    (case cCk => k_is)
    (case kCk => k_is)
    (case aAp => k_is)
    (case lAp => k_is)
    (case cAp => k_is)
    (case kAp => k_is)
    (case aRi => k_is)
    (case lRi => k_is)
    (case cRi => k_is)
    (case kRi => k_is)
    (case aBa => k_is)
    (case lBa => k_is)
    (case cBa => k_is)
    (case kBa => k_is)
    (case aFo => k_is)
    (case lFo => k_is)
    (case cFo => k_is)
    (case kFo => k_is)
    (case aHs => k_is)
    (case lHs => k_is)
    (case cHs => k_is)
    (case kHs => k_is)
    (case aKe => k_is)
    (case lKe => k_is)
    (case cKe => k_is)
    (case kKe => k_is)
    (case aTa => k_is)
    (case lTa => k_is)
    (case cTa => k_is)
    (case kTa => k_is)
    (case aAn => k_is)
    (case lAn => k_is)
    (case cAn => k_is)
    (case kAn => k_is)
    (case aSe => k_is)
    (case lSe => k_is)
    (case cSe => k_is)
    (case kSe => k_is)
    (case aLh => k_is)
    (case lLh => k_is)
    (case cLh => k_is)
    (case kLh => k_is)
    (case aFl => k_is)
    (case lFl => k_is)
    (case cFl => k_is)
    (case kFl => k_is)
    (case aLf => k_is)
    (case lLf => k_is)
    (case cLf => k_is)
    (case kLf => k_is)
    (case aSh => k_is)
    (case lSh => k_is)
    (case cSh => k_is)
    (case kSh => k_is)
    (case aCi => k_is)
    (case lCi => k_is)
    (case cCi => k_is)
    (case kCi => k_is)
    (case aAg => k_is)
    (case lAg => k_is)
    (case cAg => k_is)
    (case kAg => k_is)
    (case aSw => k_is)
    (case lSw => k_is)
    (case cSw => k_is)
    (case kSw => k_is)
    (case aRt => k_is)
    (case lRt => k_is)
    (case cRt => k_is)
    (case kRt => k_is)
    (case aW => k_is)
    (case lW => k_is)
    (case cW => k_is)
    (case kW => k_is)
    (case amN => k_is)
    (case imN => k_is)
    (case lmN => k_is)
    (case cmN => k_is)
    (case kmN => k_is)
    (case amC => k_is)
    (case imC => k_is)
    (case lmC => k_is)
    (case cmC => k_is)
    (case kmC => k_is)
    (case amE => k_is)
    (case imE => k_is)
    (case lmE => k_is)
    (case cmE => k_is)
    (case kmE => k_is)
    (case amP => k_is)
    (case imP => k_is)
    (case lmP => k_is)
    (case cmP => k_is)
    (case kmP => k_is)
    (case q0 => k_is)
    (case qg0 => k_is)
    (case qt0 => k_is)
    (case qr0 => k_is)
    (case lG0 => k_is)
    (case cG0 => k_is)
    (case kG0 => k_is)
    (case q1 => k_is)
    (case qg1 => k_is)
    (case qt1 => k_is)
    (case qr1 => k_is)
    (case lG1 => k_is)
    (case cG1 => k_is)
    (case kG1 => k_is)
    (case q2 => k_is)
    (case qg2 => k_is)
    (case qt2 => k_is)
    (case qr2 => k_is)
    (case lG2 => k_is)
    (case cG2 => k_is)
    (case kG2 => k_is)
    (case q3 => k_is)
    (case qg3 => k_is)
    (case qt3 => k_is)
    (case qr3 => k_is)
    (case lG3 => k_is)
    (case cG3 => k_is)
    (case kG3 => k_is)
    (case pg => k_is)
    (case hd => k_is)
    (case po => k_is)
    (case sa => k_is)
    (case mk => k_is)
    (case kc => k_is)
    (case nF => k_is)
    (case ca => k_is)
    (case cn => k_is)
    (case ct => k_is)
    (case cm => k_is)
    (case ic => k_is)
    (case tc => k_is)
    (case sT => k_is)
    (case sS => k_is)
    (case nT => k_is)
    (case nS => k_is)
    (case ne => k_is)
    (case tb => k_is)
    (case tl => k_is)
    (case aM => k_is)
    (case zisi => k_is)
    (case zint => k_is)
    (case zbool => k_is)
    (case ztuple => k_is)
    (case zlen => k_is)
    (case zenum => k_is)
    (case zdict => k_is)
    (case zall => k_is)
    (case zrange => k_is)
    (case zlist => k_is)
    (case zsorted => k_is)
    (case zmin => k_is)
    (case zmax => k_is)
    (case zabs => k_is)
    (case zdivmod => k_is)
    (case zrepr => k_is)
    (case zstr => k_is)

