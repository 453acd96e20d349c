import PyProof.Rows.All
import Wide.All
import OpenK.AllK
import Wide.FinOn
import PyProof.EqAt
import PyProof.EqKinds
import PyProof.TupleCall
import PyProof.ReprRoads
import KE.DataMinMax
import KE.GoesMore
import KE.GoesEnum
import HandS.ForMost
import HandS.ForExc
import HandS.IsInst
import HandS.TupAny
import HandS.Flow
import HandS.Wide
import HandS.Zip
import HandS.TupSets
import HandS.SortKw
import KE.KIsAll
import KE.KTryMore
import HandS.ExcField
import HandS.ExcInit
import HandS.ExcInitHot
import HandS.ExcIs
import HandS.TryMany
import HandS.SuiteRaise
import HandS.RaiseFrom
import PySem.Challenge.RW_everytongue_k06_piece_checker
set_option Elab.async false
set_option linter.all false
set_option maxHeartbeats 4000000
set_option maxRecDepth 100000
section
/-! DR1: rules that HandS lacks: a walk over a list or a tuple, enumerate of either, repr of data. -/
namespace PySem
open Sem (wp)
set_option maxHeartbeats 1000000 in
theorem meets_enumerate_new1 {v : Value} {o : Obj} {H : Heap → Prop} (B : Begins v o H) :
    Meets (Builtin.«enumerate.__new__» ⟨[.type "enumerate", v], []⟩) (fun _ R s => H s.heap ∧
      R (.ok (.ret (.ref (s.heap.push o).objs.size))) { s with heap := (s.heap.push o).push { cls := .type "enumerate", data := .fields #[.none, .bool false, .ref s.heap.objs.size, rawInt 0, .none, .none] } }) :=
  .of_wp fun prog w A R s h => by
    obtain ⟨hp, g, d, tk, os⟩ := s; obtain ⟨h1, h⟩ := h
    have hsub := sub_enumerate
    have q1 : ∀ {A' : Around} {E : Value → Shared → Prop} {Q : Value → Shared → Prop}, Q (.ref hp.objs.size) ⟨hp.push o, g, d, tk, os⟩ → wpAny (model prog w) A' (pyIter v) Q E ⟨hp, g, d, tk, os⟩ :=
      fun q => B.iter prog w _ _ ⟨hp, g, d, tk, os⟩ _ h1 q
    wp_walk using q1
    refine wpAny_stack_any fun st => wpAny_pure ?_
    split
    · rename_i c _ _ _ _ _
      cases (c == Value.type "enumerate")
      · wp_walk using q1
        exact ⟨_, rfl, h⟩
      · wp_walk using q1
        exact ⟨_, rfl, h⟩
    · wp_walk using q1
      exact ⟨_, rfl, h⟩
theorem enum_begins1 {prog : Program} {w : World} {A : Around} {E : Value → Shared → Prop} {s : Shared} {v : Value} {o : Obj} {H : Heap → Prop} {Q : Value → Shared → Prop} (B : Begins v o H) (h1 : H s.heap)
    (h : ∀ h', IsEnum h' (s.heap.objs.size + 1) s.heap.objs.size 0 .none → h'.get? s.heap.objs.size = some o → h'.objs.size = s.heap.objs.size + 2 →
      (∀ b o, s.heap.get? b = some o → h'.get? b = some o) → Q (.ref (s.heap.objs.size + 1)) { s with heap := h' }) :
    wpAny (model prog w) A (call (.type "enumerate") [v]) Q E s := by
  refine callType_new F.called_enumerate (by decide) (F.typeCall_enumerate_1 _) (F.newCall_enumerate_1 _) (fun obj => F.args_object_init_2 obj _) F.entry_enumerate_new
    (meets_enumerate_new1 B) ⟨h1, ?_⟩
  have hz : (s.heap.push o).objs.size = s.heap.objs.size + 1 := Heap.size_push ..
  show _ ∧ _
  rw [hz]
  have he : IsEnum ((s.heap.push o).push { cls := .type "enumerate", data := .fields #[.none, .bool false, .ref s.heap.objs.size, rawInt 0, .none, .none] }) (s.heap.objs.size + 1) s.heap.objs.size 0 .none := by
    have := Heap.get?_push_size (s.heap.push o) (o := { cls := .type "enumerate", data := .fields #[.none, .bool false, .ref s.heap.objs.size, rawInt 0, .none, .none] }) rfl
    rw [hz] at this; exact this
  refine ⟨⟨_, he, rfl⟩, h _ he (Heap.get?_push_of_some _ (Heap.get?_push_size _ B.free)) (by rw [Heap.size_push, hz]) fun b o x => Heap.get?_push_of_some _ (Heap.get?_push_of_some _ x)⟩
theorem enum_end_tuple {prog : Program} {w : World} {A : Around} {E : Value → Shared → Prop} {s : Shared} {e it l : Addr} {i : Nat} {items : Array Value} {old : Value} {Q : Option Value → Shared → Prop} (hh : A.handled = none)
    (he : IsEnum s.heap e it i old) (hit : s.heap.IsTupleIter it l i) (hl : s.heap.IsTuple l items) (hx : items[i]? = none)
    (hQ : ∀ h', Heap.ExtBut it s.heap h' → Q none { s with heap := h' }) : wpAny (model prog w) A (pyNext (.ref e)) Q E s := by
  have hT : s.TypeIs (.ref e) "enumerate" := ⟨_, he, rfl⟩
  unfold pyNext
  refine wpAny_bind (wpAny_attempt (wpAny_callSpecial?_slot (name := Str.ofString "__next__") hT F.slot_enumerate_next
    (wpAny_call_entry F.slot_enumerate_next hT F.entry_enumerate_next ?_ (F.args_enumerate_next_1 _))))
  show wpAny _ _ (field (.ref e) 2 >>= _) _ _ _
  refine wpAny_bind (wpAny_field he rfl (x := .ref it) rfl ?_)
  refine wpAny_bind (wpAny_nextOf_tuple_end hh hit hl hx fun h' x he' hx' => ?_)
  obtain ⟨o, ho, hc⟩ := hx'
  refine wpAny_bind (wpAny_isInstance (T := "StopIteration") (b := true) ⟨o, ho, hc⟩ isSubtype_stop ?_)
  exact wpAny_pure (hQ _ he')
end PySem
namespace DL
open PySem PySem.Spec PyProof.Rows L2
/-! ### a walk over a list or a tuple -/
def iU (K : PySem.W.Frag) (tl : TE) : TI := fun σ H R => tl σ H fun x H1 => ∃ a, x = .ref a ∧ (((∃ xs, SqT K H1 a xs) ∧ R (Itt K a) H1) ∨ ((∃ xs, SqL K H1 a xs) ∧ R (Itl K a) H1))
theorem pi_u {X : Cx} {tg l : Expr} {tl : TE} (hl : PE X l tl) : PI X tg l (iU X.K tl) := by
  refine ⟨fun pins s σ H R I h => ?_⟩
  refine thn (hl.run pins s σ H _ I h) fun v s1 ⟨x, H1, I1, r1, q1⟩ => ?_
  obtain ⟨a, e, q⟩ := q1
  subst e
  cases r1
  rcases q with ⟨⟨xs, hq⟩, q⟩ | ⟨⟨xs, hq⟩, q⟩
  · obtain ⟨its, rv, p, hz⟩ := I1.tuple hq
    refine wpAny_pyIter_tuple (show s1.heap.IsTuple a its.toArray from p) ?_
    refine ⟨s1.heap.objs.size, [s1.heap.objs.size], _, _, H1, rfl, I1.kept (t' := s1.toks) fun b o e => Heap.get?_push_of_some _ e, turn_tuple a _, ⟨_, Heap.get?_push_size _ rfl, rfl, rfl⟩, fun b hb => ?_, q⟩
    have e : b = s1.heap.objs.size := by simpa using hb
    subst e
    exact I1.fpOk (Nat.le_refl _) (I1.hok.fresh (Nat.le_refl _))
  · obtain ⟨its, rv, p, hz⟩ := I1.list hq
    refine wpAny_pyIter_list p.isList ?_
    refine ⟨s1.heap.objs.size, [s1.heap.objs.size], _, _, H1, rfl, I1.kept (t' := s1.toks) fun b o e => Heap.get?_push_of_some _ e, turn_list a _, ⟨_, Heap.get?_push_size _ rfl, rfl, rfl⟩, fun b hb => ?_, q⟩
    have e : b = s1.heap.objs.size := by simpa using hb
    subst e
    exact I1.fpOk (Nat.le_refl _) (I1.hok.fresh (Nat.le_refl _))
/-! ### enumerate of a tuple -/
def IteT (K : PySem.W.Frag) (a : Addr) : It :=
  ⟨fun i H => ∃ (xs : List V) (x : V), SqT K H a xs ∧ xs[i]? = some x, fun i H v H' => ∃ T x, v = .ref T ∧ H T = none ∧ H' = upd H T (.tup [.int (i : Nat), x]) ∧ ∀ xs, SqT K H a xs → xs[i]? = some x, fun i H => ∃ xs : List V, SqT K H a xs ∧ xs.length ≤ i⟩
theorem turn_enumT {P : Program} {w : World} {K : PySem.W.Frag} {elts : List Expr} {kk : Nat} {tpos : Pos} (a e it : Addr) (hae : a ≠ it) :
    Turn P w K (.Tuple elts kk tpos) (IteT K a) [e, it] e (fun i h => (∃ old, IsEnum h e it ((i : Nat) : Int) old) ∧ h.IsTupleIter it a i ∧ e ≠ it ∧ e ≠ a) where
  mem := by simp
  obj := fun i h st b hb => by
    obtain ⟨⟨old, he⟩, ⟨o, ho, hc, hd⟩, _⟩ := st
    have e' : b = e ∨ b = it := by simpa using hb
    rcases e' with z | z
    · rw [z]; exact ⟨_, he, fun v q => nomatch q⟩
    · rw [z]; exact ⟨o, ho, fun v q => by rw [hd] at q; cases q⟩
  keep := fun i h h' st k => let ⟨⟨old, he⟩, hi, hne, h3⟩ := st; ⟨⟨old, k e (by simp) _ he⟩, hi.at fun o q => k it (by simp) o q, hne, h3⟩
  item := by
    intro X hP hw hK hc i pins s σ H E I hf st hg
    subst hP hw hK
    obtain ⟨⟨old, he⟩, hit, hne, hea⟩ := st
    obtain ⟨xs, x, hq, hx⟩ := hg
    obtain ⟨its, rv, p, hz⟩ := I.tuple hq
    obtain ⟨u, hu, ru⟩ := rv.get hx
    have hel : e < s.heap.objs.size := Heap.lt_size he
    have hil : it < s.heap.objs.size := by obtain ⟨_, q, _⟩ := hit; exact Heap.lt_size q
    have hlt : i < its.toArray.size := by
      rw [List.size_toArray]
      exact (List.getElem?_eq_some_iff.mp hu).1
    have D := Draws.tuple (prog := X.prog) (w := X.w) (A := X.A.in1) (show X.A.in1.handled = none from I.ok.hd hc) it a hae its.toArray
    refine wpAny_pyNext_enum_itemD D he (i := i) ⟨hit, p⟩ hlt hne (by simp [hne, hea]) fun v' h' tk hP ho hit' hT hsz hk => ?_
    obtain rfl : v' = u := by
      have e1 : its.toArray[i]? = some v' := hP
      have e2 : its.toArray[i]? = some u := by simpa using hu
      rw [e1] at e2
      exact Option.some.inj e2
    refine ⟨_, rfl, wpAny_letOwnedTupleGo_enum (s := { s with heap := h', toks := tk + 1 }) ho fun h'' he' sb => ?_⟩
    have hT2 : h''.get? s.heap.objs.size = some { cls := .type "tuple", data := .seq #[.int i tk, v'] } := (sb.2 _ (Nat.ne_of_gt hel)).trans hT
    have new : ObjOk X.prog X.w (upd H s.heap.objs.size (.tup [.int (i : Nat), x])) h'' s.heap.objs.size (.tup [.int (i : Nat), x]) :=
      ⟨by show 2 ≤ sizeLine; decide, [.int i tk, v'], .cons ⟨_, rfl⟩ (.cons ru .nil), ⟨_, hT2, rfl, _, rfl⟩⟩
    have I1 : Inv X pins σ (upd H s.heap.objs.size (.tup [.int (i : Nat), x])) { s with heap := h'', toks := tk + 1 } :=
      I.turnedNew (ch := [e, it]) (fun b ob hb q => (sb.2 b (fun z => hb (by simp [z]))).trans (hk b ob (fun z => hb (by simp [z])) (fun z => hb (by simp [z])) q)) hf (Nat.le_refl _) new
    refine ⟨.ref s.heap.objs.size, _, I1, rfl, ⟨_, x, rfl, I.hok.fresh (Nat.le_refl _), rfl, fun ys hy => by rw [I.tuple_inj hy hq]; exact hx⟩, ⟨⟨v', ?_⟩, hit'.1.at fun o q => (sb.2 it (Ne.symm hne)).trans q, hne, hea⟩, fun b hb => ?_⟩
    · have e1 : ((i + 1 : Nat) : Int) = (i : Int) + 1 := by omega
      rw [e1]; exact he'
    · have hb' : b < s.heap.objs.size := by
        have e' : b = e ∨ b = it := by simpa using hb
        rcases e' with z | z
        · rw [z]; exact hel
        · rw [z]; exact hil
      rw [upd_ne (Nat.ne_of_lt hb')]
      exact (hf b hb).1
  done := by
    intro X hP hw hK hc i pins s σ H E I hf st hg
    subst hP hw hK
    obtain ⟨⟨old, he⟩, hit, hne, hea⟩ := st
    obtain ⟨xs, hq, hx⟩ := hg
    obtain ⟨its, rv, p, hz⟩ := I.tuple hq
    obtain ⟨f0, f1, f2, f3, f4, f5⟩ := hf it (by simp)
    have hl := rv.length
    exact enum_end_tuple (I.ok.hd hc) he hit p (by simp; omega) fun h' eb => ⟨rfl, I.turned (t' := s.toks) (fun b o hb q => eb b o hb q) f0 f1 f3 f4 f5⟩
  self := fun A i s Q E st h => let ⟨⟨_, he⟩, _⟩ := st; wpAny_pyIter_enum he h
/-- enumerate of a list or a tuple -/
def iEnumU (K : PySem.W.Frag) (ta : TA) : TI := fun σ H R => ta σ H fun vs H1 => ∃ a, vs = [.ref a] ∧ (((∃ xs, SqT K H1 a xs) ∧ R (IteT K a) H1) ∨ ((∃ xs, SqL K H1 a xs) ∧ R (Ite K a) H1))
theorem pi_enumU {X : Cx} {e : Expr} {ta : TA} {p pos tpos : Pos} {elts : List Expr} {kk : Nat} (hg : Gl X "enumerate") (hm : X.mg "enumerate" = none) (ha : PA X [e] ta) (hs : starEach [e] X.env = [(false, eval e X.env)] := by rfl) :
    PI X (.Tuple elts kk tpos) (.Call (.Name "enumerate" p) [e] [] pos) (iEnumU X.K ta) := by
  refine ⟨fun pins s σ H R I h => ?_⟩
  refine Call_ (ld_blt I hg hm boot_enumerate (PyProof.Rows.callWith_type1 (thn (ha.run pos pins s σ H _ I h) fun us s1 ⟨vs, H1, I1, r1, q1⟩ => ?_) hs rfl))
  obtain ⟨a, ex, q⟩ := q1
  subst ex
  have two : ∀ {N b : Nat}, b ∈ [N + 1, N] → N ≤ b := fun {N b} hb => by
    have e' : b = N + 1 ∨ b = N := by simpa using hb
    omega
  cases r1 with
  | cons r rr =>
    cases rr
    cases r
    rcases q with ⟨⟨xs, hq⟩, q⟩ | ⟨⟨xs, hq⟩, q⟩
    · obtain ⟨its, rv, p', hz⟩ := I1.tuple hq
      have hal : a < s1.heap.objs.size := by obtain ⟨_, q, _⟩ := p'; exact Heap.lt_size q
      refine enum_begins1 (begins_tuple a its.toArray) p' fun h' he hit hsz hk => wpAny_pyIter_enum he ?_
      have I2 : Inv X pins σ H1 { s1 with heap := h' } := I1.kept (t' := s1.toks) hk
      exact ⟨s1.heap.objs.size + 1, [s1.heap.objs.size + 1, s1.heap.objs.size], _, _, H1, rfl, I2, turn_enumT a (s1.heap.objs.size + 1) s1.heap.objs.size (Nat.ne_of_lt hal),
        ⟨⟨.none, he⟩, ⟨_, hit, rfl, rfl⟩, Nat.succ_ne_self _, Ne.symm (Nat.ne_of_lt (Nat.lt_succ_of_lt hal))⟩, fun b hb => I1.fpOk (two hb) (I1.hok.fresh (two hb)), q⟩
    · obtain ⟨its, rv, p', hz⟩ := I1.list hq
      refine call_enumerate_list p'.isList fun h' he hit hsz hk => wpAny_pyIter_enum he ?_
      have I2 : Inv X pins σ H1 { s1 with heap := h' } := I1.kept (t' := s1.toks) hk
      exact ⟨s1.heap.objs.size + 1, [s1.heap.objs.size + 1, s1.heap.objs.size], _, _, H1, rfl, I2, turn_enum a (s1.heap.objs.size + 1) s1.heap.objs.size, ⟨⟨.none, he⟩, hit, Nat.succ_ne_self _⟩,
        fun b hb => I1.fpOk (two hb) (I1.hok.fresh (two hb)), q⟩
/-! ### repr of data, where no repr is under way -/
def rReprD (K : PySem.W.Frag) : List V → Hp → VK → Prop := fun xs H Q => ∃ (a : Addr) (d : PyData), xs = [.ref a] ∧ Dp K H (.ref a) d ∧ d.showable = true ∧ d.hasDict = false ∧ d.depth ≤ 60 ∧ d.shown.length ≤ sizeLine ∧ Q (.str d.shown) H
theorem call_reprD {X : Cx} (hg : X.A.guards = some []) (hu : X.A.units + 64 < cLine) : CallR X (.builtin "repr") (rReprD X.K) := by
  intro pins s σ H xs us Q I r h
  obtain ⟨a, d, rfl, hd, sh, nd, dp, hz, q⟩ := h
  obtain ⟨u, rfl, rx⟩ := vals1 r
  obtain ⟨as, rd⟩ := Dp.reads I d _ u hd rx
  cases rx
  exact repr_of_reads' rd sh (PyData.noDict_hsm nd) hg (by omega) (fun _ _ e => e) (fun h' u tk hk => ⟨.str d.shown, H, I.kept (t' := tk) hk, ⟨u, rfl⟩, q⟩) hz
end DL
end
section
/-! DR2: max of a tuple with default, len of a set of a list's ints or tuples. -/
namespace DL
open PySem PySem.Spec PyProof.Rows L2
/-! ### max(xs, default=z), xs a tuple of ints -/
def rMaxDf (K : PySem.W.Frag) : List V → List V → Hp → VK → Prop := fun xs zs H Q => ∃ (a : Addr) (ns : List Int) (z : V), xs = [.ref a] ∧ zs = [z] ∧ SqT K H a (ns.map V.int) ∧ (ns = [] → Q z H) ∧ ∀ n r, ns = n :: r → Q (.int (r.foldl max n)) H
theorem reads_ints {h : Heap} : ∀ {ns : List Int} {us : List Value}, Vals (ns.map V.int) us → ∃ as, ReadsAll h us (ns.map PyData.int) as
  | [], _, .nil => ⟨_, .nil⟩
  | n :: ns, _, .cons r t => by
    obtain ⟨k, rfl⟩ := r
    obtain ⟨as, q⟩ := reads_ints (h := h) t
    exact ⟨_, .cons (.int n k) q⟩
theorem alike_ints (ns : List Int) : PySem.W.AlikeAll (ns.map PyData.int) := by
  refine ⟨fun x hx y hy => ?_, fun x hx => ?_⟩
  · obtain ⟨i, _, rfl⟩ := List.mem_map.mp hx
    obtain ⟨j, _, rfl⟩ := List.mem_map.mp hy
    simp [PySem.W.alike]
  · obtain ⟨i, _, rfl⟩ := List.mem_map.mp hx
    exact fun z => nomatch z
theorem depth_ints : ∀ ns : List Int, PyData.depthAll (ns.map PyData.int) ≤ 1
  | [] => by simp [PyData.depthAll]
  | n :: ns => by
    have := depth_ints ns
    simp only [List.map_cons, PyData.depthAll, PyData.depth]
    omega
theorem cr_maxDf {X : Cx} (hc : X.calm = true) (hu : X.A.units + 64 < cLine) : CallRK X (.builtin "max") [Str.ofString "default"] (rMaxDf X.K) := by
  intro pins s σ H xs zs us ws Q I r rz h
  obtain ⟨a, ns, z, rfl, rfl, hq, h0, h1⟩ := h
  obtain ⟨u, rfl, rx⟩ := vals1 r
  obtain ⟨w, rfl, rw'⟩ := vals1 rz
  cases rx
  obtain ⟨its, rv, p, hz⟩ := I.tuple hq
  obtain ⟨as, ra⟩ := reads_ints (h := s.heap) rv
  have hd := depth_ints ns
  show wpAny _ _ (call (.builtin "max") [.ref a] [(Str.ofString "default", w)]) _ _ _
  refine PySem.W.max_tuple_default (I.ok.hd hc) (show s.heap.IsTuple a its.toArray from p) (by simpa using ra) (alike_ints ns) (by omega) (fun e h' tk hk => ?_) fun y ys i v h' tk bs e hv hr hk => ?_
  · have e' : ns = [] := List.map_eq_nil_iff.mp e
    exact ⟨z, H, I.kept (t' := tk) hk, rw', h0 e'⟩
  · cases ns with
    | nil => cases e
    | cons n r =>
      rw [List.map_cons] at e
      obtain ⟨e1, e2⟩ := List.cons.inj e
      subst e1 e2
      rw [PySem.W.maxD_ints] at hr
      cases hr with
      | int i t => exact ⟨.int _, H, I.kept (t' := tk) hk, ⟨_, rfl⟩, h1 n r rfl⟩
/-! ### how many unlike things -/
theorem sub_len {α : Type} [DecidableEq α] : ∀ {a b : List α}, a.Nodup → (∀ x ∈ a, x ∈ b) → a.length ≤ b.length
  | [], _, _, _ => Nat.zero_le _
  | x :: a, b, nd, h => by
    obtain ⟨n1, n2⟩ := List.nodup_cons.mp nd
    have hx : x ∈ b := h x List.mem_cons_self
    have ih := sub_len (a := a) (b := b.erase x) n2 fun y hy => (List.mem_erase_of_ne (fun e : y = x => n1 (by rw [← e]; exact hy))).mpr (h y (List.mem_cons_of_mem _ hy))
    rw [List.length_erase_of_mem hx] at ih
    have := List.length_pos_of_mem hx
    rw [List.length_cons]
    omega
theorem not_nodup {α : Type} [DecidableEq α] : ∀ {b : List α}, ¬ b.Nodup → ∃ c : List α, c.length < b.length ∧ ∀ x ∈ b, x ∈ c
  | [], h => absurd List.nodup_nil h
  | x :: b, h => by
    by_cases hx : x ∈ b
    · exact ⟨b, Nat.lt_succ_self _, fun y hy => (List.mem_cons.mp hy).elim (fun e => by rw [e]; exact hx) fun q => q⟩
    · have hb : ¬ b.Nodup := fun q => h (List.nodup_cons.mpr ⟨hx, q⟩)
      obtain ⟨c, c1, c2⟩ := not_nodup hb
      exact ⟨x :: c, Nat.succ_lt_succ c1, fun y hy => (List.mem_cons.mp hy).elim (fun e => List.mem_cons.mpr (.inl e)) fun q => List.mem_cons_of_mem _ (c2 y q)⟩
theorem count_nodup {α : Type} [DecidableEq α] {a b : List α} (na : a.Nodup) (h1 : ∀ x ∈ a, x ∈ b) (h2 : ∀ x ∈ b, x ∈ a) : a.length = b.length ↔ b.Nodup := by
  refine ⟨fun e => ?_, fun nb => Nat.le_antisymm (sub_len na h1) (sub_len nb h2)⟩
  by_cases hb : b.Nodup
  · exact hb
  · obtain ⟨c, c1, c2⟩ := not_nodup hb
    have := sub_len na fun x hx => c2 x (h1 x hx)
    omega
theorem dedup_ok : ∀ (l acc : List Int), acc.Nodup → (l.foldl step_dedup acc).Nodup ∧ ∀ x, x ∈ l.foldl step_dedup acc ↔ x ∈ acc ∨ x ∈ l
  | [], acc, h => ⟨h, fun x => by simp⟩
  | y :: l, acc, h => by
    rw [List.foldl_cons]
    have e : step_dedup acc y = if acc.any (· == y) then acc else acc ++ [y] := rfl
    by_cases hy : acc.any (· == y) = true
    · have hm : y ∈ acc := by
        obtain ⟨z, hz, ez⟩ := List.any_eq_true.mp hy
        rw [← (beq_iff_eq.mp ez)]; exact hz
      rw [e, if_pos hy]
      obtain ⟨n, m⟩ := dedup_ok l acc h
      refine ⟨n, fun x => ?_⟩
      rw [m x, List.mem_cons]
      refine ⟨fun q => q.elim .inl fun q => .inr (.inr q), fun q => q.elim .inl fun q => q.elim (fun z => .inl (z ▸ hm)) .inr⟩
    · have hm : y ∉ acc := fun q => hy (List.any_eq_true.mpr ⟨y, q, beq_self_eq_true y⟩)
      rw [e, if_neg hy]
      obtain ⟨n, m⟩ := dedup_ok l (acc ++ [y]) (List.nodup_append.mpr ⟨h, by simp, fun a ha b hb => by
        rw [List.mem_singleton] at hb
        exact fun z => hm (hb ▸ z ▸ ha)⟩)
      refine ⟨n, fun x => ?_⟩
      rw [m x, List.mem_cons, List.mem_append, List.mem_singleton]
      exact ⟨fun q => q.elim (fun q => q.elim .inl fun z => .inr (.inl z)) fun q => .inr (.inr q), fun q => q.elim (fun z => .inl (.inl z)) fun q => q.elim (fun z => .inl (.inr z)) .inr⟩
theorem map_getD : ∀ (ns : List Int), (List.range ns.length).map (fun i => ns.getD i 0) = ns := fun ns => by
  refine List.ext_getElem (by simp) fun i h1 h2 => ?_
  simp
  rw [List.getElem?_eq_getElem h2]
  rfl
/-- each thing once -/
def ddl {α : Type} [DecidableEq α] : List α → List α
  | [] => []
  | x :: l => if x ∈ l then ddl l else x :: ddl l
theorem ddl_ok {α : Type} [DecidableEq α] : ∀ l : List α, (ddl l).Nodup ∧ ∀ x, x ∈ ddl l ↔ x ∈ l
  | [] => ⟨List.nodup_nil, fun x => Iff.rfl⟩
  | y :: l => by
    obtain ⟨n, m⟩ := ddl_ok l
    by_cases h : y ∈ l
    · rw [show ddl (y :: l) = ddl l from if_pos h]
      exact ⟨n, fun x => ⟨fun q => List.mem_cons_of_mem _ ((m x).mp q), fun q => (List.mem_cons.mp q).elim (fun e => (m x).mpr (e ▸ h)) fun q => (m x).mpr q⟩⟩
    · rw [show ddl (y :: l) = y :: ddl l from if_neg h]
      refine ⟨List.nodup_cons.mpr ⟨fun q => h ((m y).mp q), n⟩, fun x => ?_⟩
      rw [List.mem_cons, List.mem_cons, m x]
theorem ddl_count {α : Type} [DecidableEq α] {a b : List α} (na : a.Nodup) (h : ∀ x, x ∈ a ↔ x ∈ b) : a.length = (ddl b).length := by
  obtain ⟨n, m⟩ := ddl_ok b
  exact Nat.le_antisymm (sub_len na fun x hx => (m x).mpr ((h x).mp hx)) (sub_len n fun x hx => (h x).mpr ((m x).mp hx))
theorem ddl_nodup {α : Type} [DecidableEq α] (b : List α) : (ddl b).length = b.length ↔ b.Nodup := by
  obtain ⟨n, m⟩ := ddl_ok b
  exact count_nodup n (fun x hx => (m x).mp hx) fun x hx => (m x).mpr hx
theorem firstMet_count (ns : List Int) : (firstMet (fun i => ns.getD i 0) ns.length).length = (ddl ns).length := by
  have e : firstMet (fun i => ns.getD i 0) ns.length = ns.foldl step_dedup [] := by
    unfold firstMet
    rw [map_getD]
  obtain ⟨n, m⟩ := dedup_ok ns [] List.nodup_nil
  rw [e]
  exact ddl_count n fun x => by rw [m x]; simp
/-- len(set(xs)), xs a list of ints or of tuples of ints -/
def tLenSet (K : PySem.W.Frag) (ta : TE) : TE := fun σ H Q => ta σ H fun x H1 => ∃ l : Addr, x = V.ref l ∧
  ((∃ ns : List Int, SqL K H1 l (ns.map V.int) ∧ ns.length < 64 ∧ Q (.int (ddl ns).length) H1) ∨
   (∃ ks : List (Addr × List Int), SqL K H1 l (ks.map fun p => V.ref p.1) ∧ (∀ p ∈ ks, SqT K H1 p.1 (p.2.map V.int)) ∧ ks.length < 64 ∧ Q (.int (ddl (ks.map (·.2))).length) H1))
theorem pe_lenSet {X : Cx} {a : Expr} {ta : TE} {p p2 q pos : Pos} (hc : X.calm = true) (hu : X.A.units + 64 < cLine) (hg : Gl X "len") (hm : X.mg "len" = none) (hg2 : Gl X "set") (hm2 : X.mg "set" = none) (ha : PE X a ta)
    (na : starEach [a] X.env = (false, eval a X.env) :: starEach [] X.env := by rfl) : PE X (.Call (.Name "len" p) [.Call (.Name "set" p2) [a] [] q] [] pos) (tLenSet X.K ta) := by
  refine ⟨fun pins s σ H Q I h => ?_⟩
  refine Call_ (ld_blt I hg hm PySem.boot_len ?_)
  refine PyProof.Rows.callWith_builtin1 (PyProof.Rows.args_cons ?_ rfl) rfl rfl
  refine Call_ (ld_blt I hg2 hm2 PyProof.Rows.boot_set ?_)
  refine PyProof.Rows.callWith_type1 (PyProof.Rows.args_cons (thn (ha.run pins s σ H _ I h) fun v s1 ⟨x, H1, I1, r1, q1⟩ => PyProof.Rows.args_nil ?_) na) na rfl
  obtain ⟨l, rfl, q1⟩ := q1
  cases r1
  rcases q1 with ⟨ns, hq, h1, q1⟩ | ⟨ks, hq, hk, h1, q1⟩
  · obtain ⟨its, r, pl, hz⟩ := I1.list hq
    have hl : its.toArray.size = ns.length := by rw [List.size_toArray, ← r.length, List.length_map]
    refine call_set_list (I1.ok.hd hc) pl.isList (ns := ns) (by simpa using r.ints) (by unfold scanBound; omega) fun h' tk hS hk => ?_
    rw [hl] at hS
    refine PyProof.Rows.args_nil ?_
    obtain ⟨o, es, ep, t, ho, hex, hd, _, _, _, hf, hn⟩ := hS
    have I2 : Inv X pins σ H1 { s1 with heap := h', toks := tk } := I1.kept fun b o e => hk b o (Heap.lt_size e) e
    have hle := firstMet_length_le (fun i => ns.getD i 0) ns.length
    refine call_len_set ho hex hd hf (by rw [hn]; omega) ⟨.int _, H1, I2.tok _, ⟨_, by rw [hn]⟩, by rw [firstMet_count ns]; exact q1⟩
  · obtain ⟨its, rv, pl, hz⟩ := I1.list hq
    refine call_set_tups (P := X.prog) (w := X.w) ks (I1.ok.hd hc) pl.isList (by simpa using refs_of_vals rv) (fun p hp => I1.isT (hk p hp)) h1 (by omega) fun h' tk L es ep t R g k => ?_
    refine PyProof.Rows.args_nil ?_
    have I2 : Inv X pins σ H1 { s1 with heap := h', toks := tk } := I1.kept k
    obtain ⟨o, ho, hex, hd⟩ := R.ob
    have hsz := R.size (s := { s1 with heap := h', toks := tk })
    refine call_len_set ho hex hd (R.fits (s := { s1 with heap := h', toks := tk })) (by rw [hsz]; have := R.few; omega) ⟨.int L.length, H1, I2.tok _, ⟨_, by rw [hsz]⟩, ?_⟩
    have e1 : L.length = (ddl (ks.map (·.2))).length := by
      rw [show L.length = (L.map (·.2)).length from (List.length_map ..).symm]
      refine ddl_count R.nd fun x => ⟨fun hx => ?_, fun hx => ?_⟩
      · obtain ⟨p, hp, rfl⟩ := List.mem_map.mp hx
        exact List.mem_map_of_mem (List.mem_of_mem_take (g.sub p hp))
      · obtain ⟨p, hp, rfl⟩ := List.mem_map.mp hx
        exact g.all p (by rw [List.take_length]; exact hp)
    rw [e1]
    exact q1
end DL
end
section
/-! DX1: exceptions: isinstance of a caught error with fields, several clauses with and without a name, own errors made where nothing is handled. -/
namespace PySem.W
open PySem PySem.Spec PySem.Calls PyProof.Rows
section
variable {prog : Program} {w : World} {A : Around} {E : Value → Shared → Prop} {s : Shared} {K : Frag} {x D : Addr} {ox : Obj} {od : Option Obj}
theorem dl_findObj {C : Addr} {name : Str} {a g : Value} (hc : (clsIn K C).isSome = true) (ha : findIn K (.ref C) name = some (some a)) (hg : specialIn K a "__get__" = some (some g)) (ht : takesIn K a = some true) : findObj K C od name = some (.bind g a) := by
  obtain ⟨cd, hc⟩ := Option.isSome_iff_exists.mp hc
  unfold findObj
  rw [hc, Option.bind_some, ha, Option.bind_some]
  simp [hg, ht]
theorem dl_classE {Q : Option Value → Shared → Prop} (hga : findIn K (.ref D) "__getattribute__" = some (some (.builtin "BaseException.__getattribute__"))) (hgt : findIn K (.ref D) "__getattr__" = some none) (hsub : subIn K (.ref D) (.type "BaseException") = some true)
    (hdct : hasDictIn K D = true) (ha : findIn K (.ref D) "__class__" = some (some (.builtin "object.__class__")))
    (hn : specialIn K (.builtin "object.__class__") "__get__" = some (some (.builtin "getset_descriptor.__get__"))) (htk : takesIn K (.builtin "object.__class__") = some true) (hm : mroIn K D (.type "object") = some true)
    (X : K.In s.heap) (I : InstAt s.heap x ox D od) (h : Q (some (.ref D)) { s with toks := s.toks + 1 }) : wpAny (model prog w) A (getAttr? (.ref x) "__class__") Q E s := by
  have hf : findObj K D od "__class__" = some (.bind (.builtin "getset_descriptor.__get__") (.builtin "object.__class__")) := dl_findObj (by obtain ⟨cd, hc, _⟩ := any_some hdct; rw [hc]; rfl) ha hn htk
  obtain ⟨hp, g, d, t, os⟩ := s
  have L0 := I.type (M := model prog w)
  have L1 := looks_findIn (M := model prog w) X hga
  have L2 := looks_findIn (M := model prog w) X hgt
  have L3 := looks_find (M := model prog w) X I hf
  have sub : Looks (model prog w) hp (isInstance (.ref x) (.type "BaseException")) true := L0.andThen (looks_subIn X hsub)
  have z0 : (false && onTheHeap (Value.builtin "BaseException.__getattribute__")) = false := rfl
  have z2 : (Value.builtin "BaseException.__getattribute__" == Value.builtin "object.__getattribute__") = false := by decide +kernel
  have z1 : (onTheHeap (Value.ref D) && Value.builtin "BaseException.__getattribute__" == Value.builtin "object.__getattribute__") = false := by rw [z2]; rfl
  unfold getAttr? getAttrBy? getAttrBy
  refine wpAny_bind (wpAny_mkText (wpAny_bind (wpAny_attempt (wpAny_holding (wpAny_bind (L0.at (wpAny_bind (L1.at ?_))))))))
  show wpAny _ _ (if (onTheHeap (Value.ref D) && Value.builtin "BaseException.__getattribute__" == Value.builtin "object.__getattribute__") = true then _ else _) _ _ _
  rw [z1, if_neg Bool.false_ne_true]
  unfold getAttrByItsOwn hookBefore
  refine wpAny_bind ?_
  rw [if_pos (show onTheHeap (Value.ref D) = true from rfl)]
  refine L2.at ?_
  refine wpAny_bind (wpAny_attempt (wpAny_holding ?_))
  unfold callGetattribute
  rw [z0, if_neg Bool.false_ne_true]
  unfold boundAndCalled
  rw [PySem.F.excAttr_ValueError.ga.bind (.ref x)]
  refine wpAny_bind (wpAny_pure ?_)
  show wpAny _ _ (call (.builtin "BaseException.__getattribute__") [.ref x, .str "__class__" t]) _ _ _
  refine wpAny_call (codeAny_call_builtin PySem.F.excAttr_ValueError.ga.plain PySem.F.entry_bexc_ga ?_)
  refine @check_slot (model prog w) _ _ ⟨hp, g, d, t + 1, os⟩ "BaseException.__getattribute__" "BaseException" "__getattribute__" (.ref x) [.str "__class__" t] [] _ (by decide +kernel) (by decide +kernel) sub (PySem.F.args_bexc_ga (.ref x) (.str "__class__" t)) ?_
  unfold Builtin.«object.__getattribute__»
  refine wpAny_bind (wpAny_of_eq (a := ((Value.ref x : Value), [Value.str "__class__" t])) (by first | rfl | (simp only [slotArgs]; rfl)) ?_)
  refine wpAny_bind (wpAny_pure (wpAny_bind (L0.at (wpAny_bind (L3.at ?_)))))
  show wpAny _ _ (holding [Value.builtin "object.__class__"] (call (.builtin "getset_descriptor.__get__") [.builtin "object.__class__", .ref x, .ref D]) >>= ret) _ _ _
  refine wpAny_bind (wpAny_holding (wpAny_call (class_get (s := ⟨hp, g, d, t + 1, os⟩) (ox := ox) (od := od) X I hm ?_)))
  refine wpAny_pure ?_
  show wpAny _ _ (handedOut (.ref D)) _ _ _
  rw [handedOut_of (v := .ref D) rfl]
  first
    | exact wpAny_pure (wpAny_pure h)
    | exact wpAny_pure h
    | exact wpAny_pure (wpAny_bind (wpAny_pure (wpAny_pure h)))
theorem dl_kitE (hga : findIn K (.ref D) "__getattribute__" = some (some (.builtin "BaseException.__getattribute__"))) (hgt : findIn K (.ref D) "__getattr__" = some none) (hsub : subIn K (.ref D) (.type "BaseException") = some true) (hdct : hasDictIn K D = true) (ha : findIn K (.ref D) "__class__" = some (some (.builtin "object.__class__")))
    (hn : specialIn K (.builtin "object.__class__") "__get__" = some (some (.builtin "getset_descriptor.__get__"))) (htk : takesIn K (.builtin "object.__class__") = some true) (hm : mroIn K D (.type "object") = some true) :
    KitX K (.ref x) (.ref D) (fun h => InstAt h x ox D od) where
  ty := fun _ _ _ I => I.type
  it := fun _ _ X _ => by
    obtain ⟨cdD, hcD, _⟩ := any_some hdct
    unfold clsIn at hcD
    split at hcD
    · rename_i c' d' cd' sl' ho
      intro A' Q' E' s' k q
      unfold isType loadHead
      exact wpAny_bind (wpAny_loadPart (k _ _ (X _ _ ho)) (wpAny_pure q))
    · cases hcD
  ne := fun h tp dd its n sl X htp => by
    obtain ⟨cdD, hcD, _⟩ := any_some hdct
    refine Bool.eq_false_iff.mpr fun q => ?_
    have e : D = tp := Value.ref.inj (beq_iff_eq.mp q)
    subst e
    unfold clsIn at hcD
    split at hcD
    · rename_i c' d' cd' sl' ho
      have z := (X _ _ ho).symm.trans htp
      cases z
    · cases hcD
  ca := fun X I k => dl_classE hga hgt hsub hdct ha hn htk hm X I k
end
end PySem.W
namespace DL
open PySem PySem.Spec PyProof.Rows L2
/-- isinstance(e, c), e the caught error with a dict of its own -/
def rIsX (K : PySem.W.Frag) (a : Addr) (cls : Value) (d : Option Addr) : List V → Hp → VK → Prop := fun xs H Q => ∃ (D dd : Addr) (fs : List (Str × V)) (c : V) (cv : Value) (b : Bool),
  xs = [.ref a, c] ∧ cls = .ref D ∧ d = some dd ∧ H dd = some (.xd fs) ∧ ExcC K D ∧ (∀ u, RelV c u → u = cv) ∧ PySem.W.kitOne K (.ref D) cv = some b ∧ Q (.bl b) H
theorem call_isX {X : Cx} {a : Addr} {oe : Obj} {cls : Value} {d : Option Addr} {pn : List (Addr × Obj)} (hz : Zc cls d oe) (hf : ∃ vs, oe.data = .fields vs) : CallR (X.suite a ((a, oe) :: pn)) (.builtin "isinstance") (rIsX X.K a cls d) := by
  intro pins s σ H xs us Q I r h
  obtain ⟨D, dd, fs, c, cv, b, rfl, ecl, ed, hdd, C, hcv, e, q⟩ := h
  cases r with
  | cons rx rr =>
    cases rr with
    | cons rt rr =>
      cases rr
      cases rx
      have ec := hcv _ rt
      subst ec
      subst ecl
      subst ed
      obtain ⟨hget, _⟩ := I.pin (a, oe) (List.mem_append.mpr (.inl List.mem_cons_self))
      obtain ⟨vs, hv⟩ := hf
      have hx : ObjOk X.prog X.w H s.heap dd (.xd fs) := I.hok dd _ hdd
      obtain ⟨mA, hns, hr⟩ := hx
      obtain ⟨od, ho, hl⟩ := lookIn_ns hns
      have J : PySem.W.InstAt s.heap a oe D (some od) := ⟨hget, hz.1, by unfold PySem.W.notCls; rw [hv] <;> rfl, by rw [hz.2]; exact ho⟩
      exact PySem.W.kia_one (PySem.W.dl_kitE C.hg C.hk C.hs C.hd C.ha C.hn C.ht C.hm) I.kIn J e (fun z => nomatch z) fun tk => ⟨.bl b, H, I.kept (t' := tk) fun _ _ z => z, rfl, q⟩

/-! ### several clauses, each with a name or without -/
abbrev Hd := Value × Option Nat × (Addr → Value → Option Addr → TS)
/-- where a clause's name is slot i: behind the suite it is gone -/
def dOut (i : Nat) (D : Ends) : Ends := { nx := fun σ' H' => D.nx (σ'.set i none) H', rt := D.rt, bk := fun σ' H' => D.bk (σ'.set i none) H', ct := fun σ' H' => D.ct (σ'.set i none) H' }
def wMix (K : PySem.W.Frag) (Wout : WX) (D : Ends) : List Hd → WX
  | [] => Wout
  | (c, none, ts) :: r => fun cls d σ H => ∃ b, PySem.W.exmOne K cls c = some b ∧ (b = true → ∀ a, H a = none → ts a cls d D σ H) ∧ (b = false → wMix K Wout D r cls d σ H)
  | (c, some i, ts) :: r => fun cls d σ H => ∃ b, PySem.W.exmOne K cls c = some b ∧ (b = true → ∀ a, H a = none → ts a cls d (dOut i D) (σ.set i (some (.ref a))) H) ∧ (b = false → wMix K Wout D r cls d σ H)
inductive HdsM (X : Cx) : List ExceptHandler → List Hd → Prop
  | nil : HdsM X [] []
  | cons {x : Str} {c : Value} {ts : Addr → Value → Option Addr → TS} {b₀ : Stmt} {suite : List Stmt} {np pos' : Pos} {hds : List ExceptHandler} {l : List Hd} (hc : Names X x c)
      (hsu : ∀ (a : Addr) (oe : Obj) (cls : Value) (d : Option Addr) (pn : List (Addr × Obj)), Zc cls d oe → (∃ vs, oe.data = .fields vs) → PSs (X.suite a ((a, oe) :: pn)) (b₀ :: suite) (ts a cls d)) (r : HdsM X hds l) :
      HdsM X (.ExceptHandler (some (.Name x np)) none (b₀ :: suite) pos' :: hds) ((c, none, ts) :: l)
  | consAs {x n : Str} {i : Nat} {c : Value} {ts : Addr → Value → Option Addr → TS} {b₀ : Stmt} {suite : List Stmt} {np pos' : Pos} {hds : List ExceptHandler} {l : List Hd} (hi : X.N[i]? = some n) (hln : X.env.kindOf n = some .local) (hc : Names X x c)
      (hsu : ∀ (a : Addr) (oe : Obj) (cls : Value) (d : Option Addr) (pn : List (Addr × Obj)), Zc cls d oe → (∃ vs, oe.data = .fields vs) → PSs (X.suite a ((a, oe) :: pn)) (b₀ :: suite) (ts a cls d)) (r : HdsM X hds l) :
      HdsM X (.ExceptHandler (some (.Name x np)) (some n) (b₀ :: suite) pos' :: hds) ((c, some i, ts) :: l)
section
variable {X : Cx} {body : List Stmt} {h₀ : ExceptHandler} {hds : List ExceptHandler} {l : List Hd} {pos : Pos} {tb : WX → TS} {Wout : WX}
theorem ps_try_mix (hs : X.stack = X.env :: X.outer) (hf : X.env.frame = some X.env.locals) (hN : X.N.Nodup) (tk : Takes X Wout)
    (hb : ∀ (W : WX) (pn : List (Addr × Obj)) (xe : Value → Shared → Prop), Takes (X.tr pn xe) W → PassesOwn (model X.prog X.w) X.A X.env xe → PSs (X.tr pn xe) body (tb W))
    (hh : HdsM X (h₀ :: hds) l) : PS X (.Try body (h₀ :: hds) [] [] pos) (fun D σ H => tb (wMix X.K Wout D l) D σ H) := by
  refine ⟨fun pins s σ H D I h => ?_⟩
  have ok := I.ok
  have hfr : X.A.frames = some (X.env :: X.outer) := by rw [ok.frames, hs]
  refine wpAny_Try_except ?_
  refine wpAny_mono ((hb (wMix X.K Wout D l) (X.pn ++ pins) (fun e s₁ => wpAny (model X.prog X.w) X.A (noteFrame e X.env) (fun _ s₂ => wpAny (model X.prog X.w) X.A (setFlight e none) (fun _ s₃ =>
    wpAny (model X.prog X.w) X.A (handleBy e X.env (h₀ :: hds)) (SP X pins D) X.xe s₃) X.xe s₂) X.xe s₁) (fun u s' xx => ?_) PassesOwn.looking).run [] s σ H D (I.toTry _) h) (fun f s1 hsp => ?_) (fun e s1 he => he)
  · obtain ⟨a, B, sI, pins', σ', H', cls, d, rfl, J', nb, up, sky, na, os, ag, w⟩ := xx
    have J : Inv X pins σ' H' sI := J'.ofTry ok
    have sky' : Sky B (X.env :: X.outer) a (Zc cls d) X.env.locals s'.heap := by rw [← hs]; exact sky
    show wpAny (model X.prog X.w) X.A (noteFrame (.ref a) X.env) _ _ _
    refine Sky.land Zc.steady hfr hf sky' fun h3 fl3 up3 => ?_
    have J3 : Inv X pins σ' H' { s' with heap := h3 } := J.landed nb fl3.1 (up.trans up3) os ag
    obtain ⟨oe3, vs3, he3, hz3, hd3⟩ := fl3.there
    have nfr : a ∉ frs (X.env :: X.outer) := fun hm => by
      obtain ⟨_, o', e', hnf⟩ := fl3.2.2.1.mem hm
      rw [he3] at e'; cases e'
      exact hnf _ hd3
    have nL : a ≠ X.env.locals := fun z => nfr (List.mem_filterMap.mpr ⟨X.env, List.mem_cons_self, by rw [hf, z]⟩)
    have nF : a ∉ X.fs := fun hm => by
      obtain ⟨e, he, q⟩ := List.mem_filterMap.mp hm
      exact nfr (List.mem_filterMap.mpr ⟨e, List.mem_cons_of_mem _ he, q⟩)
    have S3 := J3.suite he3 hd3 na nL nF
    have LT : PySem.W.Looks (model X.prog X.w) h3 (typeOf (.ref a)) cls := fun A Q E s k q => wpAny_typeOf_ref (k _ _ he3) (by rw [hz3.1]; exact q)
    have named : ∀ {x : Str} {c : Value} {np : Pos} {Q : Value → Shared → Prop} {E : Value → Shared → Prop}, Names X x c → Q c { s' with heap := h3 } → wpAny (model X.prog X.w) (X.A.mark (some (.ref a))) (eval (.Name x np) X.env) Q E { s' with heap := h3 } := fun {x c np Q E} hc q => by
      obtain ⟨hg, hdbg, hm | ⟨hm, hv, hnn⟩⟩ := hc
      · exact ld_glob (X := X.suite a ((a, oe3) :: (X.pn ++ pins))) S3 hg hm q hdbg
      · exact ld_blt (X := X.suite a ((a, oe3) :: (X.pn ++ pins))) S3 hg hm hv q hnn hdbg
    have go : ∀ {hds' : List ExceptHandler} {l' : List Hd}, HdsM X hds' l' → wMix X.K Wout D l' cls d σ' H' →
        wpAny (model X.prog X.w) X.A (handleBy (.ref a) X.env hds') (SP X pins D) X.xe { s' with heap := h3 } := by
      intro hds' l' hk
      induction hk with
      | nil =>
        intro w
        refine wpAny_handleBy_nil ?_
        obtain ⟨k1, k2, k3, oe, vs, T, oT, ts', he, hz, hd, h1, hr⟩ := id fl3
        unfold PySem.passOn
        refine wpAny_bind (wpAny_field he hd h1 ?_)
        rw [if_neg (show ¬ ((Value.ref T == Value.none) = true) from by simp)]
        have fin : wpAny (model X.prog X.w) X.A (setFlight (.ref a) X.env.frame) (fun _ s4 => wpAny (model X.prog X.w) X.A (throw (.ref a) : Sem Flow) (SP X pins D) X.xe s4) X.xe { s' with heap := h3 } := by
          rw [hf]
          refine HandSPX.setFlight_upZ fl3 fun h4 hh4 up4 => wpAny_throw (tk _ _ ?_)
          exact ⟨a, B, sI, pins, σ', H', cls, d, rfl, J, nb, (up.trans up3).trans up4, .inr (.inr (by rw [hs]; exact hh4)), na, os, ag, w⟩
        first
          | exact wpAny_bind (wpAny_pure (wpAny_bind fin))
          | exact wpAny_bind fin
      | @cons x c ts b₀ suite np pos' hds2 l2 hc hsu r ih =>
        intro w
        obtain ⟨b, hb1, hyes, hno⟩ := w
        refine wpAny_handleBy_cons (codeAny_handlers_test ?_) (by intro q; cases q)
        have LM := PySem.W.exm_one (M := model X.prog X.w) (J3.kIn) LT hb1
        refine named hc (LM.here ?_)
        cases b with
        | true =>
          refine codeAny_handlers_suite ?_
          refine HandSPX.lands_againZ fl3 fun h4 fl4 up4 => ?_
          have J4 : Inv X pins σ' H' { s' with heap := h4 } := J.landed nb fl4.1 ((up.trans up3).trans up4) os ag
          obtain ⟨oe4, vs4, he4, hz4, hd4⟩ := fl4.there
          have S4 := J4.suite he4 hd4 na nL nF
          refine wpAny_mono ((hsu a oe4 cls d (X.pn ++ pins) hz4 ⟨_, hd4⟩).run [] _ _ H' _ S4 (hyes rfl a na)) (fun f s6 hsp => ?_) (fun _ _ z => False.elim z)
          cases f with
          | next =>
            obtain ⟨σ6, H6, S6, q6⟩ := hsp
            exact ⟨_, _, S6.unsuite ok, q6⟩
          | brk =>
            obtain ⟨σ6, H6, S6, q6⟩ := hsp
            exact ⟨_, _, S6.unsuite ok, q6⟩
          | cont =>
            obtain ⟨σ6, H6, S6, q6⟩ := hsp
            exact ⟨_, _, S6.unsuite ok, q6⟩
          | ret u =>
            obtain ⟨v6, σ6, H6, S6, r6, q6⟩ := hsp
            exact ⟨_, _, _, S6.unsuite ok, r6, q6⟩
        | false =>
          show wpAny _ X.A (handleBy (.ref a) X.env hds2) _ _ _
          exact ih (hno rfl)
      | @consAs x n i c ts b₀ suite np pos' hds2 l2 hi hln hc hsu r ih =>
        intro w
        obtain ⟨b, hb1, hyes, hno⟩ := w
        refine wpAny_handleBy_cons (codeAny_handlers_test ?_) (by intro q; cases q)
        have LM := PySem.W.exm_one (M := model X.prog X.w) (J3.kIn) LT hb1
        refine named hc (LM.here ?_)
        cases b with
        | true =>
          refine codeAny_handlers_suite_as ?_
          refine HandSPX.lands_againZ fl3 fun h4 fl4 up4 => ?_
          have J4 : Inv X pins σ' H' { s' with heap := h4 } := J.landed nb fl4.1 ((up.trans up3).trans up4) os ag
          obtain ⟨oe4, vs4, he4, hz4, hd4⟩ := fl4.there
          have S4 := J4.suite he4 hd4 na nL nF
          refine store_ok (X := X.suite a ((a, oe4) :: (X.pn ++ pins))) (v := .ref a) S4 hN hi (.inl hln) rfl (fun s5 S5 => ?_) (.inr hln)
          refine wpAny_mono ((hsu a oe4 cls d (X.pn ++ pins) hz4 ⟨_, hd4⟩).run [] s5 _ H' _ S5 (hyes rfl a na)) (fun f s6 hsp => ?_) (fun _ _ z => False.elim z)
          have end_ : ∀ {σ6 : L2.St} {H6 : Hp} {Q : Shared → Prop}, Inv (X.suite a ((a, oe4) :: (X.pn ++ pins))) [] σ6 H6 s6 → (∀ s7, Inv X pins (σ6.set i none) H6 s7 → Q s7) →
              wpAny (model X.prog X.w) X.A (do bindName X.env n .none; unbindBehindTheSuite X.env n pos') (fun _ s7 => Q s7) X.xe s6 := fun {σ6 H6 Q} S6 hq => gone_ok (S6.unsuite ok) hN hi hln hq
          cases f with
          | next =>
            obtain ⟨σ6, H6, S6, q6⟩ := hsp
            exact end_ S6 fun s7 J7 => ⟨_, _, J7, q6⟩
          | brk =>
            obtain ⟨σ6, H6, S6, q6⟩ := hsp
            exact end_ S6 fun s7 J7 => ⟨_, _, J7, q6⟩
          | cont =>
            obtain ⟨σ6, H6, S6, q6⟩ := hsp
            exact end_ S6 fun s7 J7 => ⟨_, _, J7, q6⟩
          | ret u =>
            obtain ⟨v6, σ6, H6, S6, r6, q6⟩ := hsp
            exact end_ S6 fun s7 J7 => ⟨_, _, _, J7, r6, q6⟩
        | false =>
          show wpAny _ X.A (handleBy (.ref a) X.env hds2) _ _ _
          exact ih (hno rfl)
    exact go hh w
  · cases f with
    | next =>
      obtain ⟨σ', H', J', q⟩ := hsp
      exact wpAny_execs_nil ⟨σ', H', J'.ofTry ok, q⟩
    | brk =>
      obtain ⟨σ', H', J', q⟩ := hsp
      exact ⟨σ', H', J'.ofTry ok, q⟩
    | cont =>
      obtain ⟨σ', H', J', q⟩ := hsp
      exact ⟨σ', H', J'.ofTry ok, q⟩
    | ret u =>
      obtain ⟨v, σ', H', J', r, q⟩ := hsp
      exact ⟨v, σ', H', J'.ofTry ok, r, q⟩
end
/-! ### C(e, ..) with its own __init__, where nothing is handled: an exception whose context is None -/
theorem pmk_oexN {X : Cx} {CX : CXT} {x : Str} {e : Expr} {es : List Expr} {ta : TA} {p pos : Pos} {C fI : Addr} {k : Nat} {fd : FuncData} {ps : List Str} {sp : Sp} (T : OexC X.K C) (iC : PySem.W.findIn X.K (.ref C) "__init__" = some (some (.ref fI))) (tI : PySem.W.typeIn X.K (.ref fI) = some (.type "function"))
    (F1 : FnOk X.prog X.w X.K X.mg X.base CX k fI fd ps sp) (hr : Room (k + 1) X.A) (hb : Binds X.K fd ps []) (hx : Passes CX X (fun _ _ _ => False)) (hg : Gl X x) (hm : X.mg x = some (.ref C)) (ha : PA X (e :: es) ta)
    (hdb : (x == ("__debug__" : Str)) = false := by decide) (he : starEach (e :: es) X.env = (false, eval e X.env) :: starEach es X.env := by rfl) (hpl : (backTo pos (starEach es X.env)).any (·.1) = false := by rfl) :
    L2N.PMk X (.Call (.Name x p) (e :: es) [] pos) (tMkO C sp [] ta) := by
  intro pins s σ H Q I h
  obtain ⟨nm, q, N, bs, bm, sn, sub, ab, col, dd, k0, k1, k2, k3, k5, hC, hbm⟩ := T.cls
  refine wpAny_Call_Name_kw (ld_glob I hg hm ?_ hdb)
  refine PySem.W.callWith_K (h₀ := X.base) I.ok.mod.kin T.kC (thn (ha.run pos pins s σ H _ I h) fun us s1 ⟨vs, H1, I1, r1, hz, q1⟩ => ⟨I1.kIn, ?_⟩) he hpl
  show wpAny _ _ (call (.ref C) us) _ _ _
  obtain ⟨hp, g, dr, tk, os⟩ := s1
  have hsz : hp.objs.size ≤ hp.objs.size + 1 := Nat.le_succ _
  have hn : H1 (hp.objs.size + 1) = none := I1.hok.fresh hsz
  have hq := q1 (hp.objs.size + 1) hn
  rw [List.append_nil] at hq
  have kk : ∀ b o, hp.get? b = some o → ((hp.push (PySem.W.kdv_tup us)).push (PySem.HandSPX.excO C hp.objs.size)).get? b = some o := fun b o e => Heap.get?_push_of_some _ (Heap.get?_push_of_some _ e)
  have hget : ((hp.push (PySem.W.kdv_tup us)).push (PySem.HandSPX.excO C hp.objs.size)).get? (hp.objs.size + 1) = some (PySem.HandSPX.excO C hp.objs.size) := by heap_get
  have I2 : Inv X pins σ (upd H1 (hp.objs.size + 1) (exo (hp.objs.size + 1) C none)) ⟨(hp.push (PySem.W.kdv_tup us)).push (PySem.HandSPX.excO C hp.objs.size), g, dr, tk, os⟩ :=
    I1.laid (t' := tk) (a := hp.objs.size + 1) (o := exo (hp.objs.size + 1) C none) (h' := (hp.push (PySem.W.kdv_tup us)).push (PySem.HandSPX.excO C hp.objs.size)) kk hsz (exo_ok hget)
  have r2 : Vals (V.ref (hp.objs.size + 1) :: vs) (Value.ref (hp.objs.size + 1) :: us) := .cons rfl r1
  have hl : (Value.ref (hp.objs.size + 1) :: us ++ []).length = ps.length := by
    have e := r2.length
    rw [F1.len _ _ _ _ hq] at e
    rw [List.append_nil]
    exact e.symm
  have hus : us.length ≤ sizeLine := by
    rw [← Paired.length r1, sizeLine_eq]
    omega
  have b2 := hb _ (Value.ref (hp.objs.size + 1) :: us) I2.kIn hl
  rw [List.append_nil] at b2
  refine wpAny_call (PySem.HandSPX.call_own F.excBase_ValueError (fun Y => PySem.HandSPX.refsVE_contains Y bm hbm) (I1.kIn _ _ hC) (PySem.W.looks_findIn I1.kIn iC) (fun self => PySem.W.bind_fn I1.kIn self tI) hus
    (codeAny_mono (F1.run _ X.stack _ _ ⟨Value.ref (hp.objs.size + 1) :: us, []⟩ (Value.ref (hp.objs.size + 1) :: us) _ _ (fun _ _ _ => False) (hr.make C us []) (I2.env0.make C us []) b2 r2 hq) fun r s' hq' => ?_))
  cases r with
  | error er => exact hx pins σ _ _ er s' I2 hq'
  | ok fl =>
    cases fl with
    | ret u =>
      obtain ⟨v, H2, os2, bare2, un2, hok2, rv, ev, d, fs, ea, ed, hd1, q2⟩ := hq'
      subst ev
      obtain ⟨h2, g2, d2, t2, os'⟩ := s'
      obtain ⟨t0, G, J, kG, ge, hoe, na⟩ := mk_end0 (d2 := d2) (t2 := t2) I1 hsz kk un2 hok2 os2 bare2 ea ed hd1
      refine ⟨rv, hp.objs.size + 1, _, _, ⟨G, g2, d2, t2, os'⟩, _, .ref C, some d, rfl, J, kG, ge, hoe, ⟨rfl, rfl, fun vs hv => ?_⟩, rfl, rfl, na, rfl, bare2, raises_own T.exC T.tyC, q2⟩
      cases hv
      rfl
    | next => exact False.elim hq'
    | brk => exact False.elim hq'
    | cont => exact False.elim hq'
end DL
end
section
/-! DX2: promises under a word about what runs around: G. -/
namespace DL
open PySem PySem.Spec PyProof.Rows L2 L2H
/-- a promise kept wherever G holds of what runs around (FnOk: nothing is handled) -/
structure FnP (G : Around → Prop) (P : Program) (w : World) (K : PySem.W.Frag) (mg : Str → Option Value) (base : Heap) (CX : CXT) (k : Nat) (f : Addr) (fd : FuncData) (ps : List Str) (sp : Sp) : Prop where
  len : ∀ vs H Q E, sp vs H Q E → vs.length = ps.length
  run : ∀ (A : Around) (outer : List Env) (s : Shared) (H : Hp) (args : Args) (us : List Value) (vs : List V) (Q : VK) (E : XK), RoomH k A → G A → Env0 P w K mg base A outer s H → BindsTo s fd args (ps.zip us) → Vals vs us → sp vs H Q E →
    codeAny (model P w) A (.call (.ref f) args) (CR CX outer P w H s Q E) s
abbrev gAny : Around → Prop := fun _ => True
abbrev gCalm : Around → Prop := fun A => A.handled = none
abbrev gRep : Around → Prop := fun A => A.handled = none ∧ A.guards = some []
section
variable {G : Around → Prop} {P : Program} {w : World} {K : PySem.W.Frag} {mg : Str → Option Value} {base : Heap} {CX : CXT} {k : Nat} {f : Addr} {fd : FuncData} {ps : List Str} {sp : Sp}
theorem FnP.ok (F : FnP G P w K mg base CX k f fd ps sp) (h : ∀ A, A.handled = none → G A) : FnOk P w K mg base CX k f fd ps sp :=
  ⟨F.len, fun A outer s H args us vs Q E hr => F.run A outer s H args us vs Q E (roomH_of hr) (h A hr.hd)⟩
theorem FnP.any (F : FnP gAny P w K mg base CX k f fd ps sp) : FnOk P w K mg base CX k f fd ps sp := F.ok fun _ _ => trivial
theorem FnP.of (F : FnOk P w K mg base CX k f fd ps sp) (h : ∀ A, G A → A.handled = none) : FnP G P w K mg base CX k f fd ps sp :=
  ⟨F.len, fun A outer s H args us vs Q E hr hg => F.run A outer s H args us vs Q E ⟨h A hg, hr.dp, hr.un⟩⟩
end
/-- the context of such a def's body -/
def cxP (b : Bool) (CX : CXT) (P : Program) (w : World) (K : PySem.W.Frag) (mg : Str → Option Value) (base : Heap) (N : List Str) (qual : Str) (scope : Scope) (f : Addr) (cd : Value) (A : Around) (outer : List Env) (s : Shared) (H : Hp) (E : XK) : Cx :=
  { cxOf CX P w K mg base N qual scope f cd A outer s H E with calm := b }
theorem inv_around {X : Cx} {pins : List (Addr × Obj)} {σ : L2.St} {H : Hp} {s : Shared} (I : Inv X pins σ H s) (A : Around) (b : Bool) (E : Value → Shared → Prop) (hf : A.frames = X.A.frames) (hb : b = true → A.handled = none) :
    Inv { X with A := A, calm := b, xe := E } pins σ H s := by
  obtain ⟨ok, h1, h2, h3, h4, h5, h6, h7, h8, h9, h10⟩ := I
  obtain ⟨o1, o2, o3, o4, o5, o6, o7, o8, o9, o10, o11, o12, o13, o14, o15, o16, o17, o18⟩ := ok
  exact ⟨⟨o1, o2, o3, o4, o5, o6, o7, o8, hb, hf.trans o10, o11, o12, o13, o14, o15, o16, o17, o18⟩, h1, h2, h3, h4, h5, h6, h7, h8, h9, h10⟩
section
variable {b : Bool} {CX : CXT} {P : Program} {w : World} {K : PySem.W.Frag} {mg : Str → Option Value} {base : Heap} {N ps : List Str} {qual : Str} {scope : Scope} {f : Addr} {cd : Value} {A : Around} {outer : List Env} {s s1 : Shared} {H : Hp} {E : XK} {us : List Value} {vs : List V}
theorem inv_startP (S : FnScope N ps scope) (hd : b = true → A.handled = none) (e0 : Env0 P w K mg base A outer s H) (hl : vs.length = ps.length) (r : Vals vs us)
    (x : InCallC s s.heap.objs.size (bindL (envOfC qual scope s.heap.objs.size f cd).kindOf (ps.zip us) fun _ => none) (cellsFrom (s.heap.objs.size + 1) scope.names []) (bindC (envOfC qual scope s.heap.objs.size f cd).kindOf (ps.zip us) fun _ => none) s1) :
    Inv (cxP b CX P w K mg base N qual scope f cd A outer s H E) [] (start N vs) H s1 := by
  have e1 : Env0 P w K mg base { A with handled := none } outer s H := ⟨e0.frames, e0.mod, e0.bs, e0.bsz, e0.funs, e0.frf, e0.hok, e0.bare⟩
  have I := inv_start (CX := CX) (E := E) (cd := cd) S (show ({ A with handled := none } : Around).handled = none from rfl) e1 hl r x
  exact inv_around I (A.deeper (envOfC qual scope s.heap.objs.size f cd)) b _ (by rw [Around.frames_deeper e0.frames]; exact (Around.frames_deeper (A := { A with handled := none }) e0.frames).symm) hd
theorem fn_ofP {G : Around → Prop} {k : Nat} {name : Str} {params : Arguments} {body : List Stmt} {dV kV doc pm cdv ct oc : Value} {an od : Option Addr}
    {osl : Array (Option Value)} {sp : Sp} (lk : K.lookup f = some ⟨oc, od, .func (PySem.W.fnOf name qual params body scope dV kV doc pm an cdv ct), osl⟩) (hcd : PySem.W.codeIn K cdv qual = true) (S : FnScope N ps scope)
    (len : ∀ vs H Q E, sp vs H Q E → vs.length = ps.length) (hG : b = true → ∀ A, G A → A.handled = none)
    (hbody : ∀ (A : Around) (outer : List Env) (s : Shared) (H : Hp) (vs : List V) (Q : VK) (E : XK), RoomH k (A.deeper (envOfC qual scope s.heap.objs.size f cdv)) → G A → sp vs H Q E →
      ∃ t, PSs (cxP b CX P w K mg base N qual scope f cdv A outer s H E) body t ∧ t { nx := fun _ H' => Q .non H', rt := Q } (start N vs) H) :
    FnP G P w K mg base CX (k + 1) f (PySem.W.fnOf name qual params body scope dV kV doc pm an cdv ct) ps sp := by
  refine ⟨len, fun A outer s H args us vs Q E hr hg e0 hb r hsp => ?_⟩
  have hl := len _ _ _ _ hsp
  have KX : K.In s.heap := e0.mod.kin.keeps fun b o e => (e0.bs b o e).1
  have lim : s.heap.NoLimit := e0.mod.nolimit.keeps fun b o e => (e0.bs b o e).1
  have hkind : ∀ y ∈ ps.zip us, scope.names.lookup y.1 = some .local ∨ (scope.names.lookup y.1 = some .cell ∧ ((cellsFrom (s.heap.objs.size + 1) scope.names []).lookup y.1).isSome = true) := fun ⟨n, v⟩ hy => by
    rcases S.par n (List.of_mem_zip hy).1 with q | q
    · exact .inl q
    · exact .inr ⟨q, PySem.W.cellsFrom_some _ _ _ (.inl q)⟩
  refine codeAny_call_function hr.depth (KX _ _ lk) rfl S.co S.gen rfl (PySem.W.codeRec_of KX hcd) (hb _ _ _ _ ?_)
  refine wpAny_newFunctionEnv_cells S.kind hkind fun env he s1 x => ?_
  subst he
  refine ⟨lim.keeps x.toInCall.keep, codeAny_func ?_⟩
  obtain ⟨t, ht, hq⟩ := hbody A outer s H vs Q E (hr.deeper _) hg hsp
  have I : Inv (cxP b CX P w K mg base N qual scope f cdv A outer s H E) [] (start N vs) H s1 := inv_startP S (fun z => hG z A hg) e0 hl r x
  refine wpAny_mono (ht.run [] s1 (start N vs) H _ I hq) (fun fl s' hs => ?_) fun e s' hs => hs
  have fin : ∀ {σ' : L2.St} {H' : Hp} {v : V} {u : Value}, Inv (cxP b CX P w K mg base N qual scope f cdv A outer s H E) [] σ' H' s' → RelV v u → Q v H' → CE outer P w H s Q u s' :=
    fun {σ' H' v u} J rv q => ⟨v, H', J.os, J.bare, J.base, J.hok, rv, q⟩
  cases fl with
  | ret u =>
    obtain ⟨v, σ', H', J, rv, q⟩ := hs
    exact fin J rv q
  | next =>
    obtain ⟨σ', H', J, q⟩ := hs
    exact fin (v := V.non) (u := Value.none) J rfl q
  | brk =>
    obtain ⟨_, _, _, q⟩ := hs
    exact False.elim q
  | cont =>
    obtain ⟨_, _, _, q⟩ := hs
    exact False.elim q
end
/-- a def of the text, by its body, under G -/
theorem funP (b : Bool) {G : Around → Prop} {CX : CXT} {P : Program} {w : World} {K : PySem.W.Frag} {mg : Str → Option Value} {base : Heap} {x qual : Str} {st : Stmt} {f : Addr} {fd : FuncData} {N ps : List Str} {k : Nat} {sp : Sp} (F : Fun K x qual st f fd) (S : FnScope N ps (defScope st))
    (len : ∀ vs H Q E, sp vs H Q E → vs.length = ps.length) (hG : b = true → ∀ A, G A → A.handled = none)
    (hbody : ∀ (cdv : Value) (A : Around) (outer : List Env) (s : Shared) (H : Hp) (vs : List V) (Q : VK) (E : XK), RoomH k (A.deeper (envOfC qual (defScope st) s.heap.objs.size f cdv)) → G A → sp vs H Q E →
      ∃ t, PSs (cxP b CX P w K mg base N qual (defScope st) f cdv A outer s H E) (defBody st) t ∧ t { nx := fun _ H' => Q .non H', rt := Q } (start N vs) H) : FnP G P w K mg base CX (k + 1) f fd ps sp := by
  obtain ⟨oc, od, kV, doc, pm, an, cdv, ct, osl, rfl, lk, hcd⟩ := F.ex
  exact fn_ofP lk hcd S len hG fun A outer s H vs Q E hr hg hsp => hbody cdv A outer s H vs Q E hr hg hsp
section
variable {G : Around → Prop} {X : Cx} {CX : CXT} {k : Nat} {f C : Addr} {fd : FuncData} {ps : List Str} {sp : Sp} {dvs : List V} {ds : List Value} {E : L2.St → XK} {x m : Str} {p pos apos : Pos} {e o : Expr} {es : List Expr} {ta : TE} {t : TA}
theorem run_fnP {pins : List (Addr × Obj)} {σ : L2.St} {H : Hp} {s : Shared} {Q : VK} {us : List Value} {vs : List V} (F : FnP G X.prog X.w X.K X.mg X.base CX k f fd ps sp) (hr : RoomH k X.A) (hG : G X.A) (hb : Binds X.K fd ps ds) (hd : Vals dvs ds) (hx : PassesAt CX X σ (E σ))
    (I : Inv X pins σ H s) (r : Vals vs us) (h : sp (vs ++ dvs) H Q (E σ)) : wpAny (model X.prog X.w) X.A (call (.ref f) us) (EP X pins σ Q) X.xe s := by
  have r2 : Vals (vs ++ dvs) (us ++ ds) := r.append hd
  have hl : (us ++ ds).length = ps.length := by rw [← r2.length]; exact F.len _ _ _ _ h
  refine wpAny_call (codeAny_mono (F.run X.A X.stack s H ⟨us, []⟩ (us ++ ds) (vs ++ dvs) Q (E σ) hr hG I.env0 (hb s us I.kIn hl) r2 h) fun r s' hq => ?_)
  cases r with
  | error e => exact hx pins H s e s' I hq
  | ok fl =>
    cases fl with
    | ret u => exact I.after hq
    | next => exact False.elim hq
    | brk => exact False.elim hq
    | cont => exact False.elim hq
/-- a call, what is raised wished for at the slots -/
theorem pe_callP (F : FnP G X.prog X.w X.K X.mg X.base CX k f fd ps sp) (hr : RoomH k X.A) (hG : G X.A) (hg : Gl X x) (hm : X.mg x = some (.ref f)) (hk : PySem.W.keepIn X.K (.ref f) = true) (hb : Binds X.K fd ps ds) (hd : Vals dvs ds) (hx : ∀ σ, PassesAt CX X σ (E σ))
    (ha : PA X (e :: es) t) (hdb : (x == ("__debug__" : Str)) = false := by decide) (he : starEach (e :: es) X.env = (false, eval e X.env) :: starEach es X.env := by rfl) (hpl : (backTo pos (starEach es X.env)).any (·.1) = false := by rfl) :
    PE X (.Call (.Name x p) (e :: es) [] pos) (fun σ H Q => t σ H fun vs H1 => sp (vs ++ dvs) H1 Q (E σ)) := by
  refine ⟨fun pins s σ H Q I h => ?_⟩
  refine wpAny_Call_Name_kw (ld_glob I hg hm ?_ hdb)
  refine PySem.W.callWith_K (h₀ := X.base) I.ok.mod.kin hk (thn (ha.run pos pins s σ H _ I h) fun us s1 ⟨vs, H1, I1, r, q⟩ => ⟨I1.kIn, ?_⟩) he hpl
  exact run_fnP F hr hG hb hd (hx σ) I1 r q
end
end DL
end
section
/-! DL1: data in a frozen part of the heap; steps that keep it; evaluation of readings to data. -/
namespace DL
open PySem PySem.Spec PyProof.Rows L2

/-! ### data that stands in F -/
mutual
inductive Da (F : Hp) : V → PyData → Prop
  | non : Da F .non .none
  | bl (b : Bool) : Da F (.bl b) (.bool b)
  | int (i : Int) : Da F (.int i) (.int i)
  | str (x : Str) : Da F (.str x) (.str x)
  | lst {a : Addr} {xs : List V} {ds : List PyData} : F a = some (.lst xs) → DaL F xs ds → Da F (.ref a) (.list ds)
  | tup {a : Addr} {xs : List V} {ds : List PyData} : F a = some (.tup xs) → DaL F xs ds → Da F (.ref a) (.tuple ds)
inductive DaL (F : Hp) : List V → List PyData → Prop
  | nil : DaL F [] []
  | cons {v : V} {vs : List V} {d : PyData} {ds : List PyData} : Da F v d → DaL F vs ds → DaL F (v :: vs) (d :: ds)
end

mutual
theorem Da.mono {F F' : Hp} (e : Same F F') : ∀ (d : PyData) {v : V}, Da F v d → Da F' v d
  | .none, _, h => by cases h; exact .non
  | .bool b, _, h => by cases h; exact .bl b
  | .int i, _, h => by cases h; exact .int i
  | .str x, _, h => by cases h; exact .str x
  | .list ds, _, h => by
    cases h with
    | lst hs ha => exact .lst (e _ _ hs) (DaL.mono e ds ha)
  | .tuple ds, _, h => by
    cases h with
    | tup hs ha => exact .tup (e _ _ hs) (DaL.mono e ds ha)
  | .dict _, _, h => by cases h
theorem DaL.mono {F F' : Hp} (e : Same F F') : ∀ (ds : List PyData) {vs : List V}, DaL F vs ds → DaL F' vs ds
  | [], _, h => by cases h; exact .nil
  | d :: ds, _, h => by
    cases h with
    | cons h1 h2 => exact .cons (Da.mono e d h1) (DaL.mono e ds h2)
end
mutual
theorem Da.dp {K : PySem.W.Frag} {F : Hp} : ∀ (d : PyData) {v : V}, Da F v d → Dp K F v d
  | .none, _, h => by cases h; exact .non
  | .bool b, _, h => by cases h; exact .bl b
  | .int i, _, h => by cases h; exact .int i
  | .str x, _, h => by cases h; exact .str x
  | .list ds, _, h => by
    cases h with
    | lst hs ha => exact .lst (.inl (.inl hs)) (DaL.dp ds ha)
  | .tuple ds, _, h => by
    cases h with
    | tup hs ha => exact .tup (.inl (.inl hs)) (DaL.dp ds ha)
  | .dict _, _, h => by cases h
theorem DaL.dp {K : PySem.W.Frag} {F : Hp} : ∀ (ds : List PyData) {vs : List V}, DaL F vs ds → DpAll K F vs ds
  | [], _, h => by cases h; exact .nil
  | d :: ds, _, h => by
    cases h with
    | cons h1 h2 => exact .cons (Da.dp d h1) (DaL.dp ds h2)
end
theorem DaL.length {F : Hp} : ∀ {ds : List PyData} {vs : List V}, DaL F vs ds → vs.length = ds.length
  | [], _, h => by cases h; rfl
  | _ :: ds, _, h => by
    cases h with
    | cons h1 h2 => rw [List.length_cons, List.length_cons, DaL.length h2]
theorem DaL.append {F : Hp} : ∀ {ds es : List PyData} {vs us : List V}, DaL F vs ds → DaL F us es → DaL F (vs ++ us) (ds ++ es)
  | [], _, _, _, h, h' => by cases h; exact h'
  | _ :: ds, _, _, _, h, h' => by
    cases h with
    | cons h1 h2 => exact .cons h1 (DaL.append h2 h')
theorem DaL.take {F : Hp} : ∀ {ds : List PyData} {vs : List V} (n : Nat), DaL F vs ds → DaL F (vs.take n) (ds.take n)
  | [], _, n, h => by cases h; rw [List.take_nil, List.take_nil]; exact .nil
  | _ :: ds, _, 0, h => by rw [List.take_zero, List.take_zero]; exact .nil
  | _ :: ds, _, n + 1, h => by
    cases h with
    | cons h1 h2 => rw [List.take_succ_cons, List.take_succ_cons]; exact .cons h1 (DaL.take n h2)
theorem DaL.drop {F : Hp} : ∀ {ds : List PyData} {vs : List V} (n : Nat), DaL F vs ds → DaL F (vs.drop n) (ds.drop n)
  | [], _, n, h => by cases h; rw [List.drop_nil, List.drop_nil]; exact .nil
  | _ :: ds, _, 0, h => h
  | _ :: ds, _, n + 1, h => by
    cases h with
    | cons h1 h2 => rw [List.drop_succ_cons, List.drop_succ_cons]; exact DaL.drop n h2
theorem DaL.get {F : Hp} : ∀ {ds : List PyData} {vs : List V} {i : Nat} {d : PyData}, DaL F vs ds → ds[i]? = some d → ∃ v, vs[i]? = some v ∧ Da F v d
  | [], _, _, _, _, e => by rw [List.getElem?_nil] at e; cases e
  | _ :: ds, _, 0, d, h, e => by
    cases h with
    | cons h1 h2 =>
      rw [List.getElem?_cons_zero] at e
      cases e
      exact ⟨_, List.getElem?_cons_zero, h1⟩
  | _ :: ds, _, i + 1, d, h, e => by
    cases h with
    | cons h1 h2 =>
      rw [List.getElem?_cons_succ] at e
      obtain ⟨v, hv, hd⟩ := DaL.get h2 e
      exact ⟨v, by rw [List.getElem?_cons_succ]; exact hv, hd⟩
theorem DaL.getV {F : Hp} : ∀ {ds : List PyData} {vs : List V} {i : Nat} {v : V}, DaL F vs ds → vs[i]? = some v → ∃ d, ds[i]? = some d ∧ Da F v d
  | [], _, _, _, h, e => by cases h; rw [List.getElem?_nil] at e; cases e
  | _ :: ds, _, 0, v, h, e => by
    cases h with
    | cons h1 h2 =>
      rw [List.getElem?_cons_zero] at e
      cases e
      exact ⟨_, List.getElem?_cons_zero, h1⟩
  | _ :: ds, _, i + 1, v, h, e => by
    cases h with
    | cons h1 h2 =>
      rw [List.getElem?_cons_succ] at e
      obtain ⟨d, hv, hd⟩ := DaL.getV h2 e
      exact ⟨d, by rw [List.getElem?_cons_succ]; exact hv, hd⟩
theorem DaL.set {F : Hp} : ∀ {ds : List PyData} {vs : List V} (i : Nat) {v : V} {d : PyData}, DaL F vs ds → Da F v d → DaL F (vs.set i v) (ds.set i d)
  | [], _, _, _, _, h, _ => by cases h; exact .nil
  | _ :: ds, _, 0, _, _, h, h' => by
    cases h with
    | cons h1 h2 => exact .cons h' h2
  | _ :: ds, _, i + 1, _, _, h, h' => by
    cases h with
    | cons h1 h2 => exact .cons h1 (DaL.set i h2 h')
theorem DaL.eraseIdx {F : Hp} : ∀ {ds : List PyData} {vs : List V} (i : Nat), DaL F vs ds → DaL F (vs.eraseIdx i) (ds.eraseIdx i)
  | [], _, _, h => by cases h; exact .nil
  | _ :: ds, _, 0, h => by
    cases h with
    | cons h1 h2 => exact h2
  | _ :: ds, _, i + 1, h => by
    cases h with
    | cons h1 h2 => exact .cons h1 (DaL.eraseIdx i h2)
theorem DaL.map {F : Hp} {α : Type} {g : α → V} {k : α → PyData} : ∀ (l : List α), (∀ a ∈ l, Da F (g a) (k a)) → DaL F (l.map g) (l.map k)
  | [], _ => .nil
  | a :: l, h => .cons (h a List.mem_cons_self) (DaL.map l fun b hb => h b (List.mem_cons_of_mem _ hb))
theorem DaL.ints {F : Hp} (l : List Int) : DaL F (l.map V.int) (l.map PyData.int) := DaL.map l fun a _ => .int a

/-! ### what may change: B; what holds of it: Tp -/
structure Wd where
  B : Addr → Prop
  Tp : Hp → Prop
  loc : ∀ {H H' : Hp}, (∀ a, B a → H' a = H a) → Tp H → Tp H'
  trk : ∀ {H : Hp}, Tp H → ∀ a, B a → H a ≠ none
/-- nothing changes -/
def W0 : Wd := ⟨fun _ => False, fun _ => True, fun _ _ => trivial, fun _ _ h => h.elim⟩
structure Stt (W : Wd) (F H : Hp) : Prop where
  inc : Same F H
  off : ∀ a, W.B a → F a = none
  tp : W.Tp H
structure Go (W : Wd) (F H F' H' : Hp) : Prop where
  ext : Same F F'
  new : ∀ a, F' a ≠ none → F a = none → H a = none
  keep : ∀ a o, H a = some o → ¬ W.B a → H' a = some o
  st : Stt W F' H'
section
variable {W : Wd} {F H F1 H1 F2 H2 F' H' : Hp}
theorem Stt.zero (h : Same F H) : Stt W0 F H := ⟨h, fun _ z => z.elim, trivial⟩
theorem Go.refl (s : Stt W F H) : Go W F H F H := ⟨Same.refl F, fun a h1 h2 => absurd h2 h1, fun _ _ e _ => e, s⟩
theorem Go.trans (a : Go W F H F1 H1) (b : Go W F1 H1 F2 H2) : Go W F H F2 H2 := by
  refine ⟨a.ext.trans b.ext, fun x h2 h0 => ?_, fun x o e n => b.keep x o (a.keep x o e n) n, b.st⟩
  by_cases h1 : F1 x = none
  · have e1 := b.new x h2 h1
    cases e : H x with
    | none => rfl
    | some o =>
      by_cases hb : W.B x
      · exact absurd e1 (W.trk a.st.tp x hb)
      · rw [a.keep x o e hb] at e1
        cases e1
  · exact a.new x h1 h0
/-- a quiet step is a step -/
theorem Go.of0 (s : Stt W F H) (g : Go W0 F H F' H') : Go W F H F' H' := by
  refine ⟨g.ext, g.new, fun a o e _ => g.keep a o e (fun z => z), g.st.inc, fun a hb => ?_, W.loc (fun a hb => ?_) s.tp⟩
  · cases e : F' a with
    | none => rfl
    | some o =>
      exact absurd (g.new a (by rw [e]; exact fun z => nomatch z) (s.off a hb)) (W.trk s.tp a hb)
  · cases e : H a with
    | none => exact absurd e (W.trk s.tp a hb)
    | some o => exact g.keep a o e fun z => z
theorem Go.same0 (g : Go W0 F H F' H') : Same H H' := fun a o e => g.keep a o e fun z => z
theorem ne_B (hp : H1 = H1) {p : Addr} (s : Stt W F H) (h : H p = none) : ∀ a, W.B a → a ≠ p := fun a hb z => W.trk s.tp a hb (by rw [z]; exact h)
/-- a new object, frozen at once -/
theorem Go.lay {p : Addr} {o : HO} (s : Stt W F H) (h : H p = none) : Go W F H (upd F p o) (upd H p o) := by
  have hF : F p = none := by
    cases e : F p with
    | none => rfl
    | some u => rw [s.inc p u e] at h; cases h
  refine ⟨fun a u e => ?_, fun a h1 h2 => ?_, fun a u e _ => ?_, fun a u e => ?_, fun a hb => ?_, W.loc (fun a hb => ?_) s.tp⟩
  · rw [upd_ne (ne_of_none e hF)]; exact e
  · by_cases ha : a = p
    · rw [ha]; exact h
    · rw [upd_ne ha] at h1; exact absurd h2 h1
  · rw [upd_ne (ne_of_none e h)]; exact e
  · by_cases ha : a = p
    · rw [ha, upd_same] at e; rw [ha, upd_same]; exact e
    · rw [upd_ne ha] at e; rw [upd_ne ha]; exact s.inc a u e
  · have ha : a ≠ p := fun z => W.trk s.tp a hb (by rw [z]; exact h)
    rw [upd_ne ha]; exact s.off a hb
  · have ha : a ≠ p := fun z => W.trk s.tp a hb (by rw [z]; exact h)
    rw [upd_ne ha]
/-- a new object that is not frozen -/
theorem Go.lay' {p : Addr} {o : HO} (s : Stt W F H) (h : H p = none) : Go W F H F (upd H p o) := by
  refine ⟨Same.refl F, fun a h1 h2 => absurd h2 h1, fun a u e _ => ?_, fun a u e => ?_, s.off, W.loc (fun a hb => ?_) s.tp⟩
  · rw [upd_ne (ne_of_none e h)]; exact e
  · rw [upd_ne (ne_of_none (s.inc a u e) h)]; exact s.inc a u e
  · have ha : a ≠ p := fun z => W.trk s.tp a hb (by rw [z]; exact h)
    rw [upd_ne ha]
/-- an object that stood not at the start and is not frozen is changed -/
theorem Go.mut {p : Addr} {o : HO} (g : Go W F H F' H') (s : Stt W F H) (h : H p = none) (hF : F' p = none) : Go W F H F' (upd H' p o) := by
  refine ⟨g.ext, g.new, fun a u e n => ?_, fun a u e => ?_, g.st.off, W.loc (fun a hb => ?_) g.st.tp⟩
  · rw [upd_ne (ne_of_none e h)]; exact g.keep a u e n
  · rw [upd_ne (ne_of_none e hF)]; exact g.st.inc a u e
  · have ha : a ≠ p := fun z => W.trk s.tp a hb (by rw [z]; exact h)
    rw [upd_ne ha]
/-- what is not frozen is frozen (it stood not at the start) -/
theorem Go.freeze {p : Addr} {o : HO} (g : Go W F H F' H') (s : Stt W F H) (h : H p = none) (hF : F' p = none) (hp : H' p = some o) : Go W F H (upd F' p o) H' := by
  refine ⟨fun a u e => ?_, fun a h1 h2 => ?_, g.keep, fun a u e => ?_, fun a hb => ?_, g.st.tp⟩
  · rw [upd_ne (ne_of_none (g.ext a u e) hF)]; exact g.ext a u e
  · by_cases ha : a = p
    · rw [ha]; exact h
    · rw [upd_ne ha] at h1; exact g.new a h1 h2
  · by_cases ha : a = p
    · rw [ha, upd_same] at e; rw [ha, hp]; exact e
    · rw [upd_ne ha] at e; exact g.st.inc a u e
  · have ha : a ≠ p := fun z => W.trk s.tp a hb (by rw [z]; exact h)
    rw [upd_ne ha]; exact g.st.off a hb
theorem same_lay {p : Addr} {o : HO} (h : F p = none) : Same F (upd F p o) := fun a u e => by
  rw [upd_ne (ne_of_none e h)]; exact e
theorem Stt.fresh {p : Addr} (s : Stt W F H) (h : H p = none) : F p = none := by
  cases e : F p with
  | none => rfl
  | some u => rw [s.inc p u e] at h; cases h
/-- what is new behind a step was new ahead of it -/
theorem Go.back {p : Addr} (g : Go W F H F' H') (h : H' p = none) : H p = none := by
  cases e : H p with
  | none => rfl
  | some o =>
    by_cases hb : W.B p
    · exact absurd h (W.trk g.st.tp p hb)
    · rw [g.keep p o e hb] at h; cases h
/-- an address that is tracked and not frozen stays not frozen -/
theorem Go.un {p : Addr} {o : HO} (g : Go W F H F' H') (h : H p = some o) (hF : F p = none) : F' p = none := by
  cases e : F' p with
  | none => rfl
  | some u =>
    have := g.new p (by rw [e]; exact fun z => nomatch z) hF
    rw [h] at this
    cases this
end
end DL
end
section
/-! DL2: readings evaluated to data. -/
namespace DL
open PySem PySem.Spec PyProof.Rows L2

/-- from every later state the reading hands on a value that is some data d with P d -/
def EvR (W : Wd) (F H : Hp) (te : TE) (σ : L2.St) (P : PyData → Prop) : Prop :=
  ∀ F1 H1, Go W F H F1 H1 → ∀ Q : VK, (∀ v d F2 H2, Go W F1 H1 F2 H2 → Da F2 v d → P d → Q v H2) → te σ H1 Q
abbrev EvD (W : Wd) (F H : Hp) (te : TE) (σ : L2.St) (d : PyData) : Prop := EvR W F H te σ (fun e => e = d)
def EvA (W : Wd) (F H : Hp) (ta : TA) (σ : L2.St) (P : List PyData → Prop) : Prop :=
  ∀ F1 H1, Go W F H F1 H1 → ∀ Q : List V → Hp → Prop, (∀ vs ds F2 H2, Go W F1 H1 F2 H2 → DaL F2 vs ds → P ds → Q vs H2) → ta σ H1 Q
abbrev EvAD (W : Wd) (F H : Hp) (ta : TA) (σ : L2.St) (ds : List PyData) : Prop := EvA W F H ta σ (fun es => es = ds)
def EvT (W : Wd) (F H : Hp) (tt : TT) (σ : L2.St) (P : Bool → Prop) : Prop :=
  ∀ F1 H1, Go W F H F1 H1 → ∀ Q : Bool → Hp → Prop, (∀ b F2 H2, Go W F1 H1 F2 H2 → P b → Q b H2) → tt σ H1 Q
abbrev EvB (W : Wd) (F H : Hp) (tt : TT) (σ : L2.St) (b : Bool) : Prop := EvT W F H tt σ (fun c => c = b)
/-- a fresh list that is not frozen -/
def EvL (W : Wd) (F H : Hp) (te : TE) (σ : L2.St) (P : List PyData → Prop) : Prop :=
  ∀ F1 H1, Go W F H F1 H1 → ∀ Q : VK, (∀ l vs ds F2 H2, Go W F1 H1 F2 H2 → H1 l = none → F2 l = none → H2 l = some (.lst vs) → DaL F2 vs ds → P ds → Q (.ref l) H2) → te σ H1 Q
section
variable {W : Wd} {F H F' H' : Hp} {σ : L2.St} {te ta tb tc : TE} {tt tu : TT} {d a b c : PyData} {P A B : PyData → Prop}
theorem EvR.later (g : Go W F H F' H') (h : EvR W F H te σ P) : EvR W F' H' te σ P := fun F1 H1 g1 Q q => h F1 H1 (g.trans g1) Q q
theorem EvT.later {P : Bool → Prop} (g : Go W F H F' H') (h : EvT W F H tt σ P) : EvT W F' H' tt σ P := fun F1 H1 g1 Q q => h F1 H1 (g.trans g1) Q q
theorem EvR.imp {P' : PyData → Prop} (h : EvR W F H te σ P) (i : ∀ d, P d → P' d) : EvR W F H te σ P' := fun F1 H1 g Q q => h F1 H1 g Q fun v d F2 H2 g2 hd hp => q v d F2 H2 g2 hd (i d hp)
theorem EvD.of {P : PyData → Prop} (h : EvD W F H te σ d) (hp : P d) : EvR W F H te σ P := h.imp fun e z => by rw [z]; exact hp
theorem EvD.cast {e : PyData} (h : EvD W F H te σ d) (z : d = e) : EvD W F H te σ e := by rw [← z]; exact h
theorem EvB.cast {x y : Bool} (h : EvB W F H tt σ x) (z : x = y) : EvB W F H tt σ y := by rw [← z]; exact h
theorem EvT.imp {P P' : Bool → Prop} (h : EvT W F H tt σ P) (i : ∀ d, P d → P' d) : EvT W F H tt σ P' := fun F1 H1 g Q q => h F1 H1 g Q fun b F2 H2 g2 hp => q b F2 H2 g2 (i b hp)
/-- a quiet evaluation in a world with a tape -/
theorem EvR.of0 (h : ∀ F1 H1, Go W F H F1 H1 → EvR W0 F1 H1 te σ P) : EvR W F H te σ P := fun F1 H1 g Q q =>
  h F1 H1 g F1 H1 (Go.refl (Stt.zero g.st.inc)) Q fun v d F2 H2 g2 hd hp => q v d F2 H2 (Go.of0 g.st g2) hd hp
/-- a list that is made is data -/
theorem EvL.data {P : List PyData → Prop} (h : EvL W F H te σ P) : EvR W F H te σ (fun d => ∃ ds, d = .list ds ∧ P ds) := fun F1 H1 g Q q =>
  h F1 H1 g Q fun l vs ds F2 H2 g2 n1 n2 hl hd hp => q _ _ _ _ (g2.freeze g.st n1 n2 hl) (.lst upd_same (DaL.mono (same_lay n2) ds hd)) ⟨ds, rfl, hp⟩

theorem ev_var {i : Nat} {v : V} (h : σ[i]? = some (some v)) (hd : Da F v d) : EvD W F H (tVar i) σ d := fun F1 H1 g Q q => ⟨v, h, q v d F1 H1 (Go.refl g.st) (Da.mono g.ext d hd) rfl⟩
theorem ev_int {i : Int} : EvD W F H (tC (.int i)) σ (.int i) := fun F1 H1 g Q q => q _ _ F1 H1 (Go.refl g.st) (.int i) rfl
theorem ev_str {x : Str} : EvD W F H (tC (.str x)) σ (.str x) := fun F1 H1 g Q q => q _ _ F1 H1 (Go.refl g.st) (.str x) rfl
theorem ev_bl {x : Bool} : EvD W F H (tC (.bl x)) σ (.bool x) := fun F1 H1 g Q q => q _ _ F1 H1 (Go.refl g.st) (.bl x) rfl
theorem ev_non : EvD W F H (tC .non) σ .none := fun F1 H1 g Q q => q _ _ F1 H1 (Go.refl g.st) .non rfl

/-- what an operation on values does, from a state -/
def RvD (W : Wd) (F H : Hp) (r : R2) (x y : V) (P : PyData → Prop) : Prop := ∀ Q : VK, (∀ v d F2 H2, Go W F H F2 H2 → Da F2 v d → P d → Q v H2) → r x y H Q
theorem ev_op {r : R2} (ha : EvR W F H ta σ A) (hb : EvR W F H tb σ B)
    (hr : ∀ x y a b F1 H1, Go W F H F1 H1 → Da F1 x a → Da F1 y b → A a → B b → RvD W F1 H1 r x y P) : EvR W F H (tOp r ta tb) σ P := fun F1 H1 g Q q =>
  ha F1 H1 g _ fun x a F2 H2 g2 da pa => hb F2 H2 (g.trans g2) _ fun y b F3 H3 g3 db pb =>
    hr x y a b F3 H3 ((g.trans g2).trans g3) (Da.mono g3.ext a da) db pa pb Q fun v d F4 H4 g4 hd hp => q v d F4 H4 ((g2.trans g3).trans g4) hd hp
theorem ev_un {r : V → Hp → VK → Prop} (ha : EvR W F H ta σ A) (hr : ∀ x a F1 H1, Go W F H F1 H1 → Da F1 x a → A a → ∀ Q : VK, (∀ v d F2 H2, Go W F1 H1 F2 H2 → Da F2 v d → P d → Q v H2) → r x H1 Q) : EvR W F H (tUn r ta) σ P := fun F1 H1 g Q q =>
  ha F1 H1 g _ fun x a F2 H2 g2 da pa => hr x a F2 H2 (g.trans g2) da pa Q fun v d F4 H4 g4 hd hp => q v d F4 H4 (g2.trans g4) hd hp
theorem rv_now {r : R2} {x y v : V} (st : Stt W F H) (h : ∀ Q : VK, Q v H → r x y H Q) (hd : Da F v d) (hp : P d) : RvD W F H r x y P := fun Q q => h Q (q v d F H (Go.refl st) hd hp)

/-! ### ints -/
theorem Da.int' {F : Hp} {v : V} {i : Int} (h : Da F v (.int i)) : v = .int i := by cases h; rfl
theorem Da.bl' {F : Hp} {v : V} {i : Bool} (h : Da F v (.bool i)) : v = .bl i := by cases h; rfl
theorem Da.str' {F : Hp} {v : V} {i : Str} (h : Da F v (.str i)) : v = .str i := by cases h; rfl
theorem Da.non' {F : Hp} {v : V} (h : Da F v .none) : v = .non := by cases h; rfl
theorem Da.tup' {F : Hp} {v : V} {ds : List PyData} (h : Da F v (.tuple ds)) : ∃ a xs, v = .ref a ∧ F a = some (.tup xs) ∧ DaL F xs ds := by cases h with | tup h1 h2 => exact ⟨_, _, rfl, h1, h2⟩
theorem Da.lst' {F : Hp} {v : V} {ds : List PyData} (h : Da F v (.list ds)) : ∃ a xs, v = .ref a ∧ F a = some (.lst xs) ∧ DaL F xs ds := by cases h with | lst h1 h2 => exact ⟨_, _, rfl, h1, h2⟩
theorem ev_opI {C : Int → Int → Prop} {f : Int → Int → Int} {i j : Int} (ha : EvD W F H ta σ (.int i)) (hb : EvD W F H tb σ (.int j)) (hc : C i j) : EvD W F H (tOp (rI C fun i j => .int (f i j)) ta tb) σ (.int (f i j)) :=
  ev_op ha hb fun x y a b F1 H1 g da db ea eb => by
    subst ea eb
    rw [da.int', db.int']
    exact rv_now g.st (fun Q q => ⟨i, j, rfl, rfl, hc, q⟩) (.int _) rfl
theorem ev_opI0 {f : Int → Int → Int} {i j : Int} (ha : EvD W F H ta σ (.int i)) (hb : EvD W F H tb σ (.int j)) : EvD W F H (tOp (rI0 fun i j => .int (f i j)) ta tb) σ (.int (f i j)) :=
  ev_op ha hb fun x y a b F1 H1 g da db ea eb => by
    subst ea eb
    rw [da.int', db.int']
    exact rv_now g.st (fun Q q => ⟨i, j, rfl, rfl, q⟩) (.int _) rfl
theorem ev_opB0 {f : Int → Int → Bool} {i j : Int} (ha : EvD W F H ta σ (.int i)) (hb : EvD W F H tb σ (.int j)) : EvD W F H (tOp (rI0 fun i j => .bl (f i j)) ta tb) σ (.bool (f i j)) :=
  ev_op ha hb fun x y a b F1 H1 g da db ea eb => by
    subst ea eb
    rw [da.int', db.int']
    exact rv_now g.st (fun Q q => ⟨i, j, rfl, rfl, q⟩) (.bl _) rfl
theorem ev_neg {i : Int} (ha : EvD W F H ta σ (.int i)) : EvD W F H (tUn (rU fun i => .int (-i)) ta) σ (.int (-i)) :=
  ev_un ha fun x a F1 H1 g da ea Q q => by
    subst ea
    rw [da.int']
    exact ⟨i, rfl, q _ _ F1 H1 (Go.refl g.st) (.int _) rfl⟩

/-! ### == and != of any data -/
theorem ev_eqD {K : PySem.W.Frag} (ha : EvD W F H ta σ a) (hb : EvD W F H tb σ b) (sa : SeqAt.shaped a = true) (sb : SeqAt.shaped b = true) : EvD W F H (tOp (rEqD K) ta tb) σ (.bool (PyData.eqv a b)) :=
  ev_op ha hb fun x y a' b' F1 H1 g da db ea eb => by
    subst ea eb
    exact rv_now g.st (fun Q q => ⟨a', b', Da.dp a' (Da.mono g.st.inc a' da), Da.dp b' (Da.mono g.st.inc b' db), sa, sb, q⟩) (.bl _) rfl
theorem ev_neD {K : PySem.W.Frag} (ha : EvD W F H ta σ a) (hb : EvD W F H tb σ b) (sa : SeqAt.shaped a = true) (sb : SeqAt.shaped b = true) : EvD W F H (tOp (rNeD K) ta tb) σ (.bool (!PyData.eqv a b)) :=
  ev_op ha hb fun x y a' b' F1 H1 g da db ea eb => by
    subst ea eb
    exact rv_now g.st (fun Q q => ⟨a', b', Da.dp a' (Da.mono g.st.inc a' da), Da.dp b' (Da.mono g.st.inc b' db), sa, sb, q⟩) (.bl _) rfl
/-- is None, is not None -/
def rIsN : R2 := fun x y H Q => y = .non ∧ Q (.bl (decide (x = .non))) H
def rNotN : R2 := fun x y H Q => y = .non ∧ Q (.bl (!decide (x = .non))) H
def isNone : PyData → Bool
  | .none => true
  | _ => false
theorem Da.isNone {F : Hp} {v : V} {d : PyData} (h : Da F v d) : decide (v = V.non) = isNone d := by cases h <;> rfl
theorem ev_isN (ha : EvD W F H ta σ a) : EvD W F H (tOp rIsN ta (tC .non)) σ (.bool (isNone a)) :=
  ev_op ha ev_non fun x y a' b' F1 H1 g da db ea eb => by
    subst ea eb
    rw [db.non']
    exact rv_now g.st (fun Q q => ⟨rfl, q⟩) (by rw [da.isNone]; exact .bl _) rfl
theorem ev_notN (ha : EvD W F H ta σ a) : EvD W F H (tOp rNotN ta (tC .non)) σ (.bool (!isNone a)) :=
  ev_op ha ev_non fun x y a' b' F1 H1 g da db ea eb => by
    subst ea eb
    rw [db.non']
    exact rv_now g.st (fun Q q => ⟨rfl, q⟩) (by rw [da.isNone]; exact .bl _) rfl

/-! ### subscripts: a list, a tuple, a text -/
def rIxU (K : PySem.W.Frag) : R2 := fun x y H Q => rIxT K x y H Q ∨ (rIxL K x y H Q ∨ rIxS x y H Q)
theorem ix_u {X : Cx} : IxR X (rIxU X.K) := IxR.or ix_tup (IxR.or ix_list ix_str)
theorem ixN_lt {n j : Nat} {i : Int} (h : ixN n i = some j) : j < n := by
  unfold ixN at h
  split at h
  · split at h
    · cases h; omega
    · cases h
  · split at h
    · cases h; omega
    · cases h
theorem atI_ix {α : Type} {xs : List α} {i : Int} {x : α} (h : atI xs i = some x) : ∃ j, ixN xs.length i = some j ∧ xs[j]? = some x := by
  unfold atI at h
  cases e : ixN xs.length i with
  | none => rw [e] at h; cases h
  | some j => rw [e] at h; exact ⟨j, rfl, h⟩
theorem atI_of {α : Type} {xs : List α} {i : Int} {x : α} {j : Nat} (h : ixN xs.length i = some j) (g : xs[j]? = some x) : atI xs i = some x := by
  unfold atI
  rw [h]
  exact g
theorem DaL.at {F : Hp} {ds : List PyData} {vs : List V} {i : Int} {d : PyData} (h : DaL F vs ds) (e : atI ds i = some d) : ∃ v, atI vs i = some v ∧ Da F v d := by
  obtain ⟨j, h1, h2⟩ := atI_ix e
  obtain ⟨v, h3, h4⟩ := h.get h2
  exact ⟨v, atI_of (by rw [h.length]; exact h1) h3, h4⟩
theorem ev_ixT {K : PySem.W.Frag} {ds : List PyData} {i : Int} (ha : EvD W F H ta σ (.tuple ds)) (hb : EvD W F H tb σ (.int i)) (e : atI ds i = some d) : EvD W F H (tOp (rIxU K) ta tb) σ d :=
  ev_op ha hb fun x y a' b' F1 H1 g da db ea eb => by
    subst ea eb
    obtain ⟨p, xs, rfl, hp, hl⟩ := da.tup'
    rw [db.int']
    obtain ⟨v, hv, hd⟩ := hl.at e
    exact rv_now g.st (fun Q q => .inl ⟨p, xs, i, v, rfl, rfl, .inl (.inl (g.st.inc _ _ hp)), hv, q⟩) hd rfl
theorem ev_ixL {K : PySem.W.Frag} {ds : List PyData} {i : Int} (ha : EvD W F H ta σ (.list ds)) (hb : EvD W F H tb σ (.int i)) (e : atI ds i = some d) : EvD W F H (tOp (rIxU K) ta tb) σ d :=
  ev_op ha hb fun x y a' b' F1 H1 g da db ea eb => by
    subst ea eb
    obtain ⟨p, xs, rfl, hp, hl⟩ := da.lst'
    rw [db.int']
    obtain ⟨v, hv, hd⟩ := hl.at e
    exact rv_now g.st (fun Q q => .inr (.inl ⟨p, xs, i, v, rfl, rfl, .inl (.inl (g.st.inc _ _ hp)), hv, q⟩)) hd rfl
theorem ev_ixS {K : PySem.W.Frag} {x : Str} {i : Int} {n : Nat} (ha : EvD W F H ta σ (.str x)) (hb : EvD W F H tb σ (.int i)) (hz : x.length ≤ sizeLine) (e : atI x.cps.toList i = some n) : EvD W F H (tOp (rIxU K) ta tb) σ (.str ⟨#[n]⟩) :=
  ev_op ha hb fun x' y a' b' F1 H1 g da db ea eb => by
    subst ea eb
    rw [da.str', db.int']
    exact rv_now g.st (fun Q q => .inr (.inr ⟨x, i, n, rfl, rfl, hz, e, q⟩)) (.str _) rfl

/-! ### displays, arguments -/
theorem ea_nil : EvAD W F H tNil σ [] := fun F1 H1 g Q q => q [] [] F1 H1 (Go.refl g.st) .nil rfl
theorem ea_cons {tr : TA} {ds : List PyData} (ha : EvD W F H ta σ a) (hr : EvAD W F H tr σ ds) : EvAD W F H (tCons ta tr) σ (a :: ds) := fun F1 H1 g Q q =>
  ha F1 H1 g _ fun v d F2 H2 g2 hd ed => hr F2 H2 (g.trans g2) _ fun vs es F3 H3 g3 hl el =>
    q (v :: vs) (d :: es) F3 H3 (g2.trans g3) (.cons (Da.mono g3.ext d hd) hl) (by rw [ed, el])
theorem ea_consR {tr : TA} {A : PyData → Prop} {B P : List PyData → Prop} (ha : EvR W F H ta σ A) (hr : EvA W F H tr σ B) (hp : ∀ a ds, A a → B ds → P (a :: ds)) : EvA W F H (tCons ta tr) σ P := fun F1 H1 g Q q =>
  ha F1 H1 g _ fun v d F2 H2 g2 hd ed => hr F2 H2 (g.trans g2) _ fun vs es F3 H3 g3 hl el =>
    q (v :: vs) (d :: es) F3 H3 (g2.trans g3) (.cons (Da.mono g3.ext d hd) hl) (hp d es ed el)
theorem sz1000 {n : Nat} (h : n ≤ 100000) : n ≤ sizeLine := Nat.le_trans h (by rw [sizeLine_eq]; decide)
theorem ev_tupR {t : TA} {A : List PyData → Prop} (h : EvA W F H t σ A) (hz : ∀ ds, A ds → ds.length ≤ 100000) : EvR W F H (tTup t) σ (fun d => ∃ ds, d = .tuple ds ∧ A ds) := fun F1 H1 g Q q =>
  h F1 H1 g _ fun vs ds F2 H2 g2 hl pa => ⟨by rw [hl.length]; exact sz1000 (hz ds pa), fun p hp =>
    q (.ref p) _ _ _ (g2.trans (Go.lay g2.st hp)) (.tup upd_same (DaL.mono (same_lay (g2.st.fresh hp)) ds hl)) ⟨ds, rfl, pa⟩⟩
theorem ev_tup {t : TA} {ds : List PyData} (h : EvAD W F H t σ ds) (hz : ds.length ≤ 100000) : EvD W F H (tTup t) σ (.tuple ds) :=
  (ev_tupR h fun es e => by rw [e]; exact hz).imp fun d ⟨es, e, e2⟩ => by rw [e, e2]
theorem evl_lst {t : TA} {A : List PyData → Prop} (h : EvA W F H t σ A) (hz : ∀ ds, A ds → ds.length ≤ 100000) : EvL W F H (tLst t) σ A := fun F1 H1 g Q q =>
  h F1 H1 g _ fun vs ds F2 H2 g2 hl pa => ⟨by rw [hl.length]; exact sz1000 (hz ds pa), fun p hp => by
    have h1 : H1 p = none := by
      cases e : H1 p with
      | none => rfl
      | some o =>
        by_cases hb : W.B p
        · exact absurd hp (W.trk g2.st.tp p hb)
        · rw [g2.keep p o e hb] at hp; cases hp
    exact q p vs ds F2 _ (g2.trans (Go.lay' g2.st hp)) h1 (g2.st.fresh hp) upd_same hl pa⟩
theorem ev_lst {t : TA} {ds : List PyData} (h : EvAD W F H t σ ds) (hz : ds.length ≤ 100000) : EvD W F H (tLst t) σ (.list ds) :=
  (EvL.data (evl_lst h fun es e => by rw [e]; exact hz)).imp fun d ⟨es, e, e2⟩ => by rw [e, e2]

/-! ### tests -/
theorem et_test {x : Bool} (h : EvD W F H te σ (.bool x)) : EvB W F H (tTest te) σ x := fun F1 H1 g Q q => h F1 H1 g _ fun v d F2 H2 g2 hd ed => by
  subst ed
  exact ⟨x, hd.bl', q x F2 H2 g2 rfl⟩
theorem et_B {x : Bool} (h : EvD W F H te σ (.bool x)) : EvB W F H (tB te) σ x := fun F1 H1 g Q q => h F1 H1 g _ fun v d F2 H2 g2 hd ed => by
  subst ed
  exact ⟨x, hd.bl', q x F2 H2 g2 rfl⟩
theorem et_and {x y : Bool} (h1 : EvB W F H tt σ x) (h2 : x = true → EvB W F H tu σ y) : EvB W F H (tAnd tt tu) σ (x && y) := fun F1 H1 g Q q => h1 F1 H1 g _ fun z F2 H2 g2 ez => by
  subst ez
  cases z with
  | true => exact iteT (h2 rfl F2 H2 (g.trans g2) Q fun w F3 H3 g3 ew => q w F3 H3 (g2.trans g3) (by rw [ew]; rfl))
  | false => exact iteF (q false F2 H2 g2 rfl)
theorem et_or {x y : Bool} (h1 : EvB W F H tt σ x) (h2 : x = false → EvB W F H tu σ y) : EvB W F H (tOr tt tu) σ (x || y) := fun F1 H1 g Q q => h1 F1 H1 g _ fun z F2 H2 g2 ez => by
  subst ez
  cases z with
  | true => exact iteT (q true F2 H2 g2 rfl)
  | false => exact iteF (h2 rfl F2 H2 (g.trans g2) Q fun w F3 H3 g3 ew => q w F3 H3 (g2.trans g3) (by rw [ew]; rfl))
theorem et_not {x : Bool} (h1 : EvB W F H tt σ x) : EvB W F H (tNot tt) σ (!x) := fun F1 H1 g Q q => h1 F1 H1 g _ fun z F2 H2 g2 ez => by
  subst ez
  exact q _ F2 H2 g2 rfl
theorem ev_andV {x y : Bool} (h1 : EvD W F H ta σ (.bool x)) (h2 : x = true → EvD W F H tb σ (.bool y)) : EvD W F H (tAndV ta tb) σ (.bool (x && y)) := fun F1 H1 g Q q => h1 F1 H1 g _ fun v d F2 H2 g2 hd ed => by
  subst ed
  refine ⟨x, hd.bl', ?_⟩
  cases x with
  | true => exact iteT (h2 rfl F2 H2 (g.trans g2) Q fun v d F3 H3 g3 hd ed => q v d F3 H3 (g2.trans g3) hd (by rw [ed]; rfl))
  | false => exact iteF (q _ _ F2 H2 g2 (.bl false) rfl)
theorem ev_orV {x y : Bool} (h1 : EvD W F H ta σ (.bool x)) (h2 : x = false → EvD W F H tb σ (.bool y)) : EvD W F H (tOrV ta tb) σ (.bool (x || y)) := fun F1 H1 g Q q => h1 F1 H1 g _ fun v d F2 H2 g2 hd ed => by
  subst ed
  refine ⟨x, hd.bl', ?_⟩
  cases x with
  | true => exact iteT (q _ _ F2 H2 g2 (.bl true) rfl)
  | false => exact iteF (h2 rfl F2 H2 (g.trans g2) Q fun v d F3 H3 g3 hd ed => q v d F3 H3 (g2.trans g3) hd (by rw [ed]; rfl))
theorem ev_notV {x : Bool} (h1 : EvD W F H ta σ (.bool x)) : EvD W F H (tNotV ta) σ (.bool (!x)) := fun F1 H1 g Q q => h1 F1 H1 g _ fun v d F2 H2 g2 hd ed => by
  subst ed
  exact ⟨x, hd.bl', q _ _ F2 H2 g2 (.bl _) rfl⟩
theorem ev_if {x : Bool} (h : EvB W F H tt σ x) (h1 : x = true → EvR W F H ta σ P) (h2 : x = false → EvR W F H tb σ P) : EvR W F H (tIf tt ta tb) σ P := fun F1 H1 g Q q => h F1 H1 g _ fun z F2 H2 g2 ez => by
  subst ez
  cases z with
  | true => exact iteT (h1 rfl F2 H2 (g.trans g2) Q fun v d F3 H3 g3 hd hp => q v d F3 H3 (g2.trans g3) hd hp)
  | false => exact iteF (h2 rfl F2 H2 (g.trans g2) Q fun v d F3 H3 g3 hd hp => q v d F3 H3 (g2.trans g3) hd hp)
/-- a value's truth -/
def tTru (K : PySem.W.Frag) (ta : TE) : TT := fun σ H Q => ta σ H fun x H' => ∃ k, TruV K x H' k ∧ Q k H'
def truth : PyData → Bool
  | .none => false
  | .bool b => b
  | .int i => i != 0
  | .str x => (x.length : Int) != 0
  | .list xs => !xs.isEmpty
  | .tuple xs => !xs.isEmpty
  | .dict _ => false
theorem DaL.isEmpty {F : Hp} {vs : List V} {ds : List PyData} (h : DaL F vs ds) : vs.isEmpty = ds.isEmpty := by cases h <;> rfl
theorem et_tru {K : PySem.W.Frag} (h : EvD W F H te σ a) (hz : ∀ x, a = .str x → x.length ≤ sizeLine) : EvB W F H (tTru K te) σ (truth a) := fun F1 H1 g Q q => h F1 H1 g _ fun v d F2 H2 g2 hd ed => by
  subst ed
  refine ⟨truth d, ?_, q _ F2 H2 g2 rfl⟩
  cases hd with
  | non => rfl
  | bl b => rfl
  | int i => rfl
  | str x => exact ⟨hz x rfl, rfl⟩
  | lst h1 h2 => exact .inl ⟨_, .inl (.inl (g2.st.inc _ _ h1)), by rw [h2.isEmpty]; rfl⟩
  | tup h1 h2 => exact .inr (.inl ⟨_, .inl (.inl (g2.st.inc _ _ h1)), by rw [h2.isEmpty]; rfl⟩)
/-- a op b op' c, the answers bools -/
theorem ev_chain {r r' : R2} {x y : Bool} (ha : EvD W F H ta σ a) (hb : EvD W F H tb σ b)
    (hr : ∀ v u F1 H1, Go W F H F1 H1 → Da F1 v a → Da F1 u b → RvD W F1 H1 r v u (fun e => e = .bool x)) (hc : x = true → EvD W F H tc σ c)
    (hr' : ∀ v u F1 H1, x = true → Go W F H F1 H1 → Da F1 v b → Da F1 u c → RvD W F1 H1 r' v u (fun e => e = .bool y)) : EvD W F H (tChain r r' ta tb tc) σ (.bool (x && y)) := fun F1 H1 g Q q =>
  ha F1 H1 g _ fun v d F2 H2 g2 hd ed => hb F2 H2 (g.trans g2) _ fun u e F3 H3 g3 hu eu => by
    subst ed eu
    refine hr v u F3 H3 ((g.trans g2).trans g3) (Da.mono g3.ext d hd) hu _ fun z dz F4 H4 g4 hz ez => ?_
    subst ez
    refine ⟨x, hz.bl', ?_⟩
    have gg := ((g.trans g2).trans g3).trans g4
    cases x with
    | true =>
      refine iteT (hc rfl F4 H4 gg _ fun w dw F5 H5 g5 hw ew => ?_)
      subst ew
      exact hr' u w F5 H5 rfl (gg.trans g5) (Da.mono (g4.ext.trans g5.ext) e hu) hw Q fun v' d' F6 H6 g6 h6 e6 => q v' d' F6 H6 ((((g2.trans g3).trans g4).trans g5).trans g6) h6 (by rw [e6]; rfl)
    | false => exact iteF (q _ _ F4 H4 ((g2.trans g3).trans g4) (.bl false) rfl)
theorem rv_cmp {f : Int → Int → Bool} {v u : V} {i j : Int} {x : Bool} (st : Stt W F H) (hv : Da F v (.int i)) (hu : Da F u (.int j)) (e : f i j = x) : RvD W F H (rI0 fun i j => .bl (f i j)) v u (fun d => d = .bool x) := by
  rw [hv.int', hu.int']
  exact rv_now st (fun Q q => ⟨i, j, rfl, rfl, q⟩) (.bl _) (by rw [e])
/-- i op j op' k of ints -/
theorem ev_chainI {f f' : Int → Int → Bool} {i j k : Int} (ha : EvD W F H ta σ (.int i)) (hb : EvD W F H tb σ (.int j)) (hc : f i j = true → EvD W F H tc σ (.int k)) :
    EvD W F H (tChain (rI0 fun i j => .bl (f i j)) (rI0 fun i j => .bl (f' i j)) ta tb tc) σ (.bool (f i j && f' j k)) :=
  ev_chain ha hb (fun v u F1 H1 g hv hu => rv_cmp g.st hv hu rfl) hc (fun v u F1 H1 _ g hv hu => rv_cmp g.st hv hu rfl)
end
end DL
end
section
/-! DL3: slots, statements, loops, promises over data. -/
namespace DL
open PySem PySem.Spec PyProof.Rows L2

/-! ### what the slots hold: nothing known, data, a thing that may change -/
inductive Sx where
  | un
  | da (d : PyData)
  | rf (a : Addr)
structure SL (F : Hp) (σ : L2.St) (ls : List Sx) : Prop where
  len : σ.length = ls.length
  dat : ∀ (i : Nat) (d : PyData), ls[i]? = some (Sx.da d) → ∃ v : V, σ[i]? = some (some v) ∧ Da F v d
  ref : ∀ (i : Nat) (a : Addr), ls[i]? = some (Sx.rf a) → σ[i]? = some (some (V.ref a))
theorem SL.mono {F F' : Hp} {σ : L2.St} {ls : List Sx} (S : SL F σ ls) (e : Same F F') : SL F' σ ls :=
  ⟨S.len, fun i d h => let ⟨v, h1, h2⟩ := S.dat i d h; ⟨v, h1, Da.mono e d h2⟩, S.ref⟩
theorem SL.set {F : Hp} {σ : L2.St} {ls : List Sx} {v : V} {d : PyData} (S : SL F σ ls) (i : Nat) (h : Da F v d) : SL F (σ.set i (some v)) (ls.set i (.da d)) := by
  refine ⟨by rw [List.length_set, List.length_set, S.len], fun j e hj => ?_, fun j a hj => ?_⟩
  · by_cases hij : i = j
    · subst hij
      by_cases hl : i < ls.length
      · rw [List.getElem?_set_self hl] at hj
        cases hj
        exact ⟨v, List.getElem?_set_self (by rw [S.len]; exact hl), h⟩
      · rw [List.getElem?_eq_none (by rw [List.length_set]; omega)] at hj
        cases hj
    · rw [List.getElem?_set_ne hij] at hj ⊢
      exact S.dat j e hj
  · by_cases hij : i = j
    · subst hij
      by_cases hl : i < ls.length
      · rw [List.getElem?_set_self hl] at hj
        cases hj
      · rw [List.getElem?_eq_none (by rw [List.length_set]; omega)] at hj
        cases hj
    · rw [List.getElem?_set_ne hij] at hj ⊢
      exact S.ref j a hj
theorem SL.setR {F : Hp} {σ : L2.St} {ls : List Sx} {b : Addr} (S : SL F σ ls) (i : Nat) : SL F (σ.set i (some (.ref b))) (ls.set i (.rf b)) := by
  refine ⟨by rw [List.length_set, List.length_set, S.len], fun j e hj => ?_, fun j a hj => ?_⟩
  · by_cases hij : i = j
    · subst hij
      by_cases hl : i < ls.length
      · rw [List.getElem?_set_self hl] at hj
        cases hj
      · rw [List.getElem?_eq_none (by rw [List.length_set]; omega)] at hj
        cases hj
    · rw [List.getElem?_set_ne hij] at hj ⊢
      exact S.dat j e hj
  · by_cases hij : i = j
    · subst hij
      by_cases hl : i < ls.length
      · rw [List.getElem?_set_self hl] at hj
        cases hj
        exact List.getElem?_set_self (by rw [S.len]; exact hl)
      · rw [List.getElem?_eq_none (by rw [List.length_set]; omega)] at hj
        cases hj
    · rw [List.getElem?_set_ne hij] at hj ⊢
      exact S.ref j a hj
/-- less may be known -/
def Sle (ls ks : List Sx) : Prop := ls.length = ks.length ∧ ∀ i : Nat, ks[i]? = some Sx.un ∨ ks[i]? = ls[i]?
theorem SL.weak {F : Hp} {σ : L2.St} {ls ks : List Sx} (S : SL F σ ls) (h : Sle ls ks) : SL F σ ks := by
  refine ⟨S.len.trans h.1, fun i d e => ?_, fun i a e => ?_⟩
  · rcases h.2 i with z | z
    · rw [z] at e; cases e
    · exact S.dat i d (z ▸ e)
  · rcases h.2 i with z | z
    · rw [z] at e; cases e
    · exact S.ref i a (z ▸ e)
theorem Sle.nil : Sle [] [] := ⟨rfl, fun i => .inr rfl⟩
theorem Sle.un {x : Sx} {ls ks : List Sx} (h : Sle ls ks) : Sle (x :: ls) (.un :: ks) := ⟨by simp [h.1], fun i => by
  cases i with
  | zero => exact .inl rfl
  | succ i => simpa using h.2 i⟩
theorem Sle.eq {x : Sx} {ls ks : List Sx} (h : Sle ls ks) : Sle (x :: ls) (x :: ks) := ⟨by simp [h.1], fun i => by
  cases i with
  | zero => exact .inr rfl
  | succ i => simpa using h.2 i⟩
/-- some slots' values forgotten in σ -/
theorem SL.wipe {F : Hp} {σ : L2.St} {ls : List Sx} (S : SL F σ ls) (i : Nat) : SL F (σ.set i none) (ls.set i .un) := by
  refine ⟨by rw [List.length_set, List.length_set, S.len], fun j e hj => ?_, fun j a hj => ?_⟩
  · by_cases hij : i = j
    · subst hij
      by_cases hl : i < ls.length
      · rw [List.getElem?_set_self hl] at hj
        cases hj
      · rw [List.getElem?_eq_none (by rw [List.length_set]; omega)] at hj
        cases hj
    · rw [List.getElem?_set_ne hij] at hj ⊢
      exact S.dat j e hj
  · by_cases hij : i = j
    · subst hij
      by_cases hl : i < ls.length
      · rw [List.getElem?_set_self hl] at hj
        cases hj
      · rw [List.getElem?_eq_none (by rw [List.length_set]; omega)] at hj
        cases hj
    · rw [List.getElem?_set_ne hij] at hj ⊢
      exact S.ref j a hj
theorem SL.start {F : Hp} {vs : List V} {ds : List PyData} (N : List Str) (h : DaL F vs ds) (hl : vs.length ≤ N.length) : SL F (start N vs) (ds.map Sx.da ++ List.replicate (N.length - ds.length) Sx.un) := by
  have e := h.length
  refine ⟨?_, fun i d hi => ?_, fun i a hi => ?_⟩
  · unfold L2.start
    rw [List.length_append, List.length_map, List.length_replicate, List.length_append, List.length_map, List.length_replicate, e]
  · by_cases hlt : i < ds.length
    · rw [List.getElem?_append_left (by simpa using hlt), List.getElem?_map] at hi
      cases q : ds[i]? with
      | none => rw [q] at hi; cases hi
      | some d' =>
        rw [q] at hi
        cases hi
        obtain ⟨v, hv, hd⟩ := h.get q
        refine ⟨v, ?_, hd⟩
        unfold L2.start
        rw [List.getElem?_append_left (by rw [List.length_map, e]; exact hlt), List.getElem?_map, hv]
        rfl
    · rw [List.getElem?_append_right (by simpa using hlt), List.getElem?_replicate] at hi
      split at hi <;> cases hi
  · by_cases hlt : i < ds.length
    · rw [List.getElem?_append_left (by simpa using hlt), List.getElem?_map] at hi
      cases q : ds[i]? with
      | none => rw [q] at hi; cases hi
      | some d' => rw [q] at hi; cases hi
    · rw [List.getElem?_append_right (by simpa using hlt), List.getElem?_replicate] at hi
      split at hi <;> cases hi

section
variable {W : Wd} {F H F0 H0 : Hp} {σ : L2.St} {ls : List Sx} {te ta tb : TE} {tt : TT} {d : PyData} {P : PyData → Prop} {D : Ends} {t u : TS} {i : Nat}
theorem ev_v (S : SL F σ ls) (h : ls[i]? = some (Sx.da d)) : EvD W F H (tVar i) σ d := by
  obtain ⟨v, h1, h2⟩ := S.dat i d h
  exact ev_var h1 h2

/-! ### statements -/
theorem q_set (st : Stt W F H) (S : SL F σ ls) (he : EvR W F H te σ P) (k : ∀ d F' H' σ', Go W F H F' H' → P d → SL F' σ' (ls.set i (.da d)) → D.nx σ' H') : tAsg te (gName i) D σ H :=
  he F H (Go.refl st) _ fun v d F' H' g hd hp => k d F' H' _ g hp ((S.mono g.ext).set i hd)
theorem q_setL {A : List PyData → Prop} (st : Stt W F H) (S : SL F σ ls) (he : EvL W F H te σ A)
    (k : ∀ l vs ds F' H' σ', Go W F H F' H' → H l = none → F' l = none → H' l = some (.lst vs) → DaL F' vs ds → A ds → SL F' σ' (ls.set i (.rf l)) → D.nx σ' H') : tAsg te (gName i) D σ H :=
  he F H (Go.refl st) _ fun l vs ds F' H' g n1 n2 hl hd hp => k l vs ds F' H' _ g n1 n2 hl hd hp ((S.mono g.ext).setR i)
theorem q_ret (st : Stt W F H) (he : EvR W F H te σ P) (k : ∀ v d F' H', Go W F H F' H' → Da F' v d → P d → D.rt v H') : tRet te D σ H :=
  he F H (Go.refl st) _ k
theorem q_retL {A : List PyData → Prop} (st : Stt W F H) (he : EvL W F H te σ A) (k : ∀ l vs ds F' H', Go W F H F' H' → H l = none → F' l = none → H' l = some (.lst vs) → DaL F' vs ds → A ds → D.rt (.ref l) H') : tRet te D σ H :=
  he F H (Go.refl st) _ k
theorem q_drop (st : Stt W F H) (he : EvR W F H te σ P) (k : ∀ F' H', Go W F H F' H' → D.nx σ H') : tDrop te D σ H :=
  he F H (Go.refl st) _ fun v d F' H' g _ _ => k F' H' g
theorem q_if {Pb : Bool → Prop} (st : Stt W F H) (he : EvT W F H tt σ Pb) (k1 : ∀ F' H', Go W F H F' H' → Pb true → t D σ H') (k2 : ∀ F' H', Go W F H F' H' → Pb false → u D σ H') : tIfS tt t u D σ H :=
  he F H (Go.refl st) _ fun b F' H' g hp => by
    cases b with
    | true => exact iteT (k1 F' H' g hp)
    | false => exact iteF (k2 F' H' g hp)
theorem q_seq (h : t { D with nx := u D } σ H) : tSeq t u D σ H := h

/-! ### targets -/
/-- the target stores d: the slots are then f ls -/
def Tg (K : PySem.W.Frag) (g : TG) (d : PyData) (f : List Sx → List Sx) : Prop := ∀ (v : V) (σ : L2.St) (F H : Hp) (ls : List Sx) (Q : L2.St → Hp → Prop), SL F σ ls → Same F H → Da F v d → (∀ σ', SL F σ' (f ls) → Q σ' H) → g v σ H Q
def TgL (K : PySem.W.Frag) (g : TGs) (ds : List PyData) (f : List Sx → List Sx) : Prop := ∀ (vs : List V) (σ : L2.St) (F H : Hp) (ls : List Sx) (Q : L2.St → Hp → Prop), SL F σ ls → Same F H → DaL F vs ds → (∀ σ', SL F σ' (f ls) → Q σ' H) → g vs σ H Q
variable {K : PySem.W.Frag}
theorem tg_name {i : Nat} : Tg K (gName i) d (fun ls => ls.set i (.da d)) := fun v σ F H ls Q S st hd k => k _ (S.set i hd)
theorem tgs_nil : TgL K gNil [] (fun ls => ls) := fun vs σ F H ls Q S st hd k => by
  cases hd
  exact ⟨rfl, k σ S⟩
theorem tgs_cons {g : TG} {gs : TGs} {ds : List PyData} {f f' : List Sx → List Sx} (h : Tg K g d f) (h' : TgL K gs ds f') : TgL K (gCons g gs) (d :: ds) (fun ls => f' (f ls)) := fun vs σ F H ls Q S st hd k => by
  cases hd with
  | cons h1 h2 => exact ⟨_, _, rfl, h _ σ F H ls _ S st h1 fun σ' S' => h' _ σ' F H _ _ S' st h2 k⟩
theorem tg_tup {n : Nat} {gs : TGs} {ds : List PyData} {f : List Sx → List Sx} (h : TgL K gs ds f) (hn : ds.length = n) : Tg K (gTup K n gs) (.tuple ds) f := fun v σ F H ls Q S st hd k => by
  obtain ⟨a, xs, rfl, ha, hl⟩ := hd.tup'
  exact ⟨a, xs, rfl, .inl (.inl (st _ _ ha)), by rw [hl.length, hn], h xs σ F H ls Q S st hl k⟩
theorem q_asg {g : TG} {f : List Sx → List Sx} (st : Stt W F H) (S : SL F σ ls) (he : EvD W F H te σ d) (hg : Tg K g d f) (k : ∀ F' H' σ', Go W F H F' H' → SL F' σ' (f ls) → D.nx σ' H') : tAsg te g D σ H :=
  he F H (Go.refl st) _ fun v e F' H' gg hd hp => by
    subst hp
    exact hg v σ F' H' ls _ (S.mono gg.ext) gg.st.inc hd fun σ' S' => k F' H' σ' gg S'
/-- a, b = x, y -/
theorem q_par {i j : Nat} {ta : TA} {d e : PyData} (st : Stt W F H) (S : SL F σ ls) (he : EvAD W F H ta σ [d, e]) (k : ∀ F' H' σ', Go W F H F' H' → SL F' σ' ((ls.set i (.da d)).set j (.da e)) → D.nx σ' H') : tPar i j ta D σ H :=
  he F H (Go.refl st) _ fun vs ds F' H' g hd hp => by
    subst hp
    cases hd with
    | cons h1 h2 =>
      cases h2 with
      | cons h2 h3 =>
        cases h3
        exact ⟨_, _, rfl, k F' H' _ g (((S.mono g.ext).set i h1).set j h2)⟩
theorem q_aug {i : Nat} {r : TIp} {a : PyData} {z : PyData} (st : Stt W F H) (S : SL F σ ls) (hi : ls[i]? = some (Sx.da a)) (he : EvD W F H te σ d) (hr : ∀ x y F1 H1, Go W F H F1 H1 → Da F1 x a → Da F1 y d → RvD W F1 H1 r x y (fun e => e = z))
    (k : ∀ F' H' σ', Go W F H F' H' → SL F' σ' (ls.set i (.da z)) → D.nx σ' H') : tAug i te r D σ H := by
  obtain ⟨x, hx, hd⟩ := S.dat i a hi
  refine ⟨x, hx, he F H (Go.refl st) _ fun v e F1 H1 g hv hp => ?_⟩
  subst hp
  refine hr x v F1 H1 g (Da.mono g.ext a hd) hv _ fun v2 d2 F2 H2 g2 hd2 e2 => ?_
  subst e2
  exact k F2 H2 _ (g.trans g2) ((S.mono (g.trans g2).ext).set i hd2)
theorem rv_ip {f : Int → Int → Int} {x y : V} {i j : Int} (st : Stt W F H) (hx : Da F x (.int i)) (hy : Da F y (.int j)) : RvD W F H (ipI f) x y (fun e => e = .int (f i j)) := fun Q q => by
  rw [hx.int', hy.int']
  exact ⟨i, j, rfl, rfl, q _ _ F H (Go.refl st) (.int _) rfl⟩

/-! ### what is walked -/
structure Enm (W : Wd) (F : Hp) (J : It) (ds : List PyData) : Prop where
  go : ∀ i H, Same F H → i < ds.length → J.go i H
  stop : ∀ i H, Same F H → ds.length ≤ i → J.stop i H
  yld : ∀ F1 i H1 x H', i < ds.length → Same F F1 → Stt W F1 H1 → J.yld i H1 x H' → ∃ d F2, ds[i]? = some d ∧ Go W F1 H1 F2 H' ∧ Da F2 x d
def EvI (W : Wd) (F H : Hp) (wi : TI) (σ : L2.St) (P : List PyData → Prop) : Prop :=
  ∀ F1 H1, Go W F H F1 H1 → ∀ R : It → Hp → Prop, (∀ J ds F2 H2, Go W F1 H1 F2 H2 → Enm W F2 J ds → P ds → R J H2) → wi σ H1 R
theorem ei_tup {ds : List PyData} (he : EvD W F H te σ (.tuple ds)) : EvI W F H (iU K te) σ (fun es => es = ds) := fun F1 H1 g R q =>
  he F1 H1 g _ fun v e F2 H2 g2 hd ee => by
    subst ee
    obtain ⟨a, xs, rfl, ha, hl⟩ := hd.tup'
    have sq : ∀ {H}, Same F2 H → SqT K H a xs := fun e => .inl (.inl (e _ _ ha))
    refine ⟨a, rfl, .inl ⟨⟨xs, sq g2.st.inc⟩, q _ ds F2 H2 g2 ⟨fun i H e hi => ?_, fun i H e hi => ⟨xs, sq e, by rw [hl.length]; exact hi⟩, fun F3 i H3 x H' _ e s3 y => ?_⟩ rfl⟩⟩
    · have hi' : i < xs.length := by rw [hl.length]; exact hi
      exact ⟨xs, xs[i], sq e, List.getElem?_eq_getElem hi'⟩
    · obtain ⟨rfl, y⟩ := y
      have hx := y xs (sq (e.trans s3.inc))
      obtain ⟨d, h1, h2⟩ := hl.getV hx
      exact ⟨d, F3, h1, Go.refl s3, Da.mono e d h2⟩
theorem ei_lst {ds : List PyData} (he : EvD W F H te σ (.list ds)) : EvI W F H (iU K te) σ (fun es => es = ds) := fun F1 H1 g R q =>
  he F1 H1 g _ fun v e F2 H2 g2 hd ee => by
    subst ee
    obtain ⟨a, xs, rfl, ha, hl⟩ := hd.lst'
    have sq : ∀ {H}, Same F2 H → SqL K H a xs := fun e => .inl (.inl (e _ _ ha))
    refine ⟨a, rfl, .inr ⟨⟨xs, sq g2.st.inc⟩, q _ ds F2 H2 g2 ⟨fun i H e hi => ?_, fun i H e hi => ⟨xs, sq e, by rw [hl.length]; exact hi⟩, fun F3 i H3 x H' _ e s3 y => ?_⟩ rfl⟩⟩
    · have hi' : i < xs.length := by rw [hl.length]; exact hi
      exact ⟨xs, xs[i], sq e, List.getElem?_eq_getElem hi'⟩
    · obtain ⟨rfl, y⟩ := y
      have hx := y xs (sq (e.trans s3.inc))
      obtain ⟨d, h1, h2⟩ := hl.getV hx
      exact ⟨d, F3, h1, Go.refl s3, Da.mono e d h2⟩
theorem ei_lstR {P : List PyData → Prop} (he : EvR W F H te σ (fun d => ∃ ds, d = .list ds ∧ P ds)) : EvI W F H (iU K te) σ P := fun F1 H1 g R q =>
  he F1 H1 g _ fun v e F2 H2 g2 hd ⟨ds, ee, hp⟩ => by
    subst ee
    have h2 : EvD W F2 H2 (tC v) σ (.list ds) := fun F3 H3 g3 Q q3 => q3 v _ F3 H3 (Go.refl g3.st) (Da.mono g3.ext _ hd) rfl
    obtain ⟨a, x, hx⟩ := ei_lst (K := K) h2 F2 H2 (Go.refl g2.st) R fun J ds' F3 H3 g3 en e3 => q J ds' F3 H3 (g2.trans g3) en (by rw [e3]; exact hp)
    exact ⟨a, x, hx⟩
/-- the ints lo, lo + 1, .. -/
def rng (lo : Int) (n : Nat) : List PyData := (List.range n).map fun k => PyData.int (lo + (k : Nat))
theorem rng_len {lo : Int} {n : Nat} : (rng lo n).length = n := by unfold rng; rw [List.length_map, List.length_range]
theorem rng_get {lo : Int} {n i : Nat} (h : i < n) : (rng lo n)[i]? = some (.int (lo + (i : Nat))) := by
  unfold rng
  rw [List.getElem?_map, List.getElem?_range h]
  rfl
theorem enm_rng {lo : Int} {n : Nat} : Enm W F (Itr lo n) (rng lo n) :=
  ⟨fun i H _ hi => by rw [rng_len] at hi; exact hi, fun i H _ hi => by rw [rng_len] at hi; exact hi, fun F1 i H1 x H' hi e s y => by
    obtain ⟨rfl, rfl⟩ := y
    rw [rng_len] at hi
    exact ⟨.int (lo + (i : Nat)), F1, rng_get hi, Go.refl s, .int _⟩⟩
/-- range(n) -/
theorem ei_rng1 {ta : TE} {n : Int} (he : EvD W F H ta σ (.int n)) (h1 : -(2 ^ 62) ≤ n) (h2 : n < 2 ^ 62) : EvI W F H (iRng1 (tCons ta tNil)) σ (fun es => es = rng 0 n.toNat) := fun F1 H1 g R q =>
  he F1 H1 g _ fun v e F2 H2 g2 hd ee => by
    subst ee
    rw [hd.int']
    exact ⟨n, rfl, h1, h2, q _ _ F2 H2 g2 enm_rng rfl⟩
theorem ei_rng2 {ta tb : TE} {m n : Int} (ha : EvD W F H ta σ (.int m)) (hb : EvD W F H tb σ (.int n)) (h1 : -(2 ^ 62) ≤ m) (h2 : m < 2 ^ 62) (h3 : -(2 ^ 62) ≤ n) (h4 : n < 2 ^ 62) :
    EvI W F H (iRng2 (tCons ta (tCons tb tNil))) σ (fun es => es = rng m (n - m).toNat) := fun F1 H1 g R q =>
  ha F1 H1 g _ fun v e F2 H2 g2 hd ee => hb F2 H2 (g.trans g2) _ fun v' e' F3 H3 g3 hd' ee' => by
    subst ee ee'
    rw [hd.int', hd'.int']
    exact ⟨m, n, rfl, ⟨h1, h2, h3, h4⟩, q _ _ F3 H3 (g2.trans g3) enm_rng rfl⟩
/-- the pairs (i, x) -/
def enumD (ds : List PyData) : List PyData := ds.zipIdx.map fun p => PyData.tuple [.int (p.2 : Nat), p.1]
theorem enumD_len {ds : List PyData} : (enumD ds).length = ds.length := by unfold enumD; rw [List.length_map, List.length_zipIdx]
theorem enumD_get {ds : List PyData} {i : Nat} {d : PyData} (h : ds[i]? = some d) : (enumD ds)[i]? = some (.tuple [.int (i : Nat), d]) := by
  unfold enumD
  rw [List.getElem?_map, List.getElem?_zipIdx, h]
  simp
theorem enm_pair {xs : List V} {ds : List PyData} {F2 : Hp} (hl : DaL F2 xs ds) {F3 H3 H' : Hp} {i : Nat} {x : V} (e : Same F2 F3) (s3 : Stt W F3 H3)
    (y : ∃ T x', x = .ref T ∧ H3 T = none ∧ H' = upd H3 T (.tup [.int (i : Nat), x']) ∧ xs[i]? = some x') : ∃ d F2, (enumD ds)[i]? = some d ∧ Go W F3 H3 F2 H' ∧ Da F2 x d := by
  obtain ⟨T, x', rfl, hT, rfl, hx⟩ := y
  obtain ⟨d, h1, h2⟩ := hl.getV hx
  exact ⟨_, _, enumD_get h1, Go.lay s3 hT, .tup upd_same (.cons (.int _) (.cons (Da.mono (e.trans (same_lay (s3.fresh hT))) d h2) .nil))⟩
theorem ei_enumT {ds : List PyData} (he : EvD W F H te σ (.tuple ds)) : EvI W F H (iEnumU K (tCons te tNil)) σ (fun es => es = enumD ds) := fun F1 H1 g R q =>
  he F1 H1 g _ fun v e F2 H2 g2 hd ee => by
    subst ee
    obtain ⟨a, xs, rfl, ha, hl⟩ := hd.tup'
    have sq : ∀ {H}, Same F2 H → SqT K H a xs := fun e => .inl (.inl (e _ _ ha))
    refine ⟨a, rfl, .inl ⟨⟨xs, sq g2.st.inc⟩, q _ (enumD ds) F2 H2 g2 ⟨fun i H e hi => ?_, fun i H e hi => ⟨xs, sq e, by rw [hl.length]; rw [enumD_len] at hi; exact hi⟩, fun F3 i H3 x H' _ e s3 y => ?_⟩ rfl⟩⟩
    · have hi' : i < xs.length := by rw [hl.length]; rw [enumD_len] at hi; exact hi
      exact ⟨xs, xs[i], sq e, List.getElem?_eq_getElem hi'⟩
    · obtain ⟨T, x', e1, e2, e3, e4⟩ := y
      exact enm_pair hl e s3 ⟨T, x', e1, e2, e3, e4 xs (sq (e.trans s3.inc))⟩
theorem ei_enumL {ds : List PyData} (he : EvD W F H te σ (.list ds)) : EvI W F H (iEnumU K (tCons te tNil)) σ (fun es => es = enumD ds) := fun F1 H1 g R q =>
  he F1 H1 g _ fun v e F2 H2 g2 hd ee => by
    subst ee
    obtain ⟨a, xs, rfl, ha, hl⟩ := hd.lst'
    have sq : ∀ {H}, Same F2 H → SqL K H a xs := fun e => .inl (.inl (e _ _ ha))
    refine ⟨a, rfl, .inr ⟨⟨xs, sq g2.st.inc⟩, q _ (enumD ds) F2 H2 g2 ⟨fun i H e hi => ?_, fun i H e hi => ⟨xs, sq e, by rw [hl.length]; rw [enumD_len] at hi; exact hi⟩, fun F3 i H3 x H' _ e s3 y => ?_⟩ rfl⟩⟩
    · have hi' : i < xs.length := by rw [hl.length]; rw [enumD_len] at hi; exact hi
      exact ⟨xs, xs[i], sq e, List.getElem?_eq_getElem hi'⟩
    · obtain ⟨T, x', e1, e2, e3, e4⟩ := y
      exact enm_pair hl e s3 ⟨T, x', e1, e2, e3, e4 xs (sq (e.trans s3.inc))⟩
/-- the signs of a text -/
def signs (x : Str) : List PyData := x.cps.toList.map fun c => PyData.str ⟨#[c]⟩
theorem ei_str {x : Str} (he : EvD W F H te σ (.str x)) : EvI W F H (iStr te) σ (fun es => es = signs x) := fun F1 H1 g R q =>
  he F1 H1 g _ fun v e F2 H2 g2 hd ee => by
    subst ee
    have hl : (signs x).length = x.cps.size := by unfold signs; rw [List.length_map, Array.length_toList]
    refine ⟨x, hd.str', q _ (signs x) F2 H2 g2 ⟨fun i H e hi => by rw [hl] at hi; exact hi, fun i H e hi => by rw [hl] at hi; exact hi, fun F3 i H3 y H' hi e s3 z => ?_⟩ rfl⟩
    obtain ⟨rfl, c, hc, rfl⟩ := z
    refine ⟨.str ⟨#[c]⟩, F3, ?_, Go.refl s3, .str _⟩
    unfold signs
    rw [List.getElem?_map, Array.getElem?_toList, hc]
    rfl

/-! ### for -/
theorem q_for {wi : TI} {g : TG} {tb : TS} {ds : List PyData} {B : Hp} (st : Stt W F H) (S : SL F σ ls) (g0 : Go W F0 H0 F H) (he : EvI W F H wi σ (fun es => es = ds)) (f : PyData → List Sx → List Sx) (tg : ∀ d ∈ ds, Tg K g d (f d))
    (I : Nat → List Sx → Hp → Hp → Prop) (hI : ∀ i l F1 H1 F2 H2, Go W F0 H0 F1 H1 → Go W F1 H1 F2 H2 → I i l F1 H1 → I i l F2 H2)
    (h0 : ∀ F1 H1, Go W F H F1 H1 → I 0 ls F1 H1)
    (hs : ∀ (i : Nat) d l F1 H1 σ1 (N : L2.St → Hp → Prop), ds[i]? = some d → Go W F0 H0 F1 H1 → Same F F1 → I i l F1 H1 → SL F1 σ1 (f d l) →
      (∀ σ' F' H' l', Go W F0 H0 F' H' → Same F1 F' → SL F' σ' l' → I (i + 1) l' F' H' → N σ' H') → tb { D with nx := N, ct := N, bk := D.nx } σ1 H1)
    (hd : ∀ l F1 H1 σ1, Go W F0 H0 F1 H1 → Same F F1 → I ds.length l F1 H1 → SL F1 σ1 l → D.nx σ1 H1) : tFor wi g tb D σ H :=
  he F H (Go.refl st) _ fun J es F2 H2 g2 en ee => by
    subst ee
    refine ⟨fun i m σ' H' => m = es.length - i ∧ i ≤ es.length ∧ ∃ F' l, Go W F0 H0 F' H' ∧ Same F2 F' ∧ SL F' σ' l ∧ I i l F' H', ⟨es.length, rfl, Nat.zero_le _, F2, ls, g0.trans g2, Same.refl _, S.mono g2.ext, h0 F2 H2 g2⟩, ?_⟩
    rintro i m σ' H' ⟨rfl, hi, F', l, gg, sm, SS, ii⟩
    by_cases hlt : i < es.length
    · refine .inr ⟨en.go i H' (sm.trans gg.st.inc) hlt, fun σ' H' => ∃ F3 l', Go W F0 H0 F3 H' ∧ Same F2 F3 ∧ SL F3 σ' l' ∧ I (i + 1) l' F3 H', fun σ'' H'' ⟨F3, l', a1, a2, a3, a4⟩ => ⟨es.length - (i + 1), by omega, rfl, hlt, F3, l', a1, a2, a3, a4⟩, fun x H'' y => ?_⟩
      obtain ⟨d, F3, hd', g3, hx⟩ := en.yld F' i H' x H'' hlt sm gg.st y
      refine tg d (List.mem_of_getElem? hd') x σ' F3 H'' l _ (SS.mono g3.ext) g3.st.inc hx fun σ2 S2 => ?_
      exact hs i d l F3 H'' σ2 _ hd' (gg.trans g3) ((g2.ext.trans sm).trans g3.ext) (hI _ _ _ _ _ _ gg g3 ii) S2 fun σ' F4 H4 l' a1 a2 a3 a4 => ⟨F4, l', a1, (sm.trans g3.ext).trans a2, a3, a4⟩
    · have e : i = es.length := by omega
      subst e
      exact .inl ⟨en.stop _ H' (sm.trans gg.st.inc) (Nat.le_refl _), hd l F' H' σ' gg (g2.ext.trans sm) ii SS⟩
end
end DL
end
section
/-! DL4: built-in functions, slices, sums, comprehensions, calls over data. -/
namespace DL
open PySem PySem.Spec PyProof.Rows L2

/-! ### isinstance -/
def tnD : PyData → String
  | .none => "NoneType"
  | .bool _ => "bool"
  | .int _ => "int"
  | .str _ => "str"
  | .list _ => "list"
  | .tuple _ => "tuple"
  | .dict _ => "dict"
def isInt : PyData → Bool
  | .bool _ => true
  | .int _ => true
  | _ => false
def isBool : PyData → Bool
  | .bool _ => true
  | _ => false
def isStr : PyData → Bool
  | .str _ => true
  | _ => false
def isTup : PyData → Bool
  | .tuple _ => true
  | _ => false
def isLst : PyData → Bool
  | .list _ => true
  | _ => false
theorem Da.ty {K : PySem.W.Frag} {F H : Hp} {v : V} {d : PyData} (h : Da F v d) (e : Same F H) : TyX K H v (.type (tnD d)) := by
  cases h with
  | non => exact .base .non
  | bl b => exact .base (.bl b)
  | int i => exact .base (.int i)
  | str x => exact .base (.str x)
  | lst h1 h2 => exact .base (.lst (e _ _ h1))
  | tup h1 h2 => exact .base (.tup (e _ _ h1))
theorem Da.noDict {F : Hp} {v : V} {kvs} (h : Da F v (.dict kvs)) : False := by cases h
section
variable {W : Wd} {F H F0 H0 : Hp} {σ : L2.St} {ls : List Sx} {te ta tb : TE} {tt : TT} {d a b : PyData} {P : PyData → Prop} {D : Ends} {t u : TS} {i : Nat} {K : PySem.W.Frag}
theorem ev_isi {T : String} {f : PyData → Bool} (he : EvD W F H te σ d) (hf : ∀ e : PyData, (∀ kvs, e ≠ .dict kvs) → kitB (tnD e) T = some (f e)) : EvD W F H (tCB (rIsi K) (tCons te (tCons (tC (.ty T)) tNil))) σ (.bool (f d)) := fun F1 H1 g Q q =>
  he F1 H1 g _ fun v e F2 H2 g2 hd ee => by
    subst ee
    exact ⟨v, .ty T, .type (tnD e), .type T, f e, rfl, .ty T, hd.ty g2.st.inc, kit_ty (hf e fun kvs z => by subst z; exact hd.noDict), q _ _ F2 H2 g2 (.bl _) rfl⟩
theorem kb_int : ∀ e : PyData, (∀ kvs, e ≠ .dict kvs) → kitB (tnD e) "int" = some (isInt e) := fun e h => by
  cases e with
  | dict kvs => exact absurd rfl (h kvs)
  | _ => first | rfl | decide +kernel
theorem kb_bool : ∀ e : PyData, (∀ kvs, e ≠ .dict kvs) → kitB (tnD e) "bool" = some (isBool e) := fun e h => by
  cases e with
  | dict kvs => exact absurd rfl (h kvs)
  | _ => first | rfl | decide +kernel
theorem kb_str : ∀ e : PyData, (∀ kvs, e ≠ .dict kvs) → kitB (tnD e) "str" = some (isStr e) := fun e h => by
  cases e with
  | dict kvs => exact absurd rfl (h kvs)
  | _ => first | rfl | decide +kernel
theorem kb_tup : ∀ e : PyData, (∀ kvs, e ≠ .dict kvs) → kitB (tnD e) "tuple" = some (isTup e) := fun e h => by
  cases e with
  | dict kvs => exact absurd rfl (h kvs)
  | _ => first | rfl | decide +kernel
theorem kb_lst : ∀ e : PyData, (∀ kvs, e ≠ .dict kvs) → kitB (tnD e) "list" = some (isLst e) := fun e h => by
  cases e with
  | dict kvs => exact absurd rfl (h kvs)
  | _ => first | rfl | decide +kernel
/-- isinstance(x, (tuple, list)) -/
theorem ev_isiTL (he : EvD W F H te σ d) : EvD W F H (tCB (rIsiT K) (tCons te (tCons (tTup (tCons (tC (.ty "tuple")) (tCons (tC (.ty "list")) tNil))) tNil))) σ (.bool (isTup d || isLst d)) := fun F1 H1 g Q q =>
  he F1 H1 g _ fun v e F2 H2 g2 hd ee => by
    subst ee
    have nd : ∀ kvs, e ≠ .dict kvs := fun kvs z => by subst z; exact hd.noDict
    refine ⟨by show 2 ≤ sizeLine; decide, fun p hp => ⟨v, p, [.ty "tuple", .ty "list"], .type (tnD e), [.type "tuple", .type "list"], isTup e || isLst e, rfl, upd_same, .cons (.ty _) (.cons (.ty _) .nil), hd.ty (g2.st.inc.trans (same_lay hp)), ?_, q _ _ _ _ (g2.trans (Go.lay g2.st hp)) (.bl _) rfl⟩⟩
    refine kitAny_cons (kit_ty (kb_tup e nd)) (fun z => kitAny_cons (kit_ty (kb_lst e nd)) (fun z2 => ?_) fun z2 => ?_) fun z => by rw [z]; rfl
    · rw [z, z2]; exact kitAny_nil
    · rw [z, z2]; rfl

/-! ### len -/
def rLenU (K : PySem.W.Frag) : List V → Hp → VK → Prop := fun xs H Q => ∃ x n, xs = [x] ∧ LenV K x H n ∧ Q (.int n) H
theorem call_lenU {X : Cx} : CallR X (.builtin "len") (rLenU X.K) := call_len
def lenD : PyData → Nat
  | .str x => x.length
  | .list ds => ds.length
  | .tuple ds => ds.length
  | _ => 0
theorem ev_lenT {ds : List PyData} (he : EvD W F H te σ (.tuple ds)) : EvD W F H (tCB (rLenU K) (tCons te tNil)) σ (.int ds.length) := fun F1 H1 g Q q =>
  he F1 H1 g _ fun v e F2 H2 g2 hd ee => by
    subst ee
    obtain ⟨a, xs, rfl, ha, hl⟩ := hd.tup'
    exact ⟨.ref a, ds.length, rfl, .inr ⟨xs, .inl (.inl (g2.st.inc _ _ ha)), hl.length.symm⟩, q _ _ F2 H2 g2 (.int _) rfl⟩
theorem ev_lenL {ds : List PyData} (he : EvD W F H te σ (.list ds)) : EvD W F H (tCB (rLenU K) (tCons te tNil)) σ (.int ds.length) := fun F1 H1 g Q q =>
  he F1 H1 g _ fun v e F2 H2 g2 hd ee => by
    subst ee
    obtain ⟨a, xs, rfl, ha, hl⟩ := hd.lst'
    exact ⟨.ref a, ds.length, rfl, .inl ⟨xs, .inl (.inl (g2.st.inc _ _ ha)), hl.length.symm⟩, q _ _ F2 H2 g2 (.int _) rfl⟩
theorem ev_lenS {x : Str} (he : EvD W F H te σ (.str x)) (hz : x.length ≤ sizeLine) : EvD W F H (tCB (rLenU K) (tCons te tNil)) σ (.int x.length) := fun F1 H1 g Q q =>
  he F1 H1 g _ fun v e F2 H2 g2 hd ee => by
    subst ee
    rw [hd.str']
    exact ⟨.str x, x.length, rfl, ⟨hz, rfl⟩, q _ _ F2 H2 g2 (.int _) rfl⟩

/-! ### slices -/
def rSlU (K : PySem.W.Frag) : V → Option Int → Option Int → Hp → VK → Prop := fun x lo hi H Q => rSlA K x lo hi H Q ∨ (rSlL K x lo hi H Q ∨ rSlS x lo hi H Q)
theorem sl_u {X : Cx} : SlR X (rSlU X.K) := SlR.or sl_tupA (SlR.or sl_list sl_str)
def cutL {α : Type} (xs : List α) (lo hi : Option Int) : List α := (xs.drop (HT.sIx xs.length 0 lo)).take (HT.sIx xs.length xs.length hi - HT.sIx xs.length 0 lo)
theorem DaL.cut {vs : List V} {ds : List PyData} (h : DaL F vs ds) (lo hi : Option Int) : DaL F (cutV vs lo hi) (cutL ds lo hi) := by
  unfold cutV cutL
  rw [h.length]
  exact (h.drop _).take _
def EvO (W : Wd) (F H : Hp) (to : TO) (σ : L2.St) (o : Option Int) : Prop := ∀ F1 H1, Go W F H F1 H1 → ∀ Q : Option Int → Hp → Prop, (∀ F2 H2, Go W F1 H1 F2 H2 → Q o H2) → to σ H1 Q
theorem eo_none : EvO W F H tNoPart σ none := fun F1 H1 g Q q => q F1 H1 (Go.refl g.st)
theorem eo_some {i : Int} (h : EvD W F H te σ (.int i)) : EvO W F H (tPart te) σ (some i) := fun F1 H1 g Q q => h F1 H1 g _ fun v e F2 H2 g2 hd ee => by
  subst ee
  exact ⟨i, hd.int', q F2 H2 g2⟩
theorem ev_slT {tl th : TO} {ds : List PyData} {lo hi : Option Int} (he : EvD W F H te σ (.tuple ds)) (h1 : EvO W F H tl σ lo) (h2 : EvO W F H th σ hi) : EvD W F H (tSl (rSlU K) te tl th) σ (.tuple (cutL ds lo hi)) := fun F1 H1 g Q q =>
  he F1 H1 g _ fun v e F2 H2 g2 hd ee => h1 F2 H2 (g.trans g2) _ fun F3 H3 g3 => h2 F3 H3 ((g.trans g2).trans g3) _ fun F4 H4 g4 => by
    subst ee
    obtain ⟨a, xs, rfl, ha, hl⟩ := hd.tup'
    have gg := (g2.trans g3).trans g4
    have ha4 := (g3.trans g4).ext _ _ ha
    have hl4 := DaL.mono (g3.trans g4).ext ds hl
    refine .inl ⟨a, xs, rfl, .inl (.inl (g4.st.inc _ _ ha4)), fun hw => ?_, fun hw p hp => q _ _ _ _ (gg.trans (Go.lay g4.st hp)) (.tup upd_same (DaL.mono (same_lay (g4.st.fresh hp)) _ (hl4.cut lo hi))) rfl⟩
    have ec : cutL ds lo hi = ds := by
      unfold cutL
      rw [← hl.length, hw.1, hw.2, List.drop_zero, Nat.sub_zero, hl.length, List.take_length]
    rw [ec] at q
    exact q _ _ F4 H4 gg (.tup ha4 hl4) rfl
theorem evl_slL {tl th : TO} {ds : List PyData} {lo hi : Option Int} (he : EvD W F H te σ (.list ds)) (h1 : EvO W F H tl σ lo) (h2 : EvO W F H th σ hi) : EvL W F H (tSl (rSlU K) te tl th) σ (fun es => es = cutL ds lo hi) := fun F1 H1 g Q q =>
  he F1 H1 g _ fun v e F2 H2 g2 hd ee => h1 F2 H2 (g.trans g2) _ fun F3 H3 g3 => h2 F3 H3 ((g.trans g2).trans g3) _ fun F4 H4 g4 => by
    subst ee
    obtain ⟨a, xs, rfl, ha, hl⟩ := hd.lst'
    have gg := (g2.trans g3).trans g4
    have ha4 := (g3.trans g4).ext _ _ ha
    refine .inr (.inl ⟨a, xs, rfl, .inl (.inl (g4.st.inc _ _ ha4)), fun p hp => ?_⟩)
    exact q p _ (cutL ds lo hi) F4 _ (gg.trans (Go.lay' g4.st hp)) (gg.back hp) (g4.st.fresh hp) upd_same ((DaL.mono (g3.trans g4).ext ds hl).cut lo hi) rfl
theorem ev_slS {tl th : TO} {x : Str} {lo hi : Option Int} (he : EvD W F H te σ (.str x)) (h1 : EvO W F H tl σ lo) (h2 : EvO W F H th σ hi) (hz : x.length ≤ sizeLine) : EvD W F H (tSl (rSlU K) te tl th) σ (.str (cutS x lo hi)) := fun F1 H1 g Q q =>
  he F1 H1 g _ fun v e F2 H2 g2 hd ee => h1 F2 H2 (g.trans g2) _ fun F3 H3 g3 => h2 F3 H3 ((g.trans g2).trans g3) _ fun F4 H4 g4 => by
    subst ee
    rw [hd.str']
    exact .inr (.inr ⟨x, rfl, hz, q _ _ F4 H4 ((g2.trans g3).trans g4) (.str _) rfl⟩)

/-! ### + -/
def rAddSt : R2 := fun x y H Q => ∃ i j, x = .str i ∧ y = .str j ∧ i.length + j.length ≤ sizeLine ∧ Q (.str (i ++ j)) H
def rAddU (K : PySem.W.Frag) : R2 := fun x y H Q => rI0 (fun i j => .int (i + j)) x y H Q ∨ (rCatA K x y H Q ∨ (rCat x y H Q ∨ rAddSt x y H Q))
theorem op_addU {X : Cx} : OpR X (binaryOp .Add) (rAddU X.K) := OpR.or op_add (OpR.or op_catA (OpR.or op_cat op_add_str))
theorem ev_addI {i j : Int} (ha : EvD W F H ta σ (.int i)) (hb : EvD W F H tb σ (.int j)) : EvD W F H (tOp (rAddU K) ta tb) σ (.int (i + j)) :=
  ev_op ha hb fun x y a b F1 H1 g da db ea eb => by
    subst ea eb
    rw [da.int', db.int']
    exact rv_now g.st (fun Q q => .inl ⟨i, j, rfl, rfl, q⟩) (.int _) rfl
theorem ev_addT {ds es : List PyData} (ha : EvD W F H ta σ (.tuple ds)) (hb : EvD W F H tb σ (.tuple es)) (hz : ds.length + es.length ≤ 100000) : EvD W F H (tOp (rAddU K) ta tb) σ (.tuple (ds ++ es)) :=
  ev_op ha hb fun x y a b F1 H1 g da db ea eb => by
    subst ea eb
    obtain ⟨p, xs, rfl, hp, hl⟩ := da.tup'
    obtain ⟨p', ys, rfl, hp', hl'⟩ := db.tup'
    refine fun Q q => .inr (.inl ⟨p, p', xs, ys, rfl, rfl, .inl (.inl (g.st.inc _ _ hp)), .inl (.inl (g.st.inc _ _ hp')), by rw [hl.length, hl'.length]; exact sz1000 hz, fun e => ?_, fun _ e => ?_, fun _ _ n hn => ?_⟩)
    · have e' : ds = [] := by
        rw [e] at hl; cases hl; rfl
      subst e'
      exact q _ _ F1 H1 (Go.refl g.st) db rfl
    · have e' : es = [] := by
        rw [e] at hl'; cases hl'; rfl
      subst e'
      exact q _ _ F1 H1 (Go.refl g.st) da (by rw [List.append_nil])
    · exact q _ _ _ _ (Go.lay g.st hn) (.tup upd_same (DaL.mono (same_lay (g.st.fresh hn)) _ (hl.append hl'))) rfl
theorem ev_addS {x y : Str} (ha : EvD W F H ta σ (.str x)) (hb : EvD W F H tb σ (.str y)) (hz : x.length + y.length ≤ sizeLine) : EvD W F H (tOp (rAddU K) ta tb) σ (.str (x ++ y)) :=
  ev_op ha hb fun v w a b F1 H1 g da db ea eb => by
    subst ea eb
    rw [da.str', db.str']
    exact rv_now g.st (fun Q q => .inr (.inr (.inr ⟨x, y, rfl, rfl, hz, q⟩))) (.str _) rfl

/-! ### list(x), tuple(x) -/
def rListOf (K : PySem.W.Frag) : List V → Hp → VK → Prop := fun xs H Q => ∃ p ys, xs = [.ref p] ∧ (SqL K H p ys ∨ SqT K H p ys) ∧ ∀ l, H l = none → Q (.ref l) (upd H l (.lst ys))
def rTupOf (K : PySem.W.Frag) : List V → Hp → VK → Prop := fun xs H Q => ∃ p ys, xs = [.ref p] ∧ ((SqL K H p ys ∧ ∀ l, H l = none → Q (.ref l) (upd H l (.tup ys))) ∨ (SqT K H p ys ∧ Q (.ref p) H))
theorem call_listOf {X : Cx} : CallR X (.type "list") (rListOf X.K) := call_list_of
theorem call_tupOf {X : Cx} : CallR X (.type "tuple") (rTupOf X.K) := call_tuple_of
theorem evl_listT {ds : List PyData} (he : EvD W F H te σ (.tuple ds)) : EvL W F H (tCB (rListOf K) (tCons te tNil)) σ (fun es => es = ds) := fun F1 H1 g Q q =>
  he F1 H1 g _ fun v e F2 H2 g2 hd ee => by
    subst ee
    obtain ⟨a, xs, rfl, ha, hl⟩ := hd.tup'
    exact ⟨a, xs, rfl, .inr (.inl (.inl (g2.st.inc _ _ ha))), fun p hp => q p xs ds F2 _ (g2.trans (Go.lay' g2.st hp)) (g2.back hp) (g2.st.fresh hp) upd_same hl rfl⟩
theorem evl_listL {ds : List PyData} (he : EvD W F H te σ (.list ds)) : EvL W F H (tCB (rListOf K) (tCons te tNil)) σ (fun es => es = ds) := fun F1 H1 g Q q =>
  he F1 H1 g _ fun v e F2 H2 g2 hd ee => by
    subst ee
    obtain ⟨a, xs, rfl, ha, hl⟩ := hd.lst'
    exact ⟨a, xs, rfl, .inl (.inl (.inl (g2.st.inc _ _ ha))), fun p hp => q p xs ds F2 _ (g2.trans (Go.lay' g2.st hp)) (g2.back hp) (g2.st.fresh hp) upd_same hl rfl⟩
theorem ev_tupT {ds : List PyData} (he : EvD W F H te σ (.tuple ds)) : EvD W F H (tCB (rTupOf K) (tCons te tNil)) σ (.tuple ds) := fun F1 H1 g Q q =>
  he F1 H1 g _ fun v e F2 H2 g2 hd ee => by
    subst ee
    obtain ⟨a, xs, rfl, ha, hl⟩ := hd.tup'
    exact ⟨a, xs, rfl, .inr ⟨.inl (.inl (g2.st.inc _ _ ha)), q _ _ F2 H2 g2 (.tup ha hl) rfl⟩⟩
theorem ev_tupR' {A : List PyData → Prop} (he : EvR W F H te σ (fun d => ∃ ds, d = .list ds ∧ A ds)) : EvR W F H (tCB (rTupOf K) (tCons te tNil)) σ (fun d => ∃ ds, d = .tuple ds ∧ A ds) := fun F1 H1 g Q q =>
  he F1 H1 g _ fun v e F2 H2 g2 hd ⟨ds, ee, pa⟩ => by
    subst ee
    obtain ⟨a, xs, rfl, ha, hl⟩ := hd.lst'
    exact ⟨a, xs, rfl, .inl ⟨.inl (.inl (g2.st.inc _ _ ha)), fun p hp => q _ _ _ _ (g2.trans (Go.lay g2.st hp)) (.tup upd_same (DaL.mono (same_lay (g2.st.fresh hp)) _ hl)) ⟨ds, rfl, pa⟩⟩⟩
theorem ev_tupL {ds : List PyData} (he : EvD W F H te σ (.list ds)) : EvD W F H (tCB (rTupOf K) (tCons te tNil)) σ (.tuple ds) :=
  (ev_tupR' (A := fun es => es = ds) (he.imp fun d e => ⟨ds, e, rfl⟩)).imp fun d ⟨es, e, e2⟩ => by rw [e, e2]

/-! ### all, sum, max -/
theorem da_bools {vs : List V} : ∀ {bs : List Bool}, DaL F vs (bs.map PyData.bool) → vs = bs.map V.bl := by
  intro bs
  induction bs generalizing vs with
  | nil => intro h; cases h; rfl
  | cons b bs ih =>
    intro h
    cases h with
    | cons h1 h2 => rw [h1.bl', ih h2]; rfl
theorem da_ints {vs : List V} : ∀ {ns : List Int}, DaL F vs (ns.map PyData.int) → vs = ns.map V.int := by
  intro ns
  induction ns generalizing vs with
  | nil => intro h; cases h; rfl
  | cons b bs ih =>
    intro h
    cases h with
    | cons h1 h2 => rw [h1.int', ih h2]; rfl
theorem ev_all {bs : List Bool} (he : EvD W F H te σ (.list (bs.map .bool))) : EvD W F H (tCB (rAll K) (tCons te tNil)) σ (.bool (bs.all id)) := fun F1 H1 g Q q =>
  he F1 H1 g _ fun v e F2 H2 g2 hd ee => by
    subst ee
    obtain ⟨a, xs, rfl, ha, hl⟩ := hd.lst'
    rw [da_bools hl] at ha
    exact ⟨a, bs, rfl, .inl (.inl (g2.st.inc _ _ ha)), q _ _ F2 H2 g2 (.bl _) rfl⟩
theorem ev_sum {ns : List Int} (he : EvD W F H te σ (.list (ns.map .int))) : EvD W F H (tCB (rSum K) (tCons te tNil)) σ (.int ns.sum) := fun F1 H1 g Q q =>
  he F1 H1 g _ fun v e F2 H2 g2 hd ee => by
    subst ee
    obtain ⟨a, xs, rfl, ha, hl⟩ := hd.lst'
    rw [da_ints hl] at ha
    exact ⟨a, ns, rfl, .inl (.inl (g2.st.inc _ _ ha)), q _ _ F2 H2 g2 (.int _) rfl⟩
theorem le_foldmax : ∀ (l : List Int) (n : Int), n ≤ l.foldl max n ∧ ∀ y ∈ l, y ≤ l.foldl max n
  | [], n => ⟨Int.le_refl _, fun y h => absurd h List.not_mem_nil⟩
  | x :: l, n => by
    obtain ⟨h1, h2⟩ := le_foldmax l (max n x)
    rw [List.foldl_cons]
    refine ⟨by omega, fun y hy => ?_⟩
    rcases List.mem_cons.mp hy with e | e
    · subst e; omega
    · exact h2 y e
theorem foldmax_mem : ∀ (l : List Int) (n : Int), l.foldl max n = n ∨ l.foldl max n ∈ l
  | [], n => .inl rfl
  | x :: l, n => by
    rw [List.foldl_cons]
    rcases foldmax_mem l (max n x) with e | e
    · rcases Int.le_total n x with h | h
      · right; rw [e, Int.max_eq_right h]; exact List.mem_cons_self
      · left; rw [e, Int.max_eq_left h]
    · right; exact List.mem_cons_of_mem _ e
theorem ev_max {n : Int} {ns : List Int} (he : EvD W F H te σ (.list ((n :: ns).map .int))) : EvD W F H (tCB (rMax K) (tCons te tNil)) σ (.int (ns.foldl max n)) := fun F1 H1 g Q q =>
  he F1 H1 g _ fun v e F2 H2 g2 hd ee => by
    subst ee
    obtain ⟨a, xs, rfl, ha, hl⟩ := hd.lst'
    rw [da_ints hl] at ha
    refine ⟨a, n :: ns, rfl, .inl (.inl (g2.st.inc _ _ ha)), Nat.succ_pos _, fun m hm hle => ?_⟩
    obtain ⟨h1, h2⟩ := le_foldmax ns n
    have e : m = ns.foldl max n := by
      have l1 : ns.foldl max n ≤ m := by
        rcases foldmax_mem ns n with z | z
        · rw [z]; exact hle n List.mem_cons_self
        · exact hle _ (List.mem_cons_of_mem _ z)
      rcases List.mem_cons.mp hm with z | z
      · subst z; omega
      · have := h2 m z; omega
    rw [e]
    exact q _ _ F2 H2 g2 (.int _) rfl
theorem ev_maxDf {tk : TE} {ns : List Int} {z : Int} (he : EvD W F H te σ (.tuple (ns.map .int))) (hz : EvD W F H tk σ (.int z)) :
    EvD W F H (tCKw (rMaxDf K) (tCons te tNil) (tCons tk tNil)) σ (.int (match ns with | [] => z | n :: r => r.foldl max n)) := fun F1 H1 g Q q =>
  he F1 H1 g _ fun v e F2 H2 g2 hd ee => hz F2 H2 (g.trans g2) _ fun v' e' F3 H3 g3 hd' ee' => by
    subst ee ee'
    obtain ⟨a, xs, rfl, ha, hl⟩ := hd.tup'
    rw [da_ints hl] at ha
    rw [hd'.int']
    refine ⟨a, ns, .int z, rfl, rfl, .inl (.inl (g3.st.inc _ _ (g3.ext _ _ ha))), fun e => ?_, fun n r e => ?_⟩
    · subst e; exact q _ _ F3 H3 (g2.trans g3) (.int _) rfl
    · subst e; exact q _ _ F3 H3 (g2.trans g3) (.int _) rfl
/-! ### int, ord -/
def rInt1 : List V → Hp → VK → Prop := fun xs H Q => (∃ i, xs = [.int i] ∧ Q (.int i) H) ∨ ∃ k, xs = [.bl k] ∧ Q (.int (if k then 1 else 0)) H
theorem call_intU {X : Cx} : CallR X (.type "int") rInt1 := call_int1
def rOrd : List V → Hp → VK → Prop := fun xs H Q => ∃ x, xs = [.str x] ∧ x.length = 1 ∧ Q (.int (x.cps.getD 0 0 : Nat)) H
theorem call_ordU {X : Cx} : CallR X (.builtin "ord") rOrd := call_ord
theorem ev_int1 {i : Int} (he : EvD W F H te σ (.int i)) : EvD W F H (tCB rInt1 (tCons te tNil)) σ (.int i) := fun F1 H1 g Q q =>
  he F1 H1 g _ fun v e F2 H2 g2 hd ee => by
    subst ee
    rw [hd.int']
    exact .inl ⟨i, rfl, q _ _ F2 H2 g2 (.int _) rfl⟩
theorem ev_ord {c : Nat} (he : EvD W F H te σ (.str ⟨#[c]⟩)) : EvD W F H (tCB rOrd (tCons te tNil)) σ (.int (c : Nat)) := fun F1 H1 g Q q =>
  he F1 H1 g _ fun v e F2 H2 g2 hd ee => by
    subst ee
    rw [hd.str']
    exact ⟨_, rfl, rfl, q _ _ F2 H2 g2 (.int _) rfl⟩
/-! ### in, not in -/
def rSgn (neg : Bool) : R2 := fun x y H Q => ∃ (c : Nat) (z : Str), x = .str ⟨#[c]⟩ ∧ y = .str z ∧ Q (.bl (if neg then !decide (c ∈ z.cps.toList) else decide (c ∈ z.cps.toList))) H
def rInU (K : PySem.W.Frag) (neg : Bool) : R2 := fun x y H Q => rIn K neg x y H Q ∨ rSgn neg x y H Q
theorem op_inU {X : Cx} : OpR X (compareOp .In) (rInU X.K false) := OpR.or op_in_seq op_in_sign
theorem op_notInU {X : Cx} : OpR X (compareOp .NotIn) (rInU X.K true) := OpR.or op_notIn_seq op_notIn_sign
def flatD : PyData → Bool
  | .none => true
  | .bool _ => true
  | .int _ => true
  | .str _ => true
  | _ => false
theorem Da.flat {v : V} {d : PyData} (h : Da F v d) (hf : flatD d = true) : flatV v = true := by cases h <;> first | rfl | cases hf
theorem Da.eqV {v u : V} {d e : PyData} (h : Da F v d) (h' : Da F u e) (hf : flatD d = true) (hf' : flatD e = true) : eqV v u = PyData.eqv d e := by
  cases h <;> first | (cases hf; done) | (cases h' <;> first | (cases hf'; done) | simp [L2.eqV, PyData.eqv])
theorem da_inV {vs : List V} {x : V} {e : PyData} (hx : Da F x e) (he : flatD e = true) : ∀ {ds : List PyData}, DaL F vs ds → ds.all flatD = true → inV x vs = ds.any (fun d => PyData.eqv d e) ∧ vs.all flatV = true := by
  intro ds
  induction ds generalizing vs with
  | nil => intro h _; cases h; exact ⟨rfl, rfl⟩
  | cons d ds ih =>
    intro h hf
    cases h with
    | cons h1 h2 =>
      rw [List.all_cons, Bool.and_eq_true] at hf
      obtain ⟨i1, i2⟩ := ih h2 hf.2
      refine ⟨?_, by rw [List.all_cons, h1.flat hf.1, i2]; rfl⟩
      have := h1.eqV hx hf.1 he
      unfold inV at i1 ⊢
      rw [List.any_cons, List.any_cons, i1, this]
theorem ev_inT {neg : Bool} {ds : List PyData} (ha : EvD W F H ta σ a) (hb : EvD W F H tb σ (.tuple ds)) (fa : flatD a = true) (fd : ds.all flatD = true) :
    EvD W F H (tOp (rInU K neg) ta tb) σ (.bool (if neg then !ds.any (fun d => PyData.eqv d a) else ds.any (fun d => PyData.eqv d a))) :=
  ev_op ha hb fun x y a' b F1 H1 g da db ea eb => by
    subst ea eb
    obtain ⟨p, xs, rfl, hp, hl⟩ := db.tup'
    obtain ⟨h1, h2⟩ := da_inV da fa hl fd
    rw [← h1]
    exact rv_now g.st (fun Q q => .inl ⟨p, xs, rfl, .inr (.inl (.inl (g.st.inc _ _ hp))), da.flat fa, h2, q⟩) (.bl _) rfl
theorem ev_inL {neg : Bool} {ds : List PyData} (ha : EvD W F H ta σ a) (hb : EvD W F H tb σ (.list ds)) (fa : flatD a = true) (fd : ds.all flatD = true) :
    EvD W F H (tOp (rInU K neg) ta tb) σ (.bool (if neg then !ds.any (fun d => PyData.eqv d a) else ds.any (fun d => PyData.eqv d a))) :=
  ev_op ha hb fun x y a' b F1 H1 g da db ea eb => by
    subst ea eb
    obtain ⟨p, xs, rfl, hp, hl⟩ := db.lst'
    obtain ⟨h1, h2⟩ := da_inV da fa hl fd
    rw [← h1]
    exact rv_now g.st (fun Q q => .inl ⟨p, xs, rfl, .inl (.inl (.inl (g.st.inc _ _ hp))), da.flat fa, h2, q⟩) (.bl _) rfl
theorem ev_sgn {neg : Bool} {c : Nat} {x : Str} (ha : EvD W F H ta σ (.str ⟨#[c]⟩)) (hb : EvD W F H tb σ (.str x)) :
    EvD W F H (tOp (rInU K neg) ta tb) σ (.bool (if neg then !decide (c ∈ x.cps.toList) else decide (c ∈ x.cps.toList))) :=
  ev_op ha hb fun v y a' b F1 H1 g da db ea eb => by
    subst ea eb
    rw [da.str', db.str']
    exact rv_now g.st (fun Q q => .inr ⟨c, x, rfl, rfl, q⟩) (.bl _) rfl
end
end DL
end
section
/-! DL5: comprehensions, promises of functions over data. -/
namespace DL
open PySem PySem.Spec PyProof.Rows L2
section
variable {W : Wd} {F H F0 H0 F' H' : Hp} {σ : L2.St} {ls : List Sx} {te ta tb : TE} {tt : TT} {d a b : PyData} {P : PyData → Prop} {i : Nat} {K : PySem.W.Frag}
theorem wipe1 (i : Nat) (v : Option V) : wipe ((wipe σ [i]).set i v) [i] = wipe σ [i] := by
  show (((σ.set i none).set i v).set i none) = σ.set i none
  rw [List.set_set, List.set_set]
/-- [e for x in ..] and [e for x in .. if t]: R i d y says what the item d gives (none: left out) -/
inductive Made (R : Nat → PyData → Option PyData → Prop) : Nat → List PyData → List PyData → Prop
  | nil {i : Nat} : Made R i [] []
  | skip {i : Nat} {d : PyData} {ds es : List PyData} : R i d none → Made R (i + 1) ds es → Made R i (d :: ds) es
  | keep {i : Nat} {d e : PyData} {ds es : List PyData} : R i d (some e) → Made R (i + 1) ds es → Made R i (d :: ds) (e :: es)
theorem Made.len {R : Nat → PyData → Option PyData → Prop} {i : Nat} {ds es : List PyData} (h : Made R i ds es) : es.length ≤ ds.length := by
  induction h with
  | nil => exact Nat.le_refl _
  | skip _ _ ih => exact Nat.le_succ_of_le ih
  | keep _ _ ih => exact Nat.succ_le_succ ih
theorem Made.snoc {R : Nat → PyData → Option PyData → Prop} {j : Nat} {ds es : List PyData} (h : Made R j ds es) {d : PyData} {o : Option PyData} (r : R (j + ds.length) d o) : Made R j (ds ++ [d]) (es ++ o.toList) := by
  induction h with
  | nil =>
    cases o with
    | none => exact .skip r .nil
    | some e => exact .keep r .nil
  | @skip i d' ds es r' _ ih => exact .skip r' (ih (by rw [show i + 1 + ds.length = i + (d' :: ds).length by rw [List.length_cons]; omega]; exact r))
  | @keep i d' e' ds es r' _ ih => exact .keep r' (ih (by rw [show i + 1 + ds.length = i + (d' :: ds).length by rw [List.length_cons]; omega]; exact r))
theorem Made.map {k : PyData → PyData} {q : PyData → Bool} : ∀ {i : Nat} {ds es : List PyData}, Made (fun _ d o => o = if q d then some (k d) else none) i ds es → es = (ds.filter q).map k
  | _, _, _, .nil => rfl
  | _, d :: ds, _, .skip r h => by
    have ih := Made.map h
    have hq : q d = false := by
      cases e : q d with
      | false => rfl
      | true => rw [e] at r; cases r
    rw [List.filter_cons_of_neg (by rw [hq]; exact Bool.false_ne_true)]
    exact ih
  | _, d :: ds, _, .keep r h => by
    have ih := Made.map h
    have hq : q d = true := by
      cases e : q d with
      | true => rfl
      | false => rw [e] at r; cases r
    rw [hq] at r
    rw [List.filter_cons_of_pos hq, List.map_cons, ← ih]
    cases r
    rfl
theorem evl_lc {wi : TI} {ds : List PyData} {R : Nat → PyData → Option PyData → Prop} (S : SL F σ ls) (he : EvI W F H wi σ (fun es => es = ds)) (hz : ds.length ≤ 100000)
    (hs : ∀ (j : Nat) d F1 H1 σ1, ds[j]? = some d → Go W F H F1 H1 → SL F1 σ1 ((ls.set i .un).set i (.da d)) →
      EvT W F1 H1 tt σ1 (fun b => (b = false → R j d none) ∧ (b = true → ∀ F2 H2, Go W F1 H1 F2 H2 → EvR W F2 H2 te σ1 (fun e => R j d (some e))))) :
    EvL W F H (tLc wi (gName i) tt te [i]) σ (fun es => Made R 0 ds es) := fun F1 H1 g Q q =>
  he F1 H1 g _ fun J es F2 H2 g2 en ee => by
    subst ee
    intro D hD
    have gD : Go W F2 H2 F2 (upd H2 D (.lst [])) := Go.lay' g2.st hD
    have hF2 : F2 D = none := g2.st.fresh hD
    have nB : ¬ W.B D := fun hb => W.trk g2.st.tp D hb hD
    refine ⟨fun j m H' => m = es.length - j ∧ j ≤ es.length ∧ ∃ F' vs rs, Go W F2 H2 F' H' ∧ F' D = none ∧ H' D = some (.lst vs) ∧ DaL F' vs rs ∧ Made R 0 (es.take j) rs, ⟨es.length, rfl, Nat.zero_le _, F2, [], [], gD, hF2, upd_same, .nil, by rw [List.take_zero]; exact .nil⟩, ?_⟩
    rintro j m H' ⟨rfl, hj, F', vs, rs, gg, hF, hH, hl, hm⟩
    by_cases hlt : j < es.length
    · refine .inr ⟨en.go j H' (gg.ext.trans gg.st.inc) hlt, fun H' => ∃ F' vs rs, Go W F2 H2 F' H' ∧ F' D = none ∧ H' D = some (.lst vs) ∧ DaL F' vs rs ∧ Made R 0 (es.take (j + 1)) rs, fun H'' h => ⟨es.length - (j + 1), by omega, rfl, hlt, h⟩, fun x H'' y => ?_⟩
      obtain ⟨d, F3, hd, g3, hx⟩ := en.yld F' j H' x H'' hlt gg.ext gg.st y
      have gg3 := gg.trans g3
      have S3 : SL F3 ((wipe σ [i]).set i (some x)) ((ls.set i .un).set i (.da d)) := ((S.mono ((g.trans g2).trans gg3).ext).wipe i).set i hx
      refine ⟨wipe1 i (some x), ?_⟩
      have ht : es.take (j + 1) = es.take j ++ [d] := by rw [List.take_add_one, hd]; rfl
      have hk : (es.take j).length = j := by rw [List.length_take]; omega
      refine hs j d F3 H'' _ hd ((g.trans g2).trans gg3) S3 F3 H'' (Go.refl g3.st) _ fun b F4 H4 g4 hb => ?_
      have hF3 := g3.un hH hF
      have hH3 := g3.keep D _ hH nB
      have hF4 := g4.un hH3 hF3
      have hH4 := g4.keep D _ hH3 nB
      have rd : ∀ {o}, R j d o → R (0 + (es.take j).length) d o := fun r => by rw [Nat.zero_add, hk]; exact r
      cases b with
      | false =>
        refine iteF ⟨F4, vs, rs, gg3.trans g4, hF4, hH4, DaL.mono (g3.trans g4).ext rs hl, ?_⟩
        rw [ht]
        have := hm.snoc (rd (hb.1 rfl))
        simpa using this
      | true =>
        refine iteT (hb.2 rfl F4 H4 g4 F4 H4 (Go.refl g4.st) _ fun v e F5 H5 g5 he' hr => ?_)
        have hF5 := g5.un hH4 hF4
        have hH5 := g5.keep D _ hH4 nB
        have hlen : vs.length < sizeLine := by
          have h1 := hm.len
          rw [hk] at h1
          rw [hl.length]
          exact Nat.lt_of_le_of_lt (show rs.length ≤ 100000 by omega) (by rw [sizeLine_eq]; decide)
        refine ⟨vs, hH5, hlen, F5, vs ++ [v], rs ++ [e], ((gg3.trans g4).trans g5).mut g2.st hD hF5, hF5, upd_same, (DaL.mono ((g3.trans g4).trans g5).ext rs hl).append (.cons he' .nil), ?_⟩
        rw [ht]
        have := hm.snoc (rd hr)
        simpa using this
    · have e : j = es.length := by omega
      subst e
      rw [List.take_length] at hm
      exact .inl ⟨en.stop _ H' (gg.ext.trans gg.st.inc) (Nat.le_refl _), q D vs rs F' H' (g2.trans gg) (g2.back hD) hF hH hl hm⟩
theorem et_yes : EvB W F H tYes σ true := fun F1 H1 g Q q => q true F1 H1 (Go.refl g.st) rfl
/-- [e for x in ..], each e exactly k of the item -/
theorem evl_lcD {wi : TI} {ds : List PyData} {k : PyData → PyData} (S : SL F σ ls) (he : EvI W F H wi σ (fun es => es = ds)) (hz : ds.length ≤ 100000)
    (hs : ∀ (j : Nat) d F1 H1 σ1, ds[j]? = some d → Go W F H F1 H1 → SL F1 σ1 ((ls.set i .un).set i (.da d)) → EvD W F1 H1 te σ1 (k d)) :
    EvL W F H (tLc wi (gName i) tYes te [i]) σ (fun es => es = ds.map k) := fun F1 H1 g Q q =>
  evl_lc (R := fun _ d o => o = if (fun _ => true) d then some (k d) else none) S he hz (fun j d F1 H1 σ1 h1 h2 h3 => by
    refine EvT.imp et_yes fun b hb => ?_
    subst hb
    exact ⟨(fun z => by cases z), fun _ F2 H2 g2 => ((hs j d F1 H1 σ1 h1 h2 h3).later g2).imp fun e z => by rw [z]; rfl⟩) F1 H1 g Q
    fun l vs es F2 H2 g2 n1 n2 hl hd hm => q l vs es F2 H2 g2 n1 n2 hl hd (by rw [Made.map hm, List.filter_eq_self.mpr (fun _ _ => rfl)])
/-- [e for x in .. if t], exactly -/
theorem evl_lcF {wi : TI} {ds : List PyData} {k : PyData → PyData} {p : PyData → Bool} (S : SL F σ ls) (he : EvI W F H wi σ (fun es => es = ds)) (hz : ds.length ≤ 100000)
    (ht : ∀ (j : Nat) d F1 H1 σ1, ds[j]? = some d → Go W F H F1 H1 → SL F1 σ1 ((ls.set i .un).set i (.da d)) → EvB W F1 H1 tt σ1 (p d))
    (hs : ∀ (j : Nat) d F1 H1 σ1, ds[j]? = some d → p d = true → Go W F H F1 H1 → SL F1 σ1 ((ls.set i .un).set i (.da d)) → EvD W F1 H1 te σ1 (k d)) :
    EvL W F H (tLc wi (gName i) tt te [i]) σ (fun es => es = (ds.filter p).map k) := fun F1 H1 g Q q =>
  evl_lc (R := fun _ d o => o = if p d then some (k d) else none) S he hz (fun j d F1 H1 σ1 h1 h2 h3 => by
    refine EvT.imp (ht j d F1 H1 σ1 h1 h2 h3) fun b hb => ?_
    exact ⟨fun z => by rw [← hb, z]; rfl, fun z F2 H2 g2 => ((hs j d F1 H1 σ1 h1 (by rw [← hb, z]) h2 h3).later g2).imp fun e z2 => by rw [z2, ← hb, z]; rfl⟩) F1 H1 g Q
    fun l vs es F2 H2 g2 n1 n2 hl hd hm => q l vs es F2 H2 g2 n1 n2 hl hd (Made.map hm)
/-- a fresh list as data, exactly -/
theorem ev_ofL {ds : List PyData} (h : EvL W F H te σ (fun es => es = ds)) : EvD W F H te σ (.list ds) := h.data.imp fun d ⟨es, e, e2⟩ => by rw [e, e2]

/-! ### promises -/
/-- a quiet function of n data that hands back the data f of them -/
def spD (n : Nat) (pre : List PyData → Prop) (f : List PyData → PyData) : Sp := fun vs H Q _ => vs.length = n ∧ ∃ F ds, Same F H ∧ DaL F vs ds ∧ pre ds ∧ ∀ v F' H', Go W0 F H F' H' → Da F' v (f ds) → Q v H'
theorem ev_callR {ta : TA} {n : Nat} {pre : List PyData → Prop} {f : List PyData → PyData} {A : List PyData → Prop} {E : XK} (h : EvA W F H ta σ A) (hp : ∀ ds, A ds → ds.length = n ∧ pre ds ∧ P (f ds)) : EvR W F H (tCall (spD n pre f) [] E ta) σ P := fun F1 H1 g Q q =>
  h F1 H1 g _ fun vs ds F2 H2 g2 hl pa => by
    obtain ⟨h1, h2, h3⟩ := hp ds pa
    show spD n pre f (vs ++ []) H2 Q E
    rw [List.append_nil]
    exact ⟨by rw [hl.length, h1], F2, ds, g2.st.inc, hl, h2, fun v F3 H3 g3 hd => q v _ F3 H3 (g2.trans (Go.of0 g2.st g3)) hd h3⟩
theorem ev_call {ta : TA} {n : Nat} {pre : List PyData → Prop} {f : List PyData → PyData} {ds : List PyData} {E : XK} (h : EvAD W F H ta σ ds) (hn : ds.length = n) (hp : pre ds) : EvD W F H (tCall (spD n pre f) [] E ta) σ (f ds) :=
  ev_callR h fun es e => by subst e; exact ⟨hn, hp, rfl⟩
/-- the same call where what is raised is wished for at the slots -/
theorem ev_callS {ta : TA} {n : Nat} {pre : List PyData → Prop} {f : List PyData → PyData} {ds : List PyData} {E : L2.St → XK} (h : EvAD W F H ta σ ds) (hn : ds.length = n) (hp : pre ds) : EvD W F H (fun σ H Q => ta σ H fun vs H1 => spD n pre f (vs ++ []) H1 Q (E σ)) σ (f ds) := fun F1 H1 g Q q =>
  ev_call (E := E σ) h hn hp F1 H1 g Q q
/-- the body of such a function -/
theorem spD_body {n : Nat} {pre : List PyData → Prop} {f : List PyData → PyData} {vs : List V} {Q : VK} {E : XK} {t : TS} {N : List Str} (h : spD n pre f vs H Q E) (hN : n ≤ N.length)
    (hb : ∀ F ds σ, ds.length = n → pre ds → Stt W0 F H → SL F σ (ds.map Sx.da ++ List.replicate (N.length - n) Sx.un) →
      ∀ D : Ends, (∀ v F' H', Go W0 F H F' H' → Da F' v (f ds) → D.rt v H') → t D σ H) : t { nx := fun _ H' => Q .non H', rt := Q } (start N vs) H := by
  obtain ⟨hn, F, ds, inc, hl, hp, k⟩ := h
  have e := hl.length
  have hS := SL.start N hl (by omega)
  rw [show ds.length = n by omega] at hS
  exact hb F ds _ (by omega) hp (Stt.zero inc) hS _ fun v F' H' g hd => k v F' H' g hd
theorem spD_len {n : Nat} {pre : List PyData → Prop} {f : List PyData → PyData} {N : List Str} (h : N.length = n) : ∀ (vs : List V) (H : Hp) (Q : VK) (E : XK), spD n pre f vs H Q E → vs.length = N.length := fun vs H Q E q => by rw [q.1, h]
end
end DL
end
section
/-! PM1: the pure machine: values, its store, what of the heap answers to it, steps. -/
namespace PM
open PySem PySem.Spec PyProof.Rows L2 DL

/-- an error: its class by name, the values of its fields -/
structure Exc where
  cls : Str
  args : List PyData
/-- a value: data, a list of the store, the tape and its inner list, the script, a caught error -/
inductive Vv where
  | da (d : PyData)
  | ref (n : Nat)
  | tape
  | wide
  | scr
  | exc (e : Exc)
inductive Cel where
  | mu (l : List Vv)
  | frz (l : List PyData)
/-- the tape: its places (none: the inner list), the inner list -/
structure Tp where
  tl : List (Option Int)
  wide : List Int
  on : Bool
structure Cf where
  st : List Cel
  tp : Tp
  sc : List Int
inductive Rs (ε α : Type) where
  | ok (a : α)
  | ex (e : ε)
  | bad
namespace Rs
variable {ε ε' α β : Type}
def bind (r : Rs ε α) (f : α → Rs ε β) : Rs ε β := match r with
  | .ok a => f a
  | .ex e => .ex e
  | .bad => .bad
def opt : Option α → Rs ε α
  | some a => .ok a
  | none => .bad
@[simp] theorem bind_ok (a : α) (f : α → Rs ε β) : (Rs.ok a : Rs ε α).bind f = f a := rfl
@[simp] theorem bind_ex (e : ε) (f : α → Rs ε β) : (Rs.ex e : Rs ε α).bind f = .ex e := rfl
@[simp] theorem bind_bad (f : α → Rs ε β) : (Rs.bad : Rs ε α).bind f = .bad := rfl
@[simp] theorem opt_some (a : α) : (Rs.opt (some a) : Rs ε α) = .ok a := rfl
@[simp] theorem opt_none : (Rs.opt none : Rs ε α) = .bad := rfl
end Rs
abbrev Sl := List (Option Vv)
abbrev RsC (α : Type) := Rs (Exc × Cf) (α × Cf)
def Post {α : Type} (r : RsC α) (k : α → Cf → Prop) (e : Exc → Cf → Prop) : Prop := match r with
  | .ok (a, c) => k a c
  | .ex (x, c) => e x c
  | .bad => False
theorem Post.imp {α : Type} {r : RsC α} {k k' : α → Cf → Prop} {e e' : Exc → Cf → Prop} (h : Post r k e) (hk : ∀ a c, k a c → k' a c) (he : ∀ x c, e x c → e' x c) : Post r k' e' := by
  cases r with
  | ok p => exact hk _ _ h
  | ex p => exact he _ _ h
  | bad => exact h
theorem Post.ok {α : Type} {r : RsC α} {k k' : α → Cf → Prop} {e : Exc → Cf → Prop} (h : Post r k e) (hk : ∀ a c, k a c → k' a c) : Post r k' e := h.imp hk fun _ _ z => z
theorem post_bind {α β : Type} {r : RsC α} {f : α × Cf → RsC β} {k : β → Cf → Prop} {e : Exc → Cf → Prop} : Post (r.bind f) k e ↔ Post r (fun a c => Post (f (a, c)) k e) e := by
  cases r <;> exact Iff.rfl
theorem post_opt {α : Type} {o : Option (α × Cf)} {k : α → Cf → Prop} {e : Exc → Cf → Prop} (h : Post (Rs.opt o) k e) : ∃ a c, o = some (a, c) ∧ k a c := by
  cases o with
  | none => exact h.elim
  | some p => exact ⟨p.1, p.2, rfl, h⟩

/-! ### what of the heap answers to it -/
structure Gm where
  K : PySem.W.Frag
  cls : Str → Option Addr
  fld : Str → List Str
  xa : Option (Addr × Value × Option Addr)
structure Cz where
  F : Hp
  as : List Addr
  T : Option (Addr × Addr)
  S : Option (Addr × Option HO)
  xa : Option (Addr × Value × Option Addr × Exc)
/-- what may change -/
def Mv (z : Cz) (a : Addr) : Prop := a ∈ z.as ∨ ∃ t w, z.T = some (t, w) ∧ (a = t ∨ a = w)
def RV (z : Cz) (x : V) : Vv → Prop
  | .da d => Da z.F x d
  | .ref n => ∃ a, z.as[n]? = some a ∧ x = .ref a
  | .tape => ∃ t w, z.T = some (t, w) ∧ x = .ref t
  | .wide => ∃ t w, z.T = some (t, w) ∧ x = .ref w
  | .scr => ∃ a o, z.S = some (a, o) ∧ x = .ref a
  | .exc e => ∃ a c d, z.xa = some (a, c, d, e) ∧ x = .ref a
inductive RVs (z : Cz) : List V → List Vv → Prop
  | nil : RVs z [] []
  | cons {x : V} {xs : List V} {v : Vv} {vs : List Vv} : RV z x v → RVs z xs vs → RVs z (x :: xs) (v :: vs)
def CelAt (z : Cz) (H : Hp) (a : Addr) : Option Cel → Prop
  | some (.mu l) => z.F a = none ∧ ∃ xs, H a = some (.lst xs) ∧ RVs z xs l
  | some (.frz ds) => ∃ xs, z.F a = some (.lst xs) ∧ DaL z.F xs ds
  | none => False
def tpV (w : Addr) : Option Int → V
  | none => .ref w
  | some i => .int i
def ExAt (Γ : Gm) (F H : Hp) (e : Exc) (cls : Value) (d : Option Addr) : Prop :=
  ∃ C dd xs, Γ.cls e.cls = some C ∧ cls = .ref C ∧ d = some dd ∧ xs.length = (Γ.fld e.cls).length ∧ H dd = some (.xd ((Γ.fld e.cls).zip xs)) ∧ DaL F xs e.args
structure Rl (Γ : Gm) (z : Cz) (H : Hp) (c : Cf) : Prop where
  inc : Same z.F H
  nd : z.as.Nodup
  len : z.as.length = c.st.length
  cel : ∀ (i : Nat) (a : Addr), z.as[i]? = some a → CelAt z H a c.st[i]?
  tap : ∀ t w, z.T = some (t, w) → t ≠ w ∧ t ∉ z.as ∧ w ∉ z.as ∧ z.F t = none ∧ z.F w = none ∧ H t = some (.lst (c.tp.tl.map (tpV w))) ∧ H w = some (.lst (c.tp.wide.map V.int))
  scr : ∀ a oo, z.S = some (a, oo) → (∀ o, oo = some o → H a = some o ∧ ¬ Mv z a) ∧ ∀ H' : Hp, (∀ o, oo = some o → H' a = some o) → SqL Γ.K H' a (c.sc.map V.int)
  exc : ∀ a cl d e, z.xa = some (a, cl, d, e) → ExAt Γ z.F H e cl d
  tpo : c.tp.on = false → z.T = none
/-- a step -/
structure Stp (z : Cz) (H : Hp) (z' : Cz) (H' : Hp) : Prop where
  ext : Same z.F z'.F
  as : ∃ bs, z'.as = z.as ++ bs
  T : ∀ p, z.T = some p → z'.T = some p
  S : z'.S = z.S
  xa : z'.xa = z.xa
  keep : ∀ a o, H a = some o → ¬ Mv z a → H' a = some o
  new : ∀ a, z'.F a ≠ none → z.F a = none → H a = none ∨ Mv z a
  mv : ∀ a, Mv z' a → ¬ Mv z a → H a = none
section
variable {Γ : Gm} {z z1 z2 z' : Cz} {H H1 H2 H' : Hp} {c c1 c2 c' : Cf} {x : V} {v : Vv}
theorem Stp.refl : Stp z H z H := ⟨Same.refl _, ⟨[], (List.append_nil _).symm⟩, fun _ h => h, rfl, rfl, fun _ _ h _ => h, fun _ h h' => absurd h' h, fun _ h h' => absurd h h'⟩
theorem Rl.there (R : Rl Γ z H c) {a : Addr} (h : Mv z a) : ∃ xs, H a = some (.lst xs) := by
  rcases h with h | ⟨t, w, hT, h⟩
  · obtain ⟨i, hi⟩ := List.getElem?_of_mem h
    have := R.cel i a hi
    cases e : c.st[i]? with
    | none => rw [e] at this; exact this.elim
    | some k =>
      rw [e] at this
      cases k with
      | mu l => obtain ⟨_, xs, h2, _⟩ := this; exact ⟨xs, h2⟩
      | frz ds => obtain ⟨xs, h2, _⟩ := this; exact ⟨xs, R.inc _ _ h2⟩
  · obtain ⟨_, _, _, _, _, h1, h2⟩ := R.tap t w hT
    rcases h with h | h
    · exact ⟨_, h ▸ h1⟩
    · exact ⟨_, h ▸ h2⟩
theorem Stp.mono (s : Stp z H z' H') {a : Addr} (h : Mv z a) : Mv z' a := by
  rcases h with h | ⟨t, w, hT, h⟩
  · obtain ⟨bs, e⟩ := s.as
    exact .inl (by rw [e]; exact List.mem_append_left _ h)
  · exact .inr ⟨t, w, s.T _ hT, h⟩
theorem Stp.back (R1 : Rl Γ z1 H1 c1) (s : Stp z H z1 H1) {a : Addr} (h : H1 a = none) : H a = none := by
  cases e : H a with
  | none => rfl
  | some o =>
    by_cases hm : Mv z a
    · obtain ⟨xs, hx⟩ := R1.there (s.mono hm)
      rw [h] at hx; cases hx
    · rw [s.keep a o e hm] at h; cases h
theorem Stp.trans (R1 : Rl Γ z1 H1 c1) (s : Stp z H z1 H1) (t : Stp z1 H1 z2 H2) : Stp z H z2 H2 := by
  refine ⟨s.ext.trans t.ext, ?_, fun p h => t.T p (s.T p h), t.S.trans s.S, t.xa.trans s.xa, fun a o h n => ?_, fun a h2 h0 => ?_, fun a h2 h0 => ?_⟩
  · obtain ⟨b1, e1⟩ := s.as
    obtain ⟨b2, e2⟩ := t.as
    exact ⟨b1 ++ b2, by rw [e2, e1, List.append_assoc]⟩
  · by_cases h1 : Mv z1 a
    · have := s.mv a h1 n
      rw [h] at this; cases this
    · exact t.keep a o (s.keep a o h n) h1
  · by_cases h1 : z1.F a = none
    · rcases t.new a h2 h1 with q | q
      · exact .inl (s.back R1 q)
      · by_cases hm : Mv z a
        · exact .inr hm
        · exact .inl (s.mv a q hm)
    · exact s.new a h1 h0
  · by_cases h1 : Mv z1 a
    · exact s.mv a h1 h0
    · exact s.back R1 (t.mv a h2 h1)
theorem RV.step (s : Stp z H z' H') : ∀ {v : Vv} {x : V}, RV z x v → RV z' x v
  | .da d, _, h => Da.mono s.ext d h
  | .ref n, _, ⟨a, h, e⟩ => by
    obtain ⟨bs, q⟩ := s.as
    refine ⟨a, ?_, e⟩
    rw [q, List.getElem?_append_left (List.getElem?_eq_some_iff.mp h).1]
    exact h
  | .tape, _, ⟨t, w, h, e⟩ => ⟨t, w, s.T _ h, e⟩
  | .wide, _, ⟨t, w, h, e⟩ => ⟨t, w, s.T _ h, e⟩
  | .scr, _, ⟨a, o, h, e⟩ => ⟨a, o, s.S.trans h, e⟩
  | .exc _, _, ⟨a, cl, d, h, e⟩ => ⟨a, cl, d, s.xa.trans h, e⟩
theorem RVs.step (s : Stp z H z' H') {xs : List V} {vs : List Vv} (h : RVs z xs vs) : RVs z' xs vs := by
  induction h with
  | nil => exact .nil
  | cons h _ ih => exact .cons (h.step s) ih
theorem RVs.length {xs : List V} {vs : List Vv} (h : RVs z xs vs) : xs.length = vs.length := by
  induction h with
  | nil => rfl
  | cons _ _ ih => rw [List.length_cons, List.length_cons, ih]
theorem RVs.append {xs ys : List V} {vs us : List Vv} (h : RVs z xs vs) (h' : RVs z ys us) : RVs z (xs ++ ys) (vs ++ us) := by
  induction h with
  | nil => exact h'
  | cons h _ ih => exact .cons h ih
theorem RVs.get {xs : List V} {vs : List Vv} (h : RVs z xs vs) {i : Nat} {v : Vv} (e : vs[i]? = some v) : ∃ x, xs[i]? = some x ∧ RV z x v := by
  induction h generalizing i with
  | nil => rw [List.getElem?_nil] at e; cases e
  | cons h _ ih =>
    cases i with
    | zero => rw [List.getElem?_cons_zero] at e; cases e; exact ⟨_, List.getElem?_cons_zero, h⟩
    | succ i => rw [List.getElem?_cons_succ] at e; obtain ⟨x, h1, h2⟩ := ih e; exact ⟨x, by rw [List.getElem?_cons_succ]; exact h1, h2⟩
theorem RVs.getV {xs : List V} {vs : List Vv} (h : RVs z xs vs) {i : Nat} {x : V} (e : xs[i]? = some x) : ∃ v, vs[i]? = some v ∧ RV z x v := by
  induction h generalizing i with
  | nil => rw [List.getElem?_nil] at e; cases e
  | cons h _ ih =>
    cases i with
    | zero => rw [List.getElem?_cons_zero] at e; cases e; exact ⟨_, List.getElem?_cons_zero, h⟩
    | succ i => rw [List.getElem?_cons_succ] at e; obtain ⟨v, h1, h2⟩ := ih e; exact ⟨v, by rw [List.getElem?_cons_succ]; exact h1, h2⟩
theorem RVs.set {xs : List V} {vs : List Vv} {x : V} {v : Vv} (h : RVs z xs vs) (i : Nat) (hx : RV z x v) : RVs z (xs.set i x) (vs.set i v) := by
  induction h generalizing i with
  | nil => exact .nil
  | cons h t ih =>
    cases i with
    | zero => exact .cons hx t
    | succ i => exact .cons h (ih i)
theorem RVs.take {xs : List V} {vs : List Vv} (h : RVs z xs vs) (n : Nat) : RVs z (xs.take n) (vs.take n) := by
  induction h generalizing n with
  | nil => rw [List.take_nil, List.take_nil]; exact .nil
  | cons h t ih =>
    cases n with
    | zero => exact .nil
    | succ n => exact .cons h (ih n)
theorem RVs.drop {xs : List V} {vs : List Vv} (h : RVs z xs vs) (n : Nat) : RVs z (xs.drop n) (vs.drop n) := by
  induction h generalizing n with
  | nil => rw [List.drop_nil, List.drop_nil]; exact .nil
  | cons h t ih =>
    cases n with
    | zero => exact .cons h t
    | succ n => exact ih n
theorem RVs.eraseIdx {xs : List V} {vs : List Vv} (h : RVs z xs vs) (i : Nat) : RVs z (xs.eraseIdx i) (vs.eraseIdx i) := by
  induction h generalizing i with
  | nil => exact .nil
  | cons h t ih =>
    cases i with
    | zero => exact t
    | succ i => exact .cons h (ih i)
theorem RVs.insertIdx {xs : List V} {vs : List Vv} {x : V} {v : Vv} (h : RVs z xs vs) (i : Nat) (hx : RV z x v) : RVs z (xs.take i ++ x :: xs.drop i) (vs.take i ++ v :: vs.drop i) := (h.take i).append (.cons hx (h.drop i))
theorem RVs.reverse {xs : List V} {vs : List Vv} (h : RVs z xs vs) : RVs z xs.reverse vs.reverse := by
  induction h with
  | nil => exact .nil
  | cons h t ih => rw [List.reverse_cons, List.reverse_cons]; exact ih.append (.cons h .nil)
theorem RVs.ofDa {xs : List V} {ds : List PyData} (h : DaL z.F xs ds) : RVs z xs (ds.map .da) := by
  induction ds generalizing xs with
  | nil => cases h; exact .nil
  | cons d ds ih => cases h with | cons h1 h2 => exact .cons h1 (ih h2)
theorem RVs.toDa {xs : List V} {ds : List PyData} (h : RVs z xs (ds.map .da)) : DaL z.F xs ds := by
  induction ds generalizing xs with
  | nil => cases h; exact .nil
  | cons d ds ih => cases h with | cons h1 h2 => exact .cons h1 (ih h2)
theorem ExAt.step (R : Rl Γ z H c) (s : Stp z H z' H') {e : Exc} {cl : Value} {d : Option Addr} (h : ExAt Γ z.F H e cl d) : ExAt Γ z'.F H' e cl d := by
  obtain ⟨C, dd, xs, h1, h2, h3, h4, h5, h6⟩ := h
  refine ⟨C, dd, xs, h1, h2, h3, h4, s.keep dd _ h5 fun hm => ?_, DaL.mono s.ext _ h6⟩
  obtain ⟨ys, hy⟩ := R.there hm
  rw [h5] at hy; cases hy

/-! ### the three kinds of steps -/
/-- a new object is frozen at once -/
theorem Rl.fresh (R : Rl Γ z H c) {p : Addr} (hp : H p = none) : z.F p = none ∧ ¬ Mv z p := by
  refine ⟨?_, fun hm => ?_⟩
  · cases e : z.F p with
    | none => rfl
    | some o => rw [R.inc _ _ e] at hp; cases hp
  · obtain ⟨xs, hx⟩ := R.there hm
    rw [hp] at hx; cases hx
def Cz.lay (z : Cz) (p : Addr) (o : HO) : Cz := { z with F := upd z.F p o }
theorem Rl.ne (R : Rl Γ z H c) {p a : Addr} (hp : H p = none) (hm : Mv z a) : a ≠ p := fun e => (R.fresh hp).2 (e ▸ hm)
theorem CelAt.mono {z z' : Cz} {H H' : Hp} {a : Addr} {o : Option Cel} (s : Stp z H z' H') (hF : z.F a = none → z'.F a = none) (hH : ∀ xs, H a = some (.lst xs) → H' a = some (.lst xs)) (h : CelAt z H a o) : CelAt z' H' a o := by
  cases o with
  | none => exact h
  | some k =>
    cases k with
    | mu l => obtain ⟨h1, xs, h2, h3⟩ := h; exact ⟨hF h1, xs, hH _ h2, h3.step s⟩
    | frz ds => obtain ⟨xs, h2, h3⟩ := h; exact ⟨xs, s.ext _ _ h2, DaL.mono s.ext _ h3⟩
theorem Rl.lay (R : Rl Γ z H c) {p : Addr} {o : HO} (hp : H p = none) : Stp z H (z.lay p o) (upd H p o) ∧ Rl Γ (z.lay p o) (upd H p o) c := by
  obtain ⟨hF, hM⟩ := R.fresh hp
  have s : Stp z H (z.lay p o) (upd H p o) := by
    refine ⟨same_lay hF, ⟨[], (List.append_nil _).symm⟩, fun _ h => h, rfl, rfl, fun a u h _ => ?_, fun a h1 h2 => ?_, fun a h1 h2 => absurd h1 h2⟩
    · rw [upd_ne (ne_of_none h hp)]; exact h
    · by_cases ha : a = p
      · exact .inl (ha ▸ hp)
      · exact absurd h2 (by rw [← upd_ne (H := z.F) (o := o) ha]; exact h1)
  refine ⟨s, ⟨fun a u h => ?_, R.nd, R.len, fun i a hi => ?_, fun t w hT => ?_, fun a u hS => ?_, fun a cl d e hx => ?_, R.tpo⟩⟩
  · by_cases ha : a = p
    · subst ha
      have h : upd z.F a o a = some u := h
      rw [upd_same] at h ⊢; exact h
    · have h : upd z.F p o a = some u := h
      rw [upd_ne ha] at h ⊢; exact R.inc _ _ h
  · have ha : a ≠ p := R.ne hp (.inl (List.mem_of_getElem? hi))
    exact CelAt.mono s (fun h => (upd_ne ha).trans h) (fun xs h => (upd_ne ha).trans h) (R.cel i a hi)
  · obtain ⟨h1, h2, h3, h4, h5, h6, h7⟩ := R.tap t w hT
    have n1 : t ≠ p := R.ne hp (.inr ⟨t, w, hT, .inl rfl⟩)
    have n2 : w ≠ p := R.ne hp (.inr ⟨t, w, hT, .inr rfl⟩)
    exact ⟨h1, h2, h3, (upd_ne n1).trans h4, (upd_ne n2).trans h5, (upd_ne n1).trans h6, (upd_ne n2).trans h7⟩
  · obtain ⟨h1, h3⟩ := R.scr a u hS
    exact ⟨fun o e => ⟨s.keep a o (h1 o e).1 (h1 o e).2, (h1 o e).2⟩, h3⟩
  · exact ExAt.step R s (R.exc a cl d e hx)
theorem nodup_at {α : Type} : ∀ {l : List α}, l.Nodup → ∀ {i j : Nat} {a : α}, l[i]? = some a → l[j]? = some a → i = j
  | [], _, _, _, _, h, _ => by rw [List.getElem?_nil] at h; cases h
  | b :: l, n, 0, 0, _, _, _ => rfl
  | b :: l, n, 0, j + 1, a, h, h' => by
    rw [List.getElem?_cons_zero] at h
    rw [List.getElem?_cons_succ] at h'
    cases h
    exact absurd (List.mem_of_getElem? h') (List.nodup_cons.mp n).1
  | b :: l, n, i + 1, 0, a, h, h' => by
    rw [List.getElem?_cons_zero] at h'
    rw [List.getElem?_cons_succ] at h
    cases h'
    exact absurd (List.mem_of_getElem? h) (List.nodup_cons.mp n).1
  | b :: l, n, i + 1, j + 1, a, h, h' => by
    rw [List.getElem?_cons_succ] at h h'
    rw [nodup_at (List.nodup_cons.mp n).2 h h']
/-- a new list of the store -/
def Cz.app (z : Cz) (p : Addr) : Cz := { z with as := z.as ++ [p] }
def Cf.app (c : Cf) (l : List Vv) : Cf := { c with st := c.st ++ [.mu l] }
theorem Rl.app (R : Rl Γ z H c) {p : Addr} {xs : List V} {l : List Vv} (hp : H p = none) (hl : RVs z xs l) : Stp z H (z.app p) (upd H p (.lst xs)) ∧ Rl Γ (z.app p) (upd H p (.lst xs)) (c.app l) ∧ RV (z.app p) (.ref p) (.ref c.st.length) := by
  obtain ⟨hF, hM⟩ := R.fresh hp
  have s : Stp z H (z.app p) (upd H p (.lst xs)) := by
    refine ⟨Same.refl _, ⟨[p], rfl⟩, fun _ h => h, rfl, rfl, fun a u h _ => ?_, fun a h1 h2 => absurd h2 h1, fun a h1 h2 => ?_⟩
    · rw [upd_ne (ne_of_none h hp)]; exact h
    · rcases h1 with h1 | h1
      · rcases List.mem_append.mp h1 with h1 | h1
        · exact absurd (.inl h1) h2
        · rw [List.mem_singleton] at h1; exact h1 ▸ hp
      · exact absurd (.inr h1) h2
  refine ⟨s, ⟨fun a u h => ?_, ?_, ?_, fun i a hi => ?_, fun t w hT => ?_, fun a u hS => ?_, fun a cl d e hx => ExAt.step R s (R.exc a cl d e hx), R.tpo⟩, ?_⟩
  · rw [upd_ne (ne_of_none (R.inc _ _ h) hp)]; exact R.inc _ _ h
  · refine List.nodup_append.mpr ⟨R.nd, List.nodup_cons.mpr ⟨by simp, List.nodup_nil⟩, fun a ha b hb => ?_⟩
    rw [List.mem_singleton] at hb
    subst hb
    exact R.ne hp (.inl ha)
  · show (z.as ++ [p]).length = (c.st ++ [Cel.mu l]).length
    rw [List.length_append, List.length_append, R.len]; rfl
  · have hi : (z.as ++ [p])[i]? = some a := hi
    show CelAt _ _ a (c.st ++ [Cel.mu l])[i]?
    by_cases hlt : i < z.as.length
    · rw [List.getElem?_append_left hlt] at hi
      rw [List.getElem?_append_left (R.len ▸ hlt)]
      have ha : a ≠ p := R.ne hp (.inl (List.mem_of_getElem? hi))
      exact CelAt.mono s (fun h => h) (fun ys h => (upd_ne ha).trans h) (R.cel i a hi)
    · rw [List.getElem?_append_right (by omega)] at hi
      have h0 : i - z.as.length = 0 := by
        cases q : i - z.as.length with
        | zero => rfl
        | succ n => rw [q] at hi; cases hi
      rw [h0] at hi
      cases hi
      rw [List.getElem?_append_right (by rw [← R.len]; omega), ← R.len, h0]
      exact ⟨hF, xs, upd_same, hl.step s⟩
  · obtain ⟨h1, h2, h3, h4, h5, h6, h7⟩ := R.tap t w hT
    have n1 : t ≠ p := R.ne hp (.inr ⟨t, w, hT, .inl rfl⟩)
    have n2 : w ≠ p := R.ne hp (.inr ⟨t, w, hT, .inr rfl⟩)
    refine ⟨h1, fun hm => ?_, fun hm => ?_, h4, h5, (upd_ne n1).trans h6, (upd_ne n2).trans h7⟩
    · rcases List.mem_append.mp hm with q | q
      · exact h2 q
      · rw [List.mem_singleton] at q; exact n1 q
    · rcases List.mem_append.mp hm with q | q
      · exact h3 q
      · rw [List.mem_singleton] at q; exact n2 q
  · obtain ⟨h0, h3⟩ := R.scr a u hS
    refine ⟨fun o e => ⟨s.keep a o (h0 o e).1 (h0 o e).2, fun hm => ?_⟩, h3⟩
    obtain ⟨h1, h2⟩ := h0 o e
    rcases hm with hm | hm
    · rcases List.mem_append.mp hm with q | q
      · exact h2 (.inl q)
      · rw [List.mem_singleton] at q; rw [q, hp] at h1; cases h1
    · exact h2 (.inr hm)
  · refine ⟨p, ?_, rfl⟩
    show (z.as ++ [p])[c.st.length]? = some p
    rw [← R.len, List.getElem?_append_right (Nat.le_refl _), Nat.sub_self]
    rfl
/-- a list of the store is changed -/
def Cf.put (c : Cf) (n : Nat) (l : List Vv) : Cf := { c with st := c.st.set n (.mu l) }
theorem Rl.at (R : Rl Γ z H c) {n : Nat} {l : List Vv} {x : V} (hx : RV z x (.ref n)) (e : c.st[n]? = some (.mu l)) : ∃ a xs, x = .ref a ∧ z.as[n]? = some a ∧ z.F a = none ∧ H a = some (.lst xs) ∧ RVs z xs l := by
  obtain ⟨a, ha, rfl⟩ := hx
  have := R.cel n a ha
  rw [e] at this
  obtain ⟨h1, xs, h2, h3⟩ := this
  exact ⟨a, xs, rfl, ha, h1, h2, h3⟩
theorem Rl.put (R : Rl Γ z H c) {n : Nat} {a : Addr} {xs : List V} {l : List Vv} (ha : z.as[n]? = some a) (hF : z.F a = none) (hl : RVs z xs l) : Stp z H z (upd H a (.lst xs)) ∧ Rl Γ z (upd H a (.lst xs)) (c.put n l) := by
  have hm : a ∈ z.as := List.mem_of_getElem? ha
  have s : Stp z H z (upd H a (.lst xs)) := by
    refine ⟨Same.refl _, ⟨[], (List.append_nil _).symm⟩, fun _ h => h, rfl, rfl, fun b u h n => ?_, fun b h1 h2 => absurd h2 h1, fun b h1 h2 => absurd h1 h2⟩
    rw [upd_ne (fun q => n (.inl (by rw [q]; exact hm)))]; exact h
  refine ⟨s, ⟨fun b u h => ?_, R.nd, ?_, fun i b hi => ?_, fun t w hT => ?_, fun b u hS => ?_, fun b cl d e hx => ExAt.step R s (R.exc b cl d e hx), R.tpo⟩⟩
  · rw [upd_ne (ne_of_none h hF)]; exact R.inc _ _ h
  · show z.as.length = (c.st.set n (.mu l)).length
    rw [List.length_set, R.len]
  · show CelAt _ _ b (c.st.set n (.mu l))[i]?
    by_cases hn : n = i
    · subst hn
      rw [ha] at hi
      cases hi
      rw [List.getElem?_set_self (by rw [← R.len]; exact (List.getElem?_eq_some_iff.mp ha).1)]
      exact ⟨hF, xs, upd_same, hl⟩
    · rw [List.getElem?_set_ne hn]
      have hb : b ≠ a := fun q => by
        subst q
        exact hn (nodup_at R.nd ha hi)
      exact CelAt.mono s (fun h => h) (fun ys h => (upd_ne hb).trans h) (R.cel i b hi)
  · obtain ⟨h1, h2, h3, h4, h5, h6, h7⟩ := R.tap t w hT
    have n1 : t ≠ a := fun q => h2 (q ▸ hm)
    have n2 : w ≠ a := fun q => h3 (q ▸ hm)
    exact ⟨h1, h2, h3, h4, h5, (upd_ne n1).trans h6, (upd_ne n2).trans h7⟩
  · obtain ⟨h1, h3⟩ := R.scr b u hS
    exact ⟨fun o e => ⟨s.keep b o (h1 o e).1 (h1 o e).2, (h1 o e).2⟩, h3⟩
/-- a list of the store is frozen -/
theorem Rl.frz (R : Rl Γ z H c) {n : Nat} {a : Addr} {xs : List V} {ds : List PyData} (ha : z.as[n]? = some a) (hF : z.F a = none) (hH : H a = some (.lst xs)) (hl : DaL z.F xs ds) :
    Stp z H (z.lay a (.lst xs)) H ∧ Rl Γ (z.lay a (.lst xs)) H { c with st := c.st.set n (.frz ds) } := by
  have hm : a ∈ z.as := List.mem_of_getElem? ha
  have s : Stp z H (z.lay a (.lst xs)) H := by
    refine ⟨same_lay hF, ⟨[], (List.append_nil _).symm⟩, fun _ h => h, rfl, rfl, fun b u h _ => h, fun b h1 h2 => ?_, fun b h1 h2 => absurd h1 h2⟩
    by_cases hb : b = a
    · exact .inr (.inl (hb ▸ hm))
    · exact absurd h2 (by rw [← upd_ne (H := z.F) (o := .lst xs) hb]; exact h1)
  refine ⟨s, ⟨fun b u h => ?_, R.nd, ?_, fun i b hi => ?_, fun t w hT => ?_, R.scr, fun b cl d e hx => ExAt.step R s (R.exc b cl d e hx), R.tpo⟩⟩
  · have h : upd z.F a (.lst xs) b = some u := h
    by_cases hb : b = a
    · subst hb; rw [upd_same] at h; rw [hH]; exact h
    · rw [upd_ne hb] at h; exact R.inc _ _ h
  · show z.as.length = (c.st.set n (.frz ds)).length
    rw [List.length_set, R.len]
  · show CelAt _ _ b (c.st.set n (.frz ds))[i]?
    by_cases hn : n = i
    · subst hn
      rw [show (z.lay a (.lst xs)).as = z.as from rfl, ha] at hi
      cases hi
      rw [List.getElem?_set_self (by rw [← R.len]; exact (List.getElem?_eq_some_iff.mp ha).1)]
      exact ⟨xs, upd_same, DaL.mono (same_lay hF) _ hl⟩
    · rw [List.getElem?_set_ne hn]
      have hb : b ≠ a := fun q => by
        subst q
        exact hn (nodup_at R.nd ha hi)
      exact CelAt.mono s (fun h => (upd_ne hb).trans h) (fun ys h => h) (R.cel i b hi)
  · obtain ⟨h1, h2, h3, h4, h5, h6, h7⟩ := R.tap t w hT
    have n1 : t ≠ a := fun q => h2 (q ▸ hm)
    have n2 : w ≠ a := fun q => h3 (q ▸ hm)
    exact ⟨h1, h2, h3, (upd_ne n1).trans h4, (upd_ne n2).trans h5, h6, h7⟩
/-- the tape's change -/
theorem Rl.tape (R : Rl Γ z H c) {t w : Addr} {p : Tp} (hT : z.T = some (t, w)) (hp : p.on = c.tp.on) : Stp z H z (upd (upd H t (.lst (p.tl.map (tpV w)))) w (.lst (p.wide.map V.int))) ∧ Rl Γ z (upd (upd H t (.lst (p.tl.map (tpV w)))) w (.lst (p.wide.map V.int))) { c with tp := p } := by
  obtain ⟨h1, h2, h3, h4, h5, h6, h7⟩ := R.tap t w hT
  have s : Stp z H z (upd (upd H t (.lst (p.tl.map (tpV w)))) w (.lst (p.wide.map V.int))) := by
    refine ⟨Same.refl _, ⟨[], (List.append_nil _).symm⟩, fun _ h => h, rfl, rfl, fun b u h n => ?_, fun b h1 h2 => absurd h2 h1, fun b h1 h2 => absurd h1 h2⟩
    rw [upd_ne (fun q => n (.inr ⟨t, w, hT, .inr q⟩)), upd_ne (fun q => n (.inr ⟨t, w, hT, .inl q⟩))]; exact h
  refine ⟨s, ⟨fun b u h => ?_, R.nd, R.len, fun i b hi => ?_, fun t' w' hT' => ?_, fun b u hS => ?_, fun b cl d e hx => ExAt.step R s (R.exc b cl d e hx), fun h => R.tpo (hp ▸ h)⟩⟩
  · rw [upd_ne (ne_of_none h h5), upd_ne (ne_of_none h h4)]; exact R.inc _ _ h
  · have hm := List.mem_of_getElem? hi
    have n1 : b ≠ t := fun q => h2 (q ▸ hm)
    have n2 : b ≠ w := fun q => h3 (q ▸ hm)
    exact CelAt.mono s (fun h => h) (fun ys h => (upd_ne n2).trans ((upd_ne n1).trans h)) (R.cel i b hi)
  · rw [hT] at hT'
    cases hT'
    exact ⟨h1, h2, h3, h4, h5, (upd_ne h1).trans upd_same, upd_same⟩
  · obtain ⟨g1, g3⟩ := R.scr b u hS
    exact ⟨fun o e => ⟨s.keep b o (g1 o e).1 (g1 o e).2, (g1 o e).2⟩, g3⟩

/-! ### slots -/
structure RSl (z : Cz) (σ : L2.St) (sl : Sl) : Prop where
  len : σ.length = sl.length
  val : ∀ (i : Nat) (v : Vv), sl[i]? = some (some v) → ∃ x, σ[i]? = some (some x) ∧ RV z x v
theorem RSl.step {σ : L2.St} {sl : Sl} (S : RSl z σ sl) (s : Stp z H z' H') : RSl z' σ sl := ⟨S.len, fun i v h => let ⟨x, h1, h2⟩ := S.val i v h; ⟨x, h1, h2.step s⟩⟩
theorem RSl.set {σ : L2.St} {sl : Sl} (S : RSl z σ sl) (i : Nat) (h : RV z x v) : RSl z (σ.set i (some x)) (sl.set i (some v)) := by
  refine ⟨by rw [List.length_set, List.length_set, S.len], fun j u hj => ?_⟩
  by_cases hij : i = j
  · subst hij
    by_cases hl : i < sl.length
    · rw [List.getElem?_set_self hl] at hj
      cases hj
      exact ⟨x, List.getElem?_set_self (by rw [S.len]; exact hl), h⟩
    · rw [List.getElem?_eq_none (by rw [List.length_set]; omega)] at hj
      cases hj
  · rw [List.getElem?_set_ne hij] at hj ⊢
    exact S.val j u hj
theorem RSl.wipe {σ : L2.St} {sl : Sl} (S : RSl z σ sl) (i : Nat) : RSl z (σ.set i none) (sl.set i none) := by
  refine ⟨by rw [List.length_set, List.length_set, S.len], fun j u hj => ?_⟩
  by_cases hij : i = j
  · subst hij
    by_cases hl : i < sl.length
    · rw [List.getElem?_set_self hl] at hj
      cases hj
    · rw [List.getElem?_eq_none (by rw [List.length_set]; omega)] at hj
      cases hj
  · rw [List.getElem?_set_ne hij] at hj ⊢
    exact S.val j u hj
structure At (Γ : Gm) (z : Cz) (sl : Sl) (c : Cf) (σ : L2.St) (H : Hp) : Prop where
  rl : Rl Γ z H c
  sl : RSl z σ sl
  xa : z.xa.map (fun p => (p.1, p.2.1, p.2.2.1)) = Γ.xa
theorem At.to {sl : Sl} {σ : L2.St} (A : At Γ z sl c σ H) (s : Stp z H z' H') (R : Rl Γ z' H' c') : At Γ z' sl c' σ H' := ⟨R, A.sl.step s, by rw [s.xa]; exact A.xa⟩
theorem At.set {sl : Sl} {σ : L2.St} (A : At Γ z sl c σ H) (i : Nat) (h : RV z x v) : At Γ z (sl.set i (some v)) c (σ.set i (some x)) H := ⟨A.rl, A.sl.set i h, A.xa⟩
theorem At.wipe {sl : Sl} {σ : L2.St} (A : At Γ z sl c σ H) (i : Nat) : At Γ z (sl.set i none) c (σ.set i none) H := ⟨A.rl, A.sl.wipe i, A.xa⟩
end
end PM
end
section
/-! PM2: pure code of expressions and its weakest readings. -/
namespace PM
open PySem PySem.Spec PyProof.Rows L2 DL

abbrev ME := Sl → Cf → RsC Vv
abbrev MA := Sl → Cf → RsC (List Vv)
abbrev MT := Sl → Cf → RsC Bool
abbrev MO := Sl → Cf → RsC (Option Int)
section
variable {Γ : Gm} {W : WX} {z z1 z' : Cz} {H H1 H' : Hp} {σ : L2.St} {sl : Sl} {c c1 c' : Cf}
def okE (Γ : Gm) (z : Cz) (H : Hp) (Q : VK) (v : Vv) (c' : Cf) : Prop := ∀ z' H' x, Stp z H z' H' → Rl Γ z' H' c' → RV z' x v → Q x H'
def okA (Γ : Gm) (z : Cz) (H : Hp) (Q : List V → Hp → Prop) (vs : List Vv) (c' : Cf) : Prop := ∀ z' H' xs, Stp z H z' H' → Rl Γ z' H' c' → RVs z' xs vs → Q xs H'
def okT {α : Type} (Γ : Gm) (z : Cz) (H : Hp) (Q : α → Hp → Prop) (b : α) (c' : Cf) : Prop := ∀ z' H', Stp z H z' H' → Rl Γ z' H' c' → Q b H'
def exE (Γ : Gm) (W : WX) (z : Cz) (H : Hp) (σ : L2.St) (e : Exc) (c' : Cf) : Prop := ∀ z' H' cl d, Stp z H z' H' → Rl Γ z' H' c' → ExAt Γ z'.F H' e cl d → W cl d σ H'
def canE (Γ : Gm) (W : WX) (m : ME) : TE := fun σ H Q => ∃ z sl c, At Γ z sl c σ H ∧ Post (m sl c) (okE Γ z H Q) (exE Γ W z H σ)
def canA (Γ : Gm) (W : WX) (m : MA) : TA := fun σ H Q => ∃ z sl c, At Γ z sl c σ H ∧ Post (m sl c) (okA Γ z H Q) (exE Γ W z H σ)
def canT (Γ : Gm) (W : WX) (m : MT) : TT := fun σ H Q => ∃ z sl c, At Γ z sl c σ H ∧ Post (m sl c) (okT Γ z H Q) (exE Γ W z H σ)
def canO (Γ : Gm) (W : WX) (m : MO) : TO := fun σ H Q => ∃ z sl c, At Γ z sl c σ H ∧ Post (m sl c) (okT Γ z H Q) (exE Γ W z H σ)
theorem okE.later {Q : VK} {v : Vv} (s : Stp z H z1 H1) (R : Rl Γ z1 H1 c1) (h : okE Γ z H Q v c') : okE Γ z1 H1 Q v c' := fun z' H' x t => h z' H' x (s.trans R t)
theorem okA.later {Q : List V → Hp → Prop} {v : List Vv} (s : Stp z H z1 H1) (R : Rl Γ z1 H1 c1) (h : okA Γ z H Q v c') : okA Γ z1 H1 Q v c' := fun z' H' x t => h z' H' x (s.trans R t)
theorem okT.later {α : Type} {Q : α → Hp → Prop} {v : α} (s : Stp z H z1 H1) (R : Rl Γ z1 H1 c1) (h : okT Γ z H Q v c') : okT Γ z1 H1 Q v c' := fun z' H' t => h z' H' (s.trans R t)
theorem exE.later {e : Exc} (s : Stp z H z1 H1) (R : Rl Γ z1 H1 c1) (h : exE Γ W z H σ e c') : exE Γ W z1 H1 σ e c' := fun z' H' cl d t => h z' H' cl d (s.trans R t)
/-- the next stage: what is left is asked from the state behind the first -/
theorem canE.run {m : ME} {Q : VK} {k : Vv → Cf → Prop} (A : At Γ z sl c σ H) (P : Post (m sl c) k (exE Γ W z H σ)) (h : ∀ v c1 z1 H1 x, k v c1 → Stp z H z1 H1 → At Γ z1 sl c1 σ H1 → RV z1 x v → Q x H1) : canE Γ W m σ H Q :=
  ⟨z, sl, c, A, P.ok fun v c1 hk z1 H1 x s R r => h v c1 z1 H1 x hk s (A.to s R) r⟩
theorem canA.run {m : MA} {Q : List V → Hp → Prop} {k : List Vv → Cf → Prop} (A : At Γ z sl c σ H) (P : Post (m sl c) k (exE Γ W z H σ)) (h : ∀ v c1 z1 H1 x, k v c1 → Stp z H z1 H1 → At Γ z1 sl c1 σ H1 → RVs z1 x v → Q x H1) : canA Γ W m σ H Q :=
  ⟨z, sl, c, A, P.ok fun v c1 hk z1 H1 x s R r => h v c1 z1 H1 x hk s (A.to s R) r⟩
theorem canT.run {m : MT} {Q : Bool → Hp → Prop} {k : Bool → Cf → Prop} (A : At Γ z sl c σ H) (P : Post (m sl c) k (exE Γ W z H σ)) (h : ∀ b c1 z1 H1, k b c1 → Stp z H z1 H1 → At Γ z1 sl c1 σ H1 → Q b H1) : canT Γ W m σ H Q :=
  ⟨z, sl, c, A, P.ok fun v c1 hk z1 H1 s R => h v c1 z1 H1 hk s (A.to s R)⟩
theorem canO.run {m : MO} {Q : Option Int → Hp → Prop} {k : Option Int → Cf → Prop} (A : At Γ z sl c σ H) (P : Post (m sl c) k (exE Γ W z H σ)) (h : ∀ b c1 z1 H1, k b c1 → Stp z H z1 H1 → At Γ z1 sl c1 σ H1 → Q b H1) : canO Γ W m σ H Q :=
  ⟨z, sl, c, A, P.ok fun v c1 hk z1 H1 s R => h v c1 z1 H1 hk s (A.to s R)⟩
theorem Post.laterE {r : RsC Vv} {Q : VK} (s : Stp z H z1 H1) (R : Rl Γ z1 H1 c1) (P : Post r (okE Γ z H Q) (exE Γ W z H σ)) : Post r (okE Γ z1 H1 Q) (exE Γ W z1 H1 σ) := P.imp (fun _ _ h => h.later s R) fun _ _ h => h.later s R
theorem Post.laterA {r : RsC (List Vv)} {Q : List V → Hp → Prop} (s : Stp z H z1 H1) (R : Rl Γ z1 H1 c1) (P : Post r (okA Γ z H Q) (exE Γ W z H σ)) : Post r (okA Γ z1 H1 Q) (exE Γ W z1 H1 σ) := P.imp (fun _ _ h => h.later s R) fun _ _ h => h.later s R
theorem Post.laterT {α : Type} {r : RsC α} {Q : α → Hp → Prop} (s : Stp z H z1 H1) (R : Rl Γ z1 H1 c1) (P : Post r (okT Γ z H Q) (exE Γ W z H σ)) : Post r (okT Γ z1 H1 Q) (exE Γ W z1 H1 σ) := P.imp (fun _ _ h => h.later s R) fun _ _ h => h.later s R
/-- the later stage of a stage, its raise wished from the start -/
theorem Post.laterX {α : Type} {r : RsC α} {k : α → Cf → Prop} (s : Stp z H z1 H1) (R : Rl Γ z1 H1 c1) (P : Post r k (exE Γ W z H σ)) : Post r k (exE Γ W z1 H1 σ) := P.imp (fun _ _ h => h) fun _ _ h => h.later s R
theorem At.same (A : At Γ z sl c σ H) : Rl Γ z H c := A.rl
end
theorem _root_.L2.PE.wk {X : Cx} {e : Expr} {t t' : TE} (h : PE X e t) (i : ∀ σ H Q, t' σ H Q → t σ H Q) : PE X e t' := ⟨fun pins s σ H Q I q => h.run pins s σ H Q I (i σ H Q q)⟩
theorem _root_.L2.PT.wk {X : Cx} {e : Expr} {t t' : TT} (h : PT X e t) (i : ∀ σ H Q, t' σ H Q → t σ H Q) : PT X e t' := ⟨fun pins s σ H Q I q => h.run pins s σ H Q I (i σ H Q q)⟩
theorem _root_.L2.PW.wk {X : Cx} {e : Expr} {t t' : TT} (h : PW X e t) (i : ∀ σ H Q, t' σ H Q → t σ H Q) : PW X e t' := ⟨fun wh pins s σ H Q I q => h.run wh pins s σ H Q I (i σ H Q q)⟩
theorem _root_.L2.PA.wk {X : Cx} {es : List Expr} {t t' : TA} (h : PA X es t) (i : ∀ σ H Q, t' σ H Q → t σ H Q) : PA X es t' := ⟨fun pos pins s σ H Q I q => h.run pos pins s σ H Q I (i σ H Q q)⟩
theorem _root_.L2.PO.wk {X : Cx} {e : Option Expr} {t t' : TO} (h : PO X e t) (i : ∀ σ H Q, t' σ H Q → t σ H Q) : PO X e t' := ⟨fun pins s σ H Q I q => h.run pins s σ H Q I (i σ H Q q)⟩
theorem _root_.L2.PS.wk {X : Cx} {e : Stmt} {t t' : TS} (h : PS X e t) (i : ∀ D σ H, t' D σ H → t D σ H) : PS X e t' := ⟨fun pins s σ H D I q => h.run pins s σ H D I (i D σ H q)⟩
theorem _root_.L2.PSs.wk {X : Cx} {e : List Stmt} {t t' : TS} (h : PSs X e t) (i : ∀ D σ H, t' D σ H → t D σ H) : PSs X e t' := ⟨fun pins s σ H D I q => h.run pins s σ H D I (i D σ H q)⟩

/-! ### values: names, written values -/
def mV (i : Nat) : ME := fun sl c => match sl[i]? with
  | some (some v) => .ok (v, c)
  | _ => .bad
def mC (d : PyData) : ME := fun _ c => .ok (.da d, c)
section
variable {Γ : Gm} {W : WX} {X : Cx} {z : Cz} {H : Hp} {σ : L2.St} {sl : Sl} {c : Cf} {a b e : Expr} {es : List Expr} {pos : Pos}
theorem w_var {i : Nat} {Q : VK} (h : canE Γ W (mV i) σ H Q) : tVar i σ H Q := by
  obtain ⟨z, sl, c, A, P⟩ := h
  unfold mV at P
  cases e : sl[i]? with
  | none => rw [e] at P; exact P.elim
  | some o =>
    rw [e] at P
    cases o with
    | none => exact P.elim
    | some v =>
      obtain ⟨x, h1, h2⟩ := A.sl.val i v e
      exact ⟨x, h1, P z H x .refl A.rl h2⟩
theorem d_v (i : Nat) {x : Str} (hN : X.N[i]? = some x := by rfl) (hv : Vis X.env.scope x := by first | exact Or.inl rfl | exact Or.inr (Or.inl rfl) | exact Or.inr (Or.inr rfl)) (hd : (x == ("__debug__" : Str)) = false := by decide) (hcd : (x == ("__classdict__" : Str)) = false := by decide) : PE X (.Name x pos) (canE Γ W (mV i)) :=
  (pv i hN hv hd hcd).wk fun _ _ _ h => w_var h
theorem w_c {d : PyData} {v : V} {Q : VK} (hv : ∀ F, Da F v d) (h : canE Γ W (mC d) σ H Q) : tC v σ H Q := by
  obtain ⟨z, sl, c, A, P⟩ := h
  exact P z H v .refl A.rl (hv z.F)
theorem d_int {i : Nat} {k : Nat} : PE X (.Constant (.int i) k pos) (canE Γ W (mC (.int i))) := pe_int.wk fun _ _ _ h => w_c (fun _ => .int _) h
theorem d_bl {b : Bool} {k : Nat} : PE X (.Constant (.bool b) k pos) (canE Γ W (mC (.bool b))) := pe_bl.wk fun _ _ _ h => w_c (fun _ => .bl _) h
theorem d_non {k : Nat} : PE X (.Constant .none k pos) (canE Γ W (mC .none)) := pe_non.wk fun _ _ _ h => w_c (fun _ => .non) h
theorem d_str {x : Str} {k : Nat} : PE X (.Constant (.str x) k pos) (canE Γ W (mC (.str x))) := pe_str.wk fun _ _ _ h => w_c (fun _ => .str _) h
/-- a constant of the module: an int, a text -/
theorem d_globI {x : Str} {i : Int} {t : Tok} (hg : Gl X x) (hm : X.mg x = some (.int i t)) (hd : (x == ("__debug__" : Str)) = false := by decide) : PE X (.Name x pos) (canE Γ W (mC (.int i))) := (pe_glob (v := .int i) hg hm ⟨t, rfl⟩ hd).wk fun _ _ _ h => w_c (fun _ => .int _) h
theorem d_globS {x : Str} {i : Str} {t : Tok} (hg : Gl X x) (hm : X.mg x = some (.str i t)) (hd : (x == ("__debug__" : Str)) = false := by decide) : PE X (.Name x pos) (canE Γ W (mC (.str i))) := (pe_glob (v := .str i) hg hm ⟨t, rfl⟩ hd).wk fun _ _ _ h => w_c (fun _ => .str _) h

/-! ### operators by values -/
def OkOp (Γ : Gm) (r : R2) (p : Vv → Vv → Cf → Option (Vv × Cf)) : Prop := ∀ z H c x y v w u c', Rl Γ z H c → RV z x v → RV z y w → p v w c = some (u, c') → ∀ Q : VK, okE Γ z H Q u c' → r x y H Q
def mOp (p : Vv → Vv → Cf → Option (Vv × Cf)) (ma mb : ME) : ME := fun sl c => (ma sl c).bind fun r => (mb sl r.2).bind fun r' => .opt (p r.1 r'.1 r'.2)
theorem w_op {r : R2} {p : Vv → Vv → Cf → Option (Vv × Cf)} {ma mb : ME} {Q : VK} (k : OkOp Γ r p) (h : canE Γ W (mOp p ma mb) σ H Q) : tOp r (canE Γ W ma) (canE Γ W mb) σ H Q := by
  obtain ⟨z, sl, c, A, P⟩ := h
  rw [show mOp p ma mb sl c = (ma sl c).bind fun r => (mb sl r.2).bind fun r' => .opt (p r.1 r'.1 r'.2) from rfl, post_bind] at P
  refine canE.run A P fun v c1 z1 H1 x P1 s1 A1 r1 => ?_
  rw [post_bind] at P1
  refine canE.run A1 (P1.laterX s1 A1.rl) fun w c2 z2 H2 y P2 s2 A2 r2 => ?_
  obtain ⟨u, c', e, q⟩ := post_opt P2
  exact k z2 H2 c2 x y v w u c' A2.rl (r1.step s2) r2 e Q (q.later (s1.trans A1.rl s2) A2.rl)
theorem d_op {op : Operator} {r : R2} {p : Vv → Vv → Cf → Option (Vv × Cf)} {ma mb : ME} (ho : OpR X (binaryOp op) r) (k : OkOp Γ r p) (ha : PE X a (canE Γ W ma)) (hb : PE X b (canE Γ W mb)) : PE X (.BinOp a op b pos) (canE Γ W (mOp p ma mb)) := (pe_op ho ha hb).wk fun _ _ _ h => w_op k h
theorem d_cmp {op : CmpOp} {r : R2} {p : Vv → Vv → Cf → Option (Vv × Cf)} {ma mb : ME} (ho : OpR X (compareOp op) r) (k : OkOp Γ r p) (ha : PE X a (canE Γ W ma)) (hb : PE X b (canE Γ W mb)) (hm : behindInMarks op b = false := by first | exact nomark _ | rfl | (with_unfolding_all rfl)) : PE X (.Compare a [op] [b] pos) (canE Γ W (mOp p ma mb)) := (pe_cmpR ho ha hb hm).wk fun _ _ _ h => w_op k h
theorem d_ix {r : R2} {p : Vv → Vv → Cf → Option (Vv × Cf)} {ma mb : ME} (ho : IxR X r) (k : OkOp Γ r p) (ha : PE X a (canE Γ W ma)) (hb : PE X b (canE Γ W mb)) (hs : PlainIx b := by exact fun _ _ => rfl) : PE X (.Subscript a b pos) (canE Γ W (mOp p ma mb)) := (pe_ix ho ha hb hs).wk fun _ _ _ h => w_op k h
def OkUn (Γ : Gm) (r : V → Hp → VK → Prop) (p : Vv → Option Vv) : Prop := ∀ z H c x v u, Rl Γ z H c → RV z x v → p v = some u → ∀ Q : VK, okE Γ z H Q u c → r x H Q
def mUn (p : Vv → Option Vv) (ma : ME) : ME := fun sl c => (ma sl c).bind fun r => .opt ((p r.1).map fun u => (u, r.2))
theorem w_un {r : V → Hp → VK → Prop} {p : Vv → Option Vv} {ma : ME} {Q : VK} (k : OkUn Γ r p) (h : canE Γ W (mUn p ma) σ H Q) : tUn r (canE Γ W ma) σ H Q := by
  obtain ⟨z, sl, c, A, P⟩ := h
  rw [show mUn p ma sl c = (ma sl c).bind fun r => .opt ((p r.1).map fun u => (u, r.2)) from rfl, post_bind] at P
  refine canE.run A P fun v c1 z1 H1 x P1 s1 A1 r1 => ?_
  obtain ⟨u, c', e, q⟩ := post_opt P1
  cases e2 : p v with
  | none => rw [e2] at e; cases e
  | some u' =>
    rw [e2] at e
    cases e
    exact k z1 H1 c1 x v u A1.rl r1 e2 Q (q.later s1 A1.rl)
theorem d_un {op : UnaryOp} {r : V → Hp → VK → Prop} {p : Vv → Option Vv} {ma : ME} (ho : UnR X (unaryOp op) r) (k : OkUn Γ r p) (ha : PE X a (canE Γ W ma)) : PE X (.UnaryOp op a pos) (canE Γ W (mUn p ma)) := (pe_un ho ha).wk fun _ _ _ h => w_un k h

/-! ### arguments, displays -/
def mA0 : MA := fun _ c => .ok ([], c)
def mA1 (ma : ME) (mr : MA) : MA := fun sl c => (ma sl c).bind fun r => (mr sl r.2).bind fun r' => .ok (r.1 :: r'.1, r'.2)
theorem w_a0 {Q : List V → Hp → Prop} (h : canA Γ W mA0 σ H Q) : tNil σ H Q := by
  obtain ⟨z, sl, c, A, P⟩ := h
  exact P z H [] .refl A.rl .nil
theorem w_a1 {ma : ME} {mr : MA} {Q : List V → Hp → Prop} (h : canA Γ W (mA1 ma mr) σ H Q) : tCons (canE Γ W ma) (canA Γ W mr) σ H Q := by
  obtain ⟨z, sl, c, A, P⟩ := h
  rw [show mA1 ma mr sl c = (ma sl c).bind fun r => (mr sl r.2).bind fun r' => .ok (r.1 :: r'.1, r'.2) from rfl, post_bind] at P
  refine canE.run A P fun v c1 z1 H1 x P1 s1 A1 r1 => ?_
  rw [post_bind] at P1
  refine canA.run A1 (P1.laterX s1 A1.rl) fun w c2 z2 H2 y P2 s2 A2 r2 => ?_
  exact P2 z2 H2 (x :: y) (s1.trans A1.rl s2) A2.rl (.cons (r1.step s2) r2)
theorem d_a0 : PA X [] (canA Γ W mA0) := pa_nil.wk fun _ _ _ h => w_a0 h
theorem d_a1 {ma : ME} {mr : MA} (ha : PE X e (canE Γ W ma)) (hr : PA X es (canA Γ W mr)) (hs : starEach (e :: es) X.env = (false, eval e X.env) :: starEach es X.env := by rfl) : PA X (e :: es) (canA Γ W (mA1 ma mr)) := (pa_cons ha hr hs).wk fun _ _ _ h => w_a1 h
/-- a call of a built-in function, by values -/
def OkCB (Γ : Gm) (r : List V → Hp → VK → Prop) (p : List Vv → Cf → Option (Vv × Cf)) : Prop := ∀ z H c xs vs u c', Rl Γ z H c → RVs z xs vs → p vs c = some (u, c') → ∀ Q : VK, okE Γ z H Q u c' → r xs H Q
def mCB (p : List Vv → Cf → Option (Vv × Cf)) (ma : MA) : ME := fun sl c => (ma sl c).bind fun r => .opt (p r.1 r.2)
theorem w_cb {r : List V → Hp → VK → Prop} {p : List Vv → Cf → Option (Vv × Cf)} {ma : MA} {Q : VK} (k : OkCB Γ r p) (h : canE Γ W (mCB p ma) σ H Q) : tCB r (canA Γ W ma) σ H Q := by
  obtain ⟨z, sl, c, A, P⟩ := h
  rw [show mCB p ma sl c = (ma sl c).bind fun r => .opt (p r.1 r.2) from rfl, post_bind] at P
  refine canA.run A P fun v c1 z1 H1 x P1 s1 A1 r1 => ?_
  obtain ⟨u, c', e, q⟩ := post_opt P1
  exact k z1 H1 c1 x v u c' A1.rl r1 e Q (q.later s1 A1.rl)
theorem d_cb {id : String} {x : Str} {p2 : Pos} {r : List V → Hp → VK → Prop} {p : List Vv → Cf → Option (Vv × Cf)} {ma : MA} (hc : CallR X (.builtin id) r) (k : OkCB Γ r p) (hg : Gl X x) (hm : X.mg x = none) (hv : bootBuiltins x = some (.builtin id)) (ha : PA X (e :: es) (canA Γ W ma)) (hn : x ≠ "__name__" := by decide) (hdb : (x == ("__debug__" : Str)) = false := by decide)
    (he : starEach (e :: es) X.env = (false, eval e X.env) :: starEach es X.env := by rfl) (hpl : (backTo pos (starEach es X.env)).any (·.1) = false := by rfl) : PE X (.Call (.Name x p2) (e :: es) [] pos) (canE Γ W (mCB p ma)) := (pe_callB hc hg hm hv ha hn hdb he hpl).wk fun _ _ _ h => w_cb k h
theorem d_cty {T : String} {x : Str} {p2 : Pos} {r : List V → Hp → VK → Prop} {p : List Vv → Cf → Option (Vv × Cf)} {ma : MA} (hc : CallR X (.type T) r) (k : OkCB Γ r p) (hg : Gl X x) (hm : X.mg x = none) (hv : bootBuiltins x = some (.type T)) (ha : PA X (e :: es) (canA Γ W ma)) (hn : x ≠ "__name__" := by decide) (hdb : (x == ("__debug__" : Str)) = false := by decide)
    (he : starEach (e :: es) X.env = (false, eval e X.env) :: starEach es X.env := by rfl) (hpl : (backTo pos (starEach es X.env)).any (·.1) = false := by rfl) : PE X (.Call (.Name x p2) (e :: es) [] pos) (canE Γ W (mCB p ma)) := (pe_callTy hc hg hm hv ha hn hdb he hpl).wk fun _ _ _ h => w_cb k h
/-- a built-in type's method, by values -/
def OkMt (Γ : Gm) (T : String) (r : V → List V → Hp → VK → Prop) (p : Vv → List Vv → Cf → Option (Vv × Cf)) : Prop := ∀ z H c x xs v vs u c', Rl Γ z H c → RV z x v → RVs z xs vs → p v vs c = some (u, c') → ∀ Q : VK, okE Γ z H Q u c' → r x xs H Q
/-- whose method it is -/
def OkTy (Γ : Gm) (T : String) (q : Vv → Cf → Bool) : Prop := ∀ z H c x v, Rl Γ z H c → RV z x v → q v c = true → tyV Γ.K T x H
def mBM (q : Vv → Cf → Bool) (p : Vv → List Vv → Cf → Option (Vv × Cf)) (mo : ME) (ma : MA) : ME := fun sl c => (mo sl c).bind fun r => if q r.1 r.2 then (ma sl r.2).bind fun r' => .opt (p r.1 r'.1 r'.2) else .bad
theorem w_bm {T : String} {q : Vv → Cf → Bool} {r : V → List V → Hp → VK → Prop} {p : Vv → List Vv → Cf → Option (Vv × Cf)} {mo : ME} {ma : MA} {Q : VK} (hq : OkTy Γ T q) (k : OkMt Γ T r p) (h : canE Γ W (mBM q p mo ma) σ H Q) : tBM Γ.K T r (canE Γ W mo) (canA Γ W ma) σ H Q := by
  obtain ⟨z, sl, c, A, P⟩ := h
  rw [show mBM q p mo ma sl c = (mo sl c).bind fun r => if q r.1 r.2 then (ma sl r.2).bind fun r' => .opt (p r.1 r'.1 r'.2) else .bad from rfl, post_bind] at P
  refine canE.run A P fun v c1 z1 H1 x P1 s1 A1 r1 => ?_
  by_cases hb : q v c1 = true
  · rw [if_pos hb, post_bind] at P1
    refine ⟨hq z1 H1 c1 x v A1.rl r1 hb, ?_⟩
    refine canA.run A1 (P1.laterX s1 A1.rl) fun w c2 z2 H2 y P2 s2 A2 r2 => ?_
    obtain ⟨u, c', e, q'⟩ := post_opt P2
    exact k z2 H2 c2 x y v w u c' A2.rl (r1.step s2) r2 e Q (q'.later (s1.trans A1.rl s2) A2.rl)
  · rw [if_neg hb] at P1; exact P1.elim
theorem w_bm0 {T : String} {q : Vv → Cf → Bool} {r : V → List V → Hp → VK → Prop} {p : Vv → List Vv → Cf → Option (Vv × Cf)} {mo : ME} {Q : VK} (hq : OkTy Γ T q) (k : OkMt Γ T r p) (h : canE Γ W (mBM q p mo mA0) σ H Q) : tBM0 Γ.K T r (canE Γ W mo) σ H Q := by
  obtain ⟨z, sl, c, A, P⟩ := h
  rw [show mBM q p mo mA0 sl c = (mo sl c).bind fun r => if q r.1 r.2 then (mA0 sl r.2).bind fun r' => .opt (p r.1 r'.1 r'.2) else .bad from rfl, post_bind] at P
  refine canE.run A P fun v c1 z1 H1 x P1 s1 A1 r1 => ?_
  by_cases hb : q v c1 = true
  · rw [if_pos hb] at P1
    obtain ⟨u, c', e, q'⟩ := post_opt (show Post (Rs.opt (p v [] c1)) _ _ from P1)
    exact ⟨hq z1 H1 c1 x v A1.rl r1 hb, k z1 H1 c1 x [] v [] u c' A1.rl r1 .nil e Q (q'.later s1 A1.rl)⟩
  · rw [if_neg hb] at P1; exact P1.elim
section
variable {o : Expr} {name : Str} {apos cpos : Pos} {T id : String} {r : V → List V → Hp → VK → Prop} {q : Vv → Cf → Bool} {p : Vv → List Vv → Cf → Option (Vv × Cf)} {mo : ME} {ma : MA}
theorem d_bm0 (hK : X.K = Γ.K) (pa : PlainAttrs T) (slot : Slot T name id) (hty : typeOf (.builtin id) = pure (.type "method_descriptor")) (hm : MtR X id r) (hq : OkTy Γ T q) (k : OkMt Γ T r p) (ho : PE X o (canE Γ W mo))
    (hbase : attributeBase o name X.env (eval o X.env) = eval o X.env := by rfl) (hline : (apos.endLine == cpos.line) = true := by rfl) : PE X (.Call (.Attribute o name apos) [] [] cpos) (canE Γ W (mBM q p mo mA0)) :=
  (pe_bm0 pa slot hty hm ho hbase hline).wk fun _ _ _ h => by rw [hK]; exact w_bm0 hq k h
theorem d_bm (hK : X.K = Γ.K) (pa : PlainAttrs T) (slot : Slot T name id) (hty : typeOf (.builtin id) = pure (.type "method_descriptor")) (hm : MtR X id r) (hq : OkTy Γ T q) (k : OkMt Γ T r p) (ho : PE X o (canE Γ W mo)) (ha : PA X (e :: es) (canA Γ W ma))
    (hbase : attributeBase o name X.env (eval o X.env) = eval o X.env := by rfl)
    (hfew : ((backTo cpos (starEach (e :: es) X.env)).all (fun x => !x.1) && (backToKw cpos (keywordEach [] X.env)).all (fun x => x.1.isSome)
      && decide ((e :: es).length + ([] : List Keyword).length + (if ([] : List Keyword).isEmpty then 0 else 1) < 30)) = true := by rfl)
    (hline : (apos.endLine == cpos.line) = true := by rfl) (hs : starEach (e :: es) X.env = (false, eval e X.env) :: starEach es X.env := by rfl) (hplain : (backTo cpos (starEach es X.env)).any (·.1) = false := by rfl) :
    PE X (.Call (.Attribute o name apos) (e :: es) [] cpos) (canE Γ W (mBM q p mo ma)) :=
  (pe_bm pa slot hty hm ho ha hbase hfew hline hs hplain).wk fun _ _ _ h => by rw [hK]; exact w_bm hq k h
end

/-! ### tests -/
def mTe (ma : ME) : MT := fun sl c => (ma sl c).bind fun r => match r.1 with
  | .da (.bool b) => .ok (b, r.2)
  | _ => .bad
theorem RV.bl {z : Cz} {x : V} {b : Bool} (h : RV z x (.da (.bool b))) : x = .bl b := Da.bl' h
theorem w_te {ma : ME} {Q : Bool → Hp → Prop} (h : canT Γ W (mTe ma) σ H Q) : canE Γ W ma σ H (fun x H' => ∃ k, x = .bl k ∧ Q k H') := by
  obtain ⟨z, sl, c, A, P⟩ := h
  rw [show mTe ma sl c = (ma sl c).bind fun r => match r.1 with | .da (.bool b) => .ok (b, r.2) | _ => .bad from rfl, post_bind] at P
  refine canE.run A P fun v c1 z1 H1 x P1 s1 A1 r1 => ?_
  cases v with
  | da d =>
    cases d with
    | bool b => exact ⟨b, r1.bl, P1 z1 H1 s1 A1.rl⟩
    | _ => exact P1.elim
  | _ => exact P1.elim
theorem d_tcmp {op : CmpOp} {r : R2} {p : Vv → Vv → Cf → Option (Vv × Cf)} {ma mb : ME} (ho : OpR X (compareOp op) r) (k : OkOp Γ r p) (ha : PE X a (canE Γ W ma)) (hb : PE X b (canE Γ W mb)) (hm : behindInMarks op b = false := by first | exact nomark _ | rfl | (with_unfolding_all rfl)) : PT X (.Compare a [op] [b] pos) (canT Γ W (mTe (mOp p ma mb))) :=
  (pt_cmpR ho ha hb hm).wk fun σ H Q h => w_op k (w_te h)
theorem d_tval {ma : ME} (h : PE X e (canE Γ W ma)) (he : ∀ whole, isTrue e X.env whole = (do let v ← whole; standAt e.pos; holding [v] (truthy v)) := by intro _; rfl) : PT X e (canT Γ W (mTe ma)) := (pt_val h he).wk fun σ H Q h => w_te h
/-- truth -/
def OkTru (Γ : Gm) (p : Vv → Cf → Option Bool) : Prop := ∀ z H c x v b, Rl Γ z H c → RV z x v → p v c = some b → TruV Γ.K x H b
def mTru (p : Vv → Cf → Option Bool) (ma : ME) : MT := fun sl c => (ma sl c).bind fun r => .opt ((p r.1 r.2).map fun b => (b, r.2))
theorem w_tru {p : Vv → Cf → Option Bool} {ma : ME} {Q : Bool → Hp → Prop} (k : OkTru Γ p) (h : canT Γ W (mTru p ma) σ H Q) : canE Γ W ma σ H (fun x H' => ∃ b, TruV Γ.K x H' b ∧ Q b H') := by
  obtain ⟨z, sl, c, A, P⟩ := h
  rw [show mTru p ma sl c = (ma sl c).bind fun r => .opt ((p r.1 r.2).map fun b => (b, r.2)) from rfl, post_bind] at P
  refine canE.run A P fun v c1 z1 H1 x P1 s1 A1 r1 => ?_
  obtain ⟨u, c', e, q⟩ := post_opt P1
  cases e2 : p v c1 with
  | none => rw [e2] at e; cases e
  | some b =>
    rw [e2] at e
    cases e
    exact ⟨_, k z1 H1 _ x v _ A1.rl r1 e2, q z1 H1 s1 A1.rl⟩
theorem d_ttru {p : Vv → Cf → Option Bool} {ma : ME} (hK : X.K = Γ.K) (k : OkTru Γ p) (h : PE X e (canE Γ W ma)) (he : ∀ whole, isTrue e X.env whole = (do let v ← whole; standAt e.pos; holding [v] (truthy v)) := by intro _; rfl) : PT X e (canT Γ W (mTru p ma)) :=
  (pt_truth h he).wk fun σ H Q h => by rw [hK]; exact w_tru k h
def mAnd (mt mu : MT) : MT := fun sl c => (mt sl c).bind fun r => if r.1 then mu sl r.2 else .ok (false, r.2)
def mOr (mt mu : MT) : MT := fun sl c => (mt sl c).bind fun r => if r.1 then .ok (true, r.2) else mu sl r.2
def mNot (mt : MT) : MT := fun sl c => (mt sl c).bind fun r => .ok (!r.1, r.2)
theorem w_and {mt mu : MT} {Q : Bool → Hp → Prop} (h : canT Γ W (mAnd mt mu) σ H Q) : tAnd (canT Γ W mt) (canT Γ W mu) σ H Q := by
  obtain ⟨z, sl, c, A, P⟩ := h
  rw [show mAnd mt mu sl c = (mt sl c).bind fun r => if r.1 then mu sl r.2 else .ok (false, r.2) from rfl, post_bind] at P
  refine canT.run A P fun b c1 z1 H1 P1 s1 A1 => ?_
  cases b with
  | true => exact iteT ⟨z1, sl, c1, A1, Post.laterT s1 A1.rl P1⟩
  | false => exact iteF (P1 z1 H1 s1 A1.rl)
theorem w_or {mt mu : MT} {Q : Bool → Hp → Prop} (h : canT Γ W (mOr mt mu) σ H Q) : tOr (canT Γ W mt) (canT Γ W mu) σ H Q := by
  obtain ⟨z, sl, c, A, P⟩ := h
  rw [show mOr mt mu sl c = (mt sl c).bind fun r => if r.1 then .ok (true, r.2) else mu sl r.2 from rfl, post_bind] at P
  refine canT.run A P fun b c1 z1 H1 P1 s1 A1 => ?_
  cases b with
  | true => exact iteT (P1 z1 H1 s1 A1.rl)
  | false => exact iteF ⟨z1, sl, c1, A1, Post.laterT s1 A1.rl P1⟩
theorem w_not {mt : MT} {Q : Bool → Hp → Prop} (h : canT Γ W (mNot mt) σ H Q) : tNot (canT Γ W mt) σ H Q := by
  obtain ⟨z, sl, c, A, P⟩ := h
  rw [show mNot mt sl c = (mt sl c).bind fun r => .ok (!r.1, r.2) from rfl, post_bind] at P
  exact canT.run A P fun b c1 z1 H1 P1 s1 A1 => P1 z1 H1 s1 A1.rl
variable {rest : List Expr}
theorem d_wand {mt mu : MT} (ha : PT X a (canT Γ W mt)) (hb : PW X (.BoolOp .And (b :: rest) pos) (canT Γ W mu)) : PW X (.BoolOp .And (a :: b :: rest) pos) (canT Γ W (mAnd mt mu)) := (pw_and ha hb).wk fun σ H Q h => w_and h
theorem d_wor {mt mu : MT} (ha : PT X a (canT Γ W mt)) (hb : PW X (.BoolOp .Or (b :: rest) pos) (canT Γ W mu)) : PW X (.BoolOp .Or (a :: b :: rest) pos) (canT Γ W (mOr mt mu)) := (pw_or ha hb).wk fun σ H Q h => w_or h
theorem d_tnot {mt : MT} (ha : PT X a (canT Γ W mt)) : PT X (.UnaryOp .Not a pos) (canT Γ W (mNot mt)) := (pt_not ha).wk fun σ H Q h => w_not h
/-! .. as values -/
def mAndV (ma mb : ME) : ME := fun sl c => (ma sl c).bind fun r => match r.1 with
  | .da (.bool true) => mb sl r.2
  | .da (.bool false) => .ok (.da (.bool false), r.2)
  | _ => .bad
def mOrV (ma mb : ME) : ME := fun sl c => (ma sl c).bind fun r => match r.1 with
  | .da (.bool true) => .ok (.da (.bool true), r.2)
  | .da (.bool false) => mb sl r.2
  | _ => .bad
def mNotV (ma : ME) : ME := fun sl c => (ma sl c).bind fun r => match r.1 with
  | .da (.bool b) => .ok (.da (.bool (!b)), r.2)
  | _ => .bad
theorem w_andV {ma mb : ME} {Q : VK} (h : canE Γ W (mAndV ma mb) σ H Q) : tAndV (canE Γ W ma) (canE Γ W mb) σ H Q := by
  obtain ⟨z, sl, c, A, P⟩ := h
  rw [show mAndV ma mb sl c = (ma sl c).bind fun r => match r.1 with | .da (.bool true) => mb sl r.2 | .da (.bool false) => .ok (.da (.bool false), r.2) | _ => .bad from rfl, post_bind] at P
  refine canE.run A P fun v c1 z1 H1 x P1 s1 A1 r1 => ?_
  cases v with
  | da d =>
    cases d with
    | bool b =>
      cases b with
      | true => exact ⟨true, r1.bl, iteT ⟨z1, sl, c1, A1, Post.laterE s1 A1.rl P1⟩⟩
      | false => exact ⟨false, r1.bl, iteF (P1 z1 H1 (.bl false) s1 A1.rl (Da.bl false))⟩
    | _ => exact P1.elim
  | _ => exact P1.elim
theorem w_orV {ma mb : ME} {Q : VK} (h : canE Γ W (mOrV ma mb) σ H Q) : tOrV (canE Γ W ma) (canE Γ W mb) σ H Q := by
  obtain ⟨z, sl, c, A, P⟩ := h
  rw [show mOrV ma mb sl c = (ma sl c).bind fun r => match r.1 with | .da (.bool true) => .ok (.da (.bool true), r.2) | .da (.bool false) => mb sl r.2 | _ => .bad from rfl, post_bind] at P
  refine canE.run A P fun v c1 z1 H1 x P1 s1 A1 r1 => ?_
  cases v with
  | da d =>
    cases d with
    | bool b =>
      cases b with
      | true => exact ⟨true, r1.bl, iteT (P1 z1 H1 (.bl true) s1 A1.rl (Da.bl true))⟩
      | false => exact ⟨false, r1.bl, iteF ⟨z1, sl, c1, A1, Post.laterE s1 A1.rl P1⟩⟩
    | _ => exact P1.elim
  | _ => exact P1.elim
theorem w_notV {ma : ME} {Q : VK} (h : canE Γ W (mNotV ma) σ H Q) : tNotV (canE Γ W ma) σ H Q := by
  obtain ⟨z, sl, c, A, P⟩ := h
  rw [show mNotV ma sl c = (ma sl c).bind fun r => match r.1 with | .da (.bool b) => .ok (.da (.bool (!b)), r.2) | _ => .bad from rfl, post_bind] at P
  refine canE.run A P fun v c1 z1 H1 x P1 s1 A1 r1 => ?_
  cases v with
  | da d =>
    cases d with
    | bool b => exact ⟨b, r1.bl, P1 z1 H1 (.bl (!b)) s1 A1.rl (Da.bl (!b))⟩
    | _ => exact P1.elim
  | _ => exact P1.elim
theorem d_and {ma mb : ME} (ha : PE X a (canE Γ W ma)) (hb : PE X (.BoolOp .And (b :: rest) pos) (canE Γ W mb)) : PE X (.BoolOp .And (a :: b :: rest) pos) (canE Γ W (mAndV ma mb)) := (pe_and ha hb).wk fun σ H Q h => w_andV h
theorem d_or {ma mb : ME} (ha : PE X a (canE Γ W ma)) (hb : PE X (.BoolOp .Or (b :: rest) pos) (canE Γ W mb)) : PE X (.BoolOp .Or (a :: b :: rest) pos) (canE Γ W (mOrV ma mb)) := (pe_or ha hb).wk fun σ H Q h => w_orV h
theorem d_not {ma : ME} (ha : PE X a (canE Γ W ma)) : PE X (.UnaryOp .Not a pos) (canE Γ W (mNotV ma)) := (pe_not ha).wk fun σ H Q h => w_notV h
def mIf (mt : MT) (ma mb : ME) : ME := fun sl c => (mt sl c).bind fun r => if r.1 then ma sl r.2 else mb sl r.2
theorem w_if {mt : MT} {ma mb : ME} {Q : VK} (h : canE Γ W (mIf mt ma mb) σ H Q) : tIf (canT Γ W mt) (canE Γ W ma) (canE Γ W mb) σ H Q := by
  obtain ⟨z, sl, c, A, P⟩ := h
  rw [show mIf mt ma mb sl c = (mt sl c).bind fun r => if r.1 then ma sl r.2 else mb sl r.2 from rfl, post_bind] at P
  refine canT.run A P fun b c1 z1 H1 P1 s1 A1 => ?_
  cases b with
  | true => exact iteT ⟨z1, sl, c1, A1, Post.laterE s1 A1.rl P1⟩
  | false => exact iteF ⟨z1, sl, c1, A1, Post.laterE s1 A1.rl P1⟩
theorem d_if {t : Expr} {mt : MT} {ma mb : ME} (ht : PT X t (canT Γ W mt)) (ha : PE X a (canE Γ W ma)) (hb : PE X b (canE Γ W mb)) : PE X (.IfExp t a b pos) (canE Γ W (mIf mt ma mb)) := (pe_ifExp ht ha hb).wk fun σ H Q h => w_if h
/-- a op b op' c -/
def mChain (p p' : Vv → Vv → Cf → Option (Vv × Cf)) (ma mb mc : ME) : ME := fun sl c => (ma sl c).bind fun r => (mb sl r.2).bind fun r1 => match p r.1 r1.1 r1.2 with
  | some (.da (.bool true), c2) => (mc sl c2).bind fun r3 => .opt (p' r1.1 r3.1 r3.2)
  | some (.da (.bool false), c2) => .ok (.da (.bool false), c2)
  | _ => .bad
theorem w_chain {r r' : R2} {p p' : Vv → Vv → Cf → Option (Vv × Cf)} {ma mb mc : ME} {Q : VK} (k : OkOp Γ r p) (k' : OkOp Γ r' p') (h : canE Γ W (mChain p p' ma mb mc) σ H Q) : tChain r r' (canE Γ W ma) (canE Γ W mb) (canE Γ W mc) σ H Q := by
  obtain ⟨z, sl, c, A, P⟩ := h
  unfold mChain at P
  rw [post_bind] at P
  refine canE.run A P fun v c1 z1 H1 x P1 s1 A1 r1 => ?_
  rw [post_bind] at P1
  refine canE.run A1 (P1.laterX s1 A1.rl) fun w c2 z2 H2 y P2 s2 A2 r2 => ?_
  have P2 : Post (match p v w c2 with | some (.da (.bool true), c2) => (mc sl c2).bind fun r3 => .opt (p' w r3.1 r3.2) | some (.da (.bool false), c2) => .ok (.da (.bool false), c2) | _ => .bad) (okE Γ z H Q) (exE Γ W z H σ) := P2
  cases e : p v w c2 with
  | none => rw [e] at P2; exact P2.elim
  | some q =>
    obtain ⟨u, c3⟩ := q
    rw [e] at P2
    have s12 := s1.trans A1.rl s2
    refine k z2 H2 c2 x y v w u c3 A2.rl (r1.step s2) r2 e _ fun z3 H3 t s3 R3 r3 => ?_
    have s13 := s12.trans A2.rl s3
    cases u with
    | da d =>
      cases d with
      | bool b =>
        cases b with
        | true =>
          have P2 : Post ((mc sl c3).bind fun r3 => .opt (p' w r3.1 r3.2)) (okE Γ z H Q) (exE Γ W z H σ) := P2
          rw [post_bind] at P2
          refine ⟨true, r3.bl, iteT (canE.run (A2.to s3 R3) (P2.laterX s13 R3) fun u4 c4 z4 H4 y4 P4 s4 A4 r4 => ?_)⟩
          obtain ⟨u5, c5, e5, q5⟩ := post_opt P4
          exact k' z4 H4 c4 y y4 w u4 u5 c5 A4.rl ((r2.step s3).step s4) r4 e5 Q (q5.later (s13.trans R3 s4) A4.rl)
        | false => exact ⟨false, r3.bl, iteF (P2 z3 H3 (.bl false) s13 R3 (Da.bl false))⟩
      | _ => exact P2.elim
    | _ => exact P2.elim
section
variable {op op' : CmpOp} {r r' : R2} {p p' : Vv → Vv → Cf → Option (Vv × Cf)} {ma mb mc : ME} {cc : Expr}
theorem d_chain (ho : OpR X (compareOp op) r) (ho' : OpR X (compareOp op') r') (k : OkOp Γ r p) (k' : OkOp Γ r' p') (ha : PE X a (canE Γ W ma)) (hb : PE X b (canE Γ W mb)) (hc : PE X cc (canE Γ W mc))
    (hm : lastMarks [op, op'] [b, cc] = false := by with_unfolding_all rfl) : PE X (.Compare a [op, op'] [b, cc] pos) (canE Γ W (mChain p p' ma mb mc)) := (pe_chain ho ho' ha hb hc hm).wk fun σ H Q h => w_chain k k' h
theorem d_tchain (ho : OpR X (compareOp op) r) (ho' : OpR X (compareOp op') r') (k : OkOp Γ r p) (k' : OkOp Γ r' p') (ha : PE X a (canE Γ W ma)) (hb : PE X b (canE Γ W mb)) (hc : PE X cc (canE Γ W mc))
    (hm : lastMarks [op, op'] [b, cc] = false := by with_unfolding_all rfl) : PT X (.Compare a [op, op'] [b, cc] pos) (canT Γ W (mTe (mChain p p' ma mb mc))) := (pt_chain ho ho' ha hb hc hm).wk fun σ H Q h => w_chain k k' (w_te h)
end
/-! ### slices -/
def mNoP : MO := fun _ c => .ok (none, c)
def mPart (ma : ME) : MO := fun sl c => (ma sl c).bind fun r => match r.1 with
  | .da (.int i) => .ok (some i, r.2)
  | _ => .bad
def OkSl (Γ : Gm) (r : V → Option Int → Option Int → Hp → VK → Prop) (p : Vv → Option Int → Option Int → Cf → Option (Vv × Cf)) : Prop := ∀ z H c x v lo hi u c', Rl Γ z H c → RV z x v → p v lo hi c = some (u, c') → ∀ Q : VK, okE Γ z H Q u c' → r x lo hi H Q
def mSl (p : Vv → Option Int → Option Int → Cf → Option (Vv × Cf)) (ma : ME) (ml mh : MO) : ME := fun sl c => (ma sl c).bind fun r => (ml sl r.2).bind fun r1 => (mh sl r1.2).bind fun r2 => .opt (p r.1 r1.1 r2.1 r2.2)
theorem w_noP {Q : Option Int → Hp → Prop} (h : canO Γ W mNoP σ H Q) : tNoPart σ H Q := by
  obtain ⟨z, sl, c, A, P⟩ := h
  exact P z H .refl A.rl
theorem w_part {ma : ME} {Q : Option Int → Hp → Prop} (h : canO Γ W (mPart ma) σ H Q) : tPart (canE Γ W ma) σ H Q := by
  obtain ⟨z, sl, c, A, P⟩ := h
  rw [show mPart ma sl c = (ma sl c).bind fun r => match r.1 with | .da (.int i) => .ok (some i, r.2) | _ => .bad from rfl, post_bind] at P
  refine canE.run A P fun v c1 z1 H1 x P1 s1 A1 r1 => ?_
  cases v with
  | da d =>
    cases d with
    | int i => exact ⟨i, Da.int' r1, P1 z1 H1 s1 A1.rl⟩
    | _ => exact P1.elim
  | _ => exact P1.elim
theorem w_sl {r : V → Option Int → Option Int → Hp → VK → Prop} {p : Vv → Option Int → Option Int → Cf → Option (Vv × Cf)} {ma : ME} {ml mh : MO} {Q : VK} (k : OkSl Γ r p) (h : canE Γ W (mSl p ma ml mh) σ H Q) : tSl r (canE Γ W ma) (canO Γ W ml) (canO Γ W mh) σ H Q := by
  obtain ⟨z, sl, c, A, P⟩ := h
  rw [show mSl p ma ml mh sl c = (ma sl c).bind fun r => (ml sl r.2).bind fun r1 => (mh sl r1.2).bind fun r2 => .opt (p r.1 r1.1 r2.1 r2.2) from rfl, post_bind] at P
  refine canE.run A P fun v c1 z1 H1 x P1 s1 A1 r1 => ?_
  rw [post_bind] at P1
  refine canO.run A1 (P1.laterX s1 A1.rl) fun lo c2 z2 H2 P2 s2 A2 => ?_
  rw [post_bind] at P2
  have s12 := s1.trans A1.rl s2
  refine canO.run A2 (P2.laterX s12 A2.rl) fun hi c3 z3 H3 P3 s3 A3 => ?_
  obtain ⟨u, c', e, q⟩ := post_opt P3
  exact k z3 H3 c3 x v lo hi u c' A3.rl ((r1.step s2).step s3) e Q (q.later (s12.trans A2.rl s3) A3.rl)
theorem d_noP : PO X none (canO Γ W mNoP) := po_none.wk fun σ H Q h => w_noP h
theorem d_part {ma : ME} (h : PE X e (canE Γ W ma)) : PO X (some e) (canO Γ W (mPart ma)) := (po_some h).wk fun σ H Q h => w_part h
theorem d_sl {r : V → Option Int → Option Int → Hp → VK → Prop} {p : Vv → Option Int → Option Int → Cf → Option (Vv × Cf)} {ma : ME} {ml mh : MO} {lo hi : Option Expr} {p2 : Pos} (hr : SlR X r) (k : OkSl Γ r p) (he : PE X e (canE Γ W ma)) (hl : PO X lo (canO Γ W ml)) (hu : PO X hi (canO Γ W mh)) :
    PE X (.Subscript e (.Slice lo hi none p2) pos) (canE Γ W (mSl p ma ml mh)) := (pe_slice hr he hl hu).wk fun σ H Q h => w_sl k h
end
end PM
end
section
/-! PM3: what the operators do to values. -/
namespace PM
open PySem PySem.Spec PyProof.Rows L2 DL

/-! ### lists, tuples -/
def tpW : Option Int → Vv
  | none => .wide
  | some i => .da (.int i)
def lsOf (c : Cf) : Vv → Option (List Vv)
  | .da (.list ds) => some (ds.map .da)
  | .ref n => match c.st[n]? with
    | some (.mu l) => some l
    | some (.frz ds) => some (ds.map .da)
    | none => none
  | .tape => some (c.tp.tl.map tpW)
  | .wide => some (c.tp.wide.map fun i => .da (.int i))
  | _ => none
def tuOf : Vv → Option (List Vv)
  | .da (.tuple ds) => some (ds.map .da)
  | _ => none
section
variable {Γ : Gm} {z z' : Cz} {H H' : Hp} {c c' : Cf} {x : V} {v : Vv}
theorem ls_at (R : Rl Γ z H c) (r : RV z x v) {l : List Vv} (e : lsOf c v = some l) : ∃ a xs, x = .ref a ∧ H a = some (.lst xs) ∧ RVs z xs l := by
  cases v with
  | da d =>
    cases d with
    | list ds =>
      cases e
      obtain ⟨a, xs, rfl, h1, h2⟩ := Da.lst' r
      exact ⟨a, xs, rfl, R.inc _ _ h1, .ofDa h2⟩
    | _ => cases e
  | ref n =>
    obtain ⟨a, ha, rfl⟩ := r
    have := R.cel n a ha
    simp only [lsOf] at e
    cases q : c.st[n]? with
    | none => rw [q] at e; cases e
    | some k =>
      rw [q] at e this
      cases k with
      | mu l' =>
        cases e
        obtain ⟨_, xs, h2, h3⟩ := this
        exact ⟨a, xs, rfl, h2, h3⟩
      | frz ds =>
        cases e
        obtain ⟨xs, h2, h3⟩ := this
        exact ⟨a, xs, rfl, R.inc _ _ h2, .ofDa h3⟩
  | tape =>
    cases e
    obtain ⟨t, w, hT, rfl⟩ := r
    obtain ⟨_, _, _, _, _, h6, _⟩ := R.tap t w hT
    refine ⟨t, _, rfl, h6, ?_⟩
    generalize c.tp.tl = l
    induction l with
    | nil => exact .nil
    | cons o l ih =>
      refine .cons ?_ ih
      cases o with
      | none => exact ⟨t, w, hT, rfl⟩
      | some i => exact Da.int i
  | wide =>
    cases e
    obtain ⟨t, w, hT, rfl⟩ := r
    obtain ⟨_, _, _, _, _, _, h7⟩ := R.tap t w hT
    refine ⟨w, _, rfl, h7, ?_⟩
    generalize c.tp.wide = l
    induction l with
    | nil => exact .nil
    | cons i l ih => exact .cons (Da.int i) ih
  | scr => cases e
  | exc e' => cases e
theorem tu_at (R : Rl Γ z H c) (r : RV z x v) {l : List Vv} (e : tuOf v = some l) : ∃ a xs, x = .ref a ∧ H a = some (.tup xs) ∧ RVs z xs l := by
  cases v with
  | da d =>
    cases d with
    | tuple ds =>
      cases e
      obtain ⟨a, xs, rfl, h1, h2⟩ := Da.tup' r
      exact ⟨a, xs, rfl, R.inc _ _ h1, .ofDa h2⟩
    | _ => cases e
  | _ => cases e
theorem RVs.at {xs : List V} {l : List Vv} {i : Int} {v : Vv} (h : RVs z xs l) (e : atI l i = some v) : ∃ x, atI xs i = some x ∧ RV z x v := by
  obtain ⟨j, h1, h2⟩ := atI_ix e
  obtain ⟨x, h3, h4⟩ := h.get h2
  exact ⟨x, atI_of (by rw [h.length]; exact h1) h3, h4⟩

/-! ### data of a value: what is of the store is frozen -/
def fzL (f : Vv → Cf → Option (PyData × Cf)) : List Vv → Cf → Option (List PyData × Cf)
  | [], c => some ([], c)
  | v :: vs, c => (f v c).bind fun r => (fzL f vs r.2).map fun r' => (r.1 :: r'.1, r'.2)
def fz : Nat → Vv → Cf → Option (PyData × Cf)
  | _, .da d, c => some (d, c)
  | n + 1, .ref k, c => match c.st[k]? with
    | some (.frz ds) => some (.list ds, c)
    | some (.mu l) => (fzL (fz n) l c).bind fun r => match r.2.st[k]? with
      | some (.mu _) => some (.list r.1, { r.2 with st := r.2.st.set k (.frz r.1) })
      | _ => none
    | none => none
  | _, _, _ => none
def FzOk (Γ : Gm) (f : Vv → Cf → Option (PyData × Cf)) : Prop := ∀ (z : Cz) (H : Hp) (c : Cf) (x : V) (v : Vv) (d : PyData) (c' : Cf), Rl Γ z H c → RV z x v → f v c = some (d, c') → ∃ z', Stp z H z' H ∧ Rl Γ z' H c' ∧ Da z'.F x d ∧ z'.as = z.as
theorem fzL_ok {f : Vv → Cf → Option (PyData × Cf)} (k : FzOk Γ f) : ∀ (l : List Vv) (xs : List V) (z : Cz) (c : Cf) (ds : List PyData) (c' : Cf), Rl Γ z H c → RVs z xs l → fzL f l c = some (ds, c') → ∃ z', Stp z H z' H ∧ Rl Γ z' H c' ∧ DaL z'.F xs ds ∧ z'.as = z.as := by
  intro l
  induction l with
  | nil =>
    intro xs z c ds c' R r e
    cases r
    cases e
    exact ⟨z, .refl, R, .nil, rfl⟩
  | cons v l ih =>
    intro xs z c ds c' R r e
    cases r with
    | cons r rr =>
      simp only [fzL] at e
      cases e1 : f v c with
      | none => rw [e1] at e; cases e
      | some q =>
        obtain ⟨d, c1⟩ := q
        rw [e1, Option.bind_some] at e
        cases e2 : fzL f l c1 with
        | none => simp only [e2] at e; cases e
        | some q2 =>
          obtain ⟨ds2, c2⟩ := q2
          simp only [e2, Option.map_some] at e
          cases e
          obtain ⟨z1, s1, R1, h1, a1⟩ := k z H c _ v d c1 R r e1
          obtain ⟨z2, s2, R2, h2, a2⟩ := ih _ z1 c1 ds2 c' R1 (rr.step s1) e2
          exact ⟨z2, s1.trans R1 s2, R2, .cons (Da.mono s2.ext _ h1) h2, a2.trans a1⟩
theorem fz_ok : ∀ n, FzOk Γ (fz n) := by
  intro n
  induction n with
  | zero =>
    intro z H c x v d c' R r e
    cases v with
    | da d' => cases e; exact ⟨z, .refl, R, r, rfl⟩
    | _ => cases e
  | succ n ih =>
    intro z H c x v d c' R r e
    cases v with
    | da d' => cases e; exact ⟨z, .refl, R, r, rfl⟩
    | ref k =>
      obtain ⟨a, ha, rfl⟩ := r
      have hc := R.cel k a ha
      simp only [fz] at e
      cases q : c.st[k]? with
      | none => rw [q] at e; cases e
      | some u =>
        rw [q] at e hc
        cases u with
        | frz ds =>
          cases e
          obtain ⟨xs, h2, h3⟩ := hc
          exact ⟨z, .refl, R, .lst h2 h3, rfl⟩
        | mu l =>
          obtain ⟨h1, xs, h2, h3⟩ := hc
          cases e2 : fzL (fz n) l c with
          | none => simp only [e2] at e; cases e
          | some p =>
            obtain ⟨ds, c1⟩ := p
            simp only [e2, Option.bind_some] at e
            obtain ⟨z1, s1, R1, g1, a1⟩ := fzL_ok ih l xs z c ds c1 R h3 e2
            have ha1 : z1.as[k]? = some a := by rw [a1]; exact ha
            have hc1 := R1.cel k a ha1
            cases q1 : c1.st[k]? with
            | none => rw [q1] at e; cases e
            | some u1 =>
              rw [q1] at e hc1
              cases u1 with
              | frz _ => cases e
              | mu l1 =>
                cases e
                obtain ⟨f1, _⟩ := hc1
                obtain ⟨s2, R2⟩ := R1.frz ha1 f1 h2 g1
                exact ⟨_, s1.trans R1 s2, R2, .lst upd_same (DaL.mono (same_lay f1) _ g1), a1⟩
    | _ => cases e
theorem fzL_da {n : Nat} {ds : List PyData} : fzL (fz n) (ds.map .da) c = some (ds, c) := by
  induction ds with
  | nil => rfl
  | cons d ds ih =>
    have e : fz n (.da d) c = some (d, c) := by cases n <;> rfl
    simp only [List.map_cons, fzL, e, Option.bind_some, ih, Option.map_some]
@[simp] theorem fz_da {n : Nat} {d : PyData} : fz n (.da d) c = some (d, c) := by cases n <;> rfl
/-- how deep lists of the store may stand in one another -/
abbrev fzN : Nat := 6

/-! ### displays -/
def mTup (ma : MA) : ME := fun sl c => (ma sl c).bind fun r => if r.1.length ≤ 100000 then .opt ((fzL (fz fzN) r.1 r.2).map fun q => (.da (.tuple q.1), q.2)) else .bad
def mLst (ma : MA) : ME := fun sl c => (ma sl c).bind fun r => if r.1.length ≤ 100000 then .ok (.ref r.2.st.length, r.2.app r.1) else .bad
variable {W : WX} {X : Cx} {σ : L2.St} {a b e : Expr} {es : List Expr} {pos : Pos}
theorem w_tup {ma : MA} {Q : VK} (h : canE Γ W (mTup ma) σ H Q) : tTup (canA Γ W ma) σ H Q := by
  obtain ⟨z, sl, c, A, P⟩ := h
  rw [show mTup ma sl c = (ma sl c).bind fun r => if r.1.length ≤ 100000 then .opt ((fzL (fz fzN) r.1 r.2).map fun q => (.da (.tuple q.1), q.2)) else .bad from rfl, post_bind] at P
  refine canA.run A P fun vs c1 z1 H1 xs P1 s1 A1 r1 => ?_
  by_cases hz : vs.length ≤ 100000
  · rw [if_pos hz] at P1
    obtain ⟨u, c', e1, q⟩ := post_opt P1
    cases e2 : fzL (fz fzN) vs c1 with
    | none => simp only [e2] at e1; cases e1
    | some p =>
      obtain ⟨ds, c2⟩ := p
      simp only [e2, Option.map_some] at e1
      cases e1
      refine ⟨by rw [r1.length]; exact sz1000 hz, fun t ht => ?_⟩
      obtain ⟨z2, s2, R2, g2, _⟩ := fzL_ok (fz_ok fzN) vs xs z1 c1 ds c' A1.rl r1 e2
      obtain ⟨s3, R3⟩ := R2.lay (o := .tup xs) ht
      exact q _ _ _ ((s1.trans A1.rl s2).trans R2 s3) R3 (.tup upd_same (DaL.mono (same_lay (R2.fresh ht).1) _ g2))
  · rw [if_neg hz] at P1; exact P1.elim
theorem d_tup {x1} {ma : MA} (h : PA X es (canA Γ W ma)) : PE X (.Tuple es x1 pos) (canE Γ W (mTup ma)) := (pe_tup h).wk fun _ _ _ h => w_tup h
theorem w_lst {ma : MA} {Q : VK} (h : canE Γ W (mLst ma) σ H Q) : tLst (canA Γ W ma) σ H Q := by
  obtain ⟨z, sl, c, A, P⟩ := h
  rw [show mLst ma sl c = (ma sl c).bind fun r => if r.1.length ≤ 100000 then .ok (.ref r.2.st.length, r.2.app r.1) else .bad from rfl, post_bind] at P
  refine canA.run A P fun vs c1 z1 H1 xs P1 s1 A1 r1 => ?_
  by_cases hz : vs.length ≤ 100000
  · rw [if_pos hz] at P1
    refine ⟨by rw [r1.length]; exact sz1000 hz, fun t ht => ?_⟩
    obtain ⟨s2, R2, g2⟩ := A1.rl.app ht r1
    exact P1 _ _ _ (s1.trans A1.rl s2) R2 g2
  · rw [if_neg hz] at P1; exact P1.elim
theorem d_lst {ma : MA} (h : PA X es (canA Γ W ma)) : PE X (.List es pos) (canE Γ W (mLst ma)) := (pe_lst h).wk fun _ _ _ h => w_lst h

/-! ### ints -/
theorem ok_now {u : Vv} {y : V} {Q : VK} (R : Rl Γ z H c) (q : okE Γ z H Q u c) (r : RV z y u) : Q y H := q z H y .refl R r
def pI2 (C : Int → Int → Bool) (f : Int → Int → Int) : Vv → Vv → Cf → Option (Vv × Cf)
  | .da (.int i), .da (.int j), c => if C i j then some (.da (.int (f i j)), c) else none
  | _, _, _ => none
theorem k_I2 {C : Int → Int → Bool} {C' : Int → Int → Prop} {f : Int → Int → Int} (hc : ∀ i j, C i j = true → C' i j) : OkOp Γ (rI C' fun i j => .int (f i j)) (pI2 C f) := by
  intro z H c x y v w u c' R rv rw' e Q q
  unfold pI2 at e
  split at e
  · split at e
    · rename_i i j hC
      cases e
      exact ⟨i, j, Da.int' rv, Da.int' rw', hc _ _ hC, ok_now R q (Da.int _)⟩
    · cases e
  · cases e
def pB2 (f : Int → Int → Bool) : Vv → Vv → Cf → Option (Vv × Cf)
  | .da (.int i), .da (.int j), c => some (.da (.bool (f i j)), c)
  | _, _, _ => none
theorem k_B2 {f : Int → Int → Bool} : OkOp Γ (rI0 fun i j => .bl (f i j)) (pB2 f) := by
  intro z H c x y v w u c' R rv rw' e Q q
  unfold pB2 at e
  split at e
  · rename_i i j
    cases e
    exact ⟨i, j, Da.int' rv, Da.int' rw', ok_now R q (Da.bl _)⟩
  · cases e
def pSub : Vv → Vv → Cf → Option (Vv × Cf)
  | .da (.int i), .da (.int j), c => some (.da (.int (i - j)), c)
  | _, _, _ => none
theorem k_sub : OkOp Γ (rI0 fun i j => .int (i - j)) pSub := by
  intro z H c x y v w u c' R rv rw' e Q q
  unfold pSub at e
  split at e
  · rename_i i j
    cases e
    exact ⟨i, j, Da.int' rv, Da.int' rw', ok_now R q (Da.int _)⟩
  · cases e
abbrev pLt := pB2 fun i j => decide (i < j)
abbrev pLe := pB2 fun i j => decide (i ≤ j)
abbrev pGt := pB2 fun i j => decide (j < i)
abbrev pGe := pB2 fun i j => decide (j ≤ i)
def cMul (i j : Int) : Bool := decide (i.natAbs < 2 ^ 63) || decide (j.natAbs < 2 ^ 63) || decide (i.natAbs.log2 + j.natAbs.log2 < 1000000)
def rMulI : R2 := fun x y H Q => rI CMul (fun i j => .int (i * j)) x y H Q ∨ rI CMulW (fun i j => .int (i * j)) x y H Q
theorem op_mulI {X : Cx} : OpR X (binaryOp .Mult) rMulI := OpR.or op_mul op_mulW
abbrev pMul := pI2 cMul fun i j => i * j
theorem k_mul : OkOp Γ rMulI pMul := by
  intro z H c x y v w u c' R rv rw' e Q q
  replace e : pI2 cMul (fun i j => i * j) v w c = some (u, c') := e
  unfold pI2 at e
  split at e
  · split at e
    · rename_i i j hC
      cases e
      have q' := ok_now R q (y := .int (i * j)) (Da.int _)
      unfold cMul at hC
      rw [Bool.or_eq_true, Bool.or_eq_true, decide_eq_true_eq, decide_eq_true_eq, decide_eq_true_eq] at hC
      rcases hC with (h | h) | h
      · exact .inl ⟨i, j, Da.int' rv, Da.int' rw', .inl (by omega), q'⟩
      · exact .inl ⟨i, j, Da.int' rv, Da.int' rw', .inr (by omega), q'⟩
      · exact .inr ⟨i, j, Da.int' rv, Da.int' rw', h, q'⟩
    · cases e
  · cases e
def cDiv (_ j : Int) : Bool := decide (0 < j) && decide (j.natAbs.log2 < 9000)
abbrev pDiv := pI2 cDiv fun i j => i / j
theorem k_div : OkOp Γ (rI CDivW fun i j => .int (i / j)) pDiv := k_I2 fun i j h => by
  unfold cDiv at h
  rw [Bool.and_eq_true, decide_eq_true_eq, decide_eq_true_eq] at h
  exact h
abbrev pMod := pI2 (fun _ j => decide (0 < j)) fun i j => i % j
theorem k_mod : OkOp Γ (rI (fun _ j => 0 < j) fun i j => .int (i % j)) pMod := k_I2 fun i j h => of_decide_eq_true h
def cPow (i j : Int) : Bool := decide (0 ≤ j) && decide (j ≤ 1000000) && decide (i.natAbs < 2 ^ 64)
abbrev pPow := pI2 cPow fun i j => i ^ j.toNat
theorem k_pow : OkOp Γ (rI CPow fun i j => .int (i ^ j.toNat)) pPow := k_I2 fun i j h => by
  unfold cPow at h
  rw [Bool.and_eq_true, Bool.and_eq_true, decide_eq_true_eq, decide_eq_true_eq, decide_eq_true_eq] at h
  exact ⟨h.1.1, h.1.2, h.2⟩
def pNeg : Vv → Option Vv
  | .da (.int i) => some (.da (.int (-i)))
  | _ => none
theorem k_neg : OkUn Γ (rU fun i => .int (-i)) pNeg := by
  intro z H c x v u R rv e Q q
  unfold pNeg at e
  split at e
  · rename_i i
    cases e
    exact ⟨i, Da.int' rv, ok_now R q (Da.int _)⟩
  · cases e
/-! ### + -/
def pAdd : Vv → Vv → Cf → Option (Vv × Cf)
  | .da (.int i), .da (.int j), c => some (.da (.int (i + j)), c)
  | .da (.str i), .da (.str j), c => if i.length + j.length ≤ 100000 then some (.da (.str (i ++ j)), c) else none
  | .da (.tuple i), .da (.tuple j), c => if i.length + j.length ≤ 100000 then some (.da (.tuple (i ++ j)), c) else none
  | v, w, c => match lsOf c v, lsOf c w with
    | some i, some j => if i.length + j.length ≤ 100000 then some (.ref c.st.length, c.app (i ++ j)) else none
    | _, _ => none
theorem k_add : OkOp Γ (rAddU Γ.K) pAdd := by
  intro z H c x y v w u c' R rv rw' e Q q
  unfold pAdd at e
  split at e
  · rename_i i j
    cases e
    exact .inl ⟨i, j, Da.int' rv, Da.int' rw', ok_now R q (Da.int _)⟩
  · rename_i i j
    split at e
    · rename_i hz
      cases e
      exact .inr (.inr (.inr ⟨i, j, Da.str' rv, Da.str' rw', sz1000 hz, ok_now R q (Da.str _)⟩))
    · cases e
  · rename_i i j
    split at e
    · rename_i hz
      cases e
      obtain ⟨p, xs, rfl, hp, hl⟩ := Da.tup' rv
      obtain ⟨p', ys, rfl, hp', hl'⟩ := Da.tup' rw'
      refine .inr (.inl ⟨p, p', xs, ys, rfl, rfl, .inl (.inl (R.inc _ _ hp)), .inl (.inl (R.inc _ _ hp')), by rw [hl.length, hl'.length]; exact sz1000 hz, fun e => ?_, fun _ e => ?_, fun _ _ n hn => ?_⟩)
      · have e' : i = [] := by rw [e] at hl; cases hl; rfl
        subst e'
        exact ok_now R q rw'
      · have e' : j = [] := by rw [e] at hl'; cases hl'; rfl
        subst e'
        exact ok_now R q (by rw [List.append_nil]; exact rv)
      · obtain ⟨s3, R3⟩ := R.lay (o := .tup (xs ++ ys)) hn
        exact q _ _ _ s3 R3 (.tup upd_same (DaL.mono (same_lay (R.fresh hn).1) _ (hl.append hl')))
    · cases e
  · split at e
    · rename_i i j e1 e2
      split at e
      · rename_i hz
        cases e
        obtain ⟨p, xs, rfl, hp, hl⟩ := ls_at R rv e1
        obtain ⟨p', ys, rfl, hp', hl'⟩ := ls_at R rw' e2
        refine .inr (.inr (.inl ⟨p, p', xs, ys, rfl, rfl, hp, hp', by rw [hl.length, hl'.length]; exact sz1000 hz, fun n hn => ?_⟩))
        obtain ⟨s3, R3, g3⟩ := R.app hn (hl.append hl')
        exact q _ _ _ s3 R3 g3
      · cases e
    · cases e
/-! ### ==, !=, is None -/
def pEq (neg : Bool) (v w : Vv) (c : Cf) : Option (Vv × Cf) := (fz fzN v c).bind fun r => (fz fzN w r.2).bind fun r' => if SeqAt.shaped r.1 && SeqAt.shaped r'.1 then some (.da (.bool (if neg then !PyData.eqv r.1 r'.1 else PyData.eqv r.1 r'.1)), r'.2) else none
theorem k_eq0 {neg : Bool} {r : R2} (hr : ∀ x y H Q d e, Dp Γ.K H x d → Dp Γ.K H y e → SeqAt.shaped d = true → SeqAt.shaped e = true → Q (.bl (if neg then !PyData.eqv d e else PyData.eqv d e)) H → r x y H Q) : OkOp Γ r (pEq neg) := by
  intro z H c x y v w u c' R rv rw' e Q q
  unfold pEq at e
  cases e1 : fz fzN v c with
  | none => rw [e1] at e; cases e
  | some p =>
    obtain ⟨d, c1⟩ := p
    rw [e1, Option.bind_some] at e
    obtain ⟨z1, s1, R1, h1, _⟩ := fz_ok fzN z H c x v d c1 R rv e1
    cases e2 : fz fzN w c1 with
    | none => simp only [e2] at e; cases e
    | some p2 =>
      obtain ⟨d2, c2⟩ := p2
      simp only [e2, Option.bind_some] at e
      obtain ⟨z2, s2, R2, h2, _⟩ := fz_ok fzN z1 H c1 y w d2 c2 R1 (rw'.step s1) e2
      split at e
      · rename_i hs
        cases e
        rw [Bool.and_eq_true] at hs
        exact hr x y H Q d d2 (Da.dp d (Da.mono (s2.ext.trans R2.inc) d h1)) (Da.dp d2 (Da.mono R2.inc d2 h2)) hs.1 hs.2 (q z2 H _ (s1.trans R1 s2) R2 (Da.bl _))
      · cases e
theorem k_eq : OkOp Γ (rEqD Γ.K) (pEq false) := k_eq0 fun x y H Q d e h1 h2 h3 h4 q => ⟨d, e, h1, h2, h3, h4, q⟩
theorem k_ne : OkOp Γ (rNeD Γ.K) (pEq true) := k_eq0 fun x y H Q d e h1 h2 h3 h4 q => ⟨d, e, h1, h2, h3, h4, q⟩
def pIsN (neg : Bool) : Vv → Vv → Cf → Option (Vv × Cf)
  | .da d, .da .none, c => some (.da (.bool (if neg then !isNone d else isNone d)), c)
  | .ref _, .da .none, c => some (.da (.bool neg), c)
  | _, _, _ => none
theorem k_isN : OkOp Γ rIsN (pIsN false) := by
  intro z H c x y v w u c' R rv rw' e Q q
  unfold pIsN at e
  split at e
  · rename_i d
    cases e
    refine ⟨Da.non' rw', ok_now R q ?_⟩
    show Da z.F _ (.bool (isNone d))
    rw [← Da.isNone (show Da z.F x d from rv)]; exact .bl _
  · cases e
    refine ⟨Da.non' rw', ok_now R q ?_⟩
    obtain ⟨a, _, rfl⟩ := rv
    exact Da.bl false
  · cases e
theorem k_notN : OkOp Γ rNotN (pIsN true) := by
  intro z H c x y v w u c' R rv rw' e Q q
  unfold pIsN at e
  split at e
  · rename_i d
    cases e
    refine ⟨Da.non' rw', ok_now R q ?_⟩
    show Da z.F _ (.bool (!isNone d))
    rw [← Da.isNone (show Da z.F x d from rv)]; exact .bl _
  · cases e
    refine ⟨Da.non' rw', ok_now R q ?_⟩
    obtain ⟨a, _, rfl⟩ := rv
    exact Da.bl true
  · cases e
/-! ### subscripts -/
def pIx : Vv → Vv → Cf → Option (Vv × Cf)
  | .da (.str x), .da (.int i), c => if x.length ≤ 100000 then (atI x.cps.toList i).map fun n => (.da (.str ⟨#[n]⟩), c) else none
  | .da (.tuple ds), .da (.int i), c => (atI ds i).map fun d => (.da d, c)
  | .da (.list ds), .da (.int i), c => (atI ds i).map fun d => (.da d, c)
  | o, .da (.int i), c => (lsOf c o).bind fun l => (atI l i).map fun d => (d, c)
  | _, _, _ => none
theorem k_ix : OkOp Γ (rIxU Γ.K) pIx := by
  intro z H c x y v w u c' R rv rw' e Q q
  unfold pIx at e
  split at e
  · rename_i s i
    split at e
    · rename_i hz
      cases e1 : atI s.cps.toList i with
      | none => rw [e1] at e; cases e
      | some n =>
        rw [e1] at e
        cases e
        exact .inr (.inr ⟨s, i, n, Da.str' rv, Da.int' rw', sz1000 hz, e1, ok_now R q (Da.str _)⟩)
    · cases e
  · rename_i ds i
    cases e1 : atI ds i with
    | none => rw [e1] at e; cases e
    | some d =>
      rw [e1] at e
      cases e
      obtain ⟨p, xs, rfl, hp, hl⟩ := Da.tup' rv
      obtain ⟨y', hy, hd⟩ := hl.at e1
      exact .inl ⟨p, xs, i, y', rfl, Da.int' rw', .inl (.inl (R.inc _ _ hp)), hy, ok_now R q hd⟩
  · rename_i ds i
    cases e1 : atI ds i with
    | none => rw [e1] at e; cases e
    | some d =>
      rw [e1] at e
      cases e
      obtain ⟨p, xs, rfl, hp, hl⟩ := Da.lst' rv
      obtain ⟨y', hy, hd⟩ := hl.at e1
      exact .inr (.inl ⟨p, xs, i, y', rfl, Da.int' rw', .inl (.inl (R.inc _ _ hp)), hy, ok_now R q hd⟩)
  · rename_i i _ _ _
    cases e1 : lsOf c v with
    | none => rw [e1] at e; cases e
    | some l =>
      rw [e1, Option.bind_some] at e
      cases e2 : atI l i with
      | none => rw [e2] at e; cases e
      | some d =>
        rw [e2] at e
        cases e
        obtain ⟨p, xs, rfl, hp, hl⟩ := ls_at R rv e1
        obtain ⟨y', hy, hd⟩ := hl.at e2
        exact .inr (.inl ⟨p, xs, i, y', rfl, Da.int' rw', .inl (.inl hp), hy, ok_now R q hd⟩)
  · cases e
/-! ### slices -/
def pSl : Vv → Option Int → Option Int → Cf → Option (Vv × Cf)
  | .da (.tuple ds), lo, hi, c => some (.da (.tuple (cutL ds lo hi)), c)
  | .da (.str x), lo, hi, c => if x.length ≤ 100000 then some (.da (.str (cutS x lo hi)), c) else none
  | v, lo, hi, c => (lsOf c v).map fun l => (.ref c.st.length, c.app (cutL l lo hi))
theorem RVs.cut {xs : List V} {l : List Vv} (h : RVs z xs l) (lo hi : Option Int) : RVs z (cutV xs lo hi) (cutL l lo hi) := by
  unfold cutV cutL
  rw [h.length]
  exact (h.drop _).take _
theorem k_sl : OkSl Γ (rSlU Γ.K) pSl := by
  intro z H c x v lo hi u c' R rv e Q q
  unfold pSl at e
  split at e
  · rename_i ds
    cases e
    obtain ⟨a, xs, rfl, ha, hl⟩ := Da.tup' rv
    refine .inl ⟨a, xs, rfl, .inl (.inl (R.inc _ _ ha)), fun hw => ?_, fun hw p hp => ?_⟩
    · have ec : cutL ds lo hi = ds := by
        unfold cutL
        rw [← hl.length, hw.1, hw.2, List.drop_zero, Nat.sub_zero, hl.length, List.take_length]
      rw [ec] at q
      exact ok_now R q rv
    · obtain ⟨s3, R3⟩ := R.lay (o := .tup (cutV xs lo hi)) hp
      exact q _ _ _ s3 R3 (.tup upd_same (DaL.mono (same_lay (R.fresh hp).1) _ (hl.cut lo hi)))
  · rename_i s
    split at e
    · rename_i hz
      cases e
      exact .inr (.inr ⟨s, Da.str' rv, sz1000 hz, ok_now R q (Da.str _)⟩)
    · cases e
  · cases e1 : lsOf c v with
    | none => rw [e1] at e; cases e
    | some l =>
      rw [e1] at e
      cases e
      obtain ⟨p, xs, rfl, hp, hl⟩ := ls_at R rv e1
      refine .inr (.inl ⟨p, xs, rfl, .inl (.inl hp), fun n hn => ?_⟩)
      obtain ⟨s3, R3, g3⟩ := R.app hn (hl.cut lo hi)
      exact q _ _ _ s3 R3 g3
/-! ### truth, len -/
def pTru : Vv → Cf → Option Bool
  | .da (.str x), _ => if x.length ≤ 100000 then some ((x.length : Int) != 0) else none
  | .da (.dict _), _ => none
  | .da d, _ => some (truth d)
  | v, c => (lsOf c v).map fun l => !l.isEmpty
theorem RVs.isEmpty {xs : List V} {l : List Vv} (h : RVs z xs l) : xs.isEmpty = l.isEmpty := by cases h <;> rfl
theorem k_tru : OkTru Γ pTru := by
  intro z H c x v b R rv e
  unfold pTru at e
  split at e
  · rename_i s
    split at e
    · rename_i hz
      cases e
      rw [Da.str' rv]
      exact ⟨sz1000 hz, rfl⟩
    · cases e
  · cases e
  · rename_i d h1 h2
    cases e
    have rv : Da z.F x d := rv
    cases rv with
    | non => rfl
    | bl b => rfl
    | int i => rfl
    | str x => exact absurd rfl (h1 x)
    | lst g1 g2 => exact .inl ⟨_, .inl (.inl (R.inc _ _ g1)), by rw [g2.isEmpty]; rfl⟩
    | tup g1 g2 => exact .inr (.inl ⟨_, .inl (.inl (R.inc _ _ g1)), by rw [g2.isEmpty]; rfl⟩)
  · cases e1 : lsOf c v with
    | none => rw [e1] at e; cases e
    | some l =>
      rw [e1] at e
      cases e
      obtain ⟨p, xs, rfl, hp, hl⟩ := ls_at R rv e1
      exact .inl ⟨xs, .inl (.inl hp), by rw [hl.isEmpty]⟩
def pLen : List Vv → Cf → Option (Vv × Cf)
  | [.da (.str x)], c => if x.length ≤ 100000 then some (.da (.int x.length), c) else none
  | [.da (.tuple ds)], c => some (.da (.int ds.length), c)
  | [.da (.list ds)], c => some (.da (.int ds.length), c)
  | [v], c => (lsOf c v).map fun l => (.da (.int l.length), c)
  | _, _ => none
theorem RVs.one {xs : List V} {v : Vv} (h : RVs z xs [v]) : ∃ x, xs = [x] ∧ RV z x v := by
  cases h with
  | cons h t => cases t; exact ⟨_, rfl, h⟩
theorem RVs.two {xs : List V} {v w : Vv} (h : RVs z xs [v, w]) : ∃ x y, xs = [x, y] ∧ RV z x v ∧ RV z y w := by
  cases h with
  | cons h t =>
    cases t with
    | cons h2 t => cases t; exact ⟨_, _, rfl, h, h2⟩
theorem k_len : OkCB Γ (rLenU Γ.K) pLen := by
  intro z H c xs vs u c' R rv e Q q
  unfold pLen at e
  split at e
  · replace rv := rv.one; obtain ⟨x, rfl, rv⟩ := rv
    rename_i s
    split at e
    · rename_i hz
      cases e
      exact ⟨x, s.length, rfl, by rw [Da.str' rv]; exact ⟨sz1000 hz, rfl⟩, ok_now R q (Da.int _)⟩
    · cases e
  · replace rv := rv.one; obtain ⟨x, rfl, rv⟩ := rv
    cases e
    obtain ⟨p, xs, rfl, hp, hl⟩ := Da.tup' rv
    exact ⟨.ref p, _, rfl, .inr ⟨xs, .inl (.inl (R.inc _ _ hp)), hl.length.symm⟩, ok_now R q (Da.int _)⟩
  · replace rv := rv.one; obtain ⟨x, rfl, rv⟩ := rv
    cases e
    obtain ⟨p, xs, rfl, hp, hl⟩ := Da.lst' rv
    exact ⟨.ref p, _, rfl, .inl ⟨xs, .inl (.inl (R.inc _ _ hp)), hl.length.symm⟩, ok_now R q (Da.int _)⟩
  · replace rv := rv.one; obtain ⟨x, rfl, rv⟩ := rv
    rename_i v _ _ _
    cases e1 : lsOf c v with
    | none => rw [e1] at e; cases e
    | some l =>
      rw [e1] at e
      cases e
      obtain ⟨p, xs, rfl, hp, hl⟩ := ls_at R rv e1
      exact ⟨.ref p, _, rfl, .inl ⟨xs, .inl (.inl hp), hl.length.symm⟩, ok_now R q (Da.int _)⟩
  · cases e
/-! ### list(x), tuple(x) -/
def pList : List Vv → Cf → Option (Vv × Cf)
  | [.da (.tuple ds)], c => some (.ref c.st.length, c.app (ds.map .da))
  | [v], c => (lsOf c v).map fun l => (.ref c.st.length, c.app l)
  | _, _ => none
theorem k_list : OkCB Γ (rListOf Γ.K) pList := by
  intro z H c xs vs u c' R rv e Q q
  unfold pList at e
  split at e
  · replace rv := rv.one; obtain ⟨x, rfl, rv⟩ := rv
    cases e
    obtain ⟨p, xs, rfl, hp, hl⟩ := Da.tup' rv
    refine ⟨p, xs, rfl, .inr (.inl (.inl (R.inc _ _ hp))), fun n hn => ?_⟩
    obtain ⟨s3, R3, g3⟩ := R.app hn (.ofDa hl)
    exact q _ _ _ s3 R3 g3
  · replace rv := rv.one; obtain ⟨x, rfl, rv⟩ := rv
    rename_i v _
    cases e1 : lsOf c v with
    | none => rw [e1] at e; cases e
    | some l =>
      rw [e1] at e
      cases e
      obtain ⟨p, xs, rfl, hp, hl⟩ := ls_at R rv e1
      refine ⟨p, xs, rfl, .inl (.inl (.inl hp)), fun n hn => ?_⟩
      obtain ⟨s3, R3, g3⟩ := R.app hn hl
      exact q _ _ _ s3 R3 g3
  · cases e
def pTuple : List Vv → Cf → Option (Vv × Cf)
  | [.da (.tuple ds)], c => some (.da (.tuple ds), c)
  | [v], c => (lsOf c v).bind fun l => (fzL (fz fzN) l c).map fun r => (.da (.tuple r.1), r.2)
  | _, _ => none
theorem k_tuple : OkCB Γ (rTupOf Γ.K) pTuple := by
  intro z H c xs vs u c' R rv e Q q
  unfold pTuple at e
  split at e
  · replace rv := rv.one; obtain ⟨x, rfl, rv⟩ := rv
    cases e
    obtain ⟨p, xs, rfl, hp, hl⟩ := Da.tup' rv
    exact ⟨p, xs, rfl, .inr ⟨.inl (.inl (R.inc _ _ hp)), ok_now R q rv⟩⟩
  · replace rv := rv.one; obtain ⟨x, rfl, rv⟩ := rv
    rename_i v _
    cases e1 : lsOf c v with
    | none => rw [e1] at e; cases e
    | some l =>
      rw [e1, Option.bind_some] at e
      cases e2 : fzL (fz fzN) l c with
      | none => rw [e2] at e; cases e
      | some p =>
        obtain ⟨ds, c2⟩ := p
        rw [e2] at e
        cases e
        obtain ⟨p, xs, rfl, hp, hl⟩ := ls_at R rv e1
        obtain ⟨z2, s2, R2, g2, _⟩ := fzL_ok (fz_ok fzN) l xs z c ds _ R hl e2
        refine ⟨p, xs, rfl, .inl ⟨.inl (.inl hp), fun n hn => ?_⟩⟩
        obtain ⟨s3, R3⟩ := R2.lay (o := .tup xs) hn
        exact q _ _ _ (s2.trans R2 s3) R3 (.tup upd_same (DaL.mono (same_lay (R2.fresh hn).1) _ g2))
  · cases e
/-! ### int, ord -/
def pInt : List Vv → Cf → Option (Vv × Cf)
  | [.da (.int i)], c => some (.da (.int i), c)
  | [.da (.bool b)], c => some (.da (.int (if b then 1 else 0)), c)
  | _, _ => none
theorem k_int : OkCB Γ rInt1 pInt := by
  intro z H c xs vs u c' R rv e Q q
  unfold pInt at e
  split at e
  · replace rv := rv.one; obtain ⟨x, rfl, rv⟩ := rv
    cases e
    exact .inl ⟨_, by rw [Da.int' rv], ok_now R q (Da.int _)⟩
  · replace rv := rv.one; obtain ⟨x, rfl, rv⟩ := rv
    cases e
    exact .inr ⟨_, by rw [Da.bl' rv], ok_now R q (Da.int _)⟩
  · cases e
def pOrd : List Vv → Cf → Option (Vv × Cf)
  | [.da (.str x)], c => if x.length = 1 then some (.da (.int (x.cps.getD 0 0 : Nat)), c) else none
  | _, _ => none
theorem k_ord : OkCB Γ rOrd pOrd := by
  intro z H c xs vs u c' R rv e Q q
  unfold pOrd at e
  split at e
  · replace rv := rv.one; obtain ⟨x, rfl, rv⟩ := rv
    rename_i s
    split at e
    · rename_i hz
      cases e
      exact ⟨s, by rw [Da.str' rv], hz, ok_now R q (Da.int _)⟩
    · cases e
  · cases e
/-! ### all, sum, max of lists -/
def intsOf : List Vv → Option (List Int)
  | [] => some []
  | .da (.int i) :: r => (intsOf r).map (i :: ·)
  | _ => none
def boolsOf : List Vv → Option (List Bool)
  | [] => some []
  | .da (.bool i) :: r => (boolsOf r).map (i :: ·)
  | _ => none
theorem ints_at {xs : List V} : ∀ {l : List Vv} {ns : List Int}, RVs z xs l → intsOf l = some ns → xs = ns.map V.int := by
  intro l
  induction l generalizing xs with
  | nil => intro ns h e; cases h; cases e; rfl
  | cons v l ih =>
    intro ns h e
    cases h with
    | cons h t =>
      cases v with
      | da d =>
        cases d with
        | int i =>
          simp only [intsOf] at e
          cases e1 : intsOf l with
          | none => rw [e1] at e; cases e
          | some ns' =>
            rw [e1] at e
            cases e
            rw [ih t e1, Da.int' h]
            rfl
        | _ => simp [intsOf] at e
      | _ => simp [intsOf] at e
theorem bools_at {xs : List V} : ∀ {l : List Vv} {ns : List Bool}, RVs z xs l → boolsOf l = some ns → xs = ns.map V.bl := by
  intro l
  induction l generalizing xs with
  | nil => intro ns h e; cases h; cases e; rfl
  | cons v l ih =>
    intro ns h e
    cases h with
    | cons h t =>
      cases v with
      | da d =>
        cases d with
        | bool i =>
          simp only [boolsOf] at e
          cases e1 : boolsOf l with
          | none => rw [e1] at e; cases e
          | some ns' =>
            rw [e1] at e
            cases e
            rw [ih t e1, Da.bl' h]
            rfl
        | _ => simp [boolsOf] at e
      | _ => simp [boolsOf] at e
def pOfBools (f : List Bool → Bool) : List Vv → Cf → Option (Vv × Cf)
  | [v], c => (lsOf c v).bind fun l => (boolsOf l).map fun bs => (.da (.bool (f bs)), c)
  | _, _ => none
def pOfInts (f : List Int → Option Int) : List Vv → Cf → Option (Vv × Cf)
  | [v], c => (lsOf c v).bind fun l => (intsOf l).bind fun ns => (f ns).map fun n => (.da (.int n), c)
  | _, _ => none
abbrev pAll := pOfBools fun bs => bs.all id
theorem bools_ok {f : List Bool → Bool} {r : List V → Hp → VK → Prop} (hr : ∀ (a : Addr) bs H Q, H a = some (.lst (bs.map V.bl)) → Q (.bl (f bs)) H → r [.ref a] H Q) : OkCB Γ r (pOfBools f) := by
  intro z H c xs vs u c' R rv e Q q
  unfold pOfBools at e
  split at e
  · replace rv := rv.one; obtain ⟨x, rfl, rv⟩ := rv
    rename_i v
    cases e1 : lsOf c v with
    | none => rw [e1] at e; cases e
    | some l =>
      rw [e1, Option.bind_some] at e
      cases e2 : boolsOf l with
      | none => rw [e2] at e; cases e
      | some bs =>
        rw [e2] at e
        cases e
        obtain ⟨p, xs, rfl, hp, hl⟩ := ls_at R rv e1
        rw [bools_at hl e2] at hp
        exact hr p bs H Q hp (ok_now R q (Da.bl _))
  · cases e
theorem ints_ok {f : List Int → Option Int} {r : List V → Hp → VK → Prop} (hr : ∀ (a : Addr) ns n H Q, f ns = some n → H a = some (.lst (ns.map V.int)) → Q (.int n) H → r [.ref a] H Q) : OkCB Γ r (pOfInts f) := by
  intro z H c xs vs u c' R rv e Q q
  unfold pOfInts at e
  split at e
  · replace rv := rv.one; obtain ⟨x, rfl, rv⟩ := rv
    rename_i v
    cases e1 : lsOf c v with
    | none => rw [e1] at e; cases e
    | some l =>
      rw [e1, Option.bind_some] at e
      cases e2 : intsOf l with
      | none => rw [e2] at e; cases e
      | some ns =>
        rw [e2, Option.bind_some] at e
        cases e3 : f ns with
        | none => rw [e3] at e; cases e
        | some n =>
          rw [e3] at e
          cases e
          obtain ⟨p, xs, rfl, hp, hl⟩ := ls_at R rv e1
          rw [ints_at hl e2] at hp
          exact hr p ns n H Q e3 hp (ok_now R q (Da.int _))
  · cases e
theorem k_all : OkCB Γ (rAll Γ.K) pAll := bools_ok fun a bs H Q hp q => ⟨a, bs, rfl, .inl (.inl hp), q⟩
abbrev pSum := pOfInts fun ns => some ns.sum
theorem k_sum : OkCB Γ (rSum Γ.K) pSum := ints_ok fun a ns n H Q e hp q => ⟨a, ns, rfl, .inl (.inl hp), by cases e; exact q⟩
def maxI : List Int → Option Int
  | [] => none
  | n :: r => some (r.foldl max n)
abbrev pMax := pOfInts maxI
theorem k_max : OkCB Γ (rMax Γ.K) pMax := ints_ok fun a ns n H Q e hp q => by
  cases ns with
  | nil => cases e
  | cons m r =>
    cases e
    refine ⟨a, m :: r, rfl, .inl (.inl hp), Nat.succ_pos _, fun k hk hle => ?_⟩
    obtain ⟨h1, h2⟩ := le_foldmax r m
    have e : k = r.foldl max m := by
      have l1 : r.foldl max m ≤ k := by
        rcases foldmax_mem r m with z | z
        · rw [z]; exact hle m List.mem_cons_self
        · exact hle _ (List.mem_cons_of_mem _ z)
      rcases List.mem_cons.mp hk with z | z
      · subst z; omega
      · have := h2 k z; omega
    rw [e]
    exact q
/-! ### in, not in: flat values; a sign of a text -/
def flatVv : Vv → Option PyData
  | .da d => if flatD d then some d else none
  | _ => none
def flats : List Vv → Option (List PyData)
  | [] => some []
  | v :: r => (flatVv v).bind fun d => (flats r).map (d :: ·)
def pIn (neg : Bool) (v w : Vv) (c : Cf) : Option (Vv × Cf) := match v, w with
  | .da (.str a), .da (.str b) => if a.length = 1 then some (.da (.bool (if neg then !decide (a.cps.getD 0 0 ∈ b.cps.toList) else decide (a.cps.getD 0 0 ∈ b.cps.toList))), c) else none
  | _, _ => (flatVv v).bind fun d => ((tuOf w).or (lsOf c w)).bind fun l => (flats l).map fun ds => (.da (.bool (if neg then !ds.any (fun e => PyData.eqv e d) else ds.any (fun e => PyData.eqv e d))), c)
theorem str1 {a : Str} (h : a.length = 1) : a = ⟨#[a.cps.getD 0 0]⟩ := by
  obtain ⟨⟨l⟩⟩ := a
  match l, h with
  | [x], _ => rfl
theorem flat_at {v : Vv} {x : V} {d : PyData} (r : RV z x v) (e : flatVv v = some d) : Da z.F x d ∧ flatD d = true := by
  unfold flatVv at e
  split at e
  · split at e
    · rename_i h; cases e; exact ⟨r, h⟩
    · cases e
  · cases e
theorem flats_at {xs : List V} : ∀ {l : List Vv} {ds : List PyData}, RVs z xs l → flats l = some ds → DaL z.F xs ds ∧ ds.all flatD = true := by
  intro l
  induction l generalizing xs with
  | nil => intro ds h e; cases h; cases e; exact ⟨.nil, rfl⟩
  | cons v l ih =>
    intro ds h e
    cases h with
    | cons h t =>
      unfold flats at e
      cases e1 : flatVv v with
      | none => rw [e1] at e; cases e
      | some d =>
        rw [e1, Option.bind_some] at e
        cases e2 : flats l with
        | none => rw [e2] at e; cases e
        | some es =>
          rw [e2] at e
          cases e
          obtain ⟨h1, h2⟩ := flat_at h e1
          obtain ⟨h3, h4⟩ := ih t e2
          exact ⟨.cons h1 h3, by rw [List.all_cons, h2, h4]; rfl⟩
theorem k_in {neg : Bool} : OkOp Γ (rInU Γ.K neg) (pIn neg) := by
  intro z H c x y v w u c' R rv rw' e Q q
  unfold pIn at e
  split at e
  · rename_i s b
    split at e
    · rename_i hz
      cases e
      exact .inr ⟨s.cps.getD 0 0, b, by rw [Da.str' rv, ← str1 hz], Da.str' rw', ok_now R q (Da.bl _)⟩
    · cases e
  · cases e1 : flatVv v with
    | none => rw [e1] at e; cases e
    | some d =>
      rw [e1, Option.bind_some] at e
      cases e2 : (tuOf w).or (lsOf c w) with
      | none => rw [e2] at e; cases e
      | some l =>
        rw [e2, Option.bind_some] at e
        cases e3 : flats l with
        | none => rw [e3] at e; cases e
        | some ds =>
          rw [e3] at e
          cases e
          obtain ⟨h1, h2⟩ := flat_at rv e1
          have hs : ∃ p xs, y = .ref p ∧ (SqL Γ.K H p xs ∨ SqT Γ.K H p xs) ∧ RVs z xs l := by
            cases e4 : tuOf w with
            | some l' =>
              rw [e4] at e2
              cases e2
              obtain ⟨p, xs, rfl, hp, hl⟩ := tu_at R rw' e4
              exact ⟨p, xs, rfl, .inr (.inl (.inl hp)), hl⟩
            | none =>
              rw [e4] at e2
              obtain ⟨p, xs, rfl, hp, hl⟩ := ls_at R rw' e2
              exact ⟨p, xs, rfl, .inl (.inl (.inl hp)), hl⟩
          obtain ⟨p, xs, rfl, hp, hl⟩ := hs
          obtain ⟨h3, h4⟩ := flats_at hl e3
          obtain ⟨h5, h6⟩ := da_inV h1 h2 h3 h4
          refine .inl ⟨p, xs, rfl, hp, h1.flat h2, h6, ?_⟩
          rw [h5]
          exact ok_now R q (Da.bl _)
/-! ### methods of lists -/
def isL (v : Vv) (c : Cf) : Bool := (lsOf c v).isSome
theorem ty_list : OkTy Γ "list" isL := by
  intro z H c x v R r e
  unfold isL at e
  cases e1 : lsOf c v with
  | none => rw [e1] at e; cases e
  | some l =>
    obtain ⟨p, xs, rfl, hp, hl⟩ := ls_at R r e1
    exact .inl ⟨rfl, xs, .inl (.inl hp)⟩
/-- a list that may be changed: its items, and how the state is with others in their place -/
def muOf (c : Cf) : Vv → Option (List Vv × (List Vv → Option Cf))
  | .ref n => match c.st[n]? with
    | some (.mu l) => some (l, fun l' => some (c.put n l'))
    | _ => none
  | .wide => some (c.tp.wide.map (fun i => .da (.int i)), fun l' => (intsOf l').map fun ns => { c with tp := { c.tp with wide := ns } })
  | .tape => some (c.tp.tl.map tpW, fun l' => (tpOf l').map fun tl => { c with tp := { c.tp with tl := tl } })
  | _ => none
where
  tpOf : List Vv → Option (List (Option Int))
    | [] => some []
    | .wide :: r => (tpOf r).map (none :: ·)
    | .da (.int i) :: r => (tpOf r).map (some i :: ·)
    | _ => none
theorem tpOf_at {xs : List V} {t w : Addr} (hT : z.T = some (t, w)) : ∀ {l : List Vv} {tl : List (Option Int)}, RVs z xs l → muOf.tpOf l = some tl → xs = tl.map (tpV w) := by
  intro l
  induction l generalizing xs with
  | nil => intro tl h e; cases h; cases e; rfl
  | cons v l ih =>
    intro tl h e
    cases h with
    | cons h r =>
      cases v with
      | wide =>
        simp only [muOf.tpOf] at e
        cases e1 : muOf.tpOf l with
        | none => rw [e1] at e; cases e
        | some q =>
          rw [e1] at e
          cases e
          obtain ⟨t', w', hT', rfl⟩ := h
          rw [hT] at hT'
          cases hT'
          rw [ih r e1]
          rfl
      | da d =>
        cases d with
        | int i =>
          simp only [muOf.tpOf] at e
          cases e1 : muOf.tpOf l with
          | none => rw [e1] at e; cases e
          | some q =>
            rw [e1] at e
            cases e
            rw [ih r e1, Da.int' h]
            rfl
        | _ => simp [muOf.tpOf] at e
      | _ => simp [muOf.tpOf] at e
theorem upd_self2 {H : Hp} {a : Addr} {o : HO} (h : H a = some o) : upd H a o = H := by
  funext b
  by_cases hb : b = a
  · subst hb; rw [upd_same, h]
  · rw [upd_ne hb]
theorem mu_at (R : Rl Γ z H c) (r : RV z x v) {l : List Vv} {f : List Vv → Option Cf} (e : muOf c v = some (l, f)) :
    ∃ a xs, x = .ref a ∧ H a = some (.lst xs) ∧ RVs z xs l ∧ ∀ l' ys c', f l' = some c' → RVs z ys l' → Stp z H z (upd H a (.lst ys)) ∧ Rl Γ z (upd H a (.lst ys)) c' := by
  cases v with
  | ref n =>
    simp only [muOf] at e
    cases q : c.st[n]? with
    | none => rw [q] at e; cases e
    | some k =>
      rw [q] at e
      cases k with
      | frz ds => cases e
      | mu l1 =>
        cases e
        obtain ⟨a, xs, rfl, h1, h2, h3, h4⟩ := R.at r q
        refine ⟨a, xs, rfl, h3, h4, fun l' ys c' e hl => ?_⟩
        cases e
        exact R.put h1 h2 hl
  | wide =>
    cases e
    obtain ⟨t, w, hT, rfl⟩ := r
    obtain ⟨h1, h2, h3, h4, h5, h6, h7⟩ := R.tap t w hT
    obtain ⟨a, xs, e1, e2, e3⟩ := ls_at (v := .wide) R ⟨t, w, hT, rfl⟩ rfl
    cases e1
    refine ⟨w, xs, rfl, e2, e3, fun l' ys c' e hl => ?_⟩
    dsimp only at e
    cases e4 : intsOf l' with
    | none => rw [e4] at e; cases e
    | some ns =>
      rw [e4] at e
      cases e
      rw [ints_at hl e4]
      have := R.tape (p := { c.tp with wide := ns }) hT rfl
      rw [upd_self2 h6] at this
      exact this
  | tape =>
    cases e
    obtain ⟨t, w, hT, rfl⟩ := r
    obtain ⟨h1, h2, h3, h4, h5, h6, h7⟩ := R.tap t w hT
    obtain ⟨a, xs, e1, e2, e3⟩ := ls_at (v := .tape) R ⟨t, w, hT, rfl⟩ rfl
    cases e1
    refine ⟨t, xs, rfl, e2, e3, fun l' ys c' e hl => ?_⟩
    dsimp only at e
    cases e4 : muOf.tpOf l' with
    | none => rw [e4] at e; cases e
    | some tl =>
      rw [e4] at e
      cases e
      rw [tpOf_at hT hl e4]
      have := R.tape (p := { c.tp with tl := tl }) hT rfl
      rw [upd_self2 (H := upd H t _) (a := w) ((upd_ne (Ne.symm h1)).trans h7)] at this
      exact this
  | _ => cases e
def pAppend (v : Vv) (vs : List Vv) (c : Cf) : Option (Vv × Cf) := match vs with
  | [w] => (muOf c v).bind fun p => if p.1.length < 100000 then (p.2 (p.1 ++ [w])).map fun c' => (.da .none, c') else none
  | _ => none
theorem k_append {T : String} : OkMt Γ T rAppend pAppend := by
  intro z H c x xs v vs u c' R rv rvs e Q q
  unfold pAppend at e
  split at e
  · rename_i w
    obtain ⟨y, rfl, ry⟩ := rvs.one
    cases e1 : muOf c v with
    | none => rw [e1] at e; cases e
    | some p =>
      obtain ⟨l, f⟩ := p
      rw [e1, Option.bind_some] at e
      split at e
      · rename_i hz
        cases e2 : f (l ++ [w]) with
        | none => simp only [e2] at e; cases e
        | some c2 =>
          simp only [e2, Option.map_some] at e
          cases e
          obtain ⟨a, xs, rfl, h1, h2, h3⟩ := mu_at R rv e1
          obtain ⟨s, R'⟩ := h3 _ (xs ++ [y]) _ e2 (h2.append (.cons ry .nil))
          exact ⟨a, xs, y, rfl, rfl, h1, by rw [h2.length]; exact Nat.lt_of_lt_of_le hz (sz1000 (Nat.le_refl _)), q _ _ _ s R' Da.non⟩
      · cases e
  · cases e
def pInsert (v : Vv) (vs : List Vv) (c : Cf) : Option (Vv × Cf) := match vs with
  | [.da (.int i), w] => (muOf c v).bind fun p => if p.1.length < 100000 ∧ 0 ≤ i ∧ i < 2 ^ 63 then (p.2 (p.1.take i.toNat ++ w :: p.1.drop i.toNat)).map fun c' => (.da .none, c') else none
  | _ => none
def rInsert : V → List V → Hp → VK → Prop := fun x vs H Q => ∃ (l : Addr) (xs : List V) (i : Int) (y : V), x = .ref l ∧ vs = [.int i, y] ∧ H l = some (.lst xs) ∧ xs.length < sizeLine ∧ 0 ≤ i ∧ i < 2 ^ 63 ∧ Q .non (upd H l (.lst (xs.take i.toNat ++ [y] ++ xs.drop i.toNat)))
theorem mt_insertR {X : Cx} : MtR X "list.insert" rInsert := mt_insert
theorem k_insert {T : String} : OkMt Γ T rInsert pInsert := by
  intro z H c x xs v vs u c' R rv rvs e Q q
  unfold pInsert at e
  split at e
  · rename_i i w
    obtain ⟨y0, y, rfl, ry0, ry⟩ := rvs.two
    cases e1 : muOf c v with
    | none => rw [e1] at e; cases e
    | some p =>
      obtain ⟨l, f⟩ := p
      rw [e1, Option.bind_some] at e
      split at e
      · rename_i hz
        cases e2 : f (l.take i.toNat ++ w :: l.drop i.toNat) with
        | none => simp only [e2] at e; cases e
        | some c2 =>
          simp only [e2, Option.map_some] at e
          cases e
          obtain ⟨a, xs, rfl, h1, h2, h3⟩ := mu_at R rv e1
          obtain ⟨s, R'⟩ := h3 _ (xs.take i.toNat ++ y :: xs.drop i.toNat) _ e2 (h2.insertIdx i.toNat ry)
          refine ⟨a, xs, i, y, rfl, by rw [Da.int' ry0], h1, by rw [h2.length]; exact Nat.lt_of_lt_of_le hz.1 (sz1000 (Nat.le_refl _)), hz.2.1, hz.2.2, ?_⟩
          rw [List.append_assoc]
          exact q _ _ _ s R' Da.non
      · cases e
  · cases e
def pPopAt (v : Vv) (vs : List Vv) (c : Cf) : Option (Vv × Cf) := match vs with
  | [.da (.int i)] => (muOf c v).bind fun p => if -(2 ^ 63) ≤ i ∧ i < 2 ^ 63 then (seqIndex? i p.1.length).bind fun k => (p.1[k]?).bind fun w => (p.2 (p.1.eraseIdx k)).map fun c' => (w, c') else none
  | [] => (muOf c v).bind fun p => (p.1[p.1.length - 1]?).bind fun w => (p.2 p.1.dropLast).map fun c' => (w, c')
  | _ => none
theorem RVs.dropLast {xs : List V} {l : List Vv} (h : RVs z xs l) : RVs z xs.dropLast l.dropLast := by
  rw [List.dropLast_eq_take, List.dropLast_eq_take, h.length]
  exact h.take _
def rPopU : V → List V → Hp → VK → Prop := fun x vs H Q => rPopAt x vs H Q ∨ rPop x vs H Q
theorem mt_popU {X : Cx} : MtR X "list.pop" rPopU := MtR.or mt_popAt mt_pop
theorem k_pop {T : String} : OkMt Γ T rPopU pPopAt := by
  intro z H c x xs v vs u c' R rv rvs e Q q
  unfold pPopAt at e
  split at e
  · rename_i i
    obtain ⟨y0, rfl, ry0⟩ := rvs.one
    cases e1 : muOf c v with
    | none => rw [e1] at e; cases e
    | some p =>
      obtain ⟨l, f⟩ := p
      rw [e1, Option.bind_some] at e
      split at e
      · rename_i hz
        cases e2 : seqIndex? i l.length with
        | none => simp only [e2] at e; cases e
        | some k =>
          simp only [e2, Option.bind_some] at e
          cases e3 : l[k]? with
          | none => simp only [e3] at e; cases e
          | some w =>
            simp only [e3, Option.bind_some] at e
            cases e4 : f (l.eraseIdx k) with
            | none => simp only [e4] at e; cases e
            | some c2 =>
              simp only [e4, Option.map_some] at e
              cases e
              obtain ⟨a, xs, rfl, h1, h2, h3⟩ := mu_at R rv e1
              obtain ⟨y, hy, ry⟩ := h2.get e3
              obtain ⟨s, R'⟩ := h3 _ (xs.eraseIdx k) _ e4 (h2.eraseIdx k)
              exact .inl ⟨a, xs, i, k, y, rfl, by rw [Da.int' ry0], h1, hz.1, hz.2, by rw [h2.length]; exact e2, hy, q _ _ _ s R' (ry.step s)⟩
      · cases e
  · cases rvs
    cases e1 : muOf c v with
    | none => rw [e1] at e; cases e
    | some p =>
      obtain ⟨l, f⟩ := p
      rw [e1, Option.bind_some] at e
      cases e3 : l[l.length - 1]? with
      | none => simp only [e3] at e; cases e
      | some w =>
        simp only [e3, Option.bind_some] at e
        cases e4 : f l.dropLast with
        | none => simp only [e4] at e; cases e
        | some c2 =>
          simp only [e4, Option.map_some] at e
          cases e
          obtain ⟨a, xs, rfl, h1, h2, h3⟩ := mu_at R rv e1
          obtain ⟨y, hy, ry⟩ := h2.get e3
          obtain ⟨s, R'⟩ := h3 _ xs.dropLast _ e4 h2.dropLast
          exact .inr ⟨a, xs, y, rfl, rfl, h1, by rw [h2.length]; exact hy, q _ _ _ s R' (ry.step s)⟩
  · cases e
def pExtend (v : Vv) (vs : List Vv) (c : Cf) : Option (Vv × Cf) := match vs with
  | [w] => (muOf c v).bind fun p => (lsOf c w).bind fun l' => if p.1.length + l'.length ≤ 100000 then (p.2 (p.1 ++ l')).map fun c' => (.da .none, c') else none
  | _ => none
theorem k_extend {T : String} : OkMt Γ T rExtend pExtend := by
  intro z H c x xs v vs u c' R rv rvs e Q q
  unfold pExtend at e
  split at e
  · rename_i w
    obtain ⟨y, rfl, ry⟩ := rvs.one
    cases e1 : muOf c v with
    | none => rw [e1] at e; cases e
    | some p =>
      obtain ⟨l, f⟩ := p
      rw [e1, Option.bind_some] at e
      cases e0 : lsOf c w with
      | none => simp only [e0] at e; cases e
      | some l' =>
        simp only [e0, Option.bind_some] at e
        split at e
        · rename_i hz
          cases e2 : f (l ++ l') with
          | none => simp only [e2] at e; cases e
          | some c2 =>
            simp only [e2, Option.map_some] at e
            cases e
            obtain ⟨a, xs, rfl, h1, h2, h3⟩ := mu_at R rv e1
            obtain ⟨b, ys, rfl, g1, g2⟩ := ls_at R ry e0
            obtain ⟨s, R'⟩ := h3 _ (xs ++ ys) _ e2 (h2.append g2)
            exact ⟨a, b, xs, ys, rfl, rfl, h1, g1, by rw [h2.length, g2.length]; exact sz1000 hz, q _ _ _ s R' Da.non⟩
        · cases e
  · cases e
end
end PM
end
section
/-! PM4: statements, loops, comprehensions. -/
namespace PM
open PySem PySem.Spec PyProof.Rows L2 DL

inductive Fl where
  | nx
  | ret (v : Vv)
  | bk
  | ct
abbrev RsS := Rs (Exc × Sl × Cf) (Fl × Sl × Cf)
abbrev MS := Sl → Cf → RsS
def PostS (r : RsS) (k : Fl → Sl → Cf → Prop) (e : Exc → Sl → Cf → Prop) : Prop := match r with
  | .ok (f, sl, c) => k f sl c
  | .ex (x, sl, c) => e x sl c
  | .bad => False
theorem PostS.imp {r : RsS} {k k' : Fl → Sl → Cf → Prop} {e e' : Exc → Sl → Cf → Prop} (h : PostS r k e) (hk : ∀ a s c, k a s c → k' a s c) (he : ∀ x s c, e x s c → e' x s c) : PostS r k' e' := by
  cases r with
  | ok p => exact hk _ _ _ h
  | ex p => exact he _ _ _ h
  | bad => exact h
/-- a value's stage ahead of a statement's rest -/
def bindE {α : Type} (r : RsC α) (sl : Sl) (f : α → Cf → RsS) : RsS := match r with
  | .ok (a, c) => f a c
  | .ex (e, c) => .ex (e, sl, c)
  | .bad => .bad
@[simp] theorem bindE_ok {α : Type} (a : α) (c : Cf) (sl : Sl) (f : α → Cf → RsS) : bindE (.ok (a, c)) sl f = f a c := rfl
@[simp] theorem bindE_ex {α : Type} (e : Exc) (c : Cf) (sl : Sl) (f : α → Cf → RsS) : bindE (.ex (e, c)) sl f = .ex (e, sl, c) := rfl
@[simp] theorem bindE_bad {α : Type} (sl : Sl) (f : α → Cf → RsS) : bindE .bad sl f = .bad := rfl
theorem postS_bindE {α : Type} {r : RsC α} {sl : Sl} {f : α → Cf → RsS} {k : Fl → Sl → Cf → Prop} {e : Exc → Sl → Cf → Prop} : PostS (bindE r sl f) k e ↔ Post r (fun a c => PostS (f a c) k e) (fun x c => e x sl c) := by
  cases r <;> exact Iff.rfl
/-- the next statement -/
def bindS (r : RsS) (f : Sl → Cf → RsS) : RsS := match r with
  | .ok (.nx, sl, c) => f sl c
  | r => r
@[simp] theorem bindS_nx (sl : Sl) (c : Cf) (f : Sl → Cf → RsS) : bindS (.ok (.nx, sl, c)) f = f sl c := rfl
@[simp] theorem bindS_ret (v : Vv) (sl : Sl) (c : Cf) (f : Sl → Cf → RsS) : bindS (.ok (.ret v, sl, c)) f = .ok (.ret v, sl, c) := rfl
@[simp] theorem bindS_bk (sl : Sl) (c : Cf) (f : Sl → Cf → RsS) : bindS (.ok (.bk, sl, c)) f = .ok (.bk, sl, c) := rfl
@[simp] theorem bindS_ct (sl : Sl) (c : Cf) (f : Sl → Cf → RsS) : bindS (.ok (.ct, sl, c)) f = .ok (.ct, sl, c) := rfl
@[simp] theorem bindS_ex (e : Exc × Sl × Cf) (f : Sl → Cf → RsS) : bindS (.ex e) f = .ex e := rfl
@[simp] theorem bindS_bad (f : Sl → Cf → RsS) : bindS .bad f = .bad := rfl
section
variable {Γ : Gm} {W : WX} {X : Cx} {z z1 z' : Cz} {H H1 H' : Hp} {σ : L2.St} {sl sl' : Sl} {c c1 c' : Cf} {D : Ends} {e : Expr} {pos : Pos}
def endS (Γ : Gm) (z : Cz) (H : Hp) (D : Ends) (f : Fl) (sl' : Sl) (c' : Cf) : Prop := ∀ z' H' σ', Stp z H z' H' → At Γ z' sl' c' σ' H' → match f with
  | .nx => D.nx σ' H'
  | .ret v => ∀ x, RV z' x v → D.rt x H'
  | .bk => D.bk σ' H'
  | .ct => D.ct σ' H'
def exS (Γ : Gm) (W : WX) (z : Cz) (H : Hp) (e : Exc) (sl' : Sl) (c' : Cf) : Prop := ∀ z' H' σ' cl d, Stp z H z' H' → At Γ z' sl' c' σ' H' → ExAt Γ z'.F H' e cl d → W cl d σ' H'
def canS (Γ : Gm) (W : WX) (m : MS) : TS := fun D σ H => ∃ z sl c, At Γ z sl c σ H ∧ PostS (m sl c) (endS Γ z H D) (exS Γ W z H)
theorem endS.later {f : Fl} (s : Stp z H z1 H1) (R : Rl Γ z1 H1 c1) (h : endS Γ z H D f sl' c') : endS Γ z1 H1 D f sl' c' := fun z' H' σ' t => h z' H' σ' (s.trans R t)
theorem exS.later {x : Exc} (s : Stp z H z1 H1) (R : Rl Γ z1 H1 c1) (h : exS Γ W z H x sl' c') : exS Γ W z1 H1 x sl' c' := fun z' H' σ' cl d t => h z' H' σ' cl d (s.trans R t)
theorem PostS.later {r : RsS} (s : Stp z H z1 H1) (R : Rl Γ z1 H1 c1) (P : PostS r (endS Γ z H D) (exS Γ W z H)) : PostS r (endS Γ z1 H1 D) (exS Γ W z1 H1) := P.imp (fun _ _ _ h => h.later s R) fun _ _ _ h => h.later s R
theorem exS.exE {x : Exc} (A : At Γ z sl c σ H) (h : exS Γ W z H x sl c') : exE Γ W z H σ x c' := fun z' H' cl d s R e => h z' H' σ cl d s (A.to s R) e
/-- a value's stage of a statement -/
theorem runE {m : ME} {f : Vv → Cf → RsS} {Q : VK} (A : At Γ z sl c σ H) (P : PostS (bindE (m sl c) sl f) (endS Γ z H D) (exS Γ W z H))
    (h : ∀ v c1 z1 H1 x, PostS (f v c1) (endS Γ z1 H1 D) (exS Γ W z1 H1) → Stp z H z1 H1 → At Γ z1 sl c1 σ H1 → RV z1 x v → Q x H1) : canE Γ W m σ H Q := by
  rw [postS_bindE] at P
  exact canE.run A (P.imp (fun _ _ h => h) fun _ _ h => h.exE A) fun v c1 z1 H1 x P1 s1 A1 r1 => h v c1 z1 H1 x (P1.later s1 A1.rl) s1 A1 r1
theorem runA {m : MA} {f : List Vv → Cf → RsS} {Q : List V → Hp → Prop} (A : At Γ z sl c σ H) (P : PostS (bindE (m sl c) sl f) (endS Γ z H D) (exS Γ W z H))
    (h : ∀ v c1 z1 H1 x, PostS (f v c1) (endS Γ z1 H1 D) (exS Γ W z1 H1) → Stp z H z1 H1 → At Γ z1 sl c1 σ H1 → RVs z1 x v → Q x H1) : canA Γ W m σ H Q := by
  rw [postS_bindE] at P
  exact canA.run A (P.imp (fun _ _ h => h) fun _ _ h => h.exE A) fun v c1 z1 H1 x P1 s1 A1 r1 => h v c1 z1 H1 x (P1.later s1 A1.rl) s1 A1 r1
theorem runT {m : MT} {f : Bool → Cf → RsS} {Q : Bool → Hp → Prop} (A : At Γ z sl c σ H) (P : PostS (bindE (m sl c) sl f) (endS Γ z H D) (exS Γ W z H))
    (h : ∀ v c1 z1 H1, PostS (f v c1) (endS Γ z1 H1 D) (exS Γ W z1 H1) → Stp z H z1 H1 → At Γ z1 sl c1 σ H1 → Q v H1) : canT Γ W m σ H Q := by
  rw [postS_bindE] at P
  exact canT.run A (P.imp (fun _ _ h => h) fun _ _ h => h.exE A) fun v c1 z1 H1 P1 s1 A1 => h v c1 z1 H1 (P1.later s1 A1.rl) s1 A1

/-! ### plain statements -/
def mNx : MS := fun sl c => .ok (.nx, sl, c)
def mSeq (m n : MS) : MS := fun sl c => bindS (m sl c) n
def mBk : MS := fun sl c => .ok (.bk, sl, c)
def mCt : MS := fun sl c => .ok (.ct, sl, c)
def mRetN : MS := fun sl c => .ok (.ret (.da .none), sl, c)
def mRet (m : ME) : MS := fun sl c => bindE (m sl c) sl fun v c1 => .ok (.ret v, sl, c1)
def mDrop (m : ME) : MS := fun sl c => bindE (m sl c) sl fun _ c1 => .ok (.nx, sl, c1)
def mIfS (mt : MT) (m n : MS) : MS := fun sl c => bindE (mt sl c) sl fun b c1 => if b then m sl c1 else n sl c1
theorem w_nx (h : canS Γ W mNx D σ H) : tNext D σ H := by
  obtain ⟨z, sl, c, A, P⟩ := h
  exact P z H σ .refl A
theorem w_seq {m n : MS} (h : canS Γ W (mSeq m n) D σ H) : tSeq (canS Γ W m) (canS Γ W n) D σ H := by
  obtain ⟨z, sl, c, A, P⟩ := h
  refine ⟨z, sl, c, A, ?_⟩
  have P : PostS (bindS (m sl c) n) (endS Γ z H D) (exS Γ W z H) := P
  cases e : m sl c with
  | ok p =>
    obtain ⟨f, sl1, c1⟩ := p
    rw [e] at P
    cases f with
    | nx => exact fun z1 H1 σ1 s1 A1 => ⟨z1, sl1, c1, A1, PostS.later s1 A1.rl P⟩
    | ret v => exact P
    | bk => exact P
    | ct => exact P
  | ex p => rw [e] at P; exact P
  | bad => rw [e] at P; exact P.elim
theorem w_bk (h : canS Γ W mBk D σ H) : tBreak D σ H := by
  obtain ⟨z, sl, c, A, P⟩ := h
  exact P z H σ .refl A
theorem w_ct (h : canS Γ W mCt D σ H) : tCont D σ H := by
  obtain ⟨z, sl, c, A, P⟩ := h
  exact P z H σ .refl A
theorem w_retN (h : canS Γ W mRetN D σ H) : tRetN D σ H := by
  obtain ⟨z, sl, c, A, P⟩ := h
  exact P z H σ .refl A .non Da.non
theorem w_ret {m : ME} (h : canS Γ W (mRet m) D σ H) : tRet (canE Γ W m) D σ H := by
  obtain ⟨z, sl, c, A, P⟩ := h
  exact runE A P fun v c1 z1 H1 x P1 s1 A1 r1 => P1 z1 H1 σ .refl A1 x r1
theorem w_drop {m : ME} (h : canS Γ W (mDrop m) D σ H) : tDrop (canE Γ W m) D σ H := by
  obtain ⟨z, sl, c, A, P⟩ := h
  exact runE A P fun v c1 z1 H1 x P1 s1 A1 r1 => P1 z1 H1 σ .refl A1
theorem w_ifS {mt : MT} {m n : MS} (h : canS Γ W (mIfS mt m n) D σ H) : tIfS (canT Γ W mt) (canS Γ W m) (canS Γ W n) D σ H := by
  obtain ⟨z, sl, c, A, P⟩ := h
  refine runT A P fun b c1 z1 H1 P1 s1 A1 => ?_
  cases b with
  | true => exact iteT ⟨z1, sl, c1, A1, P1⟩
  | false => exact iteF ⟨z1, sl, c1, A1, P1⟩
section
variable {st : Stmt} {rest : List Stmt} {m n : MS}
theorem d_nil : PSs X [] (canS Γ W mNx) := pss_nil.wk fun D σ H h => w_nx h
theorem d_one (h : PS X st (canS Γ W m)) : PSs X [st] (canS Γ W m) := pss_one h
theorem d_cons (h : PS X st (canS Γ W m)) (h' : PSs X rest (canS Γ W n)) : PSs X (st :: rest) (canS Γ W (mSeq m n)) := (pss_cons h h').wk fun D σ H h => w_seq h
theorem d_bk : PS X (.Break pos) (canS Γ W mBk) := ps_break.wk fun D σ H h => w_bk h
theorem d_ct : PS X (.Continue pos) (canS Γ W mCt) := ps_continue.wk fun D σ H h => w_ct h
theorem d_pass : PS X (.Pass pos) (canS Γ W mNx) := ps_pass.wk fun D σ H h => w_nx h
theorem d_ret {me : ME} (h : PE X e (canE Γ W me)) : PS X (.Return (some e) pos) (canS Γ W (mRet me)) := (ps_ret h).wk fun D σ H h => w_ret h
theorem d_retN : PS X (.Return none pos) (canS Γ W mRetN) := ps_retN.wk fun D σ H h => w_retN h
theorem d_drop {me : ME} (h : PE X e (canE Γ W me)) (hs : swapsWith e none pos.line X.env = pure false := by rfl) : PS X (.Expr e pos) (canS Γ W (mDrop me)) := (ps_expr h hs).wk fun D σ H h => w_drop h
theorem d_ifS {t : Expr} {a b : List Stmt} {mt : MT} (ht : PT X t (canT Γ W mt)) (ha : PSs X a (canS Γ W m)) (hb : PSs X b (canS Γ W n)) : PS X (.If t a b pos) (canS Γ W (mIfS mt m n)) := (ps_if ht ha hb).wk fun D σ H h => w_ifS h
end

/-! ### targets -/
abbrev MG := Vv → Sl → Cf → RsC Sl
/-- behind the target's store only its own slots have turned -/
def canG (Γ : Gm) (W : WX) (ws : List Nat) (mg : MG) : TG := fun x σ H Q => ∃ z sl c v, At Γ z sl c σ H ∧ RV z x v ∧ Post (mg v sl c) (fun sl' c' => ∀ z' H' σ', Stp z H z' H' → At Γ z' sl' c' σ' H' → wipe σ' ws = wipe σ ws → Q σ' H') (fun _ _ => False)
def canGs (Γ : Gm) (W : WX) (ws : List Nat) (mg : List Vv → Sl → Cf → RsC Sl) : TGs := fun xs σ H Q => ∃ z sl c vs, At Γ z sl c σ H ∧ RVs z xs vs ∧ Post (mg vs sl c) (fun sl' c' => ∀ z' H' σ', Stp z H z' H' → At Γ z' sl' c' σ' H' → wipe σ' ws = wipe σ ws → Q σ' H') (fun _ _ => False)
theorem _root_.L2.PG.wk {t : Expr} {g g' : TG} (h : PG X t g) (i : ∀ x σ H Q, g' x σ H Q → g x σ H Q) : PG X t g' := ⟨fun pins s σ H v u Q I r q => h.run pins s σ H v u Q I r (i v σ H Q q)⟩
theorem _root_.L2.PGs.wk {t : List Expr} {g g' : TGs} (h : PGs X t g) (i : ∀ x σ H Q, g' x σ H Q → g x σ H Q) : PGs X t g' := ⟨fun pins s σ H v u Q I r q => h.run pins s σ H v u Q I r (i v σ H Q q)⟩
def mgN (i : Nat) : MG := fun v sl c => .ok (sl.set i (some v), c)
def mgT (n : Nat) (mg : List Vv → Sl → Cf → RsC Sl) : MG := fun v sl c => match v with
  | .da (.tuple ds) => if ds.length = n then mg (ds.map .da) sl c else .bad
  | _ => .bad
def mg0 : List Vv → Sl → Cf → RsC Sl := fun vs sl c => match vs with
  | [] => .ok (sl, c)
  | _ => .bad
def mg1 (mg : MG) (mr : List Vv → Sl → Cf → RsC Sl) : List Vv → Sl → Cf → RsC Sl := fun vs sl c => match vs with
  | v :: r => (mg v sl c).bind fun q => mr r q.1 q.2
  | [] => .bad
theorem wipe_comm {σ : L2.St} {i : Nat} {o : Option V} : ∀ (ws : List Nat), i ∉ ws → wipe (σ.set i o) ws = (wipe σ ws).set i o
  | [], _ => rfl
  | w :: ws, h => by
    show (wipe (σ.set i o) ws).set w none = ((wipe σ ws).set w none).set i o
    rw [wipe_comm ws (fun m => h (List.mem_cons_of_mem _ m)), List.set_comm _ _ (fun q => h (by rw [q]; exact List.mem_cons_self))]
theorem wipe_set {σ : L2.St} {i : Nat} {o : Option V} : ∀ (ws : List Nat), i ∈ ws → wipe (σ.set i o) ws = wipe σ ws
  | w :: ws, h => by
    show (wipe (σ.set i o) ws).set w none = (wipe σ ws).set w none
    by_cases hm : i ∈ ws
    · rw [wipe_set ws hm]
    · have e : i = w := by
        rcases List.mem_cons.mp h with q | q
        · exact q
        · exact absurd q hm
      subst e
      rw [wipe_comm ws hm, List.set_set]
theorem w_gN {i : Nat} {ws : List Nat} (hi : i ∈ ws) {x : V} {Q : L2.St → Hp → Prop} (h : canG Γ W ws (mgN i) x σ H Q) : gName i x σ H Q := by
  obtain ⟨z, sl, c, v, A, r, P⟩ := h
  exact P z H _ .refl (A.set i r) (wipe_set ws hi)
theorem d_gN {i : Nat} {x : Str} {ws : List Nat} (hi' : i ∈ ws := by decide) (hN : X.N.Nodup) (hi : X.N[i]? = some x) (hx : Loc X.env.scope x) (hf : X.fn x = true ∨ X.env.scope.names.lookup x = some .local := by first | exact .inl rfl | exact .inr rfl | assumption) : PG X (.Name x pos) (canG Γ W ws (mgN i)) :=
  (pg_name hN hi hx hf).wk fun x σ H Q h => w_gN hi' h
theorem w_g0 {ws : List Nat} {xs : List V} {Q : L2.St → Hp → Prop} (h : canGs Γ W ws mg0 xs σ H Q) : gNil xs σ H Q := by
  obtain ⟨z, sl, c, vs, A, r, P⟩ := h
  cases vs with
  | nil => cases r; exact ⟨rfl, P z H _ .refl A rfl⟩
  | cons v vs => exact P.elim
theorem w_g1 {ws : List Nat} {mg : MG} {mr : List Vv → Sl → Cf → RsC Sl} {xs : List V} {Q : L2.St → Hp → Prop} (h : canGs Γ W ws (mg1 mg mr) xs σ H Q) : gCons (canG Γ W ws mg) (canGs Γ W ws mr) xs σ H Q := by
  obtain ⟨z, sl, c, vs, A, r, P⟩ := h
  cases r with
  | nil => exact P.elim
  | @cons x xs v vs r rr =>
    have P : Post ((mg v sl c).bind fun q => mr vs q.1 q.2) (fun sl' c' => ∀ z' H' σ', Stp z H z' H' → At Γ z' sl' c' σ' H' → wipe σ' ws = wipe σ ws → Q σ' H') (fun _ _ => False) := P
    rw [post_bind] at P
    refine ⟨x, xs, rfl, z, sl, c, v, A, r, P.imp (fun sl1 c1 P1 z1 H1 σ1 s1 A1 e1 => ?_) fun _ _ h => h⟩
    exact ⟨z1, sl1, c1, vs, A1, rr.step s1, P1.imp (fun sl2 c2 P2 z2 H2 σ2 s2 A2 e2 => P2 z2 H2 σ2 (s1.trans A1.rl s2) A2 (e2.trans e1)) fun _ _ h => h⟩
theorem w_gT {ws : List Nat} {n : Nat} {mg : List Vv → Sl → Cf → RsC Sl} {x : V} {Q : L2.St → Hp → Prop} (h : canG Γ W ws (mgT n mg) x σ H Q) : gTup Γ.K n (canGs Γ W ws mg) x σ H Q := by
  obtain ⟨z, sl, c, v, A, r, P⟩ := h
  cases v with
  | da d =>
    cases d with
    | tuple ds =>
      have P : Post (if ds.length = n then mg (ds.map .da) sl c else .bad) (fun sl' c' => ∀ z' H' σ', Stp z H z' H' → At Γ z' sl' c' σ' H' → wipe σ' ws = wipe σ ws → Q σ' H') (fun _ _ => False) := P
      by_cases hn : ds.length = n
      · rw [if_pos hn] at P
        obtain ⟨a, xs, rfl, ha, hl⟩ := Da.tup' r
        exact ⟨a, xs, rfl, .inl (.inl (A.rl.inc _ _ ha)), by rw [hl.length, hn], z, sl, c, _, A, .ofDa hl, P⟩
      · rw [if_neg hn] at P; exact P.elim
    | _ => exact P.elim
  | _ => exact P.elim
section
variable {es : List Expr} {ws : List Nat} {mg : MG} {mr : List Vv → Sl → Cf → RsC Sl}
theorem d_g0 : PGs X [] (canGs Γ W ws mg0) := pgs_nil.wk fun x σ H Q h => w_g0 h
theorem d_g1 (h1 : PG X e (canG Γ W ws mg)) (h2 : PGs X es (canGs Γ W ws mr)) (hs : (assignEach (e :: es) X.env).map (·.2) = assign e X.env :: (assignEach es X.env).map (·.2) := by rfl) : PGs X (e :: es) (canGs Γ W ws (mg1 mg mr)) := (pgs_cons h1 h2 hs).wk fun x σ H Q h => w_g1 h
theorem d_gT {k : Nat} {n : Nat} (hK : X.K = Γ.K) (hc : X.calm = true) (h : PGs X es (canGs Γ W ws mr)) (hn : (assignEach es X.env).length = n := by rfl) (hst : (assignEach es X.env).findIdx? (·.1) = none := by rfl) : PG X (.Tuple es k pos) (canG Γ W ws (mgT n mr)) :=
  (pg_tup hc h hn hst).wk fun x σ H Q h => by rw [hK]; exact w_gT h
end
/-- o[i] = v, by values -/
def OkSet (Γ : Gm) (t : TSet) (p : Vv → Vv → Vv → Cf → Option Cf) : Prop := ∀ z H c x y w u i v c', Rl Γ z H c → RV z x u → RV z y i → RV z w v → p u i v c = some c' → ∀ Q : Hp → Prop, (∀ z' H', Stp z H z' H' → Rl Γ z' H' c' → Q H') → t x y w H Q
def mgS (p : Vv → Vv → Vv → Cf → Option Cf) (mo mi : ME) : MG := fun v sl c => (mo sl c).bind fun r => (mi sl r.2).bind fun r' => match p r.1 r'.1 v r'.2 with
  | some c' => .ok (sl, c')
  | none => .bad
theorem w_gS {ws : List Nat} {t : TSet} {p : Vv → Vv → Vv → Cf → Option Cf} {mo mi : ME} {x : V} {Q : L2.St → Hp → Prop} (k : OkSet Γ t p) (h : canG Γ W ws (mgS p mo mi) x σ H Q) : gSub (canE Γ W mo) (canE Γ W mi) t x σ H Q := by
  obtain ⟨z, sl, c, v, A, r, P⟩ := h
  unfold mgS at P
  rw [post_bind] at P
  refine canE.run A (P.imp (fun _ _ h => h) fun _ _ h => h.elim) fun o c1 z1 H1 y P1 s1 A1 r1 => ?_
  rw [post_bind] at P1
  refine canE.run A1 (P1.imp (fun _ _ h => h) fun _ _ h => h.elim) fun i c2 z2 H2 y2 P2 s2 A2 r2 => ?_
  have P2 : Post (match p o i v c2 with | some c' => Rs.ok (sl, c') | none => .bad) (fun sl' c' => ∀ z' H' σ', Stp z H z' H' → At Γ z' sl' c' σ' H' → wipe σ' ws = wipe σ ws → Q σ' H') (fun _ _ => False) := P2
  cases e : p o i v c2 with
  | none => rw [e] at P2; exact P2.elim
  | some c3 =>
    rw [e] at P2
    exact k z2 H2 c2 y y2 x o i v c3 A2.rl (r1.step s2) r2 ((r.step s1).step s2) e _ fun z3 H3 s3 R3 => P2 z3 H3 σ ((s1.trans A1.rl s2).trans A2.rl s3) (A2.to s3 R3) rfl
theorem d_gS {ws : List Nat} {o i : Expr} {t : TSet} {p : Vv → Vv → Vv → Cf → Option Cf} {mo mi : ME} (hs : PSet X t) (k : OkSet Γ t p) (ho : PE X o (canE Γ W mo)) (hi : PE X i (canE Γ W mi))
    (ha : ∀ v, assign (.Subscript o i pos) X.env v = (do
      let ov ← holding [v] (eval o X.env)
      let iv ← holding [v, ov] (eval i X.env)
      standAt pos
      holding [v, ov, iv] (setItem ov iv v)
      release [v, ov, iv] []) := by intro _; rfl) : PG X (.Subscript o i pos) (canG Γ W ws (mgS p mo mi)) := (pg_sub ho hi hs ha).wk fun x σ H Q h => w_gS k h
def pSetL : Vv → Vv → Vv → Cf → Option Cf := fun o i v c => match i with
  | .da (.int k) => (muOf c o).bind fun p => (ixN p.1.length k).bind fun j => p.2 (p.1.set j v)
  | _ => none
theorem k_setL : OkSet Γ rSetL pSetL := by
  intro z H c x y w u i v c' R ru ri rv e Q q
  unfold pSetL at e
  split at e
  · rename_i k
    cases e1 : muOf c u with
    | none => rw [e1] at e; cases e
    | some p =>
      obtain ⟨l, f⟩ := p
      rw [e1, Option.bind_some] at e
      cases e2 : ixN l.length k with
      | none => simp only [e2] at e; cases e
      | some j =>
        simp only [e2, Option.bind_some] at e
        obtain ⟨a, xs, rfl, h1, h2, h3⟩ := mu_at R ru e1
        obtain ⟨s, R'⟩ := h3 _ (xs.set j w) _ e (h2.set j rv)
        exact ⟨a, xs, k, j, rfl, Da.int' ri, h1, by rw [h2.length]; exact e2, q _ _ s R'⟩
  · cases e
/-! ### assignments -/
def mAsg (me : ME) (mg : MG) : MS := fun sl c => bindE (me sl c) sl fun v c1 => bindE (mg v sl c1) sl fun sl' c2 => .ok (.nx, sl', c2)
theorem w_asg {ws : List Nat} {me : ME} {mg : MG} (hx : ∀ v sl c e, mg v sl c ≠ .ex e) (h : canS Γ W (mAsg me mg) D σ H) : tAsg (canE Γ W me) (canG Γ W ws mg) D σ H := by
  obtain ⟨z, sl, c, A, P⟩ := h
  refine runE A P fun v c1 z1 H1 x P1 s1 A1 r1 => ?_
  refine ⟨z1, sl, c1, v, A1, r1, ?_⟩
  rw [postS_bindE] at P1
  cases e : mg v sl c1 with
  | ok p => rw [e] at P1; exact fun z' H' σ' s' A' _ => P1 z' H' σ' s' A'
  | ex p => exact absurd e (hx v sl c1 p)
  | bad => rw [e] at P1; exact P1.elim
def mSet (i : Nat) (me : ME) : MS := fun sl c => bindE (me sl c) sl fun v c1 => .ok (.nx, sl.set i (some v), c1)
theorem w_set {i : Nat} {me : ME} (h : canS Γ W (mSet i me) D σ H) : tAsg (canE Γ W me) (gName i) D σ H := by
  obtain ⟨z, sl, c, A, P⟩ := h
  exact runE A P fun v c1 z1 H1 x P1 s1 A1 r1 => P1 z1 H1 _ .refl (A1.set i r1)
theorem d_set {i : Nat} {x : Str} {pos' : Pos} {me : ME} (hN : X.N.Nodup) (hi : X.N[i]? = some x) (hx : Loc X.env.scope x) (he : PE X e (canE Γ W me)) (hs : swapsWith e (some (.Name x pos')) pos.line X.env = pure false := by rfl) (hf : X.fn x = true ∨ X.env.scope.names.lookup x = some .local := by first | exact .inl rfl | exact .inr rfl | assumption) :
    PS X (.Assign [.Name x pos'] e pos) (canS Γ W (mSet i me)) := (ps_set hN hi hx he hs hf).wk fun D σ H h => w_set h
/-- the target does not raise: a target of this kind -/
def NoEx (mg : MG) : Prop := ∀ v sl c e, mg v sl c ≠ .ex e
def NoExs (mg : List Vv → Sl → Cf → RsC Sl) : Prop := ∀ v sl c e, mg v sl c ≠ .ex e
theorem nx_N {i : Nat} : NoEx (mgN i) := fun v sl c e h => by cases h
theorem nx_0 : NoExs mg0 := fun v sl c e h => by
  cases v with
  | nil => cases h
  | cons _ _ => cases h
theorem nx_1 {mg : MG} {mr : List Vv → Sl → Cf → RsC Sl} (h1 : NoEx mg) (h2 : NoExs mr) : NoExs (mg1 mg mr) := fun vs sl c e h => by
  cases vs with
  | nil => cases h
  | cons v r =>
    have h : (mg v sl c).bind (fun q => mr r q.1 q.2) = .ex e := h
    cases q : mg v sl c with
    | ok p => rw [q] at h; exact h2 _ _ _ _ h
    | ex p => exact h1 _ _ _ _ q
    | bad => rw [q] at h; cases h
theorem nx_T {n : Nat} {mr : List Vv → Sl → Cf → RsC Sl} (h2 : NoExs mr) : NoEx (mgT n mr) := fun v sl c e h => by
  unfold mgT at h
  split at h
  · split at h
    · exact h2 _ _ _ _ h
    · cases h
  · cases h
/-- a subscript target whose parts do not raise is made so -/
def calmG (mg : MG) : MG := fun v sl c => match mg v sl c with
  | .ok p => .ok p
  | _ => .bad
theorem nx_c {mg : MG} : NoEx (calmG mg) := fun v sl c e h => by
  unfold calmG at h
  split at h <;> cases h
theorem w_gc {ws : List Nat} {mg : MG} {x : V} {Q : L2.St → Hp → Prop} (h : canG Γ W ws (calmG mg) x σ H Q) : canG Γ W ws mg x σ H Q := by
  obtain ⟨z, sl, c, v, A, r, P⟩ := h
  refine ⟨z, sl, c, v, A, r, ?_⟩
  unfold calmG at P
  cases e : mg v sl c with
  | ok p => rw [e] at P; exact P
  | ex p => rw [e] at P; exact P.elim
  | bad => rw [e] at P; exact P
theorem d_gc {ws : List Nat} {t : Expr} {mg : MG} (h : PG X t (canG Γ W ws mg)) : PG X t (canG Γ W ws (calmG mg)) := h.wk fun x σ H Q h => w_gc h
theorem d_asg {tg : Expr} {me : ME} {mg : MG} (ws : List Nat) (hx : NoEx mg) (he : PE X e (canE Γ W me)) (hg : PG X tg (canG Γ W ws mg)) (hs : swapsWithSole [tg] e pos.line X.env = pure false := by rfl) (hw : swappedStores [tg] e X.env = pure none := by rfl)
    (h1 : (assignEach [tg] X.env).map (·.2) = [assign tg X.env] := by rfl) : PS X (.Assign [tg] e pos) (canS Γ W (mAsg me mg)) := (ps_asg he hg hs hw h1).wk fun D σ H h => w_asg hx h
def mPar (i j : Nat) (ma : MA) : MS := fun sl c => bindE (ma sl c) sl fun vs c1 => match vs with
  | [v, w] => .ok (.nx, (sl.set i (some v)).set j (some w), c1)
  | _ => .bad
theorem w_par {i j : Nat} {ma : MA} (h : canS Γ W (mPar i j ma) D σ H) : tPar i j (canA Γ W ma) D σ H := by
  obtain ⟨z, sl, c, A, P⟩ := h
  refine runA A P fun vs c1 z1 H1 xs P1 s1 A1 r1 => ?_
  rcases vs with _ | ⟨v, _ | ⟨w, _ | ⟨u, r⟩⟩⟩
  · exact P1.elim
  · exact P1.elim
  · obtain ⟨x, y, rfl, rx, ry⟩ := r1.two
    exact ⟨x, y, rfl, P1 z1 H1 _ .refl ((A1.set i rx).set j ry)⟩
  · exact P1.elim
theorem d_par {i j : Nat} {x y : Str} {a b : Expr} {ma : MA} {px py pt : Pos} {kt k2 pt2} (hc : X.calm = true) (hN : X.N.Nodup) (hi : X.N[i]? = some x) (hj : X.N[j]? = some y) (hij : i ≠ j)
    (hx : X.env.scope.names.lookup x = some .local) (hy : X.env.scope.names.lookup y = some .local) (ha : PA X [a, b] (canA Γ W ma))
    (hw : swappedStores [.Tuple [.Name x px, .Name y py] kt pt] (.Tuple [a, b] k2 pt2) X.env = pure (some [x, y]))
    (hs : swapsWithSole [.Tuple [.Name x px, .Name y py] kt pt] (.Tuple [a, b] k2 pt2) pos.line X.env = pure false := by rfl) :
    PS X (.Assign [.Tuple [.Name x px, .Name y py] kt pt] (.Tuple [a, b] k2 pt2) pos) (canS Γ W (mPar i j ma)) := (ps_par hc hN hi hj hij hx hy ha hw hs).wk fun D σ H h => w_par h
def mAug (i : Nat) (me : ME) (p : Vv → Vv → Cf → Option (Vv × Cf)) : MS := fun sl c => match sl[i]? with
  | some (some v) => bindE (me sl c) sl fun w c1 => match p v w c1 with
    | some (u, c2) => .ok (.nx, sl.set i (some u), c2)
    | none => .bad
  | _ => .bad
theorem w_aug {i : Nat} {me : ME} {t : TIp} {p : Vv → Vv → Cf → Option (Vv × Cf)} (k : OkOp Γ t p) (h : canS Γ W (mAug i me p) D σ H) : tAug i (canE Γ W me) t D σ H := by
  obtain ⟨z, sl, c, A, P⟩ := h
  unfold mAug at P
  cases e : sl[i]? with
  | none => rw [e] at P; exact P.elim
  | some o =>
    rw [e] at P
    cases o with
    | none => exact P.elim
    | some v =>
      obtain ⟨x, h1, h2⟩ := A.sl.val i v e
      refine ⟨x, h1, runE A P fun w c1 z1 H1 y P1 s1 A1 r1 => ?_⟩
      cases e2 : p v w c1 with
      | none => simp only [e2] at P1; exact P1.elim
      | some q =>
        obtain ⟨u, c2⟩ := q
        simp only [e2] at P1
        exact k z1 H1 c1 x y v w u c2 A1.rl (h2.step s1) r1 e2 _ fun z2 H2 y2 s2 R2 r2 => P1 z2 H2 _ s2 ((A1.to s2 R2).set i r2)
theorem d_aug {i : Nat} {x : Str} {op : Operator} {t : TIp} {p : Vv → Vv → Cf → Option (Vv × Cf)} {pos' : Pos} {me : ME} (hN : X.N.Nodup) (hi : X.N[i]? = some x) (hx : Loc X.env.scope x) (k : OkOp Γ t p) (he : PE X e (canE Γ W me)) (ho : PIp X op t) (hf : X.fn x = true ∨ X.env.scope.names.lookup x = some .local := by first | exact .inl rfl | exact .inr rfl | assumption) :
    PS X (.AugAssign (.Name x pos') op e pos) (canS Γ W (mAug i me p)) := (ps_aug hN hi hx he ho hf).wk fun D σ H h => w_aug k h
theorem k_ipI {f : Int → Int → Int} : OkOp Γ (ipI f) (pI2 (fun _ _ => true) f) := by
  intro z H c x y v w u c' R rv rw' e Q q
  unfold pI2 at e
  split at e
  · split at e
    · rename_i i j hC
      cases e
      exact ⟨i, j, Da.int' rv, Da.int' rw', ok_now R q (Da.int _)⟩
    · cases e
  · cases e

/-! ### what is walked -/
structure Itv where
  n : Nat
  get : Nat → Cf → Option Vv
structure ItOk (Γ : Gm) (z : Cz) (H : Hp) (J : It) (g : Itv) : Prop where
  go : ∀ z' H' c' i v, Stp z H z' H' → Rl Γ z' H' c' → g.get i c' = some v → J.go i H'
  stop : ∀ z' H' c' i, Stp z H z' H' → Rl Γ z' H' c' → g.get i c' = none → J.stop i H'
  yld : ∀ z' H' c' i v x H2, Stp z H z' H' → Rl Γ z' H' c' → g.get i c' = some v → J.yld i H' x H2 → ∃ z2, Stp z' H' z2 H2 ∧ Rl Γ z2 H2 c' ∧ RV z2 x v
theorem ItOk.later {J : It} {g : Itv} (s : Stp z H z1 H1) (R : Rl Γ z1 H1 c1) (h : ItOk Γ z H J g) : ItOk Γ z1 H1 J g :=
  ⟨fun z' H' c' i v t => h.go z' H' c' i v (s.trans R t), fun z' H' c' i t => h.stop z' H' c' i (s.trans R t), fun z' H' c' i v x H2 t => h.yld z' H' c' i v x H2 (s.trans R t)⟩
abbrev MI := Sl → Cf → RsC Itv
def okI (Γ : Gm) (z : Cz) (H : Hp) (R : It → Hp → Prop) (g : Itv) (c' : Cf) : Prop := ∀ z' H' J, Stp z H z' H' → Rl Γ z' H' c' → ItOk Γ z' H' J g → R J H'
def canI (Γ : Gm) (W : WX) (mi : MI) : TI := fun σ H R => ∃ z sl c, At Γ z sl c σ H ∧ Post (mi sl c) (okI Γ z H R) (exE Γ W z H σ)
theorem _root_.L2.PI.wk {tg it : Expr} {w w' : TI} (h : PI X tg it w) (i : ∀ σ H R, w' σ H R → w σ H R) : PI X tg it w' := ⟨fun pins s σ H R I q => h.run pins s σ H R I (i σ H R q)⟩
def captured (vs : List Vv) : Itv := ⟨vs.length, fun i _ => vs[i]?⟩
/-- a list or a tuple -/
def pIt (v : Vv) (c : Cf) : Option Itv := match v with
  | .da (.tuple ds) => some (captured (ds.map .da))
  | .da (.list ds) => some (captured (ds.map .da))
  | .scr => some (captured (c.sc.map fun i => .da (.int i)))
  | v => (lsOf c v).map fun l => ⟨l.length, fun i c => (lsOf c v).bind fun l => l[i]?⟩
def mIt (me : ME) : MI := fun sl c => (me sl c).bind fun r => .opt ((pIt r.1 r.2).map fun g => (g, r.2))
theorem sqL_one {K : PySem.W.Frag} {H : Hp} {a : Addr} {xs ys : List V} (h : SqL K H a xs) (e : H a = some (.lst ys)) (h2 : SqL K H a ys) : True := trivial
theorem it_seqT {xs : List V} {a : Addr} {l : List Vv} (ha : z.F a = some (.tup xs)) (hl : RVs z xs l) : ItOk Γ z H (Itt Γ.K a) (captured l) := by
  have sq : ∀ {z' H' c'}, Stp z H z' H' → Rl Γ z' H' c' → SqT Γ.K H' a xs := fun s R => .inl (.inl (R.inc _ _ (s.ext _ _ ha)))
  refine ⟨fun z' H' c' i v s R e => ?_, fun z' H' c' i s R e => ⟨xs, sq s R, ?_⟩, fun z' H' c' i v x H2 s R e y => ?_⟩
  · obtain ⟨x, hx, _⟩ := hl.get e
    exact ⟨xs, x, sq s R, hx⟩
  · rw [hl.length]; exact List.getElem?_eq_none_iff.mp e
  · obtain ⟨rfl, y⟩ := y
    have hx := y xs (sq s R)
    obtain ⟨u, h1, h2⟩ := hl.getV hx
    have e' : l[i]? = some v := e
    rw [e'] at h1
    cases h1
    exact ⟨z', .refl, R, h2.step s⟩
theorem it_seqL {xs : List V} {a : Addr} {l : List Vv} (sq : ∀ {z' H' c'}, Stp z H z' H' → Rl Γ z' H' c' → SqL Γ.K H' a xs) (hl : RVs z xs l) : ItOk Γ z H (Itl Γ.K a) (captured l) := by
  refine ⟨fun z' H' c' i v s R e => ?_, fun z' H' c' i s R e => ⟨xs, sq s R, ?_⟩, fun z' H' c' i v x H2 s R e y => ?_⟩
  · obtain ⟨x, hx, _⟩ := hl.get e
    exact ⟨xs, x, sq s R, hx⟩
  · rw [hl.length]; exact List.getElem?_eq_none_iff.mp e
  · obtain ⟨rfl, y⟩ := y
    have hx := y xs (sq s R)
    obtain ⟨u, h1, h2⟩ := hl.getV hx
    have e' : l[i]? = some v := e
    rw [e'] at h1
    cases h1
    exact ⟨z', .refl, R, h2.step s⟩
theorem it_ref {v : Vv} {x : V} {n : Nat} (r : RV z x v) : ∀ {a}, x = .ref a → (∃ c l, Rl Γ z H c ∧ lsOf c v = some l) → (∀ c' z' H', Stp z H z' H' → Rl Γ z' H' c' → (lsOf c' v).isSome = true) → ItOk Γ z H (Itl Γ.K a) ⟨n, fun i c => (lsOf c v).bind fun l => l[i]?⟩ := by
  intro a ea _ hs
  subst ea
  have at' : ∀ {z' H' c'}, Stp z H z' H' → Rl Γ z' H' c' → ∃ l xs, lsOf c' v = some l ∧ H' a = some (.lst xs) ∧ RVs z' xs l := fun {z' H' c'} s R => by
    have h := hs c' z' H' s R
    cases e : lsOf c' v with
    | none => rw [e] at h; cases h
    | some l =>
      obtain ⟨b, xs, eb, h1, h2⟩ := ls_at R (r.step s) e
      cases eb
      exact ⟨l, xs, rfl, h1, h2⟩
  refine ⟨fun z' H' c' i u s R e => ?_, fun z' H' c' i s R e => ?_, fun z' H' c' i u x H2 s R e y => ?_⟩
  · obtain ⟨l, xs, e1, h1, h2⟩ := at' s R
    simp only [e1, Option.bind_some] at e
    obtain ⟨x, hx, _⟩ := h2.get e
    exact ⟨xs, x, .inl (.inl h1), hx⟩
  · obtain ⟨l, xs, e1, h1, h2⟩ := at' s R
    simp only [e1, Option.bind_some] at e
    exact ⟨xs, .inl (.inl h1), by rw [h2.length]; exact List.getElem?_eq_none_iff.mp e⟩
  · obtain ⟨l, xs, e1, h1, h2⟩ := at' s R
    simp only [e1, Option.bind_some] at e
    obtain ⟨rfl, y⟩ := y
    have hx := y xs (.inl (.inl h1))
    obtain ⟨w, g1, g2⟩ := h2.getV hx
    rw [e] at g1
    cases g1
    exact ⟨z', .refl, R, g2⟩
theorem ls_some {v : Vv} {x : V} (r : RV z x v) {l : List Vv} (e : lsOf c v = some l) {z' : Cz} {H' : Hp} {c' : Cf} (s : Stp z H z' H') (R : Rl Γ z' H' c') : (lsOf c' v).isSome = true := by
  cases v with
  | da d =>
    cases d with
    | list ds => rfl
    | _ => cases e
  | ref n =>
    obtain ⟨a, ha, rfl⟩ := r
    obtain ⟨bs, eb⟩ := s.as
    have hl : n < c'.st.length := by
      rw [← R.len, eb, List.length_append]
      have := (List.getElem?_eq_some_iff.mp ha).1
      omega
    simp only [lsOf, List.getElem?_eq_getElem hl]
    cases c'.st[n] <;> rfl
  | tape => rfl
  | wide => rfl
  | scr => cases e
  | exc _ => cases e
theorem w_it {me : ME} {R : It → Hp → Prop} (h : canI Γ W (mIt me) σ H R) : iU Γ.K (canE Γ W me) σ H R := by
  obtain ⟨z, sl, c, A, P⟩ := h
  unfold mIt at P
  rw [post_bind] at P
  refine canE.run A P fun v c1 z1 H1 x P1 s1 A1 r1 => ?_
  obtain ⟨g, c2, e, q⟩ := post_opt P1
  cases e2 : pIt v c1 with
  | none => simp only [e2] at e; cases e
  | some g' =>
    simp only [e2, Option.map_some] at e
    cases e
    have R1 := A1.rl
    have q := fun J => q z1 H1 J s1 R1
    unfold pIt at e2
    split at e2
    · cases e2
      obtain ⟨a, xs, rfl, ha, hl⟩ := Da.tup' r1
      exact ⟨a, rfl, .inl ⟨⟨xs, .inl (.inl (R1.inc _ _ ha))⟩, q _ (it_seqT ha (.ofDa hl))⟩⟩
    · cases e2
      obtain ⟨a, xs, rfl, ha, hl⟩ := Da.lst' r1
      exact ⟨a, rfl, .inr ⟨⟨xs, .inl (.inl (R1.inc _ _ ha))⟩, q _ (it_seqL (fun s R => .inl (.inl (R.inc _ _ (s.ext _ _ ha)))) (.ofDa hl))⟩⟩
    · cases e2
      obtain ⟨a, o, hS, rfl⟩ := r1
      obtain ⟨h1, h3⟩ := R1.scr a o hS
      refine ⟨a, rfl, .inr ⟨⟨_, h3 H1 fun o e => (h1 o e).1⟩, q _ (it_seqL (xs := c1.sc.map V.int) (fun {z' H' c'} s R => h3 _ fun o e => s.keep _ _ (h1 o e).1 (h1 o e).2) ?_)⟩⟩
      generalize c1.sc = l
      induction l with
      | nil => exact .nil
      | cons i l ih => exact .cons (Da.int i) ih
    · cases e3 : lsOf c1 v with
      | none => rw [e3] at e2; cases e2
      | some l =>
        rw [e3] at e2
        cases e2
        obtain ⟨a, xs, rfl, h1, h2⟩ := ls_at R1 r1 e3
        exact ⟨a, rfl, .inr ⟨⟨xs, .inl (.inl h1)⟩, q _ (it_ref r1 rfl ⟨c1, l, R1, e3⟩ fun c' z' H' s R => ls_some r1 e3 s R)⟩⟩
theorem d_it {tg : Expr} {me : ME} (hK : X.K = Γ.K) (h : PE X e (canE Γ W me)) : PI X tg e (canI Γ W (mIt me)) := (pi_u h).wk fun σ H R h => by rw [hK]; exact w_it h
/-- range -/
def rngV (lo : Int) (n : Nat) : List Vv := (rng lo n).map .da
theorem rngV_get {lo : Int} {n i : Nat} (h : i < n) : (rngV lo n)[i]? = some (.da (.int (lo + (i : Nat)))) := by
  unfold rngV
  rw [List.getElem?_map, rng_get h]
  rfl
theorem it_rng {lo : Int} {n : Nat} : ItOk Γ z H (Itr lo n) (captured (rngV lo n)) := by
  have hl : (rngV lo n).length = n := by unfold rngV; rw [List.length_map, rng_len]
  refine ⟨fun z' H' c' i v s R e => ?_, fun z' H' c' i s R e => ?_, fun z' H' c' i v x H2 s R e y => ?_⟩
  · have := (List.getElem?_eq_some_iff.mp e).1
    exact hl ▸ this
  · have := List.getElem?_eq_none_iff.mp e
    exact hl ▸ this
  · obtain ⟨rfl, rfl⟩ := y
    have hi : i < n := hl ▸ (List.getElem?_eq_some_iff.mp e).1
    have e' : (rngV lo n)[i]? = some v := e
    rw [rngV_get hi] at e'
    cases e'
    exact ⟨z', .refl, R, Da.int _⟩
/-- no word that unfolds by itself -/
@[irreducible] def r62b (n : Int) : Bool := decide (-(2 ^ 62) ≤ n) && decide (n < 2 ^ 62)
theorem r62b_iff {n : Int} : r62b n = true ↔ -(2 ^ 62) ≤ n ∧ n < 2 ^ 62 := by
  unfold r62b
  rw [Bool.and_eq_true, decide_eq_true_eq, decide_eq_true_eq]
def mRg1 (ma : ME) : MI := fun sl c => (ma sl c).bind fun r => match r.1 with
  | .da (.int n) => if r62b n = true then .ok (captured (rngV 0 n.toNat), r.2) else .bad
  | _ => .bad
theorem w_rg1 {me : ME} {R : It → Hp → Prop} (h : canI Γ W (mRg1 me) σ H R) : iRng1 (tCons (canE Γ W me) tNil) σ H R := by
  obtain ⟨z, sl, c, A, P⟩ := h
  unfold mRg1 at P
  rw [post_bind] at P
  refine canE.run A P fun v c1 z1 H1 x P1 s1 A1 r1 => ?_
  cases v with
  | da d =>
    cases d with
    | int n =>
      have P1 : Post (if r62b n = true then .ok (captured (rngV 0 n.toNat), c1) else .bad) (okI Γ z H R) (exE Γ W z H σ) := P1
      by_cases hn : r62b n = true
      · rw [if_pos hn] at P1
        replace hn := r62b_iff.mp hn
        rw [Da.int' r1]
        exact ⟨n, rfl, hn.1, hn.2, P1 z1 H1 _ s1 A1.rl it_rng⟩
      · rw [if_neg hn] at P1; exact P1.elim
    | _ => exact P1.elim
  | _ => exact P1.elim
theorem d_rg1 {tg a : Expr} {me : ME} {p pos : Pos} (hg : Gl X "range") (hm : X.mg "range" = none) (ha : PE X a (canE Γ W me)) (hs : starEach [a] X.env = [(false, eval a X.env)] := by rfl) : PI X tg (.Call (.Name "range" p) [a] [] pos) (canI Γ W (mRg1 me)) :=
  (pi_range1 hg hm (pa_cons ha pa_nil hs) hs).wk fun σ H R h => w_rg1 h
def mRg2 (ma mb : ME) : MI := fun sl c => (ma sl c).bind fun r => (mb sl r.2).bind fun r' => match r.1, r'.1 with
  | .da (.int m), .da (.int n) => if r62b m = true ∧ r62b n = true then .ok (captured (rngV m (n - m).toNat), r'.2) else .bad
  | _, _ => .bad
theorem w_rg2 {ma mb : ME} {R : It → Hp → Prop} (h : canI Γ W (mRg2 ma mb) σ H R) : iRng2 (tCons (canE Γ W ma) (tCons (canE Γ W mb) tNil)) σ H R := by
  obtain ⟨z, sl, c, A, P⟩ := h
  unfold mRg2 at P
  rw [post_bind] at P
  refine canE.run A P fun v c1 z1 H1 x P1 s1 A1 r1 => ?_
  rw [post_bind] at P1
  refine canE.run A1 (P1.laterX s1 A1.rl) fun w c2 z2 H2 y P2 s2 A2 r2 => ?_
  replace P2 : Post (match v, w with | .da (.int m), .da (.int n) => if r62b m = true ∧ r62b n = true then .ok (captured (rngV m (n - m).toNat), c2) else .bad | _, _ => .bad) (okI Γ z H R) (exE Γ W z H σ) := P2
  split at P2
  · rename_i m n
    by_cases hn : r62b m = true ∧ r62b n = true
    · rw [if_pos hn] at P2
      replace hn : -(2 ^ 62) ≤ m ∧ m < 2 ^ 62 ∧ -(2 ^ 62) ≤ n ∧ n < 2 ^ 62 := ⟨(r62b_iff.mp hn.1).1, (r62b_iff.mp hn.1).2, r62b_iff.mp hn.2⟩
      rw [Da.int' r1, Da.int' r2]
      exact ⟨m, n, rfl, hn, P2 z2 H2 _ (s1.trans A1.rl s2) A2.rl it_rng⟩
    · rw [if_neg hn] at P2; exact P2.elim
  · exact P2.elim
theorem d_rg2 {tg a b : Expr} {ma mb : ME} {p pos : Pos} (hg : Gl X "range") (hm : X.mg "range" = none) (ha : PE X a (canE Γ W ma)) (hb : PE X b (canE Γ W mb)) (hs : starEach [a, b] X.env = [(false, eval a X.env), (false, eval b X.env)] := by rfl) (hs2 : starEach [b] X.env = [(false, eval b X.env)] := by rfl) : PI X tg (.Call (.Name "range" p) [a, b] [] pos) (canI Γ W (mRg2 ma mb)) :=
  (pi_range2 hg hm (pa_cons ha (pa_cons hb pa_nil hs2) (hs.trans (by rw [hs2]))) hs hs2).wk fun σ H R h => w_rg2 h
/-- the signs of a text -/
def mSg (me : ME) : MI := fun sl c => (me sl c).bind fun r => match r.1 with
  | .da (.str x) => .ok (captured ((DL.signs x).map .da), r.2)
  | _ => .bad
theorem w_sg {me : ME} {R : It → Hp → Prop} (h : canI Γ W (mSg me) σ H R) : iStr (canE Γ W me) σ H R := by
  obtain ⟨z, sl, c, A, P⟩ := h
  unfold mSg at P
  rw [post_bind] at P
  refine canE.run A P fun v c1 z1 H1 x P1 s1 A1 r1 => ?_
  cases v with
  | da d =>
    cases d with
    | str s =>
      have hl : ((DL.signs s).map Vv.da).length = s.cps.size := by unfold DL.signs; rw [List.length_map, List.length_map, Array.length_toList]
      refine ⟨s, Da.str' r1, P1 z1 H1 _ s1 A1.rl ⟨fun z' H' c' i v s' R e => ?_, fun z' H' c' i s' R e => ?_, fun z' H' c' i v x H2 s' R e y => ?_⟩⟩
      · have h : i < ((DL.signs s).map Vv.da).length := (List.getElem?_eq_some_iff.mp e).1
        rw [hl] at h
        exact h
      · have h : ((DL.signs s).map Vv.da).length ≤ i := List.getElem?_eq_none_iff.mp e
        rw [hl] at h
        exact h
      · obtain ⟨rfl, k, hk, rfl⟩ := y
        have e' : ((DL.signs s).map Vv.da)[i]? = some v := e
        unfold DL.signs at e'
        rw [List.getElem?_map, List.getElem?_map, Array.getElem?_toList, hk] at e'
        cases e'
        exact ⟨z', .refl, R, Da.str _⟩
    | _ => exact P1.elim
  | _ => exact P1.elim
theorem d_sg {tg : Expr} {me : ME} (h : PE X e (canE Γ W me)) : PI X tg e (canI Γ W (mSg me)) := (pi_str h).wk fun σ H R h => w_sg h
/-- enumerate of a list or a tuple -/
def enumV (vs : List PyData) : List Vv := (enumD vs).map .da
def mEn (me : ME) : MI := fun sl c => (me sl c).bind fun r => match r.1 with
  | .da (.tuple ds) => .ok (captured (enumV ds), r.2)
  | .da (.list ds) => .ok (captured (enumV ds), r.2)
  | _ => .bad
theorem it_enum {xs : List V} {ds : List PyData} {J : It} (hl : DaL z.F xs ds) (h1 : ∀ {z' H' c' i x}, Stp z H z' H' → Rl Γ z' H' c' → xs[i]? = some x → J.go i H') (h2 : ∀ {z' H' c' i}, Stp z H z' H' → Rl Γ z' H' c' → xs.length ≤ i → J.stop i H')
    (h3 : ∀ {z' H' c' i x H2}, Stp z H z' H' → Rl Γ z' H' c' → J.yld i H' x H2 → ∃ T x', x = .ref T ∧ H' T = none ∧ H2 = upd H' T (.tup [.int (i : Nat), x']) ∧ xs[i]? = some x') : ItOk Γ z H J (captured (enumV ds)) := by
  have hn : (enumV ds).length = xs.length := by unfold enumV; rw [List.length_map, enumD_len, hl.length]
  have hg : ∀ {i : Nat} {d : PyData}, ds[i]? = some d → (enumV ds)[i]? = some (Vv.da (.tuple [.int (i : Nat), d])) := fun h => by unfold enumV; rw [List.getElem?_map, enumD_get h]; rfl
  refine ⟨fun z' H' c' i v s R e => ?_, fun z' H' c' i s R e => h2 s R ?_, fun z' H' c' i v x H2 s R e y => ?_⟩
  · have hi : i < xs.length := hn ▸ (List.getElem?_eq_some_iff.mp e).1
    exact h1 s R (List.getElem?_eq_getElem hi)
  · exact hn ▸ List.getElem?_eq_none_iff.mp e
  · obtain ⟨T, x', rfl, hT, rfl, hx⟩ := h3 s R y
    obtain ⟨d, g1, g2⟩ := hl.getV hx
    have e' : (enumV ds)[i]? = some v := e
    rw [hg g1] at e'
    cases e'
    obtain ⟨s2, R2⟩ := R.lay (o := .tup [.int (i : Nat), x']) hT
    exact ⟨_, s2, R2, .tup upd_same (.cons (.int _) (.cons (Da.mono (s.ext.trans s2.ext) d g2) .nil))⟩
theorem w_en {me : ME} {R : It → Hp → Prop} (h : canI Γ W (mEn me) σ H R) : iEnumU Γ.K (tCons (canE Γ W me) tNil) σ H R := by
  obtain ⟨z, sl, c, A, P⟩ := h
  unfold mEn at P
  rw [post_bind] at P
  refine canE.run A P fun v c1 z1 H1 x P1 s1 A1 r1 => ?_
  have R1 := A1.rl
  have P1 : Post (match v with | .da (.tuple ds) => .ok (captured (enumV ds), c1) | .da (.list ds) => .ok (captured (enumV ds), c1) | _ => .bad) (okI Γ z H R) (exE Γ W z H σ) := P1
  split at P1
  · obtain ⟨a, xs, rfl, ha, hl⟩ := Da.tup' r1
    have sq : ∀ {z' H' c'}, Stp z1 H1 z' H' → Rl Γ z' H' c' → SqT Γ.K H' a xs := fun s R => .inl (.inl (R.inc _ _ (s.ext _ _ ha)))
    refine ⟨a, rfl, .inl ⟨⟨xs, sq .refl R1⟩, P1 z1 H1 _ s1 R1 (it_enum hl (fun s R e => ⟨xs, _, sq s R, e⟩) (fun s R e => ⟨xs, sq s R, e⟩) fun s R y => ?_)⟩⟩
    obtain ⟨T, x', e1, e2, e3, e4⟩ := y
    exact ⟨T, x', e1, e2, e3, e4 xs (sq s R)⟩
  · obtain ⟨a, xs, rfl, ha, hl⟩ := Da.lst' r1
    have sq : ∀ {z' H' c'}, Stp z1 H1 z' H' → Rl Γ z' H' c' → SqL Γ.K H' a xs := fun s R => .inl (.inl (R.inc _ _ (s.ext _ _ ha)))
    refine ⟨a, rfl, .inr ⟨⟨xs, sq .refl R1⟩, P1 z1 H1 _ s1 R1 (it_enum hl (fun s R e => ⟨xs, _, sq s R, e⟩) (fun s R e => ⟨xs, sq s R, e⟩) fun s R y => ?_)⟩⟩
    obtain ⟨T, x', e1, e2, e3, e4⟩ := y
    exact ⟨T, x', e1, e2, e3, e4 xs (sq s R)⟩
  · exact P1.elim
theorem d_en {me : ME} {p pos tpos : Pos} {elts : List Expr} {kk : Nat} (hK : X.K = Γ.K) (hg : Gl X "enumerate") (hm : X.mg "enumerate" = none) (ha : PE X e (canE Γ W me)) (hs : starEach [e] X.env = [(false, eval e X.env)] := by rfl) :
    PI X (.Tuple elts kk tpos) (.Call (.Name "enumerate" p) [e] [] pos) (canI Γ W (mEn me)) := (pi_enumU hg hm (pa_cons ha pa_nil hs) hs).wk fun σ H R h => by rw [hK]; exact w_en h

/-! ### for, while -/
/-- a turn's end -/
def turnS (r : RsS) (f : Sl → Cf → RsS) : RsS := match r with
  | .ok (.nx, sl, c) => f sl c
  | .ok (.ct, sl, c) => f sl c
  | .ok (.bk, sl, c) => .ok (.nx, sl, c)
  | r => r
@[simp] theorem turnS_nx (sl : Sl) (c : Cf) (f : Sl → Cf → RsS) : turnS (.ok (.nx, sl, c)) f = f sl c := rfl
@[simp] theorem turnS_ct (sl : Sl) (c : Cf) (f : Sl → Cf → RsS) : turnS (.ok (.ct, sl, c)) f = f sl c := rfl
@[simp] theorem turnS_bk (sl : Sl) (c : Cf) (f : Sl → Cf → RsS) : turnS (.ok (.bk, sl, c)) f = .ok (.nx, sl, c) := rfl
@[simp] theorem turnS_ret (v : Vv) (sl : Sl) (c : Cf) (f : Sl → Cf → RsS) : turnS (.ok (.ret v, sl, c)) f = .ok (.ret v, sl, c) := rfl
@[simp] theorem turnS_ex (e : Exc × Sl × Cf) (f : Sl → Cf → RsS) : turnS (.ex e) f = .ex e := rfl
@[simp] theorem turnS_bad (f : Sl → Cf → RsS) : turnS .bad f = .bad := rfl
def loopF (get : Nat → Cf → Option Vv) (mg : MG) (mb : MS) : Nat → Nat → MS
  | 0, i, sl, c => match get i c with
    | none => .ok (.nx, sl, c)
    | some _ => .bad
  | k + 1, i, sl, c => match get i c with
    | none => .ok (.nx, sl, c)
    | some v => bindE (mg v sl c) sl fun sl1 c1 => turnS (mb sl1 c1) fun sl2 c2 => loopF get mg mb k (i + 1) sl2 c2
def mFor (mi : MI) (mg : MG) (mb : MS) : MS := fun sl c => bindE (mi sl c) sl fun g c1 => loopF g.get mg mb g.n 0 sl c1
/-- a walk over what is captured -/
def forL (mg : MG) (mb : MS) : List Vv → MS
  | [], sl, c => .ok (.nx, sl, c)
  | v :: vs, sl, c => bindE (mg v sl c) sl fun sl1 c1 => turnS (mb sl1 c1) fun sl2 c2 => forL mg mb vs sl2 c2
theorem loopF_captured {mg : MG} {mb : MS} {vs : List Vv} : ∀ (us : List Vv) (i : Nat) (sl : Sl) (c : Cf), vs.drop i = us → loopF (captured vs).get mg mb us.length i sl c = forL mg mb us sl c
  | [], i, sl, c, h => by
    have e : vs[i]? = none := List.getElem?_eq_none (by
      have := congrArg List.length h
      rw [List.length_drop] at this
      simp at this
      omega)
    show (match vs[i]? with | none => _ | some _ => _) = _
    rw [e]
    rfl
  | u :: us, i, sl, c, h => by
    have e : vs[i]? = some u := by
      have := congrArg (fun l => l[0]?) h
      simpa using this
    have h' : vs.drop (i + 1) = us := by
      have := congrArg (fun l => l.drop 1) h
      simpa using this
    show (match vs[i]? with | none => _ | some v => _) = _
    rw [e]
    show bindE (mg u sl c) sl _ = bindE (mg u sl c) sl _
    congr 1
    funext sl1 c1
    congr 1
    funext sl2 c2
    exact loopF_captured us (i + 1) sl2 c2 h'
theorem mFor_captured {mi : MI} {mg : MG} {mb : MS} {vs : List Vv} (h : mi sl c = .ok (captured vs, c1)) : mFor mi mg mb sl c = forL mg mb vs sl c1 := by
  unfold mFor
  rw [h]
  exact loopF_captured vs 0 sl c1 rfl
theorem w_for {mi : MI} {ws : List Nat} {mg : MG} {mb : MS} (hx : NoEx mg) (h : canS Γ W (mFor mi mg mb) D σ H) : tFor (canI Γ W mi) (canG Γ W ws mg) (canS Γ W mb) D σ H := by
  obtain ⟨z, sl, c, A, P⟩ := h
  have P : PostS (bindE (mi sl c) sl fun g c1 => loopF g.get mg mb g.n 0 sl c1) (endS Γ z H D) (exS Γ W z H) := P
  rw [postS_bindE] at P
  refine ⟨z, sl, c, A, P.imp (fun g c1 P1 z1 H1 J s1 R1 iok => ?_) fun _ _ h => h.exE A⟩
  refine ⟨fun i m σ' H' => ∃ z2 sl2 c2, Stp z1 H1 z2 H' ∧ At Γ z2 sl2 c2 σ' H' ∧ PostS (loopF g.get mg mb m i sl2 c2) (endS Γ z2 H' D) (exS Γ W z2 H'), ⟨g.n, z1, sl, c1, .refl, A.to s1 R1, P1.later s1 R1⟩, ?_⟩
  rintro i m σ2 H2 ⟨z2, sl2, c2, s2, A2, P2⟩
  cases e : g.get i c2 with
  | none =>
    refine .inl ⟨iok.stop z2 H2 c2 i s2 A2.rl e, ?_⟩
    have : loopF g.get mg mb m i sl2 c2 = .ok (.nx, sl2, c2) := by
      cases m with
      | zero => simp only [loopF, e]
      | succ m => simp only [loopF, e]
    rw [this] at P2
    exact P2 z2 H2 σ2 .refl A2
  | some v =>
    cases m with
    | zero => simp only [loopF, e] at P2; exact P2.elim
    | succ m =>
      simp only [loopF, e] at P2
      refine .inr ⟨iok.go z2 H2 c2 i v s2 A2.rl e, fun σ' H' => ∃ z3 sl3 c3, Stp z1 H1 z3 H' ∧ At Γ z3 sl3 c3 σ' H' ∧ PostS (loopF g.get mg mb m (i + 1) sl3 c3) (endS Γ z3 H' D) (exS Γ W z3 H'), fun σ' H' h => ⟨m, Nat.lt_succ_self m, h⟩, fun x H3 y => ?_⟩
      obtain ⟨z3, s3, R3, r3⟩ := iok.yld z2 H2 c2 i v x H3 s2 A2.rl e y
      have A3 := A2.to s3 R3
      have P3 := P2.later s3 R3
      rw [postS_bindE] at P3
      refine ⟨z3, sl2, c2, v, A3, r3, ?_⟩
      cases e4 : mg v sl2 c2 with
      | ex p => exact absurd e4 (hx _ _ _ _)
      | bad => rw [e4] at P3; exact P3.elim
      | ok p =>
        obtain ⟨sl4, c4⟩ := p
        rw [e4] at P3
        intro z4 H4 σ4 s4 A4 _
        refine ⟨z4, sl4, c4, A4, ?_⟩
        have P4 : PostS (turnS (mb sl4 c4) fun sl2 c2 => loopF g.get mg mb m (i + 1) sl2 c2) (endS Γ z4 H4 D) (exS Γ W z4 H4) := PostS.later s4 A4.rl P3
        have s14 : Stp z1 H1 z4 H4 := (s2.trans A2.rl s3).trans R3 s4
        cases e5 : mb sl4 c4 with
        | bad => rw [e5] at P4; exact P4.elim
        | ex p => rw [e5] at P4; exact P4
        | ok p =>
          obtain ⟨f, sl5, c5⟩ := p
          rw [e5] at P4
          cases f with
          | nx => exact fun z6 H6 σ6 s6 A6 => ⟨z6, sl5, c5, s14.trans A4.rl s6, A6, PostS.later s6 A6.rl P4⟩
          | ct => exact fun z6 H6 σ6 s6 A6 => ⟨z6, sl5, c5, s14.trans A4.rl s6, A6, PostS.later s6 A6.rl P4⟩
          | bk => exact fun z6 H6 σ6 s6 A6 => P4 z6 H6 σ6 s6 A6
          | ret u => exact P4
theorem d_for {tg iter : Expr} {body : List Stmt} {mi : MI} {mg : MG} {mb : MS} (ws : List Nat) (hx : NoEx mg) (hp : PassesOwn (model X.prog X.w) X.A X.env X.xe) (hc : X.calm = true) (hi : PI X tg iter (canI Γ W mi)) (hg : PG X tg (canG Γ W ws mg)) (hb : PSs X body (canS Γ W mb))
    (hs : ∀ x, foldedSetIterable iter X.env x = pure x := by intro _; rfl) : PS X (.For tg iter body [] pos) (canS Γ W (mFor mi mg mb)) := (ps_for hp hc hi hg hb hs).wk fun D σ H h => w_for hx h
def whileF (mt : MT) (mb : MS) : Nat → MS
  | 0, _, _ => .bad
  | k + 1, sl, c => bindE (mt sl c) sl fun b c1 => if b then turnS (mb sl c1) fun sl2 c2 => whileF mt mb k sl2 c2 else .ok (.nx, sl, c1)
theorem w_while {k : Nat} {mt : MT} {mb : MS} (h : canS Γ W (whileF mt mb k) D σ H) : tWhile (canT Γ W mt) (canS Γ W mb) D σ H := by
  obtain ⟨z, sl, c, A, P⟩ := h
  refine ⟨fun m σ' H' => ∃ z2 sl2 c2, At Γ z2 sl2 c2 σ' H' ∧ PostS (whileF mt mb m sl2 c2) (endS Γ z2 H' D) (exS Γ W z2 H'), ⟨k, z, sl, c, A, P⟩, ?_⟩
  rintro m σ2 H2 ⟨z2, sl2, c2, A2, P2⟩
  cases m with
  | zero => exact P2.elim
  | succ m =>
    refine runT A2 P2 fun b c3 z3 H3 P3 s3 A3 => ?_
    cases b with
    | false => exact iteF (P3 z3 H3 σ2 .refl A3)
    | true =>
      refine iteT ⟨fun σ' H' => ∃ z4 sl4 c4, At Γ z4 sl4 c4 σ' H' ∧ PostS (whileF mt mb m sl4 c4) (endS Γ z4 H' D) (exS Γ W z4 H'), fun σ' H' h => ⟨m, Nat.lt_succ_self m, h⟩, z3, sl2, c3, A3, ?_⟩
      have P4 : PostS (turnS (mb sl2 c3) fun sl2 c2 => whileF mt mb m sl2 c2) (endS Γ z3 H3 D) (exS Γ W z3 H3) := P3
      cases e5 : mb sl2 c3 with
      | bad => rw [e5] at P4; exact P4.elim
      | ex p => rw [e5] at P4; exact P4
      | ok p =>
        obtain ⟨f, sl5, c5⟩ := p
        rw [e5] at P4
        cases f with
        | nx => exact fun z6 H6 σ6 s6 A6 => ⟨z6, sl5, c5, A6, PostS.later s6 A6.rl P4⟩
        | ct => exact fun z6 H6 σ6 s6 A6 => ⟨z6, sl5, c5, A6, PostS.later s6 A6.rl P4⟩
        | bk => exact fun z6 H6 σ6 s6 A6 => P4 z6 H6 σ6 s6 A6
        | ret u => exact P4
theorem d_while {t : Expr} {body : List Stmt} {mt : MT} {mb : MS} (k : Nat) (hp : PassesOwn (model X.prog X.w) X.A X.env X.xe) (ht : PT X t (canT Γ W mt)) (hb : PSs X body (canS Γ W mb)) : PS X (.While t body [] pos) (canS Γ W (whileF mt mb k)) := (ps_while hp ht hb).wk fun D σ H h => w_while h
end
end PM
end
section
/-! PM5: comprehensions, isinstance, defs over data and the tape, their calls. -/
namespace PM
open PySem PySem.Spec PyProof.Rows L2 DL
section
variable {Γ : Gm} {W : WX} {X : Cx} {z z1 z' : Cz} {H H1 H' : Hp} {σ : L2.St} {sl sl' : Sl} {c c1 c' : Cf} {D : Ends} {e : Expr} {pos : Pos}

/-! ### comprehensions -/
def noX {α : Type} (r : RsC α) : RsC α := match r with
  | .ex _ => .bad
  | r => r
@[simp] theorem noX_ok {α : Type} (p : α × Cf) : noX (.ok p) = .ok p := rfl
@[simp] theorem noX_bad {α : Type} : noX (.bad : RsC α) = .bad := rfl
@[simp] theorem noX_ex {α : Type} (p : Exc × Cf) : noX (.ex p : RsC α) = .bad := rfl
def wipeS : Sl → List Nat → Sl
  | sl, [] => sl
  | sl, v :: vs => (wipeS sl vs).set v none
def lcR (get : Nat → Cf → Option Vv) (mg : MG) (mt : MT) (me : ME) (ws : List Nat) : Nat → Nat → Sl → Cf → RsC (List Vv)
  | 0, i, _, c => match get i c with
    | none => .ok ([], c)
    | some _ => .bad
  | k + 1, i, sl, c => match get i c with
    | none => .ok ([], c)
    | some v => (noX (mg v (wipeS sl ws) c)).bind fun r => (noX (mt r.1 r.2)).bind fun b => if b.1 then (noX (me r.1 b.2)).bind fun u => (lcR get mg mt me ws k (i + 1) sl u.2).bind fun us => .ok (u.1 :: us.1, us.2)
      else lcR get mg mt me ws k (i + 1) sl b.2
def mLc (mi : MI) (mg : MG) (mt : MT) (me : ME) (ws : List Nat) : ME := fun sl c => (mi sl c).bind fun g => if g.1.n ≤ 100000 then (lcR g.1.get mg mt me ws g.1.n 0 sl g.2).bind fun r => .ok (.ref r.2.st.length, r.2.app r.1) else .bad
/-- a comprehension over what is captured -/
def lcL (mg : MG) (mt : MT) (me : ME) (ws : List Nat) : List Vv → Sl → Cf → RsC (List Vv)
  | [], _, c => .ok ([], c)
  | v :: vs, sl, c => (noX (mg v (wipeS sl ws) c)).bind fun r => (noX (mt r.1 r.2)).bind fun b => if b.1 then (noX (me r.1 b.2)).bind fun u => (lcL mg mt me ws vs sl u.2).bind fun us => .ok (u.1 :: us.1, us.2)
      else lcL mg mt me ws vs sl b.2
theorem lcR_captured {mg : MG} {mt : MT} {me : ME} {ws : List Nat} {vs : List Vv} : ∀ (us : List Vv) (i : Nat) (sl : Sl) (c : Cf), vs.drop i = us → lcR (captured vs).get mg mt me ws us.length i sl c = lcL mg mt me ws us sl c
  | [], i, sl, c, h => by
    have e : vs[i]? = none := List.getElem?_eq_none (by
      have := congrArg List.length h
      rw [List.length_drop] at this
      simp at this
      omega)
    show (match vs[i]? with | none => _ | some _ => _) = _
    rw [e]
    rfl
  | u :: us, i, sl, c, h => by
    have e : vs[i]? = some u := by
      have := congrArg (fun l => l[0]?) h
      simpa using this
    have h' : vs.drop (i + 1) = us := by
      have := congrArg (fun l => l.drop 1) h
      simpa using this
    have ih := fun sl c => lcR_captured (mg := mg) (mt := mt) (me := me) (ws := ws) us (i + 1) sl c h'
    show (match vs[i]? with | none => _ | some v => _) = _
    rw [e]
    simp only [List.length_cons] at *
    show (noX (mg u (wipeS sl ws) c)).bind _ = (noX (mg u (wipeS sl ws) c)).bind _
    congr 1
    funext r
    congr 1
    funext b
    rw [ih]
    congr 1
    congr 1
    funext q
    rw [ih]
theorem mLc_captured {mi : MI} {mg : MG} {mt : MT} {me : ME} {ws : List Nat} {vs : List Vv} (h : mi sl c = .ok (captured vs, c1)) : mLc mi mg mt me ws sl c = if vs.length ≤ 100000 then (lcL mg mt me ws vs sl c1).bind fun r => .ok (.ref r.2.st.length, r.2.app r.1) else .bad := by
  unfold mLc
  rw [h]
  show (if vs.length ≤ 100000 then (lcR (captured vs).get mg mt me ws vs.length 0 sl c1).bind _ else _) = _
  rw [lcR_captured vs 0 sl c1 rfl]
abbrev WF : WX := fun _ _ _ _ => False
theorem post_noX {α : Type} {r : RsC α} {k : α → Cf → Prop} {ex : Exc → Cf → Prop} (h : Post (noX r) k ex) : Post r k (exE Γ WF z H σ) := by
  cases r with
  | ok p => exact h
  | ex p => exact h.elim
  | bad => exact h
/-- an object that is tracked, neither frozen nor of the store -/
structure Lone (z : Cz) (H : Hp) (a : Addr) (xs : List V) : Prop where
  f : z.F a = none
  m : ¬ Mv z a
  h : H a = some (.lst xs)
  s : ∀ o, z.S ≠ some (a, some o)
theorem Lone.step {a : Addr} {xs : List V} (L : Lone z H a xs) (s : Stp z H z' H') : Lone z' H' a xs := by
  refine ⟨?_, fun hm => ?_, s.keep a _ L.h L.m, fun o => by rw [s.S]; exact L.s o⟩
  · cases e : z'.F a with
    | none => rfl
    | some o =>
      rcases s.new a (by rw [e]; exact fun q => nomatch q) L.f with q | q
      · rw [L.h] at q; cases q
      · exact absurd q L.m
  · have := s.mv a hm L.m
    rw [L.h] at this; cases this
theorem Rl.lone (R : Rl Γ z H c) {a : Addr} {xs ys : List V} (L : Lone z H a xs) : Rl Γ z (upd H a (.lst ys)) c := by
  refine ⟨fun b u h => ?_, R.nd, R.len, fun i b hi => ?_, fun t w hT => ?_, fun b u hS => ?_, fun b cl d e hx => ?_, R.tpo⟩
  · rw [upd_ne (ne_of_none h L.f)]; exact R.inc _ _ h
  · have hb : b ≠ a := fun q => L.m (.inl (q ▸ List.mem_of_getElem? hi))
    have := R.cel i b hi
    cases q : c.st[i]? with
    | none => rw [q] at this; exact this
    | some k =>
      rw [q] at this
      cases k with
      | mu l' => obtain ⟨h1, xs, h2, h3⟩ := this; exact ⟨h1, xs, (upd_ne hb).trans h2, h3⟩
      | frz ds => exact this
  · obtain ⟨h1, h2, h3, h4, h5, h6, h7⟩ := R.tap t w hT
    have n1 : t ≠ a := fun q => L.m (.inr ⟨t, w, hT, .inl q.symm⟩)
    have n2 : w ≠ a := fun q => L.m (.inr ⟨t, w, hT, .inr q.symm⟩)
    exact ⟨h1, h2, h3, h4, h5, (upd_ne n1).trans h6, (upd_ne n2).trans h7⟩
  · obtain ⟨h1, h3⟩ := R.scr b u hS
    refine ⟨fun o e => ?_, h3⟩
    have n1 : b ≠ a := fun q => L.s o (by rw [← q, ← e]; exact hS)
    exact ⟨(upd_ne n1).trans (h1 o e).1, (h1 o e).2⟩
  · obtain ⟨C, dd, xs, h1, h2, h3, h4, h5, h6⟩ := R.exc b cl d e hx
    have n1 : dd ≠ a := fun q => by
      have := L.h
      rw [← q, h5] at this; cases this
    exact ⟨C, dd, xs, h1, h2, h3, h4, (upd_ne n1).trans h5, h6⟩
theorem Stp.lone {a : Addr} {ys : List V} (s : Stp z H z' H') (h : H a = none) : Stp z H z' (upd H' a (.lst ys)) :=
  ⟨s.ext, s.as, s.T, s.S, s.xa, fun b o e n => by rw [upd_ne (ne_of_none e h)]; exact s.keep b o e n, s.new, s.mv⟩
theorem Lone.first (R : Rl Γ z H c) {a : Addr} (h : H a = none) : Lone z (upd H a (.lst [])) a [] := by
  obtain ⟨h1, h2⟩ := R.fresh h
  exact ⟨h1, h2, upd_same, fun o e => by
    have h3 := ((R.scr a _ e).1 o rfl).1
    rw [h] at h3; cases h3⟩
theorem Rl.first (R : Rl Γ z H c) {a : Addr} (h : H a = none) : Stp z H z (upd H a (.lst [])) ∧ Rl Γ z (upd H a (.lst [])) c := by
  have s : Stp z H z (upd H a (.lst [])) := Stp.lone .refl h
  refine ⟨s, ⟨fun b u e => ?_, R.nd, R.len, fun i b hi => ?_, fun t w hT => ?_, fun b u hS => ?_, fun b cl d e hx => ExAt.step R s (R.exc b cl d e hx), R.tpo⟩⟩
  · rw [upd_ne (ne_of_none (R.inc _ _ e) h)]; exact R.inc _ _ e
  · exact CelAt.mono s (fun h => h) (fun ys e => (upd_ne (ne_of_none e h)).trans e) (R.cel i b hi)
  · obtain ⟨h1, h2, h3, h4, h5, h6, h7⟩ := R.tap t w hT
    exact ⟨h1, h2, h3, h4, h5, (upd_ne (ne_of_none h6 h)).trans h6, (upd_ne (ne_of_none h7 h)).trans h7⟩
  · obtain ⟨h1, h3⟩ := R.scr b u hS
    exact ⟨fun o e => ⟨(upd_ne (ne_of_none (h1 o e).1 h)).trans (h1 o e).1, (h1 o e).2⟩, h3⟩
theorem Rl.adopt (R : Rl Γ z H c) {a : Addr} {xs : List V} {l : List Vv} (L : Lone z H a xs) (hl : RVs z xs l) : Rl Γ (z.app a) H (c.app l) ∧ RV (z.app a) (.ref a) (.ref c.st.length) := by
  have st : ∀ {v x}, RV z x v → RV (z.app a) x v := fun {v x} r => by
    cases v with
    | ref n =>
      obtain ⟨b, h, e⟩ := r
      exact ⟨b, by show (z.as ++ [a])[n]? = some b; rw [List.getElem?_append_left (List.getElem?_eq_some_iff.mp h).1]; exact h, e⟩
    | _ => exact r
  have sts : ∀ {xs vs}, RVs z xs vs → RVs (z.app a) xs vs := fun {xs vs} r => by
    induction r with
    | nil => exact .nil
    | cons h _ ih => exact .cons (st h) ih
  have na : a ∉ z.as := fun h => L.m (.inl h)
  refine ⟨⟨R.inc, ?_, ?_, fun i b hi => ?_, fun t w hT => ?_, fun b u hS => ?_, R.exc, R.tpo⟩, ?_⟩
  · refine List.nodup_append.mpr ⟨R.nd, List.nodup_cons.mpr ⟨by simp, List.nodup_nil⟩, fun b hb d hd => ?_⟩
    rw [List.mem_singleton] at hd
    subst hd
    exact fun q => na (q ▸ hb)
  · show (z.as ++ [a]).length = (c.st ++ [Cel.mu l]).length
    rw [List.length_append, List.length_append, R.len]; rfl
  · have hi : (z.as ++ [a])[i]? = some b := hi
    show CelAt _ _ b (c.st ++ [Cel.mu l])[i]?
    by_cases hlt : i < z.as.length
    · rw [List.getElem?_append_left hlt] at hi
      rw [List.getElem?_append_left (R.len ▸ hlt)]
      have := R.cel i b hi
      cases q : c.st[i]? with
      | none => rw [q] at this; exact this
      | some k =>
        rw [q] at this
        cases k with
        | mu l' => obtain ⟨h1, xs, h2, h3⟩ := this; exact ⟨h1, xs, h2, sts h3⟩
        | frz ds => exact this
    · rw [List.getElem?_append_right (by omega)] at hi
      have h0 : i - z.as.length = 0 := by
        cases q : i - z.as.length with
        | zero => rfl
        | succ n => rw [q] at hi; cases hi
      rw [h0] at hi
      cases hi
      rw [List.getElem?_append_right (by rw [← R.len]; omega), ← R.len, h0]
      exact ⟨L.f, xs, L.h, sts hl⟩
  · obtain ⟨h1, h2, h3, h4, h5, h6, h7⟩ := R.tap t w hT
    refine ⟨h1, fun hm => ?_, fun hm => ?_, h4, h5, h6, h7⟩
    · rcases List.mem_append.mp hm with q | q
      · exact h2 q
      · rw [List.mem_singleton] at q; exact L.m (.inr ⟨t, w, hT, .inl q.symm⟩)
    · rcases List.mem_append.mp hm with q | q
      · exact h3 q
      · rw [List.mem_singleton] at q; exact L.m (.inr ⟨t, w, hT, .inr q.symm⟩)
  · obtain ⟨h0, h3⟩ := R.scr b u hS
    refine ⟨fun o e => ⟨(h0 o e).1, fun hm => ?_⟩, h3⟩
    obtain ⟨h1, h2⟩ := h0 o e
    rcases hm with hm | hm
    · rcases List.mem_append.mp hm with q | q
      · exact h2 (.inl q)
      · rw [List.mem_singleton] at q; exact L.s o (by rw [← q, ← e]; exact hS)
    · exact h2 (.inr hm)
  · refine ⟨a, ?_, rfl⟩
    show (z.as ++ [a])[c.st.length]? = some a
    rw [← R.len, List.getElem?_append_right (Nat.le_refl _), Nat.sub_self]
    rfl
theorem Stp.adopt {a : Addr} (s : Stp z H z' H') (h : H a = none) : Stp z H (z'.app a) H' := by
  refine ⟨s.ext, ?_, s.T, s.S, s.xa, s.keep, s.new, fun b hb nb => ?_⟩
  · obtain ⟨bs, e⟩ := s.as
    exact ⟨bs ++ [a], by show z'.as ++ [a] = _; rw [e, List.append_assoc]⟩
  · rcases hb with hb | hb
    · rcases List.mem_append.mp hb with q | q
      · exact s.mv b (.inl q) nb
      · rw [List.mem_singleton] at q; rw [q]; exact h
    · exact s.mv b (.inr hb) nb
theorem At.wipes {ws : List Nat} (A : At Γ z sl c σ H) : At Γ z (wipeS sl ws) c (L2.wipe σ ws) H := by
  induction ws with
  | nil => exact A
  | cons w ws ih => exact ih.wipe w
theorem wipe_idem : ∀ (ws : List Nat) (σ : L2.St), wipe (wipe σ ws) ws = wipe σ ws
  | [], _ => rfl
  | w :: ws, σ => by
    show (wipe ((wipe σ ws).set w none) ws).set w none = (wipe σ ws).set w none
    by_cases h : w ∈ ws
    · rw [wipe_set ws h, wipe_idem ws]
    · rw [wipe_comm ws h, wipe_idem ws, List.set_set]
theorem w_lc {mi : MI} {mg : MG} {mt : MT} {me : ME} {ws : List Nat} {Q : VK} (h : canE Γ W (mLc mi mg mt me ws) σ H Q) : tLc (canI Γ W mi) (canG Γ WF ws mg) (canT Γ WF mt) (canE Γ WF me) ws σ H Q := by
  obtain ⟨z, sl, c, A, P⟩ := h
  unfold mLc at P
  rw [post_bind] at P
  refine ⟨z, sl, c, A, P.imp (fun g c1 P1 z1 H1 J s1 R1 iok => ?_) fun _ _ h => h⟩
  intro C hC
  by_cases hn : g.n ≤ 100000
  · simp only [hn, if_true] at P1
    rw [post_bind] at P1
    have A1 := A.to s1 R1
    obtain ⟨s0, R0⟩ := R1.first hC
    refine ⟨fun i m H' => i + m = g.n ∧ ∃ z2 c2 xs acc, Stp z1 H1 z2 H' ∧ Rl Γ z2 H' c2 ∧ Lone z2 H' C xs ∧ RVs z2 xs acc ∧ acc.length ≤ i ∧
      Post (lcR g.get mg mt me ws m i sl c2) (fun l c' => okE Γ z1 H1 Q (.ref c'.st.length) (c'.app (acc ++ l))) (fun _ _ => True), ⟨g.n, Nat.zero_add _, z1, c1, [], [], s0, R0, Lone.first R1 hC, .nil, Nat.le_refl _, ?_⟩, ?_⟩
    · exact P1.imp (fun l c' h => OkE_later s1 R1 h) fun _ _ _ => trivial
    rintro i m H2 ⟨him, z2, c2, xs, acc, s2, R2, L2', r2, hac, P2⟩
    cases e : g.get i c2 with
    | none =>
      have el : lcR g.get mg mt me ws m i sl c2 = .ok ([], c2) := by
        cases m with
        | zero => simp only [lcR, e]
        | succ m => simp only [lcR, e]
      rw [el] at P2
      have P2 : okE Γ z1 H1 Q (.ref c2.st.length) (c2.app (acc ++ [])) := P2
      rw [List.append_nil] at P2
      obtain ⟨R3, r3⟩ := R2.adopt L2' r2
      exact .inl ⟨iok.stop z2 H2 c2 i s2 R2 e, P2 _ H2 _ (s2.adopt hC) R3 r3⟩
    | some v =>
      cases m with
      | zero => simp only [lcR, e] at P2; exact P2.elim
      | succ m =>
        simp only [lcR, e] at P2
        rw [post_bind] at P2
        refine .inr ⟨iok.go z2 H2 c2 i v s2 R2 e, fun H' => ∃ z2 c2 xs acc, Stp z1 H1 z2 H' ∧ Rl Γ z2 H' c2 ∧ Lone z2 H' C xs ∧ RVs z2 xs acc ∧ acc.length ≤ i + 1 ∧
          Post (lcR g.get mg mt me ws m (i + 1) sl c2) (fun l c' => okE Γ z1 H1 Q (.ref c'.st.length) (c'.app (acc ++ l))) (fun _ _ => True), fun H' h => ⟨m, Nat.lt_succ_self m, by omega, h⟩, fun x H3 y => ?_⟩
        obtain ⟨z3, s3, R3, r3⟩ := iok.yld z2 H2 c2 i v x H3 s2 R2 e y
        have s13 := s2.trans R2 s3
        have A3 : At Γ z3 (wipeS sl ws) c2 (wipe σ ws) H3 := (A1.to s13 R3).wipes
        have L3 := L2'.step s3
        have q3 := r2.step s3
        refine ⟨z3, _, c2, v, A3, r3, ?_⟩
        cases e4 : mg v (wipeS sl ws) c2 with
        | ex p => rw [e4] at P2; exact P2.elim
        | bad => rw [e4] at P2; exact P2.elim
        | ok p =>
          obtain ⟨sl4, c4⟩ := p
          rw [e4] at P2
          intro z4 H4 σ4 s4 A4 ew
          refine ⟨by rw [ew, wipe_idem], ?_⟩
          have P4 : Post ((noX (mt sl4 c4)).bind fun b => if b.1 then (noX (me sl4 b.2)).bind fun u => (lcR g.get mg mt me ws m (i + 1) sl u.2).bind fun us => .ok (u.1 :: us.1, us.2) else lcR g.get mg mt me ws m (i + 1) sl b.2) (fun l c' => okE Γ z1 H1 Q (.ref c'.st.length) (c'.app (acc ++ l))) (fun _ _ => True) := P2
          rw [post_bind] at P4
          have s14 := s13.trans R3 s4
          have L4 := L3.step s4
          have q4 := q3.step s4
          refine canT.run A4 (post_noX P4) fun b c5 z5 H5 P5 s5 A5 => ?_
          have s15 := s14.trans A4.rl s5
          have L5 := L4.step s5
          have q5 := q4.step s5
          cases b with
          | false => exact iteF ⟨z5, c5, xs, acc, s15, A5.rl, L5, q5, by omega, P5⟩
          | true =>
            have P5 : Post ((noX (me sl4 c5)).bind fun u => (lcR g.get mg mt me ws m (i + 1) sl u.2).bind fun us => .ok (u.1 :: us.1, us.2)) (fun l c' => okE Γ z1 H1 Q (.ref c'.st.length) (c'.app (acc ++ l))) (fun _ _ => True) := P5
            rw [post_bind] at P5
            refine iteT (canE.run A5 (post_noX P5) fun u c6 z6 H6 y6 P6 s6 A6 r6 => ?_)
            have P6 : Post ((lcR g.get mg mt me ws m (i + 1) sl c6).bind fun us => .ok (u :: us.1, us.2)) (fun l c' => okE Γ z1 H1 Q (.ref c'.st.length) (c'.app (acc ++ l))) (fun _ _ => True) := P6
            rw [post_bind] at P6
            have s16 := s15.trans A5.rl s6
            have L6 := L5.step s6
            have q6 := q5.step s6
            refine ⟨xs, L6.h, by rw [q6.length, sizeLine_eq]; exact Nat.lt_of_le_of_lt (show acc.length ≤ 100000 by omega) (by decide), z6, c6, xs ++ [y6], acc ++ [u], s16.lone hC, A6.rl.lone L6, ⟨L6.f, L6.m, upd_same, L6.s⟩, ?_, by rw [List.length_append]; simp; omega, ?_⟩
            · exact q6.append (.cons r6 .nil)
            · refine P6.imp (fun l c' h => ?_) fun _ _ _ => trivial
              have h : okE Γ z1 H1 Q (.ref c'.st.length) (c'.app (acc ++ u :: l)) := h
              rw [List.append_assoc]
              exact h
  · simp only [hn, if_false] at P1
    exact P1.elim
where
  OkE_later {z z1 : Cz} {H H1 : Hp} {c1 : Cf} {Q : VK} {v : Vv} {c' : Cf} (s : Stp z H z1 H1) (R : Rl Γ z1 H1 c1) (h : okE Γ z H Q v c') : okE Γ z1 H1 Q v c' := h.later s R
section
variable {elt tg iter : Expr} {ifs : List Expr} {scope : Scope} {own : List (Str × Nat)} {mi : MI} {mg : MG} {mt : MT} {me : ME}
theorem d_yes : PTs X [] (canT Γ W (fun _ c => .ok (true, c))) := by
  have h : PTs X [] tYes := pts_nil
  exact ⟨fun pins s σ H Q I ⟨z, sl, c, A, P⟩ => h.run pins s σ H Q I (P z H .refl A.rl)⟩
theorem d_tone (h : PT X e (canT Γ W mt)) : PTs X [e] (canT Γ W mt) := pts_one h
def mYes : MT := fun _ c => .ok (true, c)
theorem d_yes' : PTs X [] (canT Γ W mYes) := d_yes
theorem d_lc (hc : X.calm = true) (hN : X.N.Nodup) (hi : PI X tg iter (canI Γ W mi)) (ok : BlkOk X.N X.env.scope scope own)
    (hg : ∀ (s : Shared) (H : Hp) (C : Addr) (cl : List (Str × Addr)) (fp : List Addr), PG (X.blk s H scope (compEnvC scope cl C X.env) fp) tg (canG Γ WF (own.map (·.2)) mg)) (ht : ∀ (s : Shared) (H : Hp) (C : Addr) (cl : List (Str × Addr)) (fp : List Addr), PTs (X.blk s H scope (compEnvC scope cl C X.env) fp) ifs (canT Γ WF mt))
    (he : ∀ (s : Shared) (H : Hp) (C : Addr) (cl : List (Str × Addr)) (fp : List Addr), PE (X.blk s H scope (compEnvC scope cl C X.env) fp) elt (canE Γ WF me)) (hs : ∀ x, foldedSetIterable iter X.env x = pure x := by intro _; rfl) :
    PE X (.ListComp elt [⟨tg, iter, ifs, 0⟩] scope pos) (canE Γ W (mLc mi mg mt me (own.map (·.2)))) := (pe_lc hc hN hi ok hg ht he hs).wk fun σ H Q h => w_lc h
theorem d_setLc {i : Nat} {y : Str} {py : Pos} {spos : Pos} (hc : X.calm = true) (hN : X.N.Nodup) (hy : X.N[i]? = some y) (hyl : X.env.scope.names.lookup y = some .local)
    (hsw : swapsWith (.ListComp elt [⟨tg, iter, ifs, 0⟩] scope pos) (some (.Name y py)) spos.line X.env = pure true) (hi : PI X tg iter (canI Γ W mi)) (ok : BlkOk X.N X.env.scope scope own)
    (hg : ∀ (s : Shared) (H : Hp) (C : Addr) (cl : List (Str × Addr)) (fp : List Addr), PG (X.blk s H scope (compEnvC scope cl C X.env) fp) tg (canG Γ WF (own.map (·.2)) mg)) (ht : ∀ (s : Shared) (H : Hp) (C : Addr) (cl : List (Str × Addr)) (fp : List Addr), PTs (X.blk s H scope (compEnvC scope cl C X.env) fp) ifs (canT Γ WF mt))
    (he : ∀ (s : Shared) (H : Hp) (C : Addr) (cl : List (Str × Addr)) (fp : List Addr), PE (X.blk s H scope (compEnvC scope cl C X.env) fp) elt (canE Γ WF me)) (hs : ∀ x, foldedSetIterable iter X.env x = pure x := by intro _; rfl) :
    PS X (.Assign [.Name y py] (.ListComp elt [⟨tg, iter, ifs, 0⟩] scope pos) spos) (canS Γ W (mSet i (mLc mi mg mt me (own.map (·.2))))) := (ps_setLc hc hN hy hyl hsw hi ok hg ht he hs).wk fun D σ H h => by
  obtain ⟨z, sl, c, A, P⟩ := h
  exact w_lc (runE A P fun v c1 z1 H1 x P1 s1 A1 r1 => P1 z1 H1 _ .refl (A1.set i r1))
end

/-! ### isinstance -/
def kindOf : Vv → Option PyData
  | .da (.dict _) => none
  | .da d => some d
  | .scr => none
  | .exc _ => none
  | _ => some (.list [])
def mIsi (f : PyData → Bool) (me : ME) : ME := fun sl c => (me sl c).bind fun r => .opt ((kindOf r.1).map fun d => (.da (.bool (f d)), r.2))
theorem RV.ty {K : PySem.W.Frag} (R : Rl Γ z H c) {x : V} {v : Vv} (r : RV z x v) : (∃ d, v = .da d ∧ TyX K H x (.type (tnD d))) ∨ (v = .scr ∨ (∃ e, v = .exc e) ∨ (((∀ d, v ≠ .da d)) ∧ TyX K H x (.type "list"))) := by
  cases v with
  | da d => exact .inl ⟨d, rfl, Da.ty r R.inc⟩
  | ref n =>
    obtain ⟨a, ha, rfl⟩ := r
    obtain ⟨xs, hx⟩ := R.there (.inl (List.mem_of_getElem? ha))
    exact .inr (.inr (.inr ⟨fun d h => (by cases h), .base (.lst hx)⟩))
  | tape =>
    obtain ⟨t, w, hT, rfl⟩ := r
    obtain ⟨xs, hx⟩ := R.there (.inr ⟨t, w, hT, .inl rfl⟩)
    exact .inr (.inr (.inr ⟨fun d h => (by cases h), .base (.lst hx)⟩))
  | wide =>
    obtain ⟨t, w, hT, rfl⟩ := r
    obtain ⟨xs, hx⟩ := R.there (.inr ⟨t, w, hT, .inr rfl⟩)
    exact .inr (.inr (.inr ⟨fun d h => (by cases h), .base (.lst hx)⟩))
  | scr => exact .inr (.inl rfl)
  | exc e => exact .inr (.inr (.inl ⟨e, rfl⟩))
theorem isi_b {K : PySem.W.Frag} {f : PyData → Bool} {x : V} {v : Vv} (R : Rl Γ z H c) (rv : RV z x v) {k : Vv → Cf → Prop} {ex : Exc → Cf → Prop} (P : Post (Rs.opt ((kindOf v).map fun d => (.da (.bool (f d)), c))) k ex) : ∃ d, (∀ kvs, d ≠ .dict kvs) ∧ TyX K H x (.type (tnD d)) ∧ k (.da (.bool (f d))) c := by
  cases v with
  | da d =>
    have t := Da.ty (K := K) (show Da z.F x d from rv) R.inc
    cases d with
    | dict kvs => exact P.elim
    | _ => exact ⟨_, fun kvs h => (by cases h), t, P⟩
  | scr => exact P.elim
  | exc e => exact P.elim
  | _ =>
    rcases RV.ty (K := K) R rv with ⟨d, h, _⟩ | h | ⟨e, h⟩ | ⟨_, h⟩
    · cases h
    · cases h
    · cases h
    · exact ⟨.list [], fun kvs h => (by cases h), h, P⟩
theorem w_isi {T : String} {f : PyData → Bool} {me : ME} {Q : VK} (hf : ∀ e : PyData, (∀ kvs, e ≠ .dict kvs) → kitB (tnD e) T = some (f e)) (h : canE Γ W (mIsi f me) σ H Q) : tCB (rIsi Γ.K) (tCons (canE Γ W me) (tCons (tC (.ty T)) tNil)) σ H Q := by
  obtain ⟨z, sl, c, A, P⟩ := h
  unfold mIsi at P
  rw [post_bind] at P
  refine canE.run A P fun v c1 z1 H1 x P1 s1 A1 r1 => ?_
  obtain ⟨d, hd, ht, q⟩ := isi_b (K := Γ.K) (f := f) A1.rl r1 P1
  exact ⟨x, .ty T, .type (tnD d), .type T, f d, rfl, .ty T, ht, kit_ty (hf d hd), q z1 H1 _ s1 A1.rl (Da.bl _)⟩
theorem d_isi {T : Str} {T' : String} {f : PyData → Bool} {me : ME} {p p2 : Pos} (hf : ∀ e : PyData, (∀ kvs, e ≠ .dict kvs) → kitB (tnD e) T' = some (f e)) (hK : X.K = Γ.K) (hg : Gl X "isinstance") (hm : X.mg "isinstance" = none) (hg2 : Gl X T) (hm2 : X.mg T = none) (hv2 : bootBuiltins T = some (.type T')) (he : PE X e (canE Γ W me)) (hn2 : T ≠ "__name__" := by decide) (hd2 : (T == ("__debug__" : Str)) = false := by decide)
    (hs : starEach [e, .Name T p2] X.env = (false, eval e X.env) :: starEach [.Name T p2] X.env := by rfl) (hs2 : starEach [.Name T p2] X.env = (false, eval (.Name T p2) X.env) :: starEach [] X.env := by rfl) (hpl : (backTo pos (starEach [.Name T p2] X.env)).any (·.1) = false := by rfl) :
    PE X (.Call (.Name "isinstance" p) [e, .Name T p2] [] pos) (canE Γ W (mIsi f me)) :=
  (pe_callB call_isi hg hm PyProof.Rows.boot_isinstance (pa_cons he (pa_cons (pe_bltn (v := .ty T') hg2 hm2 hv2 rfl hn2 hd2) pa_nil hs2) hs) (by decide) (by decide) hs hpl).wk fun σ H Q h => by rw [hK]; exact w_isi hf h
/-- isinstance(x, (tuple, list)) -/
theorem w_isiTL {me : ME} {Q : VK} (h : canE Γ W (mIsi (fun d => isTup d || isLst d) me) σ H Q) : tCB (rIsiT Γ.K) (tCons (canE Γ W me) (tCons (tTup (tCons (tC (.ty "tuple")) (tCons (tC (.ty "list")) tNil))) tNil)) σ H Q := by
  obtain ⟨z, sl, c, A, P⟩ := h
  unfold mIsi at P
  rw [post_bind] at P
  refine canE.run A P fun v c1 z1 H1 x P1 s1 A1 r1 => ?_
  refine ⟨by show 2 ≤ sizeLine; decide, fun p hp => ?_⟩
  obtain ⟨s2, R2⟩ := A1.rl.lay (o := .tup [.ty "tuple", .ty "list"]) hp
  obtain ⟨d, hd, ht, q⟩ := isi_b (K := Γ.K) (f := fun d => isTup d || isLst d) R2 (r1.step s2) P1
  refine ⟨x, p, [.ty "tuple", .ty "list"], .type (tnD d), [.type "tuple", .type "list"], isTup d || isLst d, rfl, upd_same, .cons (.ty _) (.cons (.ty _) .nil), ht, ?_, q _ _ _ (s1.trans A1.rl s2) R2 (Da.bl _)⟩
  refine kitAny_cons (kit_ty (kb_tup d hd)) (fun z => kitAny_cons (kit_ty (kb_lst d hd)) (fun z2 => ?_) fun z2 => ?_) fun z => by rw [z]; rfl
  · rw [z, z2]; exact kitAny_nil
  · rw [z, z2]; rfl
theorem d_isiTL {me : ME} {p p2 p3 p4 : Pos} {k : Nat} (hK : X.K = Γ.K) (hg : Gl X "isinstance") (hm : X.mg "isinstance" = none) (hg2 : Gl X "tuple") (hm2 : X.mg "tuple" = none) (hg3 : Gl X "list") (hm3 : X.mg "list" = none) (he : PE X e (canE Γ W me))
    (hs : starEach [e, .Tuple [.Name "tuple" p2, .Name "list" p3] k p4] X.env = (false, eval e X.env) :: starEach [.Tuple [.Name "tuple" p2, .Name "list" p3] k p4] X.env := by rfl)
    (hpl : (backTo pos (starEach [.Tuple [.Name "tuple" p2, .Name "list" p3] k p4] X.env)).any (·.1) = false := by rfl) :
    PE X (.Call (.Name "isinstance" p) [e, .Tuple [.Name "tuple" p2, .Name "list" p3] k p4] [] pos) (canE Γ W (mIsi (fun d => isTup d || isLst d) me)) :=
  (pe_callB call_isiT hg hm PyProof.Rows.boot_isinstance (pa_cons he (pa_cons (pe_tup (pa_cons (pe_bltn (v := .ty "tuple") hg2 hm2 PyProof.Rows.boot_tuple rfl) (pa_cons (pe_bltn (v := .ty "list") hg3 hm3 PyProof.Rows.boot_list rfl) pa_nil))) pa_nil) hs) (by decide) (by decide) hs hpl).wk fun σ H Q h => by rw [hK]; exact w_isiTL h
end
end PM
end
section
/-! PM6: defs as pure functions: of data; of data and the tape; the tape's making; the law. -/
namespace PM
open PySem PySem.Spec PyProof.Rows L2 L2H DL
def Gm.nx (Γ : Gm) : Gm := { Γ with xa := none }
def tp0 : Tp := ⟨[], [], false⟩
def cf0 : Cf := ⟨[], tp0, []⟩
def slots (k : Nat) (vs : List Vv) : Sl := vs.map some ++ List.replicate k none
/-- what a body hands back, as data -/
def endQ (r : RsS) : Rs Exc PyData := match r with
  | .ok (.nx, _, _) => .ok .none
  | .ok (.ret v, _, c) => match fz fzN v c with
    | some (d, _) => .ok d
    | none => .bad
  | .ok _ => .bad
  | .ex (e, _, _) => .ex e
  | .bad => .bad
def endT (r : RsS) : Rs (Exc × Tp) (PyData × Tp) := match r with
  | .ok (.nx, _, c) => .ok (.none, c.tp)
  | .ok (.ret v, _, c) => match fz fzN v c with
    | some (d, c') => .ok (d, c'.tp)
    | none => .bad
  | .ok _ => .bad
  | .ex (e, _, c) => .ex (e, c.tp)
  | .bad => .bad
def fQ (n k : Nat) (mb : MS) (ds : List PyData) : Rs Exc PyData := if ds.length = n then endQ (mb (slots k (ds.map .da)) cf0) else .bad
def fT (n k : Nat) (mb : MS) (ds : List PyData) (tp : Tp) : Rs (Exc × Tp) (PyData × Tp) := if ds.length + 1 = n then endT (mb (slots k (.tape :: ds.map .da)) ⟨[], tp, []⟩) else .bad
/-- a promise: a quiet function of data -/
def spQ (Γ : Gm) (f : List PyData → Rs Exc PyData) : Sp := fun vs H Q E => ∃ F ds, Same F H ∧ DaL F vs ds ∧ match f ds with
  | .ok d => ∀ v F' H', Go W0 F H F' H' → Da F' v d → Q v H'
  | .ex e => ∀ F' H' cl dd, Go W0 F H F' H' → ExAt Γ F' H' e cl dd → E cl dd H'
  | .bad => False
def spT (Γ : Gm) (f : List PyData → Tp → Rs (Exc × Tp) (PyData × Tp)) : Sp := fun vs H Q E => ∃ (z0 : Cz) (t w : Addr) (us : List V) (ds : List PyData) (tp : Tp), z0.as = [] ∧ z0.S = none ∧ z0.xa = none ∧ z0.T = some (t, w) ∧ vs = .ref t :: us ∧ Rl Γ z0 H ⟨[], tp, []⟩ ∧ DaL z0.F us ds ∧ match f ds tp with
  | .ok (d, tp') => ∀ v z' H', Stp z0 H z' H' → z'.as = [] → Rl Γ z' H' ⟨[], tp', []⟩ → Da z'.F v d → Q v H'
  | .ex (e, tp') => ∀ z' H' cl dd, Stp z0 H z' H' → z'.as = [] → Rl Γ z' H' ⟨[], tp', []⟩ → ExAt Γ z'.F H' e cl dd → E cl dd H'
  | .bad => False
section
variable {Γ : Gm} {W : WX} {X : Cx} {z z1 z' : Cz} {H H1 H' : Hp} {σ : L2.St} {sl sl' : Sl} {c c1 c' : Cf} {D : Ends} {e : Expr} {pos : Pos}
theorem Rl.nx (R : Rl Γ z H c) : Rl Γ.nx z H c := ⟨R.inc, R.nd, R.len, R.cel, R.tap, R.scr, R.exc, R.tpo⟩
theorem Rl.xn (R : Rl Γ.nx z H c) : Rl Γ z H c := ⟨R.inc, R.nd, R.len, R.cel, R.tap, R.scr, R.exc, R.tpo⟩
def zQ (F : Hp) : Cz := ⟨F, [], none, none, none⟩
theorem rl_zQ {F : Hp} (h : Same F H) : Rl Γ (zQ F) H cf0 := ⟨h, List.nodup_nil, rfl, fun i a hi => (by rw [show (zQ F).as = [] from rfl, List.getElem?_nil] at hi; cases hi), fun t w h => (by cases h), fun a o h => (by cases h), fun a cl d e h => (by cases h), fun _ => rfl⟩
theorem go_zQ {F : Hp} (s : Stp (zQ F) H z' H') (R : Rl Γ z' H' c') : Go W0 F H z'.F H' := by
  have nm : ∀ a, ¬ Mv (zQ F) a := fun a h => by
    rcases h with h | ⟨t, w, h, _⟩
    · cases h
    · cases h
  exact ⟨s.ext, fun a h1 h2 => (s.new a h1 h2).elim id fun q => absurd q (nm a), fun a o h _ => s.keep a o h (nm a), Stt.zero R.inc⟩
/-- a quiet callee's step, as the caller's -/
theorem Rl.quiet {F' : Hp} (R : Rl Γ z H c) (g : Go W0 z.F H F' H') : Stp z H { z with F := F' } H' ∧ Rl Γ { z with F := F' } H' c := by
  have k : ∀ a o, H a = some o → H' a = some o := fun a o h => g.keep a o h fun q => q
  have nf : ∀ a, z.F a = none → H a ≠ none → F' a = none := fun a h1 h2 => by
    cases e : F' a with
    | none => rfl
    | some o => exact absurd (g.new a (by rw [e]; exact fun q => nomatch q) h1) h2
  have s : Stp z H { z with F := F' } H' := ⟨g.ext, ⟨[], (List.append_nil _).symm⟩, fun _ h => h, rfl, rfl, fun a o h _ => k a o h, fun a h1 h2 => .inl (g.new a h1 h2), fun a h1 h2 => absurd h1 h2⟩
  refine ⟨s, ⟨g.st.inc, R.nd, R.len, fun i a hi => ?_, fun t w hT => ?_, fun a o hS => ?_, fun a cl d e hx => ExAt.step R s (R.exc a cl d e hx), R.tpo⟩⟩
  · obtain ⟨ys, hy⟩ := R.there (.inl (List.mem_of_getElem? hi))
    exact CelAt.mono s (fun h => nf a h (by rw [hy]; exact fun q => nomatch q)) (fun xs h => k _ _ h) (R.cel i a hi)
  · obtain ⟨h1, h2, h3, h4, h5, h6, h7⟩ := R.tap t w hT
    exact ⟨h1, h2, h3, nf t h4 (by rw [h6]; exact fun q => nomatch q), nf w h5 (by rw [h7]; exact fun q => nomatch q), k _ _ h6, k _ _ h7⟩
  · obtain ⟨h1, h3⟩ := R.scr a o hS
    exact ⟨fun o e => ⟨k _ _ (h1 o e).1, (h1 o e).2⟩, h3⟩
theorem slots_at {F : Hp} {zz : Cz} {N : List Str} {xs : List V} {vs : List Vv} (h : RVs zz xs vs) : RSl zz (L2.start N xs) (slots (N.length - vs.length) vs) := by
  refine ⟨?_, fun i v hi => ?_⟩
  · unfold L2.start slots
    rw [List.length_append, List.length_append, List.length_map, List.length_map, List.length_replicate, List.length_replicate, h.length]
  · unfold slots at hi
    by_cases hlt : i < vs.length
    · rw [List.getElem?_append_left (by rw [List.length_map]; exact hlt), List.getElem?_map] at hi
      cases q : vs[i]? with
      | none => rw [q] at hi; cases hi
      | some u =>
        rw [q] at hi
        cases hi
        obtain ⟨x, h1, h2⟩ := h.get q
        refine ⟨x, ?_, h2⟩
        unfold L2.start
        rw [List.getElem?_append_left (by rw [List.length_map, h.length]; exact hlt), List.getElem?_map, h1]
        rfl
    · rw [List.getElem?_append_right (by rw [List.length_map]; omega), List.getElem?_replicate] at hi
      split at hi <;> cases hi
/-! ### a def of data -/
section
variable {P : Program} {w : World} {K : PySem.W.Frag} {mg : Str → Option Value} {base : Heap} {CX : CXT} {x qual : Str} {st : Stmt} {f : Addr} {fd : FuncData} {N ps : List Str} {k : Nat}
abbrev WK (E : XK) : WX := fun cl d _ H => E cl d H
theorem spQ_len {n k : Nat} {mb : MS} (hn : ps.length = n) : ∀ vs H Q E, spQ Γ (fQ n k mb) vs H Q E → vs.length = ps.length := fun vs H Q E h => by
  obtain ⟨F, ds, h1, h2, h3⟩ := h
  rw [h2.length]
  unfold fQ at h3
  by_cases e : ds.length = n
  · omega
  · rw [if_neg e] at h3; exact h3.elim
theorem spT_len {n k : Nat} {mb : MS} (hn : ps.length = n) : ∀ vs H Q E, spT Γ (fT n k mb) vs H Q E → vs.length = ps.length := fun vs H Q E h => by
  obtain ⟨z0, t, w, us, ds, tp, _, _, _, _, rfl, _, h2, h3⟩ := h
  rw [List.length_cons, h2.length]
  unfold fT at h3
  by_cases e : ds.length + 1 = n
  · omega
  · rw [if_neg e] at h3; exact h3.elim
theorem fnQ (b : Bool) {G : Around → Prop} (Γ : Gm) (F : Fun K x qual st f fd) (S : FnScope N ps (defScope st)) (n k' : Nat) (mb : MS) (hn : ps.length = n) (hk : N.length - n = k') (hxa : Γ.xa = none) (hG : b = true → ∀ A, G A → A.handled = none)
    (hbody : ∀ (cdv : Value) (A : Around) (outer : List Env) (s : Shared) (H : Hp) (E : XK), RoomH k (A.deeper (envOfC qual (defScope st) s.heap.objs.size f cdv)) → G A →
      PSs (cxP b CX P w K mg base N qual (defScope st) f cdv A outer s H E) (defBody st) (canS Γ (WK E) mb)) : FnP G P w K mg base CX (k + 1) f fd ps (spQ Γ (fQ n k' mb)) := by
  refine funP b F S (spQ_len hn) hG fun cdv A outer s H vs Q E hr hg hsp => ⟨_, hbody cdv A outer s H E hr hg, ?_⟩
  obtain ⟨F0, ds, h1, h2, h3⟩ := hsp
  unfold fQ at h3
  by_cases e : ds.length = n
  · rw [if_pos e] at h3
    have hs := slots_at (F := F0) (zz := zQ F0) (N := N) (RVs.ofDa (z := zQ F0) h2)
    rw [List.length_map, e, hk] at hs
    have R0 : Rl Γ (zQ F0) H cf0 := rl_zQ h1
    refine ⟨zQ F0, _, cf0, ⟨R0, hs, by rw [hxa]; rfl⟩, ?_⟩
    cases e5 : mb (slots k' (ds.map .da)) cf0 with
    | bad => rw [e5] at h3; exact h3.elim
    | ex p =>
      obtain ⟨x, sl', c'⟩ := p
      rw [e5] at h3
      exact fun z' H' σ' cl d s A e => h3 z'.F H' cl d (go_zQ s A.rl) e
    | ok p =>
      obtain ⟨fl, sl', c'⟩ := p
      rw [e5] at h3
      intro z' H' σ' s A
      cases fl with
      | nx => exact h3 .non z'.F H' (go_zQ s A.rl) .non
      | ret v =>
        intro x r
        have h3 : match (match fz fzN v c' with | some (d, _) => (.ok d : Rs Exc PyData) | none => .bad) with | .ok d => ∀ v F' H', Go W0 F0 H F' H' → Da F' v d → Q v H' | .ex e => ∀ F' H' cl dd, Go W0 F0 H F' H' → ExAt Γ F' H' e cl dd → E cl dd H' | .bad => False := h3
        cases e6 : fz fzN v c' with
        | none => rw [e6] at h3; exact h3.elim
        | some p =>
          obtain ⟨d, c2⟩ := p
          rw [e6] at h3
          obtain ⟨z2, s2, R2, g2, _⟩ := fz_ok fzN z' H' c' x v d c2 A.rl r e6
          exact h3 x z2.F H' (go_zQ (s.trans A.rl s2) R2) g2
      | bk => exact h3.elim
      | ct => exact h3.elim
  · rw [if_neg e] at h3; exact h3.elim
/-- only the tape is left of a state -/
def Cz.drop (z : Cz) : Cz := { z with as := [] }
theorem Rl.drop {z0 : Cz} (h0 : z0.as = []) (s : Stp z0 H z' H') (R : Rl Γ z' H' c') : Stp z0 H z'.drop H' ∧ Rl Γ z'.drop H' ⟨[], c'.tp, []⟩ ∨ z0.S ≠ none := by
  by_cases hS : z0.S = none
  · refine .inl ⟨⟨s.ext, ⟨[], by rw [h0]; rfl⟩, s.T, s.S, s.xa, s.keep, s.new, fun a h1 h2 => s.mv a (.inr ?_) h2⟩, ⟨R.inc, List.nodup_nil, rfl, fun i a hi => ?_, fun t w hT => ?_, fun a o h => ?_, R.exc, R.tpo⟩⟩
    · rcases h1 with h1 | h1
      · cases h1
      · exact h1
    · rw [show z'.drop.as = [] from rfl, List.getElem?_nil] at hi; cases hi
    · obtain ⟨h1, h2, h3, h4, h5, h6, h7⟩ := R.tap t w hT
      exact ⟨h1, fun q => (by cases q), fun q => (by cases q), h4, h5, h6, h7⟩
    · have h : z'.S = some (a, o) := h
      rw [s.S, hS] at h; cases h
  · exact .inr hS
theorem fnT (b : Bool) {G : Around → Prop} (Γ : Gm) (F : Fun K x qual st f fd) (S : FnScope N ps (defScope st)) (n k' : Nat) (mb : MS) (hn : ps.length = n) (hk : N.length - n = k') (hxa : Γ.xa = none) (hG : b = true → ∀ A, G A → A.handled = none)
    (hbody : ∀ (cdv : Value) (A : Around) (outer : List Env) (s : Shared) (H : Hp) (E : XK), RoomH k (A.deeper (envOfC qual (defScope st) s.heap.objs.size f cdv)) → G A →
      PSs (cxP b CX P w K mg base N qual (defScope st) f cdv A outer s H E) (defBody st) (canS Γ (WK E) mb)) : FnP G P w K mg base CX (k + 1) f fd ps (spT Γ (fT n k' mb)) := by
  refine funP b F S (spT_len hn) hG fun cdv A outer s H vs Q E hr hg hsp => ⟨_, hbody cdv A outer s H E hr hg, ?_⟩
  obtain ⟨z0, t, w, us, ds, tp, g1, g2, g3, g4, rfl, R0, h2, h3⟩ := hsp
  unfold fT at h3
  by_cases e : ds.length + 1 = n
  · rw [if_pos e] at h3
    have hs := slots_at (F := z0.F) (zz := z0) (N := N) (xs := .ref t :: us) (vs := .tape :: ds.map .da) (.cons ⟨t, w, g4, rfl⟩ (.ofDa h2))
    rw [List.length_cons, List.length_map, e, hk] at hs
    have dr : ∀ {z' H' c'}, Stp z0 H z' H' → Rl Γ z' H' c' → Stp z0 H z'.drop H' ∧ Rl Γ z'.drop H' ⟨[], c'.tp, []⟩ := fun {z' H' c'} s R => (Rl.drop g1 s R).elim id fun q => absurd g2 q
    refine ⟨z0, _, _, ⟨R0, hs, by rw [hxa, g3]; rfl⟩, ?_⟩
    cases e5 : mb (slots k' (.tape :: ds.map .da)) ⟨[], tp, []⟩ with
    | bad => rw [e5] at h3; exact h3.elim
    | ex p =>
      obtain ⟨x, sl', c'⟩ := p
      rw [e5] at h3
      exact fun z' H' σ' cl d s A e => h3 z'.drop H' cl d (dr s A.rl).1 rfl (dr s A.rl).2 e
    | ok p =>
      obtain ⟨fl, sl', c'⟩ := p
      rw [e5] at h3
      intro z' H' σ' s A
      cases fl with
      | nx => exact h3 .non z'.drop H' (dr s A.rl).1 rfl (dr s A.rl).2 .non
      | ret v =>
        intro x r
        have h3 : match (match fz fzN v c' with | some (d, c') => (.ok (d, c'.tp) : Rs (Exc × Tp) (PyData × Tp)) | none => .bad) with
          | .ok (d, tp') => ∀ v z' H', Stp z0 H z' H' → z'.as = [] → Rl Γ z' H' ⟨[], tp', []⟩ → Da z'.F v d → Q v H'
          | .ex (e, tp') => ∀ z' H' cl dd, Stp z0 H z' H' → z'.as = [] → Rl Γ z' H' ⟨[], tp', []⟩ → ExAt Γ z'.F H' e cl dd → E cl dd H'
          | .bad => False := h3
        cases e6 : fz fzN v c' with
        | none => rw [e6] at h3; exact h3.elim
        | some p =>
          obtain ⟨d, c2⟩ := p
          rw [e6] at h3
          obtain ⟨z2, s2, R2, g2, _⟩ := fz_ok fzN z' H' c' x v d c2 A.rl r e6
          have s02 := s.trans A.rl s2
          exact h3 x z2.drop H' (dr s02 R2).1 rfl (dr s02 R2).2 g2
      | bk => exact h3.elim
      | ct => exact h3.elim
  · rw [if_neg e] at h3; exact h3.elim
end
/-! ### their calls -/
def mCallQ (f : List PyData → Rs Exc PyData) (dds : List PyData) (ma : MA) : ME := fun sl c => (ma sl c).bind fun r => match fzL (fz fzN) r.1 r.2 with
  | some (ds, c2) => match f (ds ++ dds) with
    | .ok d => .ok (.da d, c2)
    | .ex e => .ex (e, c2)
    | .bad => .bad
  | none => .bad
theorem w_callQ {f : List PyData → Rs Exc PyData} {dds : List PyData} {dvs : List V} {ma : MA} {Q : VK} (hd : ∀ F, DaL F dvs dds) (h : canE Γ W (mCallQ f dds ma) σ H Q) : canA Γ W ma σ H (fun vs H1 => spQ Γ.nx f (vs ++ dvs) H1 Q (WE W σ)) := by
  obtain ⟨z, sl, c, A, P⟩ := h
  unfold mCallQ at P
  rw [post_bind] at P
  refine canA.run A P fun vs c1 z1 H1 xs P1 s1 A1 r1 => ?_
  have P1 : Post (match fzL (fz fzN) vs c1 with
    | some (ds, c2) => match f (ds ++ dds) with | .ok d => .ok (.da d, c2) | .ex e => .ex (e, c2) | .bad => .bad
    | none => .bad) (okE Γ z H Q) (exE Γ W z H σ) := P1
  cases e : fzL (fz fzN) vs c1 with
  | none => rw [e] at P1; exact P1.elim
  | some p =>
    obtain ⟨ds, c2⟩ := p
    rw [e] at P1
    have P1 : Post (match f (ds ++ dds) with | .ok d => .ok (.da d, c2) | .ex e => .ex (e, c2) | .bad => .bad) (okE Γ z H Q) (exE Γ W z H σ) := P1
    obtain ⟨z2, s2, R2, g2, _⟩ := fzL_ok (fz_ok fzN) vs xs z1 c1 ds c2 A1.rl r1 e
    have s12 := s1.trans A1.rl s2
    refine ⟨z2.F, ds ++ dds, R2.inc, g2.append (hd _), ?_⟩
    cases e2 : f (ds ++ dds) with
    | bad => rw [e2] at P1; exact P1.elim
    | ok d =>
      rw [e2] at P1
      exact fun v F' H' g hd => by
        obtain ⟨s3, R3⟩ := R2.quiet g
        exact P1 _ _ v (s12.trans R2 s3) R3 hd
    | ex x =>
      rw [e2] at P1
      exact fun F' H' cl dd g hx => by
        obtain ⟨s3, R3⟩ := R2.quiet g
        exact P1 _ _ cl dd (s12.trans R2 s3) R3 hx
theorem at0 {X : Cx} {σ : L2.St} {E : XK} : PassesAt CX0 X σ E := fun _ _ _ _ _ _ h => h.elim
section
variable {G : Around → Prop} {CX : CXT} {k : Nat} {f : Addr} {fd : FuncData} {ps : List Str} {g : List PyData → Rs Exc PyData} {gt : List PyData → Tp → Rs (Exc × Tp) (PyData × Tp)} {dvs : List V} {dds : List PyData} {ds : List Value} {x : Str} {p : Pos} {es : List Expr} {ma : MA}
theorem d_callQ (F : FnP G X.prog X.w X.K X.mg X.base CX k f fd ps (spQ Γ.nx g)) (hr : RoomH k X.A) (hG : G X.A) (hg : Gl X x) (hm : X.mg x = some (.ref f)) (hk : PySem.W.keepIn X.K (.ref f) = true) (hb : Binds X.K fd ps ds) (hd : Vals dvs ds) (hdd : ∀ F, DaL F dvs dds) (hx : ∀ σ, PassesAt CX X σ (WE W σ))
    (ha : PA X (e :: es) (canA Γ W ma)) (hdb : (x == ("__debug__" : Str)) = false := by decide) (he : starEach (e :: es) X.env = (false, eval e X.env) :: starEach es X.env := by rfl) (hpl : (backTo pos (starEach es X.env)).any (·.1) = false := by rfl) :
    PE X (.Call (.Name x p) (e :: es) [] pos) (canE Γ W (mCallQ g dds ma)) := (pe_callP F hr hG hg hm hk hb hd hx ha hdb he hpl).wk fun σ H Q h => w_callQ hdd h
/-! the tape goes along -/
theorem Rl.forT (R : Rl Γ z H c) {t w : Addr} (hT : z.T = some (t, w)) : Rl Γ.nx { z with as := [], S := none, xa := none } H ⟨[], c.tp, []⟩ := by
  refine ⟨R.inc, List.nodup_nil, rfl, fun i a hi => (by rw [List.getElem?_nil] at hi; cases hi), fun t' w' h => ?_, fun a o h => (by cases h), fun a cl d e h => (by cases h), R.tpo⟩
  obtain ⟨h1, h2, h3, h4, h5, h6, h7⟩ := R.tap t' w' h
  exact ⟨h1, fun q => (by cases q), fun q => (by cases q), h4, h5, h6, h7⟩
theorem Rl.ofT (R : Rl Γ z H c) {t w : Addr} (hT : z.T = some (t, w)) {tp : Tp} (s : Stp { z with as := [], S := none, xa := none } H z' H') (R' : Rl Γ.nx z' H' ⟨[], tp, []⟩) :
    Stp z H { z with F := z'.F } H' ∧ Rl Γ { z with F := z'.F } H' { c with tp := tp } := by
  have hT' : z'.T = some (t, w) := s.T _ hT
  have mv0 : ∀ a, Mv { z with as := [], S := none, xa := none } a → a = t ∨ a = w := fun a h => by
    rcases h with h | ⟨t', w', h, h2⟩
    · cases h
    · have h : z.T = some (t', w') := h
      rw [hT] at h
      cases h
      exact h2
  have mvz : ∀ a, a = t ∨ a = w → Mv z a := fun a h => .inr ⟨t, w, hT, h⟩
  have k : ∀ a o, H a = some o → ¬ (a = t ∨ a = w) → H' a = some o := fun a o h n => s.keep a o h fun q => n (mv0 a q)
  obtain ⟨t1, t2, t3, t4, t5, t6, t7⟩ := R.tap t w hT
  have S : Stp z H { z with F := z'.F } H' := ⟨s.ext, ⟨[], (List.append_nil _).symm⟩, fun _ h => h, rfl, rfl, fun a o h n => k a o h fun q => n (mvz a q), fun a h1 h2 => (s.new a h1 h2).imp id fun q => mvz a (mv0 a q), fun a h1 h2 => absurd h1 h2⟩
  refine ⟨S, ⟨R'.inc, R.nd, R.len, fun i a hi => ?_, fun t' w' hT2 => ?_, fun a o hS => ?_, fun a cl d e hx => ExAt.step R S (R.exc a cl d e hx), fun h => ?_⟩⟩
  · have hm := List.mem_of_getElem? hi
    have na : ¬ (a = t ∨ a = w) := fun q => q.elim (fun q => t2 (q ▸ hm)) fun q => t3 (q ▸ hm)
    obtain ⟨ys, hy⟩ := R.there (.inl hm)
    refine CelAt.mono S (fun h => ?_) (fun xs h => k a _ h na) (R.cel i a hi)
    show z'.F a = none
    cases e : z'.F a with
    | none => rfl
    | some o =>
      rcases s.new a (by rw [e]; exact fun q => nomatch q) h with q | q
      · rw [hy] at q; cases q
      · exact absurd (mv0 a q) na
  · have hT2 : z.T = some (t', w') := hT2
    rw [hT] at hT2
    cases hT2
    obtain ⟨u1, u2, u3, u4, u5, u6, u7⟩ := R'.tap t w hT'
    exact ⟨t1, t2, t3, u4, u5, u6, u7⟩
  · obtain ⟨h1, h3⟩ := R.scr a o hS
    exact ⟨fun o e => ⟨k a o (h1 o e).1 fun q => (h1 o e).2 (mvz a q), (h1 o e).2⟩, h3⟩
  · have := R'.tpo h
    rw [hT'] at this; cases this
def mCallT (f : List PyData → Tp → Rs (Exc × Tp) (PyData × Tp)) (dds : List PyData) (ma : MA) : ME := fun sl c => (ma sl c).bind fun r => match r.1 with
  | .tape :: vs => match fzL (fz fzN) vs r.2 with
    | some (ds, c2) => match f (ds ++ dds) c2.tp with
      | .ok (d, tp) => .ok (.da d, { c2 with tp := tp })
      | .ex (e, tp) => .ex (e, { c2 with tp := tp })
      | .bad => .bad
    | none => .bad
  | _ => .bad
theorem w_callT {f : List PyData → Tp → Rs (Exc × Tp) (PyData × Tp)} {dds : List PyData} {dvs : List V} {ma : MA} {Q : VK} (hd : ∀ F, DaL F dvs dds) (h : canE Γ W (mCallT f dds ma) σ H Q) : canA Γ W ma σ H (fun vs H1 => spT Γ.nx f (vs ++ dvs) H1 Q (WE W σ)) := by
  obtain ⟨z, sl, c, A, P⟩ := h
  unfold mCallT at P
  rw [post_bind] at P
  refine canA.run A P fun vs0 c1 z1 H1 xs P1 s1 A1 r1 => ?_
  cases r1 with
  | nil => exact P1.elim
  | @cons x xs v vs r rr =>
    cases v with
    | tape =>
      have P1 : Post (match fzL (fz fzN) vs c1 with
        | some (ds, c2) => match f (ds ++ dds) c2.tp with | .ok (d, tp) => .ok (.da d, { c2 with tp := tp }) | .ex (e, tp) => .ex (e, { c2 with tp := tp }) | .bad => .bad
        | none => .bad) (okE Γ z H Q) (exE Γ W z H σ) := P1
      obtain ⟨t, w, hT, rfl⟩ := r
      cases e : fzL (fz fzN) vs c1 with
      | none => rw [e] at P1; exact P1.elim
      | some p =>
        obtain ⟨ds, c2⟩ := p
        rw [e] at P1
        have P1 : Post (match f (ds ++ dds) c2.tp with | .ok (d, tp) => .ok (.da d, { c2 with tp := tp }) | .ex (e, tp) => .ex (e, { c2 with tp := tp }) | .bad => .bad) (okE Γ z H Q) (exE Γ W z H σ) := P1
        obtain ⟨z2, s2, R2, g2, _⟩ := fzL_ok (fz_ok fzN) vs xs z1 c1 ds c2 A1.rl rr e
        have hT2 := s2.T _ hT
        have s12 := s1.trans A1.rl s2
        refine ⟨{ z2 with as := [], S := none, xa := none }, t, w, xs ++ dvs, ds ++ dds, c2.tp, rfl, rfl, rfl, hT2, rfl, R2.forT hT2, g2.append (hd _), ?_⟩
        cases e2 : f (ds ++ dds) c2.tp with
        | bad => rw [e2] at P1; exact P1.elim
        | ok p =>
          obtain ⟨d, tp⟩ := p
          rw [e2] at P1
          exact fun v z' H' s _ R' hd => by
            obtain ⟨s3, R3⟩ := R2.ofT hT2 s R'
            exact P1 _ _ v (s12.trans R2 s3) R3 hd
        | ex p =>
          obtain ⟨x, tp⟩ := p
          rw [e2] at P1
          exact fun z' H' cl dd s _ R' hx => by
            obtain ⟨s3, R3⟩ := R2.ofT hT2 s R'
            exact P1 _ _ cl dd (s12.trans R2 s3) R3 hx
    | _ => exact P1.elim
theorem d_callT (F : FnP G X.prog X.w X.K X.mg X.base CX k f fd ps (spT Γ.nx gt)) (hr : RoomH k X.A) (hG : G X.A) (hg : Gl X x) (hm : X.mg x = some (.ref f)) (hk : PySem.W.keepIn X.K (.ref f) = true) (hb : Binds X.K fd ps ds) (hd : Vals dvs ds) (hdd : ∀ F, DaL F dvs dds) (hx : ∀ σ, PassesAt CX X σ (WE W σ))
    (ha : PA X (e :: es) (canA Γ W ma)) (hdb : (x == ("__debug__" : Str)) = false := by decide) (he : starEach (e :: es) X.env = (false, eval e X.env) :: starEach es X.env := by rfl) (hpl : (backTo pos (starEach es X.env)).any (·.1) = false := by rfl) :
    PE X (.Call (.Name x p) (e :: es) [] pos) (canE Γ W (mCallT gt dds ma)) := (pe_callP F hr hG hg hm hk hb hd hx ha hdb he hpl).wk fun σ H Q h => w_callT hdd h
end
end
end PM
end
section
/-! PM7: errors: raised, caught, looked at. -/
namespace PM
open PySem PySem.Spec PyProof.Rows L2 L2H DL
section
variable {Γ : Gm} {W : WX} {X : Cx} {z z1 z' : Cz} {H H1 H' : Hp} {σ : L2.St} {sl sl' : Sl} {c c1 c' : Cf} {D : Ends} {e : Expr} {pos : Pos}

/-! ### making -/
/-- __init__ of an own error: its fields in order -/
def spI (K : PySem.W.Frag) (fl : List Str) : Sp := fun vs H Q E => ∃ (a C : Addr) (ys : List V), vs = .ref a :: ys ∧ ys.length = fl.length ∧ OexC K C ∧ (∀ f ∈ fl, PySem.W.findIn K (.ref C) f = some none) ∧ H a = some (exo a C none) ∧
  ∀ dx H', H dx = none → dx ≠ a → (∀ b, b ≠ dx → b ≠ a → H' b = H b) → H' dx = some (exd dx (fl.zip ys).reverse) → H' a = some (exo a C (some dx)) → Q .non H'
theorem spI_len {K : PySem.W.Frag} {fl ps : List Str} (h : ps.length = fl.length + 1) : ∀ vs H Q E, spI K fl vs H Q E → vs.length = ps.length := fun vs H Q E q => by
  obtain ⟨a, C, ys, rfl, hl, _⟩ := q
  rw [List.length_cons, hl, h]
theorem init2_ok {K : PySem.W.Frag} {f g : Str} {N : List Str} {vs : List V} {Q : VK} {E : XK} (h : spI K [f, g] vs H Q E) :
    tSeq (tOst K f (tVar 0) (tVar 1)) (tOst K g (tVar 0) (tVar 2)) { nx := fun _ H' => Q .non H', rt := Q } (L2.start N vs) H := by
  obtain ⟨a, C, ys, rfl, hl, T, hf, hH, k⟩ := h
  rcases ys with _ | ⟨y1, _ | ⟨y2, _ | ⟨y3, r⟩⟩⟩
  · cases hl
  · cases hl
  · have e0 : (L2.start N [V.ref a, y1, y2])[0]? = some (some (V.ref a)) := rfl
    have e1 : (L2.start N [V.ref a, y1, y2])[1]? = some (some y1) := rfl
    have e2 : (L2.start N [V.ref a, y1, y2])[2]? = some (some y2) := rfl
    refine ⟨y1, e1, .ref a, e0, a, C, rfl, T, hf f List.mem_cons_self, .inl ⟨hH, fun dx hdx hne => ?_⟩⟩
    refine ⟨y2, e2, .ref a, e0, a, C, rfl, T, hf g (List.mem_cons_of_mem _ List.mem_cons_self), .inr ⟨dx, [(f, y1)], upd_same, (upd_ne hne).trans upd_same, by simp, ?_⟩⟩
    refine k dx _ hdx hne (fun b h1 h2 => ?_) upd_same ((upd_ne (Ne.symm hne)).trans upd_same)
    rw [upd_ne h1, upd_ne h2, upd_ne h1]
  · cases hl
theorem init1_ok {K : PySem.W.Frag} {f : Str} {N : List Str} {vs : List V} {Q : VK} {E : XK} (h : spI K [f] vs H Q E) :
    tOst K f (tVar 0) (tVar 1) { nx := fun _ H' => Q .non H', rt := Q } (L2.start N vs) H := by
  obtain ⟨a, C, ys, rfl, hl, T, hf, hH, k⟩ := h
  rcases ys with _ | ⟨y1, _ | ⟨y2, r⟩⟩
  · cases hl
  · have e0 : (L2.start N [V.ref a, y1])[0]? = some (some (V.ref a)) := rfl
    have e1 : (L2.start N [V.ref a, y1])[1]? = some (some y1) := rfl
    refine ⟨y1, e1, .ref a, e0, a, C, rfl, T, hf f List.mem_cons_self, .inl ⟨hH, fun dx hdx hne => ?_⟩⟩
    refine k dx _ hdx hne (fun b h1 h2 => ?_) ((upd_ne hne).trans upd_same) upd_same
    rw [upd_ne h2, upd_ne h1]
  · cases hl
section
variable {P : Program} {w : World} {K : PySem.W.Frag} {mg : Str → Option Value} {base : Heap} {CX : CXT} {x qual : Str} {st : Stmt} {f : Addr} {fd : FuncData} {N ps : List Str} {k : Nat} {fl : List Str} {t : PySem.W.Frag → TS}
theorem fnI (F : Fun K x qual st f fd) (S : FnScope N ps (defScope st)) (hl : ps.length = fl.length + 1) (hi : ∀ H vs Q E, spI K fl vs H Q E → t K { nx := fun _ H' => Q .non H', rt := Q } (L2.start N vs) H)
    (hb : ∀ (cdv : Value) (A : Around) (outer : List Env) (s : Shared) (H : Hp) (E : XK), PSs (cxOf CX0 P w K mg base N qual (defScope st) f cdv A outer s H E).nox (defBody st) (t K)) : FnOk P w K mg base CX0 (k + 1) f fd ps (spI K fl) :=
  F.ok S (spI_len hl) fun cdv A outer s H vs Q E hr hsp => ⟨_, hb cdv A outer s H E, hi H vs Q E hsp⟩
theorem fnIH (F : Fun K x qual st f fd) (S : FnScope N ps (defScope st)) (hl : ps.length = fl.length + 1) (hi : ∀ H vs Q E, spI K fl vs H Q E → t K { nx := fun _ H' => Q .non H', rt := Q } (L2.start N vs) H)
    (hb : ∀ (cdv : Value) (A : Around) (outer : List Env) (s : Shared) (H : Hp) (E : XK) (p : Addr × Obj), PSs (cxH CX0 P w K mg base N qual (defScope st) f cdv A outer s H E p) (defBody st) (t K)) : FnH P w K mg base CX0 (k + 1) f fd ps (spI K fl) := by
  obtain ⟨oc, od, kV, doc, pm, an, cdv, ct, osl, rfl, lk, hcd⟩ := F.ex
  exact fn_ofH lk hcd S (spI_len hl) fun A outer s H vs Q E p hot hr hsp => ⟨_, hb cdv A outer s H E p, hi H vs Q E hsp⟩
end
theorem Rl.newO (R : Rl Γ z H c) {a : Addr} {o : HO} (h : H a = none) : Stp z H z (upd H a o) ∧ Rl Γ z (upd H a o) c := by
  have s : Stp z H z (upd H a o) := ⟨Same.refl _, ⟨[], (List.append_nil _).symm⟩, fun _ h => h, rfl, rfl, fun b u e n => by rw [upd_ne (ne_of_none e h)]; exact e, fun b h1 h2 => absurd h2 h1, fun b h1 h2 => absurd h1 h2⟩
  refine ⟨s, ⟨fun b u e => ?_, R.nd, R.len, fun i b hi => ?_, fun t w hT => ?_, fun b u hS => ?_, fun b cl d e hx => ExAt.step R s (R.exc b cl d e hx), R.tpo⟩⟩
  · rw [upd_ne (ne_of_none (R.inc _ _ e) h)]; exact R.inc _ _ e
  · exact CelAt.mono s (fun h => h) (fun ys e => (upd_ne (ne_of_none e h)).trans e) (R.cel i b hi)
  · obtain ⟨h1, h2, h3, h4, h5, h6, h7⟩ := R.tap t w hT
    exact ⟨h1, h2, h3, h4, h5, (upd_ne (ne_of_none h6 h)).trans h6, (upd_ne (ne_of_none h7 h)).trans h7⟩
  · obtain ⟨h1, h3⟩ := R.scr b u hS
    exact ⟨fun o e => ⟨(upd_ne (ne_of_none (h1 o e).1 h)).trans (h1 o e).1, (h1 o e).2⟩, h3⟩
theorem _root_.DL.DaL.reverse {F : Hp} : ∀ {xs : List V} {ds : List PyData}, DaL F xs ds → DaL F xs.reverse ds.reverse
  | _, _, .nil => .nil
  | _, _, .cons h t => by rw [List.reverse_cons, List.reverse_cons]; exact (DL.DaL.reverse t).append (.cons h .nil)
theorem zip_rev {α β : Type} : ∀ {xs : List α} {ys : List β}, xs.length = ys.length → (xs.zip ys).reverse = xs.reverse.zip ys.reverse
  | [], [], _ => rfl
  | x :: xs, y :: ys, h => by
    have h' : xs.length = ys.length := by simpa using h
    rw [List.zip_cons_cons, List.reverse_cons, List.reverse_cons, List.reverse_cons, zip_rev h', List.zip_append (by rw [List.length_reverse, List.length_reverse, h'])]
    rfl
def mRaise (cn : Str) (n : Nat) (ma : MA) : MS := fun sl c => bindE (ma sl c) sl fun vs c1 => match fzL (fz fzN) vs c1 with
  | some (ds, c2) => if ds.length = n then .ex (⟨cn, ds.reverse⟩, sl, c2) else .bad
  | none => .bad
theorem w_raise {cn : Str} {n : Nat} {ma : MA} {C : Addr} {fl : List Str} (hC : Γ.cls cn = some C) (hfl : Γ.fld cn = fl.reverse) (hn : fl.length = n) (h9 : n ≤ 900) (T : OexC Γ.K C) (hf : ∀ f ∈ fl, PySem.W.findIn Γ.K (.ref C) f = some none)
    (h : canS Γ W (mRaise cn n ma) D σ H) : tMkO C (spI Γ.K fl) [] (canA Γ W ma) σ H (fun cls d H' => W cls d σ H') := by
  obtain ⟨z, sl, c, A, P⟩ := h
  refine runA A P fun vs c1 z1 H1 xs P1 s1 A1 r1 => ?_
  have P1 : PostS (match fzL (fz fzN) vs c1 with | some (ds, c2) => if ds.length = n then .ex (⟨cn, ds.reverse⟩, sl, c2) else .bad | none => .bad) (endS Γ z1 H1 D) (exS Γ W z1 H1) := P1
  cases e : fzL (fz fzN) vs c1 with
  | none => rw [e] at P1; exact P1.elim
  | some p =>
    obtain ⟨ds, c2⟩ := p
    rw [e] at P1
    have P1 : PostS (if ds.length = n then .ex (⟨cn, ds.reverse⟩, sl, c2) else .bad) (endS Γ z1 H1 D) (exS Γ W z1 H1) := P1
    by_cases hd : ds.length = n
    · rw [if_pos hd] at P1
      obtain ⟨z2, s2, R2, g2, _⟩ := fzL_ok (fz_ok fzN) vs xs z1 c1 ds c2 A1.rl r1 e
      have hx : xs.length = fl.length := by rw [g2.length, hd, hn]
      refine ⟨by rw [hx, hn]; omega, fun a ha => ?_⟩
      rw [List.append_nil]
      refine ⟨a, C, xs, rfl, hx, T, hf, upd_same, fun dx H' h1 h2 h3 h4 h5 => ?_⟩
      have hdx : H1 dx = none := by rw [← upd_ne (H := H1) (o := exo a C none) h2]; exact h1
      refine ⟨rfl, dx, (fl.zip xs).reverse, h5, h4, hdx, ?_⟩
      have eh : upd (del H' a) dx (.xd (fl.zip xs).reverse) = upd H1 dx (.xd (fl.zip xs).reverse) := by
        funext b
        by_cases hb : b = dx
        · subst hb; rw [upd_same, upd_same]
        · rw [upd_ne hb, upd_ne hb]
          by_cases hba : b = a
          · subst hba; rw [del_same, ha]
          · rw [del_ne hba, h3 b hb hba, upd_ne hba]
      rw [eh]
      obtain ⟨s3, R3⟩ := R2.newO (o := .xd (fl.zip xs).reverse) hdx
      have s13 := s2.trans R2 s3
      exact P1 z2 _ σ _ _ s13 (A1.to s13 R3) ⟨C, dx, xs.reverse, hC, rfl, rfl, by rw [List.length_reverse, hfl, List.length_reverse, hx], by rw [hfl, upd_same, zip_rev hx.symm], g2.reverse⟩
    · rw [if_neg hd] at P1; exact P1.elim
/-! ### raise: where nothing is handled (three kinds of promise), in a suite -/
section
variable {CX : CXT} {x cn : Str} {es : List Expr} {ma : MA} {p rpos : Pos} {C fI : Addr} {k n : Nat} {fd : FuncData} {ps fl : List Str}
theorem d_raiseN (hK : X.K = Γ.K) (hC : Γ.cls cn = some C) (hfl : Γ.fld cn = fl.reverse) (hn : fl.length = n) (h9 : n ≤ 900) (hf : ∀ f ∈ fl, PySem.W.findIn Γ.K (.ref C) f = some none) (hc : X.calm = true) (tk : L2N.Takes X W)
    (T : OexC X.K C) (iC : PySem.W.findIn X.K (.ref C) "__init__" = some (some (.ref fI))) (tI : PySem.W.typeIn X.K (.ref fI) = some (.type "function"))
    (F1 : FnOk X.prog X.w X.K X.mg X.base CX0 k fI fd ps (spI X.K fl)) (hr : Room (k + 1) X.A) (hb : Binds X.K fd ps []) (hg : Gl X x) (hm : X.mg x = some (.ref C)) (ha : PA X (e :: es) (canA Γ W ma))
    (hdb : (x == ("__debug__" : Str)) = false := by decide) (he : starEach (e :: es) X.env = (false, eval e X.env) :: starEach es X.env := by rfl) (hpl : (backTo pos (starEach es X.env)).any (·.1) = false := by rfl) :
    PS X (.Raise (some (.Call (.Name x p) (e :: es) [] pos)) none rpos) (canS Γ W (mRaise cn n ma)) :=
  (L2N.ps_raise hc tk (pmk_oexN T iC tI F1 hr hb (fun _ _ _ _ _ _ _ h => h.elim) hg hm ha hdb he hpl)).wk fun D σ H h => by rw [hK] at T ⊢; exact w_raise hC hfl hn h9 T hf h
theorem d_raiseL (hK : X.K = Γ.K) (hC : Γ.cls cn = some C) (hfl : Γ.fld cn = fl.reverse) (hn : fl.length = n) (h9 : n ≤ 900) (hf : ∀ f ∈ fl, PySem.W.findIn Γ.K (.ref C) f = some none) (hc : X.calm = true) (tk : L2.Takes X W)
    (T : OexC X.K C) (iC : PySem.W.findIn X.K (.ref C) "__init__" = some (some (.ref fI))) (tI : PySem.W.typeIn X.K (.ref fI) = some (.type "function"))
    (F1 : FnOk X.prog X.w X.K X.mg X.base CX0 k fI fd ps (spI X.K fl)) (hr : Room (k + 1) X.A) (hb : Binds X.K fd ps []) (hg : Gl X x) (hm : X.mg x = some (.ref C)) (ha : PA X (e :: es) (canA Γ W ma))
    (hdb : (x == ("__debug__" : Str)) = false := by decide) (he : starEach (e :: es) X.env = (false, eval e X.env) :: starEach es X.env := by rfl) (hpl : (backTo pos (starEach es X.env)).any (·.1) = false := by rfl) :
    PS X (.Raise (some (.Call (.Name x p) (e :: es) [] pos)) none rpos) (canS Γ W (mRaise cn n ma)) :=
  (L2.ps_raise hc tk (pmk_oex T iC tI F1 hr hb .nil (fun _ _ _ _ _ _ _ h => h.elim) hg hm ha hdb he hpl)).wk fun D σ H h => by rw [hK] at T ⊢; exact w_raise hC hfl hn h9 T hf h
theorem d_raiseH {j : Nat} {cpos : Pos} (hK : X.K = Γ.K) (hC : Γ.cls cn = some C) (hfl : Γ.fld cn = fl.reverse) (hn : fl.length = n) (h9 : n ≤ 900) (hf : ∀ f ∈ fl, PySem.W.findIn Γ.K (.ref C) f = some none) (hot : HotC X) (tk : L2.Takes X W)
    (T : OexC X.K C) (iC : PySem.W.findIn X.K (.ref C) "__init__" = some (some (.ref fI))) (tI : PySem.W.typeIn X.K (.ref fI) = some (.type "function"))
    (F1 : FnH X.prog X.w X.K X.mg X.base CX0 k fI fd ps (spI X.K fl)) (hr : RoomH (k + 1) X.A) (hb : Binds X.K fd ps []) (hg : Gl X x) (hm : X.mg x = some (.ref C)) (ha : PA X (e :: es) (canA Γ W ma))
    (hdb : (x == ("__debug__" : Str)) = false := by decide) (he : starEach (e :: es) X.env = (false, eval e X.env) :: starEach es X.env := by rfl) (hpl : (backTo pos (starEach es X.env)).any (·.1) = false := by rfl) :
    PS X (.Raise (some (.Call (.Name x p) (e :: es) [] pos)) (some (.Constant .none j cpos)) rpos) (canS Γ W (mRaise cn n ma)) :=
  (ps_raiseHN hot tk (pmk5_oexH T iC tI F1 hr hot hb (fun _ _ _ _ _ _ _ h => h.elim) hg hm ha hdb he hpl)).wk fun D σ H h => by rw [hK] at T ⊢; exact w_raise hC hfl hn h9 T hf h
end
/-! ### try -/
def Vv.plain : Vv → Bool
  | .exc _ => false
  | _ => true
def plainC (c : Cf) : Bool := c.st.all fun k => match k with
  | .mu l => l.all Vv.plain
  | .frz _ => true
def plainS (sl : Sl) : Bool := sl.all fun o => match o with
  | some v => v.plain
  | none => true
def plainF : Fl → Bool
  | .ret v => v.plain
  | _ => true
def Cz.with (z : Cz) (x : Option (Addr × Value × Option Addr × Exc)) : Cz := { z with xa := x }
theorem RV.re {y : Option (Addr × Value × Option Addr × Exc)} {x : V} {v : Vv} (hv : v.plain = true) (r : RV z x v) : RV (z.with y) x v := by
  cases v with
  | exc e => cases hv
  | _ => exact r
theorem RVs.re {y : Option (Addr × Value × Option Addr × Exc)} {xs : List V} {vs : List Vv} (hv : vs.all Vv.plain = true) (r : RVs z xs vs) : RVs (z.with y) xs vs := by
  induction r with
  | nil => exact .nil
  | cons h t ih =>
    rw [List.all_cons, Bool.and_eq_true] at hv
    exact .cons (h.re hv.1) (ih hv.2)
theorem Rl.re {Γ' : Gm} {y : Option (Addr × Value × Option Addr × Exc)} (hK : Γ'.K = Γ.K) (hc : plainC c = true) (hy : ∀ a cl d e, y = some (a, cl, d, e) → ExAt Γ' z.F H e cl d) (R : Rl Γ z H c) : Rl Γ' (z.with y) H c := by
  refine ⟨R.inc, R.nd, R.len, fun i a hi => ?_, R.tap, fun a o h => ?_, hy, R.tpo⟩
  · have := R.cel i a hi
    cases q : c.st[i]? with
    | none => rw [q] at this; exact this
    | some k =>
      rw [q] at this
      cases k with
      | mu l =>
        obtain ⟨h1, xs, h2, h3⟩ := this
        exact ⟨h1, xs, h2, h3.re (List.all_eq_true.mp hc _ (List.mem_of_getElem? q))⟩
      | frz ds => exact this
  · rw [hK]; exact R.scr a o h
theorem plain0 (h : z.xa = none) {x : V} {v : Vv} (r : RV z x v) : v.plain = true := by
  cases v with
  | exc e =>
    obtain ⟨a, cl, d, h', _⟩ := r
    rw [h] at h'; cases h'
  | _ => rfl
theorem plains0 (h : z.xa = none) {xs : List V} {vs : List Vv} (r : RVs z xs vs) : vs.all Vv.plain = true := by
  induction r with
  | nil => rfl
  | cons q t ih => rw [List.all_cons, plain0 h q, ih]; rfl
theorem plainC0 (h : z.xa = none) (R : Rl Γ z H c) : plainC c = true := by
  refine List.all_eq_true.mpr fun k hk => ?_
  obtain ⟨i, hi⟩ := List.getElem?_of_mem hk
  cases k with
  | frz ds => rfl
  | mu l =>
    have hlt : i < z.as.length := by rw [R.len]; exact (List.getElem?_eq_some_iff.mp hi).1
    have := R.cel i z.as[i] (List.getElem?_eq_getElem hlt)
    rw [hi] at this
    obtain ⟨_, xs, _, h3⟩ := this
    exact plains0 h h3
theorem RSl.re {y : Option (Addr × Value × Option Addr × Exc)} (hs : plainS sl = true) (S : RSl z σ sl) : RSl (z.with y) σ sl := by
  refine ⟨S.len, fun i v h => ?_⟩
  obtain ⟨x, h1, h2⟩ := S.val i v h
  exact ⟨x, h1, h2.re (List.all_eq_true.mp hs _ (List.mem_of_getElem? h))⟩
theorem plainS0 (h : z.xa = none) (S : RSl z σ sl) : plainS sl = true := by
  refine List.all_eq_true.mpr fun o ho => ?_
  cases o with
  | none => rfl
  | some v =>
    obtain ⟨i, hi⟩ := List.getElem?_of_mem ho
    obtain ⟨x, _, h2⟩ := S.val i v hi
    exact plain0 h h2
/-- within a suite: the caught error is known -/
def Gm.sx (Γ : Gm) (a : Addr) (cl : Value) (d : Option Addr) : Gm := { Γ with xa := some (a, cl, d) }
theorem Stp.of_with {y : Option (Addr × Value × Option Addr × Exc)} (hxa : z.xa = none) (s : Stp (z.with y) H z' H') : Stp z H (z'.with none) H' := ⟨s.ext, s.as, s.T, s.S, hxa.symm, s.keep, s.new, s.mv⟩
theorem At.xa0 (h : Γ.xa = none) (A : At Γ z sl c σ H) : z.xa = none := by
  have := A.xa
  rw [h] at this
  cases e : z.xa with
  | none => rfl
  | some p => rw [e] at this; cases this
theorem At.enter (h : Γ.xa = none) (A : At Γ z sl c σ H) {x : Exc} {a : Addr} {cl : Value} {d : Option Addr} (ex : ExAt Γ z.F H x cl d) : At (Γ.sx a cl d) (z.with (some (a, cl, d, x))) sl c σ H := by
  have h0 := A.xa0 h
  refine ⟨Rl.re (Γ := Γ) (Γ' := Γ.sx a cl d) rfl (plainC0 h0 A.rl) (fun a' cl' d' e' q => by cases q; exact ex) A.rl, A.sl.re (plainS0 h0 A.sl), rfl⟩
theorem At.leave (h : Γ.xa = none) {a : Addr} {cl : Value} {d : Option Addr} (hs : plainS sl = true) (hc : plainC c = true) (A : At (Γ.sx a cl d) z sl c σ H) : At Γ (z.with none) sl c σ H :=
  ⟨Rl.re (Γ := Γ.sx a cl d) (Γ' := Γ) rfl hc (fun a' cl' d' e' q => by cases q) A.rl, A.sl.re hs, h.symm⟩
/-- a suite's end (it may raise) -/
def outX (r : RsS) : RsS := match r with
  | .ok (f, sl, c) => if plainF f && plainS sl && plainC c then .ok (f, sl, c) else .bad
  | .ex (e, sl, c) => if plainS sl && plainC c then .ex (e, sl, c) else .bad
  | .bad => .bad
/-- a suite's end (it does not raise); slot i was the error's -/
def unset (oi : Option Nat) (sl : Sl) : Sl := match oi with
  | none => sl
  | some i => sl.set i none
def outC (oi : Option Nat) (r : RsS) : RsS := match r with
  | .ok (f, sl, c) => if plainF f && plainS (unset oi sl) && plainC c then .ok (f, unset oi sl, c) else .bad
  | _ => .bad
theorem suiteX {m : MS} {a : Addr} {x : Exc} {cl : Value} {d : Option Addr} (hxa : Γ.xa = none) (A : At Γ z sl c σ H) (ex : ExAt Γ z.F H x cl d) (P : PostS (outX (m sl c)) (endS Γ z H D) (exS Γ W z H)) : canS (Γ.sx a cl d) W m D σ H := by
  refine ⟨z.with (some (a, cl, d, x)), sl, c, A.enter hxa ex, ?_⟩
  have h0 := A.xa0 hxa
  cases e : m sl c with
  | bad => rw [e] at P; exact P.elim
  | ok p =>
    obtain ⟨f, sl1, c1⟩ := p
    rw [e] at P
    have P : PostS (if plainF f && plainS sl1 && plainC c1 then .ok (f, sl1, c1) else .bad) (endS Γ z H D) (exS Γ W z H) := P
    by_cases hp : (plainF f && plainS sl1 && plainC c1) = true
    · rw [if_pos hp] at P
      rw [Bool.and_eq_true, Bool.and_eq_true] at hp
      intro z' H' σ' s A'
      have := P _ H' σ' (s.of_with h0) (A'.leave hxa hp.1.2 hp.2)
      cases f with
      | ret v => exact fun y r => this y (r.re hp.1.1)
      | _ => exact this
    · rw [if_neg hp] at P; exact P.elim
  | ex p =>
    obtain ⟨x1, sl1, c1⟩ := p
    rw [e] at P
    have P : PostS (if plainS sl1 && plainC c1 then .ex (x1, sl1, c1) else .bad) (endS Γ z H D) (exS Γ W z H) := P
    by_cases hp : (plainS sl1 && plainC c1) = true
    · rw [if_pos hp] at P
      rw [Bool.and_eq_true] at hp
      exact fun z' H' σ' cl' d' s A' ex' => P _ H' σ' cl' d' (s.of_with h0) (A'.leave hxa hp.1 hp.2) ex'
    · rw [if_neg hp] at P; exact P.elim
def mTryX (p : Str → Bool) (m ms : MS) : MS := fun sl c => match m sl c with
  | .ex (e, sl1, c1) => if p e.cls then outX (ms sl1 c1) else .ex (e, sl1, c1)
  | r => r
theorem w_tryX {v : Value} {p : Str → Bool} {m ms : MS} (hp : ∀ n C, Γ.cls n = some C → PySem.W.exmOne Γ.K (.ref C) v = some (p n)) (hxa : Γ.xa = none) (h : canS Γ W (mTryX p m ms) D σ H) : canS Γ (wOnly Γ.K v (fun a cl d => canS (Γ.sx a cl d) W ms) W D) m D σ H := by
  obtain ⟨z, sl, c, A, P⟩ := h
  refine ⟨z, sl, c, A, ?_⟩
  unfold mTryX at P
  cases e : m sl c with
  | bad => rw [e] at P; exact P.elim
  | ok q => rw [e] at P; exact P
  | ex q =>
    obtain ⟨x, sl1, c1⟩ := q
    rw [e] at P
    have P : PostS (if p x.cls then outX (ms sl1 c1) else .ex (x, sl1, c1)) (endS Γ z H D) (exS Γ W z H) := P
    intro z' H' σ' cl d s A' ex
    obtain ⟨C, dd, xs, hC, rfl, _⟩ := id ex
    refine ⟨p x.cls, hp _ C hC, fun hb a _ => ?_, fun hb => ?_⟩
    · rw [if_pos hb] at P
      exact suiteX hxa A' ex (P.later s A'.rl)
    · rw [if_neg (by rw [hb]; exact Bool.false_ne_true)] at P
      exact P z' H' σ' _ d s A' ex
theorem d_tryX {x : Str} {v : Value} {p : Str → Bool} {body suite : List Stmt} {b₀ : Stmt} {np pos pos' : Pos} {m ms : MS} (hK : X.K = Γ.K) (hp : ∀ n C, Γ.cls n = some C → PySem.W.exmOne Γ.K (.ref C) v = some (p n)) (hxa : Γ.xa = none)
    (hs : X.stack = X.env :: X.outer) (hf : X.env.frame = some X.env.locals) (hc : Names X x v) (hpa : ∀ hd : Option Value, PassesOwnAt (model X.prog X.w) (X.A.mark hd) X.A X.env X.xe) (tk : L2.Takes X W)
    (hb : ∀ (W' : WX) (pn : List (Addr × Obj)) (xe : Value → Shared → Prop), L2N.Takes (X.tr pn xe) W' → PassesOwn (model X.prog X.w) X.A X.env xe → PSs (X.tr pn xe) body (canS Γ W' m))
    (hsu : ∀ (a : Addr) (oe : Obj) (cls : Value) (d : Option Addr) (pn : List (Addr × Obj)), L2.Takes (L2H.suiteX X a ((a, oe) :: pn)) W → HotC (L2H.suiteX X a ((a, oe) :: pn)) → PSs (L2H.suiteX X a ((a, oe) :: pn)) (b₀ :: suite) (canS (Γ.sx a cls d) W ms)) :
    PS X (.Try body [.ExceptHandler (some (.Name x np)) none (b₀ :: suite) pos'] [] [] pos) (canS Γ W (mTryX p m ms)) :=
  (ps_try_onlyX (tb := fun W' => canS Γ W' m) (ts := fun a cl d => canS (Γ.sx a cl d) W ms) hs hf hc hpa tk (fun W' pn xe t1 t2 pw => hb W' pn xe t1 pw) fun a oe cls d pn hz hv t1 hot => hsu a oe cls d pn t1 hot).wk fun D σ H h => by rw [hK]; exact w_tryX hp hxa h
/-! several clauses, calm suites -/
abbrev Hn := (Str → Bool) × Option Nat × MS
def hdl : List Hn → Exc → Sl → Cf → RsS
  | [], e, sl, c => .ex (e, sl, c)
  | (p, none, ms) :: r, e, sl, c => if p e.cls then outC none (ms sl c) else hdl r e sl c
  | (p, some i, ms) :: r, e, sl, c => if p e.cls then outC (some i) (ms (sl.set i (some (.exc e))) c) else hdl r e sl c
def mTry (hs : List Hn) (m : MS) : MS := fun sl c => match m sl c with
  | .ex (e, sl1, c1) => hdl hs e sl1 c1
  | r => r
inductive HR (Γ : Gm) : List Hn → List Hd → Prop
  | nil : HR Γ [] []
  | cons {p : Str → Bool} {oi : Option Nat} {ms : MS} {v : Value} {r : List Hn} {l : List Hd} (hp : ∀ n C, Γ.cls n = some C → PySem.W.exmOne Γ.K (.ref C) v = some (p n)) (h : HR Γ r l) : HR Γ ((p, oi, ms) :: r) ((v, oi, fun a cl d => canS (Γ.sx a cl d) WF ms) :: l)
theorem suiteC {m : MS} {a : Addr} {x : Exc} {cl : Value} {d : Option Addr} (hxa : Γ.xa = none) (A : At Γ z sl c σ H) (ex : ExAt Γ z.F H x cl d) (P : PostS (outC none (m sl c)) (endS Γ z H D) (exS Γ W z H)) : canS (Γ.sx a cl d) WF m D σ H := by
  refine ⟨z.with (some (a, cl, d, x)), sl, c, A.enter hxa ex, ?_⟩
  have h0 := A.xa0 hxa
  cases e : m sl c with
  | bad => rw [e] at P; exact P.elim
  | ex p => rw [e] at P; exact P.elim
  | ok p =>
    obtain ⟨f, sl1, c1⟩ := p
    rw [e] at P
    have P : PostS (if plainF f && plainS sl1 && plainC c1 then .ok (f, sl1, c1) else .bad) (endS Γ z H D) (exS Γ W z H) := P
    by_cases hp : (plainF f && plainS sl1 && plainC c1) = true
    · rw [if_pos hp] at P
      rw [Bool.and_eq_true, Bool.and_eq_true] at hp
      intro z' H' σ' s A'
      have := P _ H' σ' (s.of_with h0) (A'.leave hxa hp.1.2 hp.2)
      cases f with
      | ret v => exact fun y r => this y (r.re hp.1.1)
      | _ => exact this
    · rw [if_neg hp] at P; exact P.elim
theorem suiteAs {m : MS} {i : Nat} {a : Addr} {x : Exc} {cl : Value} {d : Option Addr} (hxa : Γ.xa = none) (A : At Γ z sl c σ H) (ex : ExAt Γ z.F H x cl d) (P : PostS (outC (some i) (m (sl.set i (some (.exc x))) c)) (endS Γ z H D) (exS Γ W z H)) : canS (Γ.sx a cl d) WF m (dOut i D) (σ.set i (some (.ref a))) H := by
  have A1 := (A.enter (a := a) hxa ex).set (x := .ref a) i (v := .exc x) ⟨a, cl, d, rfl, rfl⟩
  refine ⟨z.with (some (a, cl, d, x)), _, c, A1, ?_⟩
  have h0 := A.xa0 hxa
  cases e : m (sl.set i (some (.exc x))) c with
  | bad => rw [e] at P; exact P.elim
  | ex p => rw [e] at P; exact P.elim
  | ok p =>
    obtain ⟨f, sl1, c1⟩ := p
    rw [e] at P
    have P : PostS (if plainF f && plainS (sl1.set i none) && plainC c1 then .ok (f, sl1.set i none, c1) else .bad) (endS Γ z H D) (exS Γ W z H) := P
    by_cases hp : (plainF f && plainS (sl1.set i none) && plainC c1) = true
    · rw [if_pos hp] at P
      rw [Bool.and_eq_true, Bool.and_eq_true] at hp
      intro z' H' σ' s A'
      have A2 : At (Γ.sx a cl d) z' (sl1.set i none) c1 (σ'.set i none) H' := A'.wipe i
      have := P _ H' _ (s.of_with h0) (A2.leave hxa hp.1.2 hp.2)
      cases f with
      | ret v => exact fun y r => this y (r.re hp.1.1)
      | _ => exact this
    · rw [if_neg hp] at P; exact P.elim
theorem w_hdl {hs : List Hn} {l : List Hd} (hr : HR Γ hs l) (hxa : Γ.xa = none) {x : Exc} {cl : Value} {d : Option Addr} (A : At Γ z sl c σ H) (ex : ExAt Γ z.F H x cl d) (P : PostS (hdl hs x sl c) (endS Γ z H D) (exS Γ W z H)) : wMix Γ.K W D l cl d σ H := by
  induction hr with
  | nil => exact P z H σ cl d .refl A ex
  | @cons p oi ms v r l hp h ih =>
    obtain ⟨C, dd, xs, hC, ecl, _⟩ := id ex
    have hp' := hp _ C hC
    rw [← ecl] at hp'
    cases oi with
    | none =>
      have P : PostS (if p x.cls then outC none (ms sl c) else hdl r x sl c) (endS Γ z H D) (exS Γ W z H) := P
      refine ⟨p x.cls, hp', fun hb a _ => ?_, fun hb => ?_⟩
      · rw [if_pos hb] at P
        exact suiteC hxa A ex P
      · rw [if_neg (by rw [hb]; exact Bool.false_ne_true)] at P
        exact ih P
    | some i =>
      have P : PostS (if p x.cls then outC (some i) (ms (sl.set i (some (.exc x))) c) else hdl r x sl c) (endS Γ z H D) (exS Γ W z H) := P
      refine ⟨p x.cls, hp', fun hb a _ => ?_, fun hb => ?_⟩
      · rw [if_pos hb] at P
        exact suiteAs hxa A ex P
      · rw [if_neg (by rw [hb]; exact Bool.false_ne_true)] at P
        exact ih P
theorem w_try {hs : List Hn} {l : List Hd} {m : MS} (hr : HR Γ hs l) (hxa : Γ.xa = none) (h : canS Γ W (mTry hs m) D σ H) : canS Γ (wMix Γ.K W D l) m D σ H := by
  obtain ⟨z, sl, c, A, P⟩ := h
  refine ⟨z, sl, c, A, ?_⟩
  unfold mTry at P
  cases e : m sl c with
  | bad => rw [e] at P; exact P.elim
  | ok q => rw [e] at P; exact P
  | ex q =>
    obtain ⟨x, sl1, c1⟩ := q
    rw [e] at P
    have P : PostS (hdl hs x sl1 c1) (endS Γ z H D) (exS Γ W z H) := P
    exact fun z' H' σ' cl d s A' ex => w_hdl hr hxa A' ex (P.later s A'.rl)
theorem d_try {body : List Stmt} {h₀ : ExceptHandler} {hds : List ExceptHandler} {l : List Hd} {hns : List Hn} {m : MS} (hK : X.K = Γ.K) (hr : HR Γ hns l) (hxa : Γ.xa = none) (hs : X.stack = X.env :: X.outer) (hf : X.env.frame = some X.env.locals) (hN : X.N.Nodup) (tk : Takes X W)
    (hb : ∀ (W' : WX) (pn : List (Addr × Obj)) (xe : Value → Shared → Prop), Takes (X.tr pn xe) W' → PassesOwn (model X.prog X.w) X.A X.env xe → PSs (X.tr pn xe) body (canS Γ W' m))
    (hh : HdsM X (h₀ :: hds) l) : PS X (.Try body (h₀ :: hds) [] [] pos) (canS Γ W (mTry hns m)) :=
  (ps_try_mix (tb := fun W' => canS Γ W' m) hs hf hN tk hb hh).wk fun D σ H h => by rw [hK]; exact w_try hr hxa h
/-! ### in a suite: e.f, isinstance(e, C) -/
def mExF (cn : Str) (k : Nat) (me : ME) : ME := fun sl c => (me sl c).bind fun r => match r.1 with
  | .exc e => if e.cls = cn then (match e.args[k]? with | some d => .ok (.da d, r.2) | none => .bad) else .bad
  | _ => .bad
theorem lookup_zip {f : Str} : ∀ {fl : List Str} {xs : List V} {k : Nat} {x : V}, fl.Nodup → fl[k]? = some f → xs[k]? = some x → (fl.zip xs).lookup f = some x
  | [], _, _, _, _, h, _ => by rw [List.getElem?_nil] at h; cases h
  | g :: fl, [], _, _, _, _, h => by rw [List.getElem?_nil] at h; cases h
  | g :: fl, y :: xs, 0, x, _, h1, h2 => by
    rw [List.getElem?_cons_zero] at h1 h2
    cases h1
    cases h2
    rw [List.zip_cons_cons, List.lookup_cons, beq_self_eq_true]
  | g :: fl, y :: xs, k + 1, x, n, h1, h2 => by
    rw [List.getElem?_cons_succ] at h1 h2
    have hne : (f == g) = false := by
      refine beq_false_of_ne fun e => ?_
      subst e
      exact (List.nodup_cons.mp n).1 (List.mem_of_getElem? h1)
    rw [List.zip_cons_cons, List.lookup_cons, hne]
    exact lookup_zip (List.nodup_cons.mp n).2 h1 h2
theorem At.exc {a : Addr} {cl : Value} {d : Option Addr} (A : At (Γ.sx a cl d) z sl c σ H) {x : V} {e : Exc} (r : RV z x (.exc e)) : x = .ref a ∧ ExAt Γ z.F H e cl d := by
  obtain ⟨a', cl', d', h, rfl⟩ := r
  have q := A.xa
  rw [h] at q
  have q : some (a', cl', d') = some (a, cl, d) := q
  cases q
  exact ⟨rfl, A.rl.exc _ _ _ _ h⟩
theorem w_exF {a C : Addr} {cl : Value} {d : Option Addr} {cn f : Str} {k : Nat} {me : ME} {Q : VK} (hC : Γ.cls cn = some C) (hn : (Γ.fld cn).Nodup) (hk : (Γ.fld cn)[k]? = some f) (h : canE (Γ.sx a cl d) W (mExF cn k me) σ H Q) : tXf a cl d C f (canE (Γ.sx a cl d) W me) σ H Q := by
  obtain ⟨z, sl, c, A, P⟩ := h
  unfold mExF at P
  rw [post_bind] at P
  refine canE.run A P fun v c1 z1 H1 x P1 s1 A1 r1 => ?_
  cases v with
  | exc e =>
    have P1 : Post (if e.cls = cn then (match e.args[k]? with | some d => .ok (.da d, c1) | none => .bad) else .bad) (okE (Γ.sx a cl d) z H Q) (exE (Γ.sx a cl d) W z H σ) := P1
    by_cases hcn : e.cls = cn
    · rw [if_pos hcn] at P1
      obtain ⟨ex, C', dd, xs, h1, h2, h3, h4, h5, h6⟩ := A1.exc r1
      rw [hcn, hC] at h1
      cases h1
      rw [hcn] at h4 h5
      cases e2 : e.args[k]? with
      | none => rw [e2] at P1; exact P1.elim
      | some u =>
        rw [e2] at P1
        obtain ⟨y, hy, hd⟩ := h6.get e2
        exact ⟨ex, h2, dd, _, y, h3, h5, lookup_zip hn hk hy, P1 z1 H1 y s1 A1.rl hd⟩
    · rw [if_neg hcn] at P1; exact P1.elim
  | _ => exact P1.elim
theorem d_exF {a C : Addr} {oe : Obj} {cls : Value} {d : Option Addr} {pn : List (Addr × Obj)} {cn f : Str} {k : Nat} {me : ME} (hC : Γ.cls cn = some C) (hn : (Γ.fld cn).Nodup) (hk : (Γ.fld cn)[k]? = some f) (T : XfC X.K C) (hno : PySem.W.findIn X.K (.ref C) f = some none)
    (hz : Zc cls d oe) (hf : ∃ vs, oe.data = .fields vs) (he : PE (X.suite a ((a, oe) :: pn)) e (canE (Γ.sx a cls d) W me)) (hb : attributeBase e f X.env (eval e X.env) = eval e X.env := by rfl) :
    PE (X.suite a ((a, oe) :: pn)) (.Attribute e f pos) (canE (Γ.sx a cls d) W (mExF cn k me)) := (pe_xf T hno hz hf he hb).wk fun σ H Q h => w_exF hC hn hk h
def mExI (g : Str → Option Bool) (me : ME) : ME := fun sl c => (me sl c).bind fun r => match r.1 with
  | .exc e => match g e.cls with
    | some b => .ok (.da (.bool b), r.2)
    | none => .bad
  | _ => .bad
theorem w_exI {a : Addr} {cl : Value} {d : Option Addr} {g : Str → Option Bool} {v : V} {cv : Value} {me : ME} {Q : VK} (hv : ∀ u, RelV v u → u = cv) (hg : ∀ n D b, Γ.cls n = some D → g n = some b → ExcC Γ.K D ∧ PySem.W.kitOne Γ.K (.ref D) cv = some b)
    (h : canE (Γ.sx a cl d) W (mExI g me) σ H Q) : tCB (rIsX Γ.K a cl d) (tCons (canE (Γ.sx a cl d) W me) (tCons (tC v) tNil)) σ H Q := by
  obtain ⟨z, sl, c, A, P⟩ := h
  unfold mExI at P
  rw [post_bind] at P
  refine canE.run A P fun u c1 z1 H1 x P1 s1 A1 r1 => ?_
  cases u with
  | exc e =>
    have P1 : Post (match g e.cls with | some b => .ok (.da (.bool b), c1) | none => .bad) (okE (Γ.sx a cl d) z H Q) (exE (Γ.sx a cl d) W z H σ) := P1
    obtain ⟨ex, C', dd, xs, h1, h2, h3, h4, h5, h6⟩ := A1.exc r1
    cases e2 : g e.cls with
    | none => rw [e2] at P1; exact P1.elim
    | some b =>
      rw [e2] at P1
      obtain ⟨g1, g2⟩ := hg _ _ _ h1 e2
      exact ⟨C', dd, _, v, cv, b, by rw [ex], h2, h3, h5, g1, hv, g2, P1 z1 H1 _ s1 A1.rl (Da.bl _)⟩
  | _ => exact P1.elim
theorem d_exI {a : Addr} {oe : Obj} {cls : Value} {d : Option Addr} {pn : List (Addr × Obj)} {g : Str → Option Bool} {v : V} {cv : Value} {T : Str} {me : ME} {p p2 : Pos} (hK : X.K = Γ.K) (hz : Zc cls d oe) (hf : ∃ vs, oe.data = .fields vs) (hv : ∀ u, RelV v u → u = cv)
    (hg : ∀ n D b, Γ.cls n = some D → g n = some b → ExcC Γ.K D ∧ PySem.W.kitOne Γ.K (.ref D) cv = some b) (hgi : Gl X "isinstance") (hmi : X.mg "isinstance" = none) (he : PE (X.suite a ((a, oe) :: pn)) e (canE (Γ.sx a cls d) W me)) (ht : PE (X.suite a ((a, oe) :: pn)) (.Name T p2) (tC v))
    (hs : starEach [e, .Name T p2] X.env = (false, eval e X.env) :: starEach [.Name T p2] X.env := by rfl) (hs2 : starEach [.Name T p2] X.env = (false, eval (.Name T p2) X.env) :: starEach [] X.env := by rfl) (hpl : (backTo pos (starEach [.Name T p2] X.env)).any (·.1) = false := by rfl) :
    PE (X.suite a ((a, oe) :: pn)) (.Call (.Name "isinstance" p) [e, .Name T p2] [] pos) (canE (Γ.sx a cls d) W (mExI g me)) :=
  (pe_callB (X := X.suite a ((a, oe) :: pn)) (call_isX (X := X) hz hf) hgi hmi PyProof.Rows.boot_isinstance (pa_cons he (pa_cons ht pa_nil hs2) hs) (by decide) (by decide) hs hpl).wk fun σ H Q h => by
    show tCB (rIsX X.K a cls d) _ σ H Q
    rw [hK]; exact w_exI hv hg h
end
end PM
end
section
/-! PM8: join, how many unlike things, max with a default, repr, calls by name, the tape's making, the law. -/
namespace PM
open PySem PySem.Spec PyProof.Rows L2 L2H DL
section
variable {Γ : Gm} {W : WX} {X : Cx} {z z1 z' : Cz} {H H1 H' : Hp} {σ : L2.St} {sl sl' : Sl} {c c1 c' : Cf} {D : Ends} {e o a : Expr} {pos : Pos}
/-! ### join -/
def strsOf : List Vv → Option (List Str)
  | [] => some []
  | .da (.str i) :: r => (strsOf r).map (i :: ·)
  | _ => none
theorem strs_at {xs : List V} : ∀ {l : List Vv} {ns : List Str}, RVs z xs l → strsOf l = some ns → xs = ns.map V.str := by
  intro l
  induction l generalizing xs with
  | nil => intro ns h e; cases h; cases e; rfl
  | cons v l ih =>
    intro ns h e
    cases h with
    | cons h t =>
      cases v with
      | da d =>
        cases d with
        | str i =>
          simp only [strsOf] at e
          cases e1 : strsOf l with
          | none => rw [e1] at e; cases e
          | some ns' =>
            rw [e1] at e
            cases e
            rw [ih t e1, Da.str' h]
            rfl
        | _ => simp [strsOf] at e
      | _ => simp [strsOf] at e
def mJoin (mo me : ME) : ME := fun sl c => (mo sl c).bind fun r => match r.1 with
  | .da (.str a) => (me sl r.2).bind fun r' => .opt (((tuOf r'.1).or (lsOf r'.2 r'.1)).bind fun l => (strsOf l).bind fun ys => if (ys.map (·.length)).sum + ys.length * a.length ≤ 16777216 then some (.da (.str (Txt.join a ys)), r'.2) else none)
  | _ => .bad
theorem d_join {mo me : ME} {apos : Pos} (hK : X.K = Γ.K) (ho : PE X o (canE Γ W mo)) (he : PE X e (canE Γ W me)) (hs : starEach [e] X.env = [(false, eval e X.env)] := by rfl) (hbase : attributeBase o "join" X.env (eval o X.env) = eval o X.env := by rfl) (hline : (apos.endLine == pos.line) = true := by rfl) :
    PE X (.Call (.Attribute o "join" apos) [e] [] pos) (canE Γ W (mJoin mo me)) := (pe_join ho he hs hbase hline).wk fun σ H Q h => by
  obtain ⟨z, sl, c, A, P⟩ := h
  unfold mJoin at P
  rw [post_bind] at P
  refine canE.run A P fun v c1 z1 H1 x P1 s1 A1 r1 => ?_
  cases v with
  | da d =>
    cases d with
    | str a =>
      refine ⟨⟨a, Da.str' r1⟩, ?_⟩
      have P1 : Post ((me sl c1).bind fun r' => .opt (((tuOf r'.1).or (lsOf r'.2 r'.1)).bind fun l => (strsOf l).bind fun ys => if (ys.map (·.length)).sum + ys.length * a.length ≤ 16777216 then some (.da (.str (Txt.join a ys)), r'.2) else none)) (okE Γ z H Q) (exE Γ W z H σ) := P1
      rw [post_bind] at P1
      refine canE.run A1 (P1.laterX s1 A1.rl) fun w c2 z2 H2 y P2 s2 A2 r2 => ?_
      obtain ⟨u, c3, e3, q⟩ := post_opt P2
      have e3 : ((tuOf w).or (lsOf c2 w)).bind (fun l => (strsOf l).bind fun ys => if (ys.map (·.length)).sum + ys.length * a.length ≤ 16777216 then some (.da (.str (Txt.join a ys)), c2) else none) = some (u, c3) := e3
      cases e4 : (tuOf w).or (lsOf c2 w) with
      | none => rw [e4] at e3; cases e3
      | some l =>
        rw [e4, Option.bind_some] at e3
        cases e5 : strsOf l with
        | none => rw [e5] at e3; cases e3
        | some ys =>
          rw [e5, Option.bind_some] at e3
          by_cases hz : (ys.map (·.length)).sum + ys.length * a.length ≤ 16777216
          · rw [if_pos hz] at e3
            cases e3
            have hq : ∃ p xs, y = .ref p ∧ (SqL X.K H2 p xs ∨ SqT X.K H2 p xs) ∧ RVs z2 xs l := by
              cases e6 : tuOf w with
              | some l' =>
                rw [e6] at e4
                cases e4
                obtain ⟨p, xs, rfl, hp, hl⟩ := tu_at A2.rl r2 e6
                exact ⟨p, xs, rfl, .inr (.inl (.inl hp)), hl⟩
              | none =>
                rw [e6] at e4
                obtain ⟨p, xs, rfl, hp, hl⟩ := ls_at A2.rl r2 e4
                exact ⟨p, xs, rfl, .inl (.inl (.inl hp)), hl⟩
            obtain ⟨p, xs, rfl, hp, hl⟩ := hq
            rw [strs_at hl e5] at hp
            exact ⟨a, p, ys, Da.str' r1, rfl, hp, hz, q z2 H2 _ (s1.trans A1.rl s2) A2.rl (Da.str _)⟩
          · rw [if_neg hz] at e3; cases e3
    | _ => exact P1.elim
  | _ => exact P1.elim
/-! ### len(set(xs)) -/
def intsD : List PyData → Option (List Int)
  | [] => some []
  | .int i :: r => (intsD r).map (i :: ·)
  | _ => none
theorem intsD_at : ∀ {ds : List PyData} {ns : List Int}, intsD ds = some ns → ds = ns.map PyData.int
  | [], ns, e => by cases e; rfl
  | d :: ds, ns, e => by
    cases d with
    | int i =>
      simp only [intsD] at e
      cases e1 : intsD ds with
      | none => rw [e1] at e; cases e
      | some ns' =>
        rw [e1] at e
        cases e
        rw [intsD_at e1]
        rfl
    | _ => simp [intsD] at e
def tupsOf : List Vv → Option (List (List Int))
  | [] => some []
  | .da (.tuple ds) :: r => (intsD ds).bind fun ns => (tupsOf r).map (ns :: ·)
  | _ => none
theorem tups_at (R : Rl Γ z H c) {xs : List V} : ∀ {l : List Vv} {ks : List (List Int)}, RVs z xs l → tupsOf l = some ks → ∃ ps : List (Addr × List Int), xs = ps.map (fun p => V.ref p.1) ∧ (∀ p ∈ ps, SqT Γ.K H p.1 (p.2.map V.int)) ∧ ps.map (·.2) = ks := by
  intro l
  induction l generalizing xs with
  | nil => intro ks h e; cases h; cases e; exact ⟨[], rfl, fun p hp => absurd hp List.not_mem_nil, rfl⟩
  | cons v l ih =>
    intro ks h e
    cases h with
    | cons h t =>
      cases v with
      | da d =>
        cases d with
        | tuple ds =>
          simp only [tupsOf] at e
          cases e0 : intsD ds with
          | none => rw [e0] at e; cases e
          | some ns =>
            rw [e0, Option.bind_some] at e
            cases e1 : tupsOf l with
            | none => rw [e1] at e; cases e
            | some ks' =>
              rw [e1] at e
              cases e
              obtain ⟨ps, rfl, h2, h3⟩ := ih t e1
              obtain ⟨a, ys, rfl, ha, hl⟩ := Da.tup' h
              rw [intsD_at e0] at hl
              rw [da_ints hl] at ha
              refine ⟨(a, ns) :: ps, rfl, fun p hp => ?_, by rw [List.map_cons, h3]⟩
              rcases List.mem_cons.mp hp with rfl | hp
              · exact .inl (.inl (R.inc _ _ ha))
              · exact h2 p hp
        | _ => simp [tupsOf] at e
      | _ => simp [tupsOf] at e
def pLenSet (l : List Vv) : Option Nat := match intsOf l with
  | some ns => if ns.length < 64 then some (ddl ns).length else none
  | none => match tupsOf l with
    | some ks => if ks.length < 64 then some (ddl ks).length else none
    | none => none
def mLenSet (me : ME) : ME := fun sl c => (me sl c).bind fun r => .opt ((lsOf r.2 r.1).bind fun l => (pLenSet l).map fun n => (.da (.int n), r.2))
theorem d_lenSet {me : ME} {p p2 q : Pos} (hK : X.K = Γ.K) (hc : X.calm = true) (hu : X.A.units + 64 < cLine) (hg : Gl X "len") (hm : X.mg "len" = none) (hg2 : Gl X "set") (hm2 : X.mg "set" = none) (ha : PE X a (canE Γ W me))
    (na : starEach [a] X.env = (false, eval a X.env) :: starEach [] X.env := by rfl) : PE X (.Call (.Name "len" p) [.Call (.Name "set" p2) [a] [] q] [] pos) (canE Γ W (mLenSet me)) := (pe_lenSet hc hu hg hm hg2 hm2 ha na).wk fun σ H Q h => by
  obtain ⟨z, sl, c, A, P⟩ := h
  unfold mLenSet at P
  rw [post_bind] at P
  refine canE.run A P fun v c1 z1 H1 x P1 s1 A1 r1 => ?_
  obtain ⟨u, c2, e1, q⟩ := post_opt P1
  have e1 : (lsOf c1 v).bind (fun l => (pLenSet l).map fun n => (Vv.da (.int n), c1)) = some (u, c2) := e1
  cases e2 : lsOf c1 v with
  | none => rw [e2] at e1; cases e1
  | some l =>
    rw [e2, Option.bind_some] at e1
    cases e3 : pLenSet l with
    | none => rw [e3] at e1; cases e1
    | some n =>
      rw [e3] at e1
      cases e1
      obtain ⟨p, xs, rfl, hp, hl⟩ := ls_at A1.rl r1 e2
      have fin := q z1 H1 (.int n) s1 A1.rl (Da.int _)
      unfold pLenSet at e3
      refine ⟨p, rfl, ?_⟩
      cases e4 : intsOf l with
      | some ns =>
        simp only [e4] at e3
        by_cases hz : ns.length < 64
        · rw [if_pos hz] at e3
          cases e3
          rw [ints_at hl e4] at hp
          exact .inl ⟨ns, .inl (.inl hp), hz, fin⟩
        · rw [if_neg hz] at e3; cases e3
      | none =>
        simp only [e4] at e3
        cases e5 : tupsOf l with
        | none => simp only [e5] at e3; cases e3
        | some ks =>
          simp only [e5] at e3
          by_cases hz : ks.length < 64
          · rw [if_pos hz] at e3
            cases e3
            obtain ⟨ps, rfl, h2, rfl⟩ := tups_at A1.rl hl e5
            exact .inr ⟨ps, .inl (.inl hp), by rw [hK]; exact h2, by rw [List.length_map] at hz; exact hz, fin⟩
          · rw [if_neg hz] at e3; cases e3
/-! ### max(t, default=e) -/
def mMaxDf (me mk : ME) : ME := fun sl c => (me sl c).bind fun r => (mk sl r.2).bind fun r' => match r.1, r'.1 with
  | .da (.tuple ds), .da (.int d) => .opt ((intsD ds).map fun ns => (.da (.int ((maxI ns).getD d)), r'.2))
  | _, _ => .bad
theorem d_maxDf {me mk : ME} {p kp : Pos} (hK : X.K = Γ.K) (hc : X.calm = true) (hu : X.A.units + 64 < cLine) (hg : Gl X "max") (hm : X.mg "max" = none) (ha : PE X a (canE Γ W me)) (hk : PE X e (canE Γ W mk))
    (he : starEach [a] X.env = (false, eval a X.env) :: starEach [] X.env := by rfl) (he2 : backTo pos (starEach [a] X.env) = (false, eval a X.env) :: backTo pos (starEach [] X.env) := by rfl) (hpl : ((backTo pos (starEach [a] X.env)).any fun x => x.1) = false := by rfl) :
    PE X (.Call (.Name "max" p) [a] [⟨some "default", e, kp⟩] pos) (canE Γ W (mMaxDf me mk)) := (pe_callBK (cr_maxDf hc hu) hg hm PyProof.Rows.boot_max (pa_cons ha pa_nil he) (pk_cons hk pk_nil) (by decide) (by decide) he2 hpl).wk fun σ H Q h => by
  obtain ⟨z, sl, c, A, P⟩ := h
  unfold mMaxDf at P
  rw [post_bind] at P
  refine canE.run A P fun v c1 z1 H1 x P1 s1 A1 r1 => ?_
  rw [post_bind] at P1
  refine canE.run A1 (P1.laterX s1 A1.rl) fun w c2 z2 H2 y P2 s2 A2 r2 => ?_
  replace P2 : Post (match v, w with | .da (.tuple ds), .da (.int d) => .opt ((intsD ds).map fun ns => (.da (.int ((maxI ns).getD d)), c2)) | _, _ => .bad) (okE Γ z H Q) (exE Γ W z H σ) := P2
  split at P2
  · rename_i ds d
    obtain ⟨u, c3, e3, q⟩ := post_opt P2
    cases e4 : intsD ds with
    | none => rw [e4] at e3; cases e3
    | some ns =>
      rw [e4] at e3
      cases e3
      obtain ⟨p, xs, rfl, hp, hl⟩ := Da.tup' r1
      rw [intsD_at e4] at hl
      rw [da_ints hl] at hp
      have fin := q z2 H2 (.int ((maxI ns).getD d)) (s1.trans A1.rl s2) A2.rl (Da.int _)
      rw [Da.int' r2]
      refine ⟨p, ns, .int d, rfl, rfl, .inl (.inl (A2.rl.inc _ _ (s2.ext _ _ hp))), fun e => ?_, fun n r e => ?_⟩
      · subst e; exact fin
      · subst e; exact fin
  · exact P2.elim
/-! ### repr -/
def isRefD : PyData → Bool
  | .list _ => true
  | .tuple _ => true
  | _ => false
def pRepr : List Vv → Cf → Option (Vv × Cf)
  | [v], c => (fz fzN v c).bind fun r => if isRefD r.1 && r.1.showable && !r.1.hasDict && decide (r.1.depth ≤ 60) && decide (r.1.shown.length ≤ 100000) then some (.da (.str r.1.shown), r.2) else none
  | _, _ => none
theorem k_repr : OkCB Γ (rReprD Γ.K) pRepr := by
  intro z H c xs vs u c' R rv e Q q
  unfold pRepr at e
  split at e
  · replace rv := rv.one; obtain ⟨x, rfl, rv⟩ := rv
    rename_i v
    cases e1 : fz fzN v c with
    | none => rw [e1] at e; cases e
    | some p =>
      obtain ⟨d, c2⟩ := p
      rw [e1, Option.bind_some] at e
      obtain ⟨z2, s2, R2, g2, _⟩ := fz_ok fzN z H c x v d c2 R rv e1
      split at e
      · rename_i hz
        cases e
        simp only [Bool.and_eq_true, Bool.not_eq_true', decide_eq_true_eq] at hz
        obtain ⟨⟨⟨⟨h1, h2⟩, h3⟩, h4⟩, h5⟩ := hz
        have hx : ∃ p, x = .ref p := by
          cases d with
          | list ds => obtain ⟨a, _, rfl, _⟩ := Da.lst' g2; exact ⟨a, rfl⟩
          | tuple ds => obtain ⟨a, _, rfl, _⟩ := Da.tup' g2; exact ⟨a, rfl⟩
          | _ => cases h1
        obtain ⟨p, rfl⟩ := hx
        exact ⟨p, d, rfl, Da.dp d (Da.mono R2.inc d g2), h2, h3, h4, sz1000 h5, q z2 H _ s2 R2 (Da.str _)⟩
      · cases e
  · cases e
/-! ### calls by name -/
section
variable {G : Around → Prop} {CX : CXT} {k : Nat} {f : Addr} {fd : FuncData} {ps ks : List Str} {sp : Sp} {E : L2.St → XK} {x : Str} {p : Pos} {es : List Expr} {tk : TA} {kws : List Keyword} {g : List Value → List Value → List Value} {gV : List V → List V → List V}
theorem pe_callPK0 (F : FnP G X.prog X.w X.K X.mg X.base CX k f fd ps sp) (hr : RoomH k X.A) (hG : G X.A) (hg : Gl X x) (hm : X.mg x = some (.ref f)) (hk : PySem.W.keepIn X.K (.ref f) = true) (hb : KBinds X.K fd ps ks g gV) (hx : ∀ σ, PassesAt CX X σ (E σ))
    (hkw : PK X kws tk) (hall : (backToKw pos (keywordEach kws X.env)).all (·.1.isSome) = true := by rfl) (hks : (backToKw pos (keywordEach kws X.env)).filterMap (·.1) = ks := by rfl) (hdb : (x == ("__debug__" : Str)) = false := by decide)
    (hpl : ((backTo pos (starEach [] X.env)).any (·.1) || (backToKw pos (keywordEach kws X.env)).any (·.1.isNone)) = false := by rfl) :
    PE X (.Call (.Name x p) [] kws pos) (fun σ H Q => tk σ H fun zs H1 => sp (gV [] zs) H1 Q (E σ)) := by
  refine ⟨fun pins s σ H Q I h => ?_⟩
  refine wpAny_Call_Name_kw (ld_glob I hg hm ?_ hdb)
  refine PySem.W.callWith_KW0 (h₀ := X.base) I.ok.mod.kin hk hall (thn (hkw.run pos pins s σ H _ I h) fun ws s2 ⟨zs, H2, I2, rz, q2⟩ => ⟨I2.kIn, ?_⟩) hpl
  rw [hks]
  have r2 := hb.rel .nil rz
  have hl : (g [] ws).length = ps.length := by rw [← r2.length]; exact F.len _ _ _ _ q2
  refine wpAny_call (codeAny_mono (F.run X.A X.stack s2 H2 ⟨[], ks.zip ws⟩ (g [] ws) (gV [] zs) Q (E σ) hr hG I2.env0 (hb.to s2 [] ws I2.kIn hl) r2 q2) fun r s' hq => ?_)
  cases r with
  | error e => exact hx σ pins H2 s2 e s' I2 hq
  | ok fl =>
    cases fl with
    | ret u => exact I2.after hq
    | next => exact False.elim hq
    | brk => exact False.elim hq
    | cont => exact False.elim hq
theorem d_k0 : PK X [] (canA Γ W mA0) := ⟨fun pos pins s σ H Q I h => pk_nil.run pos pins s σ H Q I (w_a0 h)⟩
theorem d_k1 {nm : Option Str} {kpos : Pos} {ma : ME} {mr : MA} (ha : PE X e (canE Γ W ma)) (hr : PK X kws (canA Γ W mr)) : PK X (⟨nm, e, kpos⟩ :: kws) (canA Γ W (mA1 ma mr)) := ⟨fun pos pins s σ H Q I h => (pk_cons ha hr).run pos pins s σ H Q I (w_a1 h)⟩
/-- pm: the data in the parameters' order -/
theorem d_callQK {h : List PyData → Rs Exc PyData} {pm : List PyData → List PyData} {ma : MA} (F : FnP G X.prog X.w X.K X.mg X.base CX k f fd ps (spQ Γ.nx h)) (hr : RoomH k X.A) (hG : G X.A) (hg : Gl X x) (hm : X.mg x = some (.ref f)) (hk : PySem.W.keepIn X.K (.ref f) = true) (hb : KBinds X.K fd ps ks g gV) (hpm : ∀ F zs ds, DaL F zs ds → DaL F (gV [] zs) (pm ds)) (hx : ∀ σ, PassesAt CX X σ (WE W σ))
    (hkw : PK X kws (canA Γ W ma)) (hall : (backToKw pos (keywordEach kws X.env)).all (·.1.isSome) = true := by rfl) (hks : (backToKw pos (keywordEach kws X.env)).filterMap (·.1) = ks := by rfl) (hdb : (x == ("__debug__" : Str)) = false := by decide)
    (hpl : ((backTo pos (starEach [] X.env)).any (·.1) || (backToKw pos (keywordEach kws X.env)).any (·.1.isNone)) = false := by rfl) :
    PE X (.Call (.Name x p) [] kws pos) (canE Γ W (mCallQ (fun ds => h (pm ds)) [] ma)) := (pe_callPK0 F hr hG hg hm hk hb hx hkw hall hks hdb hpl).wk fun σ H Q q => by
  have q2 := w_callQ (dvs := []) (fun F => DaL.nil) q
  obtain ⟨z, sl, c, A, P⟩ := q2
  refine ⟨z, sl, c, A, P.imp (fun vs c1 h1 z' H' xs s R r => ?_) fun _ _ h => h⟩
  obtain ⟨F, ds, g1, g2, g3⟩ := h1 z' H' xs s R r
  rw [List.append_nil] at g2
  exact ⟨F, pm ds, g1, hpm F xs ds g2, g3⟩
end
/-! ### the tape is made -/
def tlOf (m : Nat) : List Vv → Option (List (Option Int))
  | [] => some []
  | .ref k :: r => if k = m then (tlOf m r).map (none :: ·) else none
  | .da (.int i) :: r => (tlOf m r).map (some i :: ·)
  | _ => none
def refAt : List Vv → Option Nat
  | [] => none
  | .ref k :: _ => some k
  | _ :: r => refAt r
def tapeOf (c : Cf) (n : Nat) : Option Tp := match c.st[n]? with
  | some (.mu l) => (refAt l).bind fun m => if m = n then none else match c.st[m]? with
    | some (.mu lw) => (intsOf lw).bind fun ws => (tlOf m l).map fun tl => ⟨tl, ws, true⟩
    | _ => none
  | _ => none
theorem tlOf_at {xs : List V} {m : Nat} {w : Addr} (hw : z.as[m]? = some w) : ∀ {l : List Vv} {tl : List (Option Int)}, RVs z xs l → tlOf m l = some tl → xs = tl.map (tpV w) := by
  intro l
  induction l generalizing xs with
  | nil => intro tl h e; cases h; cases e; rfl
  | cons v l ih =>
    intro tl h e
    cases h with
    | cons h r =>
      cases v with
      | ref k =>
        simp only [tlOf] at e
        by_cases hk : k = m
        · rw [if_pos hk] at e
          cases e1 : tlOf m l with
          | none => rw [e1] at e; cases e
          | some q =>
            rw [e1] at e
            cases e
            obtain ⟨b, hb, rfl⟩ := h
            rw [hk, hw] at hb
            cases hb
            rw [ih r e1]
            rfl
        · rw [if_neg hk] at e; cases e
      | da d =>
        cases d with
        | int i =>
          simp only [tlOf] at e
          cases e1 : tlOf m l with
          | none => rw [e1] at e; cases e
          | some q =>
            rw [e1] at e
            cases e
            rw [ih r e1, Da.int' h]
            rfl
        | _ => simp [tlOf] at e
      | _ => simp [tlOf] at e
theorem tape_at (R : Rl Γ z H c) {n : Nat} {x : V} {tp : Tp} (r : RV z x (.ref n)) (e : tapeOf c n = some tp) : ∃ t w, x = .ref t ∧ t ≠ w ∧ t ∈ z.as ∧ w ∈ z.as ∧ H t = some (.lst (tp.tl.map (tpV w))) ∧ H w = some (.lst (tp.wide.map V.int)) ∧ tp.on = true := by
  unfold tapeOf at e
  cases e1 : c.st[n]? with
  | none => rw [e1] at e; cases e
  | some k =>
    rw [e1] at e
    cases k with
    | frz ds => cases e
    | mu l =>
      have e : (refAt l).bind (fun m => if m = n then none else match c.st[m]? with
        | some (.mu lw) => (intsOf lw).bind fun ws => (tlOf m l).map fun tl => ⟨tl, ws, true⟩
        | _ => none) = some tp := e
      cases e2 : refAt l with
      | none => rw [e2] at e; cases e
      | some m =>
        rw [e2, Option.bind_some] at e
        by_cases hm : m = n
        · rw [if_pos hm] at e; cases e
        · rw [if_neg hm] at e
          cases e3 : c.st[m]? with
          | none => rw [e3] at e; cases e
          | some k2 =>
            rw [e3] at e
            cases k2 with
            | frz ds => cases e
            | mu lw =>
              have e : (intsOf lw).bind (fun ws => (tlOf m l).map fun tl => (⟨tl, ws, true⟩ : Tp)) = some tp := e
              cases e4 : intsOf lw with
              | none => rw [e4] at e; cases e
              | some ws =>
                rw [e4, Option.bind_some] at e
                cases e5 : tlOf m l with
                | none => rw [e5] at e; cases e
                | some tl =>
                  rw [e5] at e
                  cases e
                  obtain ⟨t, xs, rfl, h1, h2, h3, h4⟩ := R.at r e1
                  have hlt : m < z.as.length := by rw [R.len]; exact (List.getElem?_eq_some_iff.mp e3).1
                  have hw : z.as[m]? = some z.as[m] := List.getElem?_eq_getElem hlt
                  obtain ⟨w, ys, ew, g1, g2, g3, g4⟩ := R.at (n := m) (x := .ref z.as[m]) ⟨_, hw, rfl⟩ e3
                  cases ew
                  rw [tlOf_at hw h4 e5] at h3
                  rw [ints_at g4 e4] at g3
                  refine ⟨t, _, rfl, fun q => hm (nodup_at R.nd hw (by rw [← q]; exact h1)), List.mem_of_getElem? h1, List.mem_of_getElem? hw, h3, g3, rfl⟩
def fK (k : Nat) (mb : MS) (l : List Int) : Option Tp := match mb (slots k [.scr]) ⟨[], tp0, l⟩ with
  | .ok (.ret (.ref n), _, c) => tapeOf c n
  | _ => none
def spK (Γ : Gm) (g : List Int → Option Tp) : Sp := fun vs H Q E => ∃ (a : Addr) (oo : Option HO) (l : List Int) (tp : Tp), vs = [.ref a] ∧ (∀ o, oo = some o → H a = some o) ∧ (∀ H' : Hp, (∀ o, oo = some o → H' a = some o) → SqL Γ.K H' a (l.map V.int)) ∧ g l = some tp ∧
  ∀ t w H', tp.on = true → t ≠ w → H t = none → H w = none → (∀ b u, H b = some u → H' b = some u) → H' t = some (.lst (tp.tl.map (tpV w))) → H' w = some (.lst (tp.wide.map V.int)) → Q (.ref t) H'
def zS (a : Addr) (o : Option HO) : Cz := ⟨fun _ => none, [], none, some (a, o), none⟩
theorem rl_zS {a : Addr} {o : Option HO} {l : List Int} (h1 : ∀ u, o = some u → H a = some u) (h2 : ∀ H' : Hp, (∀ u, o = some u → H' a = some u) → SqL Γ.K H' a (l.map V.int)) : Rl Γ (zS a o) H ⟨[], tp0, l⟩ := by
  have nm : ∀ b, ¬ Mv (zS a o) b := fun b h => by
    rcases h with h | ⟨t, w, h, _⟩
    · cases h
    · cases h
  refine ⟨fun b u h => (by cases h), List.nodup_nil, rfl, fun i b hi => (by rw [show (zS a o).as = [] from rfl, List.getElem?_nil] at hi; cases hi), fun t w h => (by cases h), fun b u h => ?_, fun b cl d e h => (by cases h), fun _ => rfl⟩
  cases h
  exact ⟨fun u e => ⟨h1 u e, nm _⟩, h2⟩
section
variable {P : Program} {w : World} {K : PySem.W.Frag} {mg : Str → Option Value} {base : Heap} {CX : CXT} {x qual : Str} {st : Stmt} {f : Addr} {fd : FuncData} {N ps : List Str} {k : Nat}
theorem fnK (b : Bool) {G : Around → Prop} (Γ : Gm) (F : Fun K x qual st f fd) (S : FnScope N ps (defScope st)) (k' : Nat) (mb : MS) (hn : ps.length = 1) (hk : N.length - 1 = k') (hxa : Γ.xa = none) (hG : b = true → ∀ A, G A → A.handled = none)
    (hbody : ∀ (cdv : Value) (A : Around) (outer : List Env) (s : Shared) (H : Hp) (E : XK), RoomH k (A.deeper (envOfC qual (defScope st) s.heap.objs.size f cdv)) → G A →
      PSs (cxP b CX P w K mg base N qual (defScope st) f cdv A outer s H E) (defBody st) (canS Γ (WK E) mb)) : FnP G P w K mg base CX (k + 1) f fd ps (spK Γ (fK k' mb)) := by
  refine funP b F S (fun vs H Q E h => by obtain ⟨a, o, l, tp, rfl, _⟩ := h; rw [hn]; rfl) hG fun cdv A outer s H vs Q E hr hg hsp => ⟨_, hbody cdv A outer s H E hr hg, ?_⟩
  obtain ⟨a, o, l, tp, rfl, h1, h2, h3, q⟩ := hsp
  have hs := slots_at (F := fun _ => none) (zz := zS a o) (N := N) (xs := [.ref a]) (vs := [.scr]) (.cons ⟨a, o, rfl, rfl⟩ .nil)
  rw [List.length_singleton, hk] at hs
  unfold fK at h3
  refine ⟨zS a o, _, _, ⟨rl_zS h1 h2, hs, by rw [hxa]; rfl⟩, ?_⟩
  cases e5 : mb (slots k' [.scr]) ⟨[], tp0, l⟩ with
  | bad => rw [e5] at h3; cases h3
  | ex p => rw [e5] at h3; cases h3
  | ok p =>
    obtain ⟨fl, sl', c'⟩ := p
    rw [e5] at h3
    intro z' H' σ' s A
    cases fl with
    | ret v =>
      intro x r
      cases v with
      | ref n =>
        obtain ⟨t, w, rfl, g1, g2, g3, g4, g5, g6⟩ := tape_at A.rl r h3
        have nm : ∀ b, ¬ Mv (zS a o) b := fun b h => by
          rcases h with h | ⟨t, w, h, _⟩
          · cases h
          · cases h
        exact q t w H' g6 g1 (s.mv t (.inl g2) (nm _)) (s.mv w (.inl g3) (nm _)) (fun b u e => s.keep b u e (nm b)) g4 g5
      | _ => cases h3
    | _ => cases h3
end
def mTape (g : List Int → Option Tp) (ma : MA) : ME := fun sl c => (ma sl c).bind fun r => match r.1 with
  | [.scr] => if r.2.tp.on then .bad else match g r.2.sc with
    | some tp => .ok (.tape, { r.2 with tp := tp })
    | none => .bad
  | _ => .bad
theorem w_tape {g : List Int → Option Tp} {ma : MA} {Q : VK} {E : XK} (h : canE Γ W (mTape g ma) σ H Q) : canA Γ W ma σ H (fun vs H1 => spK Γ.nx g (vs ++ []) H1 Q E) := by
  obtain ⟨z, sl, c, A, P⟩ := h
  unfold mTape at P
  rw [post_bind] at P
  refine canA.run A P fun vs c1 z1 H1 xs P1 s1 A1 r1 => ?_
  rw [List.append_nil]
  have P1 : Post (match vs with | [.scr] => (if c1.tp.on then .bad else (match g c1.sc with | some tp => .ok (.tape, { c1 with tp := tp }) | none => .bad)) | _ => .bad) (okE Γ z H Q) (exE Γ W z H σ) := P1
  rcases vs with _ | ⟨v, _ | ⟨v2, r⟩⟩
  · exact P1.elim
  · cases v with
    | scr =>
      have P1 : Post (if c1.tp.on then .bad else match g c1.sc with | some tp => .ok (.tape, { c1 with tp := tp }) | none => .bad) (okE Γ z H Q) (exE Γ W z H σ) := P1
      obtain ⟨y, rfl, r⟩ := r1.one
      obtain ⟨a, o, hS, rfl⟩ := r
      obtain ⟨h1, h3⟩ := A1.rl.scr a o hS
      cases ho : c1.tp.on with
      | true => rw [ho] at P1; exact P1.elim
      | false =>
        rw [ho] at P1
        have P1 : Post (match g c1.sc with | some tp => .ok (.tape, { c1 with tp := tp }) | none => .bad) (okE Γ z H Q) (exE Γ W z H σ) := P1
        cases e2 : g c1.sc with
        | none => rw [e2] at P1; exact P1.elim
        | some tp =>
          rw [e2] at P1
          refine ⟨a, o, c1.sc, tp, rfl, fun o e => (h1 o e).1, h3, e2, fun t w H' hon hne ht hw hk htt hww => ?_⟩
          have hT := A1.rl.tpo ho
          have R := A1.rl
          obtain ⟨ft, mt⟩ := R.fresh ht
          obtain ⟨fw, mw⟩ := R.fresh hw
          have s : Stp z1 H1 { z1 with T := some (t, w) } H' := by
            refine ⟨Same.refl _, ⟨[], (List.append_nil _).symm⟩, fun p h => (by rw [hT] at h; cases h), rfl, rfl, fun b u h _ => hk b u h, fun b h1 h2 => absurd h2 h1, fun b h1 h2 => ?_⟩
            rcases h1 with h1 | ⟨t', w', e, h1⟩
            · exact absurd (.inl h1) h2
            · cases e
              rcases h1 with h1 | h1
              · exact h1 ▸ ht
              · exact h1 ▸ hw
          refine P1 { z1 with T := some (t, w) } H' _ (s1.trans R s) ⟨fun b u h => hk b u (R.inc _ _ h), R.nd, R.len, fun i b hi => ?_, fun t' w' e => ?_, fun b u h => ?_, fun b cl d e hx => ExAt.step R s (R.exc b cl d e hx), fun h => ?_⟩ ⟨t, w, rfl, rfl⟩
          · exact CelAt.mono s (fun h => h) (fun ys h => hk b _ h) (R.cel i b hi)
          · cases e
            exact ⟨hne, fun q => mt (.inl q), fun q => mw (.inl q), ft, fw, htt, hww⟩
          · obtain ⟨g0, g3⟩ := R.scr b u h
            refine ⟨fun o e => ⟨hk _ _ (g0 o e).1, fun q => ?_⟩, g3⟩
            obtain ⟨g1, g2⟩ := g0 o e
            rcases q with q | ⟨t', w', e, q⟩
            · exact g2 (.inl q)
            · cases e
              rcases q with q | q
              · rw [q, ht] at g1; cases g1
              · rw [q, hw] at g1; cases g1
          · have h : tp.on = false := h
            rw [hon] at h; cases h
    | _ => exact P1.elim
  · cases v <;> exact P1.elim
section
variable {G : Around → Prop} {CX : CXT} {k : Nat} {f : Addr} {fd : FuncData} {ps : List Str} {g : List Int → Option Tp} {x : Str} {p : Pos} {es : List Expr} {ma : MA}
theorem d_tape (F : FnP G X.prog X.w X.K X.mg X.base CX k f fd ps (spK Γ.nx g)) (hr : RoomH k X.A) (hG : G X.A) (hg : Gl X x) (hm : X.mg x = some (.ref f)) (hk : PySem.W.keepIn X.K (.ref f) = true) (hb : Binds X.K fd ps []) (hx : ∀ σ, PassesAt CX X σ (WE W σ))
    (ha : PA X (e :: es) (canA Γ W ma)) (hdb : (x == ("__debug__" : Str)) = false := by decide) (he : starEach (e :: es) X.env = (false, eval e X.env) :: starEach es X.env := by rfl) (hpl : (backTo pos (starEach es X.env)).any (·.1) = false := by rfl) :
    PE X (.Call (.Name x p) (e :: es) [] pos) (canE Γ W (mTape g ma)) := (pe_callP F hr hG hg hm hk hb .nil hx ha hdb he hpl).wk fun σ H Q h => w_tape h
end
/-! ### the law -/
def fL (k : Nat) (mb : MS) (l : List Int) : Option Bool := match mb (slots k [.scr]) ⟨[], tp0, l⟩ with
  | .ok (.ret (.da (.bool b)), _, _) => some b
  | _ => none
def spL (Γ : Gm) (g : List Int → Option Bool) : Sp := fun vs H Q E => ∃ (a : Addr) (oo : Option HO) (l : List Int) (b : Bool), vs = [.ref a] ∧ (∀ o, oo = some o → H a = some o) ∧ (∀ H' : Hp, (∀ o, oo = some o → H' a = some o) → SqL Γ.K H' a (l.map V.int)) ∧ g l = some b ∧
  ∀ H', (∀ b u, H b = some u → H' b = some u) → Q (.bl b) H'
section
variable {P : Program} {w : World} {K : PySem.W.Frag} {mg : Str → Option Value} {base : Heap} {CX : CXT} {x qual : Str} {st : Stmt} {f : Addr} {fd : FuncData} {N ps : List Str} {k : Nat}
theorem fnL (b : Bool) {G : Around → Prop} (Γ : Gm) (F : Fun K x qual st f fd) (S : FnScope N ps (defScope st)) (k' : Nat) (mb : MS) (hn : ps.length = 1) (hk : N.length - 1 = k') (hxa : Γ.xa = none) (hG : b = true → ∀ A, G A → A.handled = none)
    (hbody : ∀ (cdv : Value) (A : Around) (outer : List Env) (s : Shared) (H : Hp) (E : XK), RoomH k (A.deeper (envOfC qual (defScope st) s.heap.objs.size f cdv)) → G A →
      PSs (cxP b CX P w K mg base N qual (defScope st) f cdv A outer s H E) (defBody st) (canS Γ (WK E) mb)) : FnP G P w K mg base CX (k + 1) f fd ps (spL Γ (fL k' mb)) := by
  refine funP b F S (fun vs H Q E h => by obtain ⟨a, o, l, tp, rfl, _⟩ := h; rw [hn]; rfl) hG fun cdv A outer s H vs Q E hr hg hsp => ⟨_, hbody cdv A outer s H E hr hg, ?_⟩
  obtain ⟨a, o, l, tp, rfl, h1, h2, h3, q⟩ := hsp
  have hs := slots_at (F := fun _ => none) (zz := zS a o) (N := N) (xs := [.ref a]) (vs := [.scr]) (.cons ⟨a, o, rfl, rfl⟩ .nil)
  rw [List.length_singleton, hk] at hs
  unfold fL at h3
  refine ⟨zS a o, _, _, ⟨rl_zS h1 h2, hs, by rw [hxa]; rfl⟩, ?_⟩
  cases e5 : mb (slots k' [.scr]) ⟨[], tp0, l⟩ with
  | bad => rw [e5] at h3; cases h3
  | ex p => rw [e5] at h3; cases h3
  | ok p =>
    obtain ⟨fl, sl', c'⟩ := p
    rw [e5] at h3
    intro z' H' σ' s A
    cases fl with
    | ret v =>
      intro x r
      cases v with
      | da d =>
        cases d with
        | bool b =>
          cases h3
          have nm : ∀ b, ¬ Mv (zS a o) b := fun b h => by
            rcases h with h | ⟨t, w, h, _⟩
            · cases h
            · cases h
          rw [Da.bl' r]
          exact q H' fun b u e => s.keep b u e (nm b)
        | _ => cases h3
      | _ => cases h3
    | _ => cases h3
end
end
end PM
end
section
/-! PM9: what the printed texts use beside. -/
namespace PM
open PySem PySem.Spec PyProof.Rows L2 L2H DL
/-- how often a while may turn -/
def wF : Nat := 1000000
def clsBody : Stmt → List Stmt
  | .ClassDef (body := b) .. => b
  | _ => []
theorem _root_.L2H.RoomH.at {k : Nat} {A A' : Around} (r : RoomH k A) (hd : A'.depth = A.depth := by rfl) (hu : A'.units = A.units := by rfl) : RoomH k A' := ⟨by rw [hd]; exact r.dp, by rw [hu]; exact r.un⟩
theorem _root_.L2H.RoomH.u64 {k : Nat} {A : Around} (r : RoomH k A) : A.units + 64 < cLine := by have := r.un; omega
theorem _root_.L2H.RoomH.room {k : Nat} {A : Around} (r : RoomH k A) (h : A.handled = none) : Room k A := ⟨h, r.dp, r.un⟩
/-- a try that lets nothing out -/
def noXS (r : RsS) : RsS := match r with
  | .ex _ => .bad
  | r => r
def mTryC (hs : List Hn) (m : MS) : MS := fun sl c => noXS (mTry hs m sl c)
theorem d_tryC {Γ : Gm} {W : WX} {X : Cx} {pos : Pos} {body : List Stmt} {h₀ : ExceptHandler} {hds : List ExceptHandler} {l : List Hd} {hns : List Hn} {m : MS} (hK : X.K = Γ.K) (hr : HR Γ hns l) (hxa : Γ.xa = none) (hs : X.stack = X.env :: X.outer) (hf : X.env.frame = some X.env.locals) (hN : X.N.Nodup)
    (hb : ∀ (W' : WX) (pn : List (Addr × Obj)) (xe : Value → Shared → Prop), Takes (X.tr pn xe) W' → PassesOwn (model X.prog X.w) X.A X.env xe → PSs (X.tr pn xe) body (canS Γ W' m))
    (hh : HdsM X (h₀ :: hds) l) : PS X (.Try body (h₀ :: hds) [] [] pos) (canS Γ W (mTryC hns m)) :=
  (d_try (W := WF) hK hr hxa hs hf hN takes0 hb hh).wk fun D σ H h => by
    obtain ⟨z, sl, c, A, P⟩ := h
    refine ⟨z, sl, c, A, ?_⟩
    have P : PostS (noXS (mTry hns m sl c)) (endS Γ z H D) (exS Γ W z H) := P
    cases e : mTry hns m sl c with
    | ok p => rw [e] at P; exact P
    | ex p => rw [e] at P; exact P.elim
    | bad => rw [e] at P; exact P.elim
/-- range(m, n, -1) -/
def rngDn (m : Int) (n : Nat) : List Vv := (List.range n).map fun k => .da (.int (m + (k : Nat) * (-1)))
section
variable {Γ : Gm} {W : WX} {X : Cx} {z : Cz} {H : Hp} {σ : L2.St}
theorem it_rngDn {m : Int} {n : Nat} : ItOk Γ z H (Itc m (-1) n) (captured (rngDn m n)) := by
  have hl : (rngDn m n).length = n := by unfold rngDn; rw [List.length_map, List.length_range]
  refine ⟨fun z' H' c' i v s R e => ?_, fun z' H' c' i s R e => ?_, fun z' H' c' i v x H2 s R e y => ?_⟩
  · have h : i < (rngDn m n).length := (List.getElem?_eq_some_iff.mp e).1
    rw [hl] at h
    exact h
  · have h : (rngDn m n).length ≤ i := List.getElem?_eq_none_iff.mp e
    rw [hl] at h
    exact h
  · obtain ⟨rfl, rfl⟩ := y
    have h : i < (rngDn m n).length := (List.getElem?_eq_some_iff.mp e).1
    rw [hl] at h
    have e' : (rngDn m n)[i]? = some v := e
    unfold rngDn at e'
    rw [List.getElem?_map, List.getElem?_range h] at e'
    cases e'
    exact ⟨z', .refl, R, Da.int _⟩
def mRgD (ma mb mc : ME) : MI := fun sl c => (ma sl c).bind fun r => (mb sl r.2).bind fun r' => (mc sl r'.2).bind fun r'' => match r.1, r'.1, r''.1 with
  | .da (.int m), .da (.int n), .da (.int k) => if r62b m = true ∧ r62b n = true ∧ k = -1 then .ok (captured (rngDn m (m - n).toNat), r''.2) else .bad
  | _, _, _ => .bad
theorem w_rgD {ma mb mc : ME} {R : It → Hp → Prop} (h : canI Γ W (mRgD ma mb mc) σ H R) : iRng3 (tCons (canE Γ W ma) (tCons (canE Γ W mb) (tCons (canE Γ W mc) tNil))) σ H R := by
  obtain ⟨z, sl, c, A, P⟩ := h
  unfold mRgD at P
  rw [post_bind] at P
  refine canE.run A P fun v c1 z1 H1 x P1 s1 A1 r1 => ?_
  rw [post_bind] at P1
  refine canE.run A1 (P1.laterX s1 A1.rl) fun w c2 z2 H2 y P2 s2 A2 r2 => ?_
  rw [post_bind] at P2
  have s12 := s1.trans A1.rl s2
  refine canE.run A2 (P2.laterX s12 A2.rl) fun u c3 z3 H3 y3 P3 s3 A3 r3 => ?_
  replace P3 : Post (match v, w, u with | .da (.int m), .da (.int n), .da (.int k) => if r62b m = true ∧ r62b n = true ∧ k = -1 then .ok (captured (rngDn m (m - n).toNat), c3) else .bad | _, _, _ => .bad) (okI Γ z H R) (exE Γ W z H σ) := P3
  split at P3
  · rename_i m n k
    split at P3
    · rename_i hn
      obtain ⟨h12, h34, rfl⟩ := hn
      obtain ⟨h1, h2⟩ := r62b_iff.mp h12
      obtain ⟨h3, h4⟩ := r62b_iff.mp h34
      rw [Da.int' r1, Da.int' r2, Da.int' r3]
      exact ⟨m, n, -1, _, rfl, RgC.neg h1 h2 h3 h4, P3 z3 H3 _ (s12.trans A2.rl s3) A3.rl it_rngDn⟩
    · exact P3.elim
  · exact P3.elim
theorem d_rgD {tg a b c : Expr} {ma mb mc : ME} {p pos : Pos} (hg : Gl X "range") (hm : X.mg "range" = none) (ha : PE X a (canE Γ W ma)) (hb : PE X b (canE Γ W mb)) (hc : PE X c (canE Γ W mc))
    (hs : starEach [a, b, c] X.env = (false, eval a X.env) :: starEach [b, c] X.env := by rfl) (hs2 : starEach [b, c] X.env = (false, eval b X.env) :: starEach [c] X.env := by rfl) (hs3 : starEach [c] X.env = (false, eval c X.env) :: starEach [] X.env := by rfl) (hpl : (backTo pos (starEach [b, c] X.env)).any (·.1) = false := by rfl) :
    PI X tg (.Call (.Name "range" p) [a, b, c] [] pos) (canI Γ W (mRgD ma mb mc)) := (pi_range3 hg hm (pa_cons ha (pa_cons hb (pa_cons hc pa_nil hs3) hs2) hs) hs hpl).wk fun σ H R h => w_rgD h
end
end PM
end
section
/-! PM10: the end of a law whose promise asks a word about what runs around the call. -/
namespace PM
open PySem PySem.Spec PyProof.Rows L2 L2H DL
/-- the script as a tracked locked list -/
def lockH (a : Addr) (vs : List Value) (ns : List Int) : Hp := fun b =>
  if b = a then some (HO.frz ({ cls := Value.type "list", data := Data.seq vs.toArray } : Obj) (HO.lst (ns.map V.int))) else none
section
variable {P : Program} {w : World} {K : PySem.W.Frag} {mg mb : Str → Option Value} {CX : CXT} {k : Nat} {fa a : Addr} {fd : FuncData} {x : Str} {sp : Sp} {t : Shared} {vs : List Value} {ns : List Int} {G : Around → Prop} {H : Hp}
/-- what the def may lean on at the call -/
theorem envP (hK : K.In t.heap) (hm : t.heap.Ns mainGlobals mg) (hbn : t.heap.Ns builtinsNs mb) (hbb : ∀ y : Str, y ≠ "__name__" → mb y = bootBuiltins y) (hn : t.heap.NoLimit) (hgens : t.gens = #[])
    (hs : t.heap.get? a = some { cls := .type "list", data := .seq vs.toArray }) (hok : HOk P w H t.heap) (h1 : ∀ b, H b ≠ none → b = a) (h2 : H a ≠ none → K.lookup a = none) :
    K.In (hidT t.heap H) ∧ (hidT t.heap H).Ns mainGlobals mg ∧ Env0 P w K mg (hidT t.heap H) callerA [] t H := by
  have dict_out : ∀ {b : Addr} {u : Obj} {es : Array DictEntry} {ep : Nat}, t.heap.get? b = some u → u.data = .dict es ep → H b = none := by
    intro b u es ep e d
    refine Classical.byContradiction fun q => ?_
    have hb := h1 b q
    rw [hb, hs] at e
    injection e with e
    rw [← e] at d
    cases d
  have nsH : ∀ {b : Addr} {m : Str → Option Value}, t.heap.Ns b m → (hidT t.heap H).Ns b m := by
    intro b m q
    obtain ⟨u, es, ep, e, d, r⟩ := q
    exact ⟨u, es, ep, hidT_get e (dict_out e d), d, r⟩
  have kH : K.In (hidT t.heap H) := by
    intro b u e
    refine hidT_get (hK b u e) (Classical.byContradiction fun q => ?_)
    have hb := h1 b q
    rw [hb] at e q
    rw [h2 q] at e
    cases e
  obtain ⟨mc, c1, c2⟩ := hn
  refine ⟨kH, nsH hm, ?_⟩
  have hM : Mod K mg (hidT t.heap H) := ⟨kH, nsH hm, ⟨mb, nsH hbn, hbb⟩, ⟨mc, nsH c1, c2⟩⟩
  exact ⟨rfl, hM, fun _ _ e => of_hidT e, Nat.le_of_eq (hidT_size t.heap H), trivial, fun b hb => (by cases hb), hok, AllBare.of_eq hgens⟩
theorem runP (hK : K.In t.heap) (hm : t.heap.Ns mainGlobals mg) (hbn : t.heap.Ns builtinsNs mb) (hbb : ∀ y : Str, y ≠ "__name__" → mb y = bootBuiltins y) (hn : t.heap.NoLimit) (hgens : t.gens = #[])
    (hs : t.heap.get? a = some { cls := .type "list", data := .seq vs.toArray }) (hr : RoomH k callerA) (hG : G callerA)
    (F : ∀ base : Heap, K.In base → base.Ns mainGlobals mg → FnP G P w K mg base CX k fa fd [x] sp) (hbind : ∀ (s : Shared) (u : Value), BindsTo s fd ⟨[u], []⟩ [(x, u)])
    (hsp : ∀ H : Hp, Only H → SqL K H a (ns.map V.int) → sp [.ref a] H (fun v _ => v = .bl true) fun _ _ _ => False) (hCX : ∀ H e s', CX [] H t (fun _ _ _ => False) e s' → False)
    (hO : Only H) (hq : SqL K H a (ns.map V.int)) (hok : HOk P w H t.heap) (h1 : ∀ b, H b ≠ none → b = a) (h2 : H a ≠ none → K.lookup a = none) :
    codeAny (model P w) callerA (.call (.ref fa) ⟨[.ref a], []⟩) (fun r s' => r = .ok (.ret (.bool true)) ∧ OldK t.heap s'.heap ∧ s'.os = t.os ∧ AllBare s'.gens) t := by
  obtain ⟨kH, nH, env⟩ := envP hK hm hbn hbb hn hgens hs hok h1 h2
  have run := (F _ kH nH).run callerA [] t H ⟨[.ref a], []⟩ [.ref a] [.ref a] _ _ hr hG env (hbind t (.ref a)) (.cons rfl .nil) (hsp H hO hq)
  refine codeAny_mono run fun r s' hend => ?_
  match r, hend with
  | .error e, hend => exact (hCX H e s' hend).elim
  | .ok .next, hend => exact hend.elim
  | .ok .brk, hend => exact hend.elim
  | .ok .cont, hend => exact hend.elim
  | .ok (.ret u), hend =>
    obtain ⟨v, H', g1, g2, un, ok2, rv, hv⟩ := hend
    have hv : v = .bl true := hv
    rw [hv] at rv
    have hu : u = Value.bool true := rv
    refine ⟨by rw [hu], OldK.of_keep fun b o e => ?_, g1, g2⟩
    rcases hO b with q | ⟨ob, xs, q⟩
    · exact un.keep b o e q (fun z => by cases z) (fun z => by cases z)
    · have e1 := (hok b _ q).1
      have e2 := (ok2 b _ (un.frzs b ob _ q)).1
      rw [e] at e1
      injection e1 with e1
      rw [e1]
      exact e2
theorem law_callP (hK : K.In t.heap) (hm : t.heap.Ns mainGlobals mg) (hbn : t.heap.Ns builtinsNs mb) (hbb : ∀ y : Str, y ≠ "__name__" → mb y = bootBuiltins y) (hn : t.heap.NoLimit) (hgens : t.gens = #[])
    (hs : t.heap.get? a = some { cls := .type "list", data := .seq vs.toArray }) (hi : IntsAre vs ns) (hl : ns.length ≤ sizeLine) (hr : RoomH k callerA) (hG : G callerA)
    (F : ∀ base : Heap, K.In base → base.Ns mainGlobals mg → FnP G P w K mg base CX k fa fd [x] sp) (hbind : ∀ (s : Shared) (u : Value), BindsTo s fd ⟨[u], []⟩ [(x, u)])
    (hsp : ∀ H : Hp, Only H → SqL K H a (ns.map V.int) → sp [.ref a] H (fun v _ => v = .bl true) fun _ _ _ => False) (hCX : ∀ H e s', CX [] H t (fun _ _ _ => False) e s' → False) :
    codeAny (model P w) callerA (.call (.ref fa) ⟨[.ref a], []⟩) (fun r s' => r = .ok (.ret (.bool true)) ∧ OldK t.heap s'.heap ∧ s'.os = t.os ∧ AllBare s'.gens) t := by
  have rv := vals_ints hi
  have len := hi.length
  by_cases hk : K.lookup a = none
  · refine runP (H := lockH a vs ns) hK hm hbn hbb hn hgens hs hr hG F hbind hsp hCX (fun b => ?_) (.inl (.inr ⟨_, if_pos rfl⟩)) (fun b u e => ?_) (fun b q => ?_) fun _ => hk
    · unfold lockH
      by_cases hb : b = a
      · rw [if_pos hb]; exact .inr ⟨_, _, rfl⟩
      · rw [if_neg hb]; exact .inl rfl
    · unfold lockH at e
      by_cases hb : b = a
      · rw [if_pos hb] at e
        injection e with e
        rw [hb, ← e]
        exact ⟨hs, by rw [List.length_map]; exact hl, vs, _, rv, hs⟩
      · rw [if_neg hb] at e; cases e
    · by_cases hb : b = a
      · exact hb
      · exact absurd (if_neg hb) q
  · obtain ⟨o, ho⟩ := Option.ne_none_iff_exists'.mp hk
    have e := hK a o ho
    rw [hs] at e
    injection e with e
    rw [← e] at ho
    refine runP (H := fun _ => none) hK hm hbn hbb hn hgens hs hr hG F hbind hsp hCX (fun b => .inl rfl) (.inr ⟨_, vs.toArray, _, ho, rfl, rfl, rfl, ?_, by simpa using rv⟩) (fun b u e => by cases e) (fun b q => absurd rfl q) fun q => absurd rfl q
    rw [List.size_toArray, len]
    exact hl
end
theorem walk_ofP {l : PySem.W.OpenLaw} {n k : Nat} {q : Program} {loose : List Str} {XP : (Str → Option Value) → Heap → Prop} {YP : World → Heap → Prop} {d : DefRec} {K : Params → PySem.W.Frag} {CX : World → CXT} {sp : World → Sp} {x : Str} {G : Around → Prop}
    (hn : l.most = some n) (hn2 : n ≤ sizeLine) (hdf : d.params.defaults = []) (hr : RoomH k callerA) (hG : G callerA) (hY : ∀ (w : World) (h : Heap), YP w h → (K w.params).In h)
    (F : ∀ (w : World) (mg : Str → Option Value) (fa : Addr) (h : Heap), (K w.params).In h → h.Ns mainGlobals mg → mg d.name = some (.ref fa) →
      ∃ fd : FuncData, (∀ (s : Shared) (u : Value), BindsTo s fd ⟨[u], []⟩ [(x, u)]) ∧ ∀ base : Heap, (K w.params).In base → base.Ns mainGlobals mg → FnP G l.prog w (K w.params) mg base (CX w) k fa fd [x] (sp w))
    (hsp : ∀ (w : World) (H : Hp) (a : Addr) (ns : List Int), ns.length ≤ n → Only H → SqL (K w.params) H a (ns.map V.int) → sp w [.ref a] H (fun v _ => v = .bl true) fun _ _ _ => False)
    (hCX : ∀ (w : World) (H : Hp) (s : Shared) (e : Value) (s' : Shared), CX w [] H s (fun _ _ _ => False) e s' → False) :
    PySem.W.WalkO q loose XP YP l.row.toRowW d [] (fun f vs => PySem.call f vs) :=
  Att.attach_call hn hdf fun w s₀ t mg mb fa o pm cd doc a vs ns T Y ho hd hcd hmg hobj hints hlen hg => by
    obtain ⟨fd, hb, hF⟩ := F w mg fa _ (hY w _ Y) T.T.g hmg
    exact law_callP (hY w _ Y) T.T.g T.T.b T.T.builtins T.T.nolimit hg hobj hints (Nat.le_trans hlen hn2) hr hG hF hb (fun H hO hS => hsp w H a ns hlen hO hS) fun H e s' => hCX w H t e s'
theorem cls_is {K : PySem.W.Frag} {t : Value} {S : Addr} {b : Bool} (h2 : PySem.W.isClsIn K S = true) (h3 : PySem.W.typeIn K (.ref S) = some (.type "type")) (h4 : PySem.W.subIn K t (.ref S) = some b) : PySem.W.kitCls K t (.ref S) = some b := by
  have e : ((PySem.W.clsIn K S).isSome && PySem.W.typeIn K (.ref S) == some (.type "type")) = true := by
    rw [show (PySem.W.clsIn K S).isSome = true from h2, h3]
    rfl
  show (if ((PySem.W.clsIn K S).isSome && PySem.W.typeIn K (.ref S) == some (.type "type")) = true then PySem.W.subIn K t (.ref S) else none) = some b
  rw [if_pos e]
  exact h4
theorem exm_is {K : PySem.W.Frag} {t : Value} {S : Addr} {b : Bool} (h1 : PySem.W.subIn K (.ref S) (.type "BaseException") = some true) (h2 : PySem.W.isClsIn K S = true) (h3 : PySem.W.typeIn K (.ref S) = some (.type "type")) (h4 : PySem.W.subIn K t (.ref S) = some b) : PySem.W.exmOne K t (.ref S) = some b := by
  unfold PySem.W.exmOne
  rw [h1, if_pos (by rfl)]
  exact cls_is h2 h3 h4
theorem kit_is {K : PySem.W.Frag} {C S : Addr} {b : Bool} (hne : C ≠ S) (h2 : PySem.W.isClsIn K S = true) (h3 : PySem.W.typeIn K (.ref S) = some (.type "type")) (h4 : PySem.W.subIn K (.ref C) (.ref S) = some b) : PySem.W.kitOne K (.ref C) (.ref S) = some b := by
  unfold PySem.W.kitOne
  rw [if_neg (fun e => hne (by simpa using e))]
  exact cls_is h2 h3 h4
theorem kit_isT {K : PySem.W.Frag} {C : Addr} {T : String} {b : Bool} (hm : PySem.W.kitMeta T = true) (h4 : PySem.W.subIn K (.ref C) (.type T) = some b) : PySem.W.kitOne K (.ref C) (.type T) = some b := by
  unfold PySem.W.kitOne
  rw [if_neg (fun e => by simp at e)]
  show (if PySem.W.kitMeta T = true then PySem.W.subIn K (.ref C) (.type T) else none) = some b
  rw [if_pos hm]
  exact h4
theorem noCX {P : Program} {w : World} {H : Hp} {s s' : Shared} {e : Value} (h : L2.CX P w [] H s (fun _ _ _ => False) e s') : False := by
  obtain ⟨_, _, _, _, _, _, _, _, _, _, _, _, z⟩ := h
  exact z
/-- the law may let errors out as far as its promise goes; none of this kind is let out -/
theorem walk_ofL {l : PySem.W.OpenLaw} {n k : Nat} {q : Program} {loose : List Str} {XP : (Str → Option Value) → Heap → Prop} {YP : World → Heap → Prop} {d : DefRec} {K : Params → PySem.W.Frag} {sp : PySem.W.Frag → Sp} {x : Str} {G : Around → Prop}
    (hn : l.most = some n) (hn2 : n ≤ sizeLine) (hdf : d.params.defaults = []) (hr : RoomH k callerA) (hG : G callerA) (hY : ∀ (w : World) (h : Heap), YP w h → (K w.params).In h)
    (F : ∀ (w : World) (mg : Str → Option Value) (fa : Addr) (h : Heap), (K w.params).In h → h.Ns mainGlobals mg → mg d.name = some (.ref fa) →
      ∃ fd : FuncData, (∀ (s : Shared) (u : Value), BindsTo s fd ⟨[u], []⟩ [(x, u)]) ∧ ∀ base : Heap, (K w.params).In base → base.Ns mainGlobals mg → FnP G l.prog w (K w.params) mg base (L2.CX l.prog w) k fa fd [x] (sp (K w.params)))
    (hsp : ∀ (K : PySem.W.Frag) (H : Hp) (a : Addr) (ns : List Int), ns.length ≤ n → Only H → SqL K H a (ns.map V.int) → sp K [.ref a] H (fun v _ => v = .bl true) fun _ _ _ => False) :
    PySem.W.WalkO q loose XP YP l.row.toRowW d [] (fun f vs => PySem.call f vs) :=
  walk_ofP (K := K) (CX := fun w => L2.CX l.prog w) (sp := fun w => sp (K w.params)) hn hn2 hdf hr hG hY F (fun w H a ns h1 h2 h3 => hsp (K w.params) H a ns h1 h2 h3) fun w H s e s' h => noCX h
theorem walk_of0 {l : PySem.W.OpenLaw} {n k : Nat} {q : Program} {loose : List Str} {XP : (Str → Option Value) → Heap → Prop} {YP : World → Heap → Prop} {d : DefRec} {K : Params → PySem.W.Frag} {sp : PySem.W.Frag → Sp} {x : Str} {G : Around → Prop}
    (hn : l.most = some n) (hn2 : n ≤ sizeLine) (hdf : d.params.defaults = []) (hr : RoomH k callerA) (hG : G callerA) (hY : ∀ (w : World) (h : Heap), YP w h → (K w.params).In h)
    (F : ∀ (w : World) (mg : Str → Option Value) (fa : Addr) (h : Heap), (K w.params).In h → h.Ns mainGlobals mg → mg d.name = some (.ref fa) →
      ∃ fd : FuncData, (∀ (s : Shared) (u : Value), BindsTo s fd ⟨[u], []⟩ [(x, u)]) ∧ ∀ base : Heap, (K w.params).In base → base.Ns mainGlobals mg → FnP G l.prog w (K w.params) mg base CX0 k fa fd [x] (sp (K w.params)))
    (hsp : ∀ (K : PySem.W.Frag) (H : Hp) (a : Addr) (ns : List Int), ns.length ≤ n → Only H → SqL K H a (ns.map V.int) → sp K [.ref a] H (fun v _ => v = .bl true) fun _ _ _ => False) :
    PySem.W.WalkO q loose XP YP l.row.toRowW d [] (fun f vs => PySem.call f vs) :=
  walk_ofP (K := K) (CX := fun _ => CX0) (sp := fun w => sp (K w.params)) hn hn2 hdf hr hG hY F (fun w H a ns h1 h2 h3 => hsp (K w.params) H a ns h1 h2 h3) fun w H s e s' h => h
/-- the law's promise, of the written part alone -/
def sp_law (g : List Int → Option Bool) (K : PySem.W.Frag) : Sp := spL ⟨K, fun _ => none, fun _ => [], none⟩ g
theorem spL_of {Γ : Gm} {g : List Int → Option Bool} {H : Hp} {a : Addr} {l : List Int} (hO : Only H) (hq : SqL Γ.K H a (l.map V.int)) (hg : g l = some true) : spL Γ g [.ref a] H (fun v _ => v = .bl true) (fun _ _ _ => False) := by
  rcases hq with hq | hq
  · cases e : H a with
    | none =>
      rcases hq with hq | ⟨o, hq⟩
      · rw [e] at hq; cases hq
      · rw [e] at hq; cases hq
    | some o =>
      refine ⟨a, some o, l, true, rfl, fun u h => (by cases h; exact e), fun H' h => ?_, hg, fun _ _ => rfl⟩
      have h := h o rfl
      rcases hq with hq | ⟨u, hq⟩
      · rw [e] at hq
        cases hq
        exact .inl (.inl h)
      · rw [e] at hq
        cases hq
        exact .inl (.inr ⟨u, h⟩)
  · exact ⟨a, none, l, true, rfl, fun u h => (by cases h), fun H' _ => .inr hq, hg, fun _ _ => rfl⟩
end PM
end
section
/-! PM9M: defs of data and the tape that hand back a list of their own, which the caller may change. -/
namespace PM
open PySem PySem.Spec PyProof.Rows L2 L2H DL
/-- the data of a list that the body made and hands back -/
def outM (v : Vv) (c : Cf) : Option (List PyData × Tp) := match v with
  | .ref n => match c.st[n]? with
    | some (.mu l) => (fzL (fz 5) l c).bind fun r => match r.2.st[n]? with
      | some (.mu _) => some (r.1, r.2.tp)
      | _ => none
    | _ => none
  | _ => none
def endM (r : RsS) : Rs (Exc × Tp) (List PyData × Tp) := match r with
  | .ok (.ret v, _, c) => .opt (outM v c)
  | .ok _ => .bad
  | .ex (e, _, c) => .ex (e, c.tp)
  | .bad => .bad
def fM (n k : Nat) (mb : MS) (ds : List PyData) (tp : Tp) : Rs (Exc × Tp) (List PyData × Tp) := if ds.length + 1 = n then endM (mb (slots k (.tape :: ds.map .da)) ⟨[], tp, []⟩) else .bad
def spM (Γ : Gm) (f : List PyData → Tp → Rs (Exc × Tp) (List PyData × Tp)) : Sp := fun vs H Q E => ∃ (z0 : Cz) (t w : Addr) (us : List V) (ds : List PyData) (tp : Tp), z0.as = [] ∧ z0.S = none ∧ z0.xa = none ∧ z0.T = some (t, w) ∧ vs = .ref t :: us ∧ Rl Γ z0 H ⟨[], tp, []⟩ ∧ DaL z0.F us ds ∧ match f ds tp with
  | .ok (d, tp') => ∀ a xs z' H', Stp z0 H z' H' → z'.as = [] → Rl Γ z' H' ⟨[], tp', []⟩ → z'.F a = none → H a = none → ¬ Mv z' a → H' a = some (.lst xs) → DaL z'.F xs d → Q (.ref a) H'
  | .ex (e, tp') => ∀ z' H' cl dd, Stp z0 H z' H' → z'.as = [] → Rl Γ z' H' ⟨[], tp', []⟩ → ExAt Γ z'.F H' e cl dd → E cl dd H'
  | .bad => False
section
variable {Γ : Gm} {W : WX} {X : Cx} {z z1 z' : Cz} {H H1 H' : Hp} {σ : L2.St} {sl sl' : Sl} {c c1 c' : Cf} {D : Ends} {e : Expr} {pos : Pos}
variable {P : Program} {w : World} {K : PySem.W.Frag} {mg : Str → Option Value} {base : Heap} {CX : CXT} {x qual : Str} {st : Stmt} {f : Addr} {fd : FuncData} {N ps : List Str} {k : Nat}
theorem spM_len {n k : Nat} {mb : MS} (hn : ps.length = n) : ∀ vs H Q E, spM Γ (fM n k mb) vs H Q E → vs.length = ps.length := fun vs H Q E h => by
  obtain ⟨z0, t, w, us, ds, tp, _, _, _, _, rfl, _, h2, h3⟩ := h
  rw [List.length_cons, h2.length]
  unfold fM at h3
  by_cases e : ds.length + 1 = n
  · omega
  · rw [if_neg e] at h3; exact h3.elim
theorem fnM (b : Bool) {G : Around → Prop} (Γ : Gm) (F : Fun K x qual st f fd) (S : FnScope N ps (defScope st)) (n k' : Nat) (mb : MS) (hn : ps.length = n) (hk : N.length - n = k') (hxa : Γ.xa = none) (hG : b = true → ∀ A, G A → A.handled = none)
    (hbody : ∀ (cdv : Value) (A : Around) (outer : List Env) (s : Shared) (H : Hp) (E : XK), RoomH k (A.deeper (envOfC qual (defScope st) s.heap.objs.size f cdv)) → G A →
      PSs (cxP b CX P w K mg base N qual (defScope st) f cdv A outer s H E) (defBody st) (canS Γ (WK E) mb)) : FnP G P w K mg base CX (k + 1) f fd ps (spM Γ (fM n k' mb)) := by
  refine funP b F S (spM_len hn) hG fun cdv A outer s H vs Q E hr hg hsp => ⟨_, hbody cdv A outer s H E hr hg, ?_⟩
  obtain ⟨z0, t, w, us, ds, tp, g1, g2, g3, g4, rfl, R0, h2, h3⟩ := hsp
  unfold fM at h3
  by_cases e : ds.length + 1 = n
  · rw [if_pos e] at h3
    have hs := slots_at (F := z0.F) (zz := z0) (N := N) (xs := .ref t :: us) (vs := .tape :: ds.map .da) (.cons ⟨t, w, g4, rfl⟩ (.ofDa h2))
    rw [List.length_cons, List.length_map, e, hk] at hs
    have dr : ∀ {z' H' c'}, Stp z0 H z' H' → Rl Γ z' H' c' → Stp z0 H z'.drop H' ∧ Rl Γ z'.drop H' ⟨[], c'.tp, []⟩ := fun {z' H' c'} s R => (Rl.drop g1 s R).elim id fun q => absurd g2 q
    refine ⟨z0, _, _, ⟨R0, hs, by rw [hxa, g3]; rfl⟩, ?_⟩
    cases e5 : mb (slots k' (.tape :: ds.map .da)) ⟨[], tp, []⟩ with
    | bad => rw [e5] at h3; exact h3.elim
    | ex p =>
      obtain ⟨x, sl', c'⟩ := p
      rw [e5] at h3
      exact fun z' H' σ' cl d s A e => h3 z'.drop H' cl d (dr s A.rl).1 rfl (dr s A.rl).2 e
    | ok p =>
      obtain ⟨fl, sl', c'⟩ := p
      rw [e5] at h3
      intro z' H' σ' s A
      cases fl with
      | nx => exact h3.elim
      | ret v =>
        intro x r
        have h3 : match (Rs.opt (outM v c') : Rs (Exc × Tp) (List PyData × Tp)) with
          | .ok (d, tp') => ∀ a xs z' H', Stp z0 H z' H' → z'.as = [] → Rl Γ z' H' ⟨[], tp', []⟩ → z'.F a = none → H a = none → ¬ Mv z' a → H' a = some (.lst xs) → DaL z'.F xs d → Q (.ref a) H'
          | .ex (e, tp') => ∀ z' H' cl dd, Stp z0 H z' H' → z'.as = [] → Rl Γ z' H' ⟨[], tp', []⟩ → ExAt Γ z'.F H' e cl dd → E cl dd H'
          | .bad => False := h3
        cases v with
        | ref m =>
          cases q1 : c'.st[m]? with
          | none => simp only [outM, q1] at h3; exact h3.elim
          | some u =>
            cases u with
            | frz _ => simp only [outM, q1] at h3; exact h3.elim
            | mu l =>
              simp only [outM, q1] at h3
              cases e6 : fzL (fz 5) l c' with
              | none => rw [e6] at h3; exact h3.elim
              | some p =>
                obtain ⟨d, c2⟩ := p
                rw [e6] at h3
                simp only [Option.bind_some] at h3
                obtain ⟨a, xs, rfl, ha, hF, hH, hl⟩ := A.rl.at r q1
                obtain ⟨z2, s2, R2, g5, a2⟩ := fzL_ok (fz_ok 5) l xs z' c' d c2 A.rl hl e6
                have ha2 : z2.as[m]? = some a := by rw [a2]; exact ha
                have hc2 := R2.cel m a ha2
                cases q2 : c2.st[m]? with
                | none => rw [q2] at h3; exact h3.elim
                | some u2 =>
                  rw [q2] at h3 hc2
                  cases u2 with
                  | frz _ => exact h3.elim
                  | mu l2 =>
                    have s02 := s.trans A.rl s2
                    have hm2 : a ∈ z2.as := List.mem_of_getElem? ha2
                    obtain ⟨_, n2, n3, _⟩ := R2.tap t w (s02.T _ g4)
                    have nm : ∀ y : Cz, y.as = [] → y.T = z2.T → ¬ Mv y a := fun y hy hyT h => by
                      rcases h with h | ⟨t', w', h, h'⟩
                      · rw [hy] at h; cases h
                      · rw [hyT, s02.T _ g4] at h
                        cases h
                        rcases h' with rfl | rfl
                        · exact n2 hm2
                        · exact n3 hm2
                    have hHa : H a = none := s02.mv a (.inl hm2) (nm z0 g1 (by rw [g4, s02.T _ g4]))
                    exact h3 a xs z2.drop H' (dr s02 R2).1 rfl (dr s02 R2).2 hc2.1 hHa (nm z2.drop rfl rfl) hH g5
        | _ => exact h3.elim
      | bk => exact h3.elim
      | ct => exact h3.elim
  · rw [if_neg e] at h3; exact h3.elim
theorem RV.app2 {p : Addr} : ∀ {v : Vv} {x : V}, RV z x v → RV (z.app p) x v
  | .da _, _, h => h
  | .ref n, _, ⟨a, h, e⟩ => ⟨a, by
    show (z.as ++ [p])[n]? = some a
    rw [List.getElem?_append_left (List.getElem?_eq_some_iff.mp h).1]
    exact h, e⟩
  | .tape, _, h => h
  | .wide, _, h => h
  | .scr, _, h => h
  | .exc _, _, h => h
theorem RVs.app2 {p : Addr} {xs : List V} {vs : List Vv} (h : RVs z xs vs) : RVs (z.app p) xs vs := by
  induction h with
  | nil => exact .nil
  | cons h _ ih => exact .cons h.app2 ih
/-- a list that a callee made is the caller's -/
theorem Rl.adoptM (s : Stp z H z1 H1) (R0 : Rl Γ z H c) (R : Rl Γ z1 H1 c1) {p : Addr} {xs : List V} {ds : List PyData} (hF : z1.F p = none) (hp0 : H p = none) (hp : H1 p = some (.lst xs)) (hl : DaL z1.F xs ds) (hm : ¬ Mv z1 p) :
    Stp z H (z1.app p) H1 ∧ Rl Γ (z1.app p) H1 (c1.app (ds.map .da)) ∧ RV (z1.app p) (.ref p) (.ref c1.st.length) := by
  refine ⟨⟨s.ext, ?_, s.T, s.S, s.xa, s.keep, s.new, fun a h1 h2 => ?_⟩, ⟨R.inc, ?_, ?_, fun i a hi => ?_, fun t w hT => ?_, fun a u hS => ?_, R.exc, R.tpo⟩, ?_⟩
  · obtain ⟨bs, e⟩ := s.as
    exact ⟨bs ++ [p], by show z1.as ++ [p] = _; rw [e, List.append_assoc]⟩
  · rcases h1 with h1 | h1
    · rcases List.mem_append.mp h1 with h1 | h1
      · exact s.mv a (.inl h1) h2
      · rw [List.mem_singleton] at h1; exact h1 ▸ hp0
    · exact s.mv a (.inr h1) h2
  · refine List.nodup_append.mpr ⟨R.nd, List.nodup_cons.mpr ⟨by simp, List.nodup_nil⟩, fun a ha b hb e => ?_⟩
    rw [List.mem_singleton] at hb
    subst hb
    subst e
    exact hm (.inl ha)
  · show (z1.as ++ [p]).length = (c1.st ++ [Cel.mu (ds.map .da)]).length
    rw [List.length_append, List.length_append, R.len]; rfl
  · have hi : (z1.as ++ [p])[i]? = some a := hi
    show CelAt _ _ a (c1.st ++ [Cel.mu (ds.map .da)])[i]?
    by_cases hlt : i < z1.as.length
    · rw [List.getElem?_append_left hlt] at hi
      rw [List.getElem?_append_left (R.len ▸ hlt)]
      have hc := R.cel i a hi
      cases q : c1.st[i]? with
      | none => rw [q] at hc; exact hc.elim
      | some k =>
        rw [q] at hc
        cases k with
        | mu l =>
          obtain ⟨h1, ys, h2, h3⟩ := hc
          exact ⟨h1, ys, h2, h3.app2⟩
        | frz es => exact hc
    · rw [List.getElem?_append_right (by omega)] at hi
      have h0 : i - z1.as.length = 0 := by
        cases q : i - z1.as.length with
        | zero => rfl
        | succ n => rw [q] at hi; cases hi
      rw [h0] at hi
      cases hi
      rw [List.getElem?_append_right (by rw [← R.len]; omega), ← R.len, h0]
      exact ⟨hF, xs, hp, .ofDa (z := z1.app p) hl⟩
  · obtain ⟨h1, h2, h3, h4, h5, h6, h7⟩ := R.tap t w hT
    refine ⟨h1, fun q => ?_, fun q => ?_, h4, h5, h6, h7⟩
    · rcases List.mem_append.mp q with q | q
      · exact h2 q
      · rw [List.mem_singleton] at q
        exact hm (.inr ⟨t, w, hT, .inl q.symm⟩)
    · rcases List.mem_append.mp q with q | q
      · exact h3 q
      · rw [List.mem_singleton] at q
        exact hm (.inr ⟨t, w, hT, .inr q.symm⟩)
  · obtain ⟨h0, h3⟩ := R.scr a u hS
    refine ⟨fun o e => ⟨(h0 o e).1, fun q => ?_⟩, h3⟩
    rcases q with q | q
    · rcases List.mem_append.mp q with q | q
      · exact (h0 o e).2 (.inl q)
      · rw [List.mem_singleton] at q
        have hS0 : z.S = some (a, u) := by rw [← s.S]; exact hS
        have := ((R0.scr a u hS0).1 o e).1
        rw [q, hp0] at this
        cases this
    · exact (h0 o e).2 (.inr q)
  · refine ⟨p, ?_, rfl⟩
    show (z1.as ++ [p])[c1.st.length]? = some p
    rw [← R.len, List.getElem?_append_right (Nat.le_refl _), Nat.sub_self]
    rfl
def mCallM (f : List PyData → Tp → Rs (Exc × Tp) (List PyData × Tp)) (dds : List PyData) (ma : MA) : ME := fun sl c => (ma sl c).bind fun r => match r.1 with
  | .tape :: vs => match fzL (fz fzN) vs r.2 with
    | some (ds, c2) => match f (ds ++ dds) c2.tp with
      | .ok (d, tp) => .ok (.ref c2.st.length, ({ c2 with tp := tp } : Cf).app (d.map .da))
      | .ex (e, tp) => .ex (e, { c2 with tp := tp })
      | .bad => .bad
    | none => .bad
  | _ => .bad
theorem w_callM {f : List PyData → Tp → Rs (Exc × Tp) (List PyData × Tp)} {dds : List PyData} {dvs : List V} {ma : MA} {Q : VK} (hd : ∀ F, DaL F dvs dds) (h : canE Γ W (mCallM f dds ma) σ H Q) : canA Γ W ma σ H (fun vs H1 => spM Γ.nx f (vs ++ dvs) H1 Q (WE W σ)) := by
  obtain ⟨z, sl, c, A, P⟩ := h
  unfold mCallM at P
  rw [post_bind] at P
  refine canA.run A P fun vs0 c1 z1 H1 xs P1 s1 A1 r1 => ?_
  cases r1 with
  | nil => exact P1.elim
  | @cons x xs v vs r rr =>
    cases v with
    | tape =>
      have P1 : Post (match fzL (fz fzN) vs c1 with
        | some (ds, c2) => match f (ds ++ dds) c2.tp with | .ok (d, tp) => .ok (.ref c2.st.length, ({ c2 with tp := tp } : Cf).app (d.map .da)) | .ex (e, tp) => .ex (e, { c2 with tp := tp }) | .bad => .bad
        | none => .bad) (okE Γ z H Q) (exE Γ W z H σ) := P1
      obtain ⟨t, w, hT, rfl⟩ := r
      cases e : fzL (fz fzN) vs c1 with
      | none => rw [e] at P1; exact P1.elim
      | some p =>
        obtain ⟨ds, c2⟩ := p
        rw [e] at P1
        have P1 : Post (match f (ds ++ dds) c2.tp with | .ok (d, tp) => .ok (.ref c2.st.length, ({ c2 with tp := tp } : Cf).app (d.map .da)) | .ex (e, tp) => .ex (e, { c2 with tp := tp }) | .bad => .bad) (okE Γ z H Q) (exE Γ W z H σ) := P1
        obtain ⟨z2, s2, R2, g2, _⟩ := fzL_ok (fz_ok fzN) vs xs z1 c1 ds c2 A1.rl rr e
        have hT2 := s2.T _ hT
        have s12 := s1.trans A1.rl s2
        refine ⟨{ z2 with as := [], S := none, xa := none }, t, w, xs ++ dvs, ds ++ dds, c2.tp, rfl, rfl, rfl, hT2, rfl, R2.forT hT2, g2.append (hd _), ?_⟩
        cases e2 : f (ds ++ dds) c2.tp with
        | bad => rw [e2] at P1; exact P1.elim
        | ok p =>
          obtain ⟨d, tp⟩ := p
          rw [e2] at P1
          intro a ys z' H' s _ R' hF hHa hnm hH' hDa
          obtain ⟨s3, R3⟩ := R2.ofT hT2 s R'
          have hnm2 : ¬ Mv { z2 with F := z'.F } a := fun h => by
            rcases h with h | ⟨t', w', h, h'⟩
            · obtain ⟨zs, hz⟩ := R2.there (.inl h)
              rw [hHa] at hz
              cases hz
            · have h : z2.T = some (t', w') := h
              rw [hT2] at h
              cases h
              exact hnm (.inr ⟨t, w, s.T _ hT2, h'⟩)
          obtain ⟨s4, R4, r4⟩ := Rl.adoptM s3 R2 R3 hF hHa hH' hDa hnm2
          exact P1 _ _ _ (s12.trans R2 s4) R4 r4
        | ex p =>
          obtain ⟨x, tp⟩ := p
          rw [e2] at P1
          exact fun z' H' cl dd s _ R' hx => by
            obtain ⟨s3, R3⟩ := R2.ofT hT2 s R'
            exact P1 _ _ cl dd (s12.trans R2 s3) R3 hx
    | _ => exact P1.elim
end
section
variable {Γ : Gm} {W : WX} {X : Cx} {e : Expr} {pos : Pos} {G : Around → Prop} {CX : CXT} {k : Nat} {f : Addr} {fd : FuncData} {ps : List Str} {gt : List PyData → Tp → Rs (Exc × Tp) (List PyData × Tp)} {dvs : List V} {dds : List PyData} {ds : List Value} {x : Str} {p : Pos} {es : List Expr} {ma : MA}
theorem d_callM (F : FnP G X.prog X.w X.K X.mg X.base CX k f fd ps (spM Γ.nx gt)) (hr : RoomH k X.A) (hG : G X.A) (hg : Gl X x) (hm : X.mg x = some (.ref f)) (hk : PySem.W.keepIn X.K (.ref f) = true) (hb : Binds X.K fd ps ds) (hd : Vals dvs ds) (hdd : ∀ F, DaL F dvs dds) (hx : ∀ σ, PassesAt CX X σ (WE W σ))
    (ha : PA X (e :: es) (canA Γ W ma)) (hdb : (x == ("__debug__" : Str)) = false := by decide) (he : starEach (e :: es) X.env = (false, eval e X.env) :: starEach es X.env := by rfl) (hpl : (backTo pos (starEach es X.env)).any (·.1) = false := by rfl) :
    PE X (.Call (.Name x p) (e :: es) [] pos) (canE Γ W (mCallM gt dds ma)) := (pe_callP F hr hG hg hm hk hb hd hx ha hdb he hpl).wk fun σ H Q h => w_callM hdd h
end
end PM
end
section
/-! K06R: pure code, printed by dg.py. -/
namespace PM.K06
open PySem PySem.Spec PyProof.Rows L2 L2H DL PM
def sub_InvalidPaper (n : Str) : Bool := decide (n = "InvalidPaper")
def sub_NotUsable (n : Str) : Bool := decide (n = "NotUsable")
def is_PaperError (n : Str) : Option Bool := if n = "InvalidPaper" then some true else if n = "NotUsable" then some false else none
def is_TongueError (n : Str) : Option Bool := if n = "InvalidPaper" then some true else if n = "NotUsable" then some true else none
def is_UseError (n : Str) : Option Bool := if n = "InvalidPaper" then some false else if n = "NotUsable" then some true else none
def is_ValueError (n : Str) : Option Bool := if n = "InvalidPaper" then some true else if n = "NotUsable" then some true else none
def pm_lets_pieces_thing_book (ds : List PyData) : List PyData := match ds with
  | [x0, x1] => [x1, x0]
  | _ => []
def mb_is_whole_number : MS := (mRet (mAndV (mIsi isInt (mV 0)) (mNotV (mIsi isBool (mV 0)))))
def m_is_whole_number : List PyData → Rs Exc PyData := fQ 1 0 mb_is_whole_number
def mb_is_word : MS := (mSeq (mIfS (mOr (mNot (mTru pTru (mIsi isStr (mV 0)))) (mNot (mTe (mChain pLe pLe (mC (.int (1 : Nat))) (mCB pLen (mA1 (mV 0) mA0)) (mC (.int (16 : Nat))))))) (mRet (mC (.bool false))) mNx) (mSeq (mSet 1 (mLc (mSg (mV 0)) (mgN 2) mYes (mCB pOrd (mA1 (mV 2) mA0)) [2])) (mRet (mCB pAll (mA1 (mLc (mIt (mV 1)) (mgN 3) mYes (mAndV (mChain pLe pLe (mC (.int (33 : Nat))) (mV 3) (mC (.int (126 : Nat)))) (mAndV (mOp (pEq true) (mV 3) (mC (.int (37 : Nat)))) (mOp (pEq true) (mV 3) (mC (.int (39 : Nat)))))) [3]) mA0)))))
def m_is_word : List PyData → Rs Exc PyData := fQ 1 3 mb_is_word
def mb__law_tape : MS := (mSeq (mSet 1 (mLst mA0)) (mSeq (mSet 2 (mC (.int (52711 : Nat)))) (mSeq (mFor (mIt (mV 0)) (mgN 3) (mSeq (mSet 4 (mCB pInt (mA1 (mV 3) mA0))) (mSeq (mIfS (mTe (mOp pLt (mV 4) (mC (.int (0 : Nat))))) (mSet 4 (mOp pSub (mC (.int (3 : Nat))) (mOp pMul (mC (.int (2 : Nat))) (mV 4)))) mNx) (mSeq (mIfS (mTe (mOp pGe (mV 4) (mOp pPow (mC (.int (10 : Nat))) (mC (.int (18 : Nat)))))) (mDrop (mBM isL pAppend (mV 1) (mA1 (mV 4) mA0))) mNx) (mSet 2 (mOp pMod (mOp pAdd (mOp pAdd (mOp pMul (mV 2) (mC (.int (40014 : Nat)))) (mOp pMod (mCB pInt (mA1 (mV 4) mA0)) (mC (.int (2147483563 : Nat))))) (mC (.int (97 : Nat)))) (mC (.int (2147483563 : Nat))))))))) (mRet (mLst (mA1 (mV 1) (mA1 (mV 2) (mA1 (mC (.int (0 : Nat))) mA0))))))))
def m__law_tape : List Int → Option Tp := fK 4 mb__law_tape
def mb__law_pick : MS := (mSeq (whileF (mAnd (mTru pTru (mOp pIx (mV 0) (mC (.int (0 : Nat))))) (mTe (mOp (pEq false) (mOp pIx (mOp pIx (mV 0) (mC (.int (0 : Nat)))) (mC (.int (0 : Nat)))) (mC (.int (0 : Nat)))))) (mDrop (mBM isL pPopAt (mOp pIx (mV 0) (mC (.int (0 : Nat)))) (mA1 (mC (.int (0 : Nat))) mA0))) wF) (mSeq (mIfS (mTru pTru (mOp pIx (mV 0) (mC (.int (0 : Nat))))) (mSeq (mSet 2 (mBM isL pPopAt (mOp pIx (mV 0) (mC (.int (0 : Nat)))) (mA1 (mC (.int (0 : Nat))) mA0))) (mSeq (mDrop (mBM isL pInsert (mOp pIx (mV 0) (mC (.int (0 : Nat)))) (mA1 (mC (.int (0 : Nat))) (mA1 (mOp pDiv (mV 2) (mV 1)) mA0)))) (mRet (mOp pMod (mCB pInt (mA1 (mV 2) mA0)) (mV 1))))) mNx) (mSeq (mAsg (mOp pAdd (mOp pIx (mV 0) (mC (.int (2 : Nat)))) (mC (.int (1 : Nat)))) (calmG (mgS pSetL (mV 0) (mC (.int (2 : Nat)))))) (mSeq (mAsg (mOp pMod (mOp pAdd (mOp pAdd (mOp pMul (mOp pIx (mV 0) (mC (.int (1 : Nat)))) (mC (.int (40692 : Nat)))) (mOp pMul (mOp pIx (mV 0) (mC (.int (2 : Nat)))) (mC (.int (611 : Nat))))) (mC (.int (29 : Nat)))) (mC (.int (2147483399 : Nat)))) (calmG (mgS pSetL (mV 0) (mC (.int (1 : Nat)))))) (mSeq (mSet 3 (mOp pMod (mOp pAdd (mOp pMul (mOp pDiv (mOp pIx (mV 0) (mC (.int (1 : Nat)))) (mC (.int (7 : Nat)))) (mC (.int (20011 : Nat)))) (mOp pIx (mV 0) (mC (.int (1 : Nat))))) (mC (.int (1000000787 : Nat))))) (mRet (mOp pMod (mCB pInt (mA1 (mOp pDiv (mV 3) (mC (.int (5 : Nat)))) mA0)) (mV 1))))))))
def m__law_pick : List PyData → Tp → Rs (Exc × Tp) (PyData × Tp) := fT 2 2 mb__law_pick
def mb__law_with : MS := (mRet (mTup (mA1 (mC (.str "pieces")) (mA1 (mOp pIx (mV 0) (mC (.int (1 : Nat)))) (mA1 (mOp pAdd (mOp pAdd (mSl pSl (mOp pIx (mV 0) (mC (.int (2 : Nat)))) mNoP (mPart (mV 1))) (mTup (mA1 (mV 2) mA0))) (mSl pSl (mOp pIx (mV 0) (mC (.int (2 : Nat)))) (mPart (mOp pAdd (mV 1) (mC (.int (1 : Nat))))) mNoP)) mA0)))))
def m__law_with : List PyData → Rs Exc PyData := fQ 3 0 mb__law_with
def mb__law_spots : MS := (mSeq (mSet 1 (mLst mA0)) (mSeq (mFor (mRg1 (mCB pLen (mA1 (mV 0) mA0))) (mgN 2) (mFor (mIt (mOp pIx (mV 0) (mV 2))) (mgN 3) (mIfS (mAnd (mTru pTru (mIsi isTup (mV 3))) (mTe (mOp (pIn true) (mV 2) (mV 1)))) (mDrop (mBM isL pAppend (mV 1) (mA1 (mV 2) mA0))) mNx))) (mRet (mV 1))))
def m__law_spots : List PyData → Rs Exc PyData := fQ 1 3 mb__law_spots
def mb__law_whole : MS := (mRet (mAndV (mIsi isInt (mV 0)) (mNotV (mIsi isBool (mV 0)))))
def m__law_whole : List PyData → Rs Exc PyData := fQ 1 0 mb__law_whole
def mb__law_is_word : MS := (mRet (mAndV (mChain pLe pLe (mC (.int (1 : Nat))) (mCB pLen (mA1 (mV 0) mA0)) (mC (.int (16 : Nat)))) (mAndV (mOp (pIn true) (mC (.str " ")) (mV 0)) (mOp (pIn true) (mC (.str "'")) (mV 0)))))
def m__law_is_word : List PyData → Rs Exc PyData := fQ 1 0 mb__law_is_word
def mb__law_no_books : MS := (mSeq (mAsg (mV 0) (mgT 3 (mg1 (mgN 1) (mg1 (mgN 2) (mg1 (mgN 3) mg0))))) (mSeq (mSet 4 (mLst (mA1 (mTup (mA1 (mV 1) (mA1 (mTup mA0) mA0))) (mA1 (mTup (mA1 (mC (.bool true)) (mA1 (mTup mA0) mA0))) (mA1 (mTup (mA1 (mUn pNeg (mC (.int (1 : Nat)))) (mA1 (mTup mA0) mA0))) (mA1 (mTup (mA1 (mC (.int (0 : Nat))) mA0)) (mA1 (mTup (mA1 (mC (.int (0 : Nat))) (mA1 (mLst (mA1 (mC (.int (0 : Nat))) mA0)) mA0))) (mA1 (mTup (mA1 (mC (.int (0 : Nat))) (mA1 (mTup (mA1 (mV 1) mA0)) mA0))) (mA1 (mTup (mA1 (mC (.int (0 : Nat))) (mA1 (mTup (mA1 (mC (.bool false)) mA0)) mA0))) (mA1 (mTup (mA1 (mC (.int (0 : Nat))) (mA1 (mTup (mA1 (mC (.int (0 : Nat))) (mA1 (mC (.int (0 : Nat))) (mA1 (mC (.int (0 : Nat))) (mA1 (mC (.int (0 : Nat))) (mA1 (mC (.int (0 : Nat))) mA0)))))) mA0))) (mA1 (mLst (mA1 (mC (.int (0 : Nat))) (mA1 (mTup mA0) mA0))) mA0))))))))))) (mSeq (mSet 5 (mLc (mIt (mV 4)) (mgN 6) mYes (mTup (mA1 (mV 1) (mA1 (mV 2) (mA1 (mOp pAdd (mV 3) (mTup (mA1 (mV 6) mA0))) mA0)))) [6])) (mRet (mOp pAdd (mV 5) (mLst (mA1 (mC .none) (mA1 (mCB pList (mA1 (mV 0) mA0)) (mA1 (mTup (mA1 (mV 1) (mA1 (mV 2) mA0))) (mA1 (mOp pAdd (mV 0) (mTup (mA1 (mTup mA0) mA0))) (mA1 (mTup (mA1 (mC (.bool true)) (mA1 (mTup mA0) (mA1 (mTup mA0) mA0)))) (mA1 (mTup (mA1 (mUn pNeg (mC (.int (1 : Nat)))) (mA1 (mTup mA0) (mA1 (mTup mA0) mA0)))) (mA1 (mTup (mA1 (mV 1) (mA1 (mCB pList (mA1 (mV 2) mA0)) (mA1 (mV 3) mA0)))) (mA1 (mTup (mA1 (mV 1) (mA1 (mOp pAdd (mV 2) (mTup (mA1 (mV 1) mA0))) (mA1 (mV 3) mA0)))) (mA1 (mTup (mA1 (mV 1) (mA1 (mTup (mA1 (mC (.int (0 : Nat))) (mA1 (mC (.int (0 : Nat))) mA0))) (mA1 (mV 3) mA0)))) (mA1 (mTup (mA1 (mV 1) (mA1 (mTup (mA1 (mC (.int (1 : Nat))) (mA1 (mC (.int (0 : Nat))) mA0))) (mA1 (mV 3) mA0)))) (mA1 (mTup (mA1 (mV 1) (mA1 (mV 2) (mA1 (mCB pList (mA1 (mV 3) mA0)) mA0)))) mA0)))))))))))))))))
def m__law_no_books : List PyData → Rs Exc PyData := fQ 1 6 mb__law_no_books
def mb_is_number : MS := (mRet (mAndV (mCallQ m_is_whole_number [] (mA1 (mV 0) mA0)) (mOp pGe (mV 0) (mC (.int (0 : Nat))))))
def m_is_number : List PyData → Rs Exc PyData := fQ 1 0 mb_is_number
def mb__law_word : MS := (mSeq (mSet 1 (mOp pAdd (mOp pAdd (mC (.str "abcxyzABZ0189.,:;!?+-*/=<>()[]#$&@^|~")) (mC (.str "\""))) (mC (.str "\\")))) (mSeq (mSet 2 (mOp pIx (mTup (mA1 (mC (.int (1 : Nat))) (mA1 (mC (.int (1 : Nat))) (mA1 (mC (.int (2 : Nat))) (mA1 (mC (.int (3 : Nat))) (mA1 (mC (.int (16 : Nat))) (mA1 (mC (.int (15 : Nat))) (mA1 (mC (.int (1 : Nat))) (mA1 (mC (.int (4 : Nat))) mA0))))))))) (mCallT m__law_pick [] (mA1 (mV 0) (mA1 (mC (.int (8 : Nat))) mA0))))) (mRet (mJoin (mC (.str "")) (mLc (mRg1 (mV 2)) (mgN 3) mYes (mOp pIx (mV 1) (mCallT m__law_pick [] (mA1 (mV 0) (mA1 (mCB pLen (mA1 (mV 1) mA0)) mA0)))) [3])))))
def m__law_word : List PyData → Tp → Rs (Exc × Tp) (PyData × Tp) := fT 1 3 mb__law_word
def mb__law_book : MS := (mSeq (mSet 1 (mOp pIx (mTup (mA1 (mC (.int (2 : Nat))) (mA1 (mC (.int (1 : Nat))) (mA1 (mC (.int (3 : Nat))) (mA1 (mC (.int (2 : Nat))) (mA1 (mC (.int (4 : Nat))) (mA1 (mC (.int (1 : Nat))) (mA1 (mC (.int (2 : Nat))) (mA1 (mC (.int (0 : Nat))) (mA1 (mC (.int (3 : Nat))) mA0)))))))))) (mCallT m__law_pick [] (mA1 (mV 0) (mA1 (mC (.int (9 : Nat))) mA0))))) (mSeq (mSet 2 (mCB pTuple (mA1 (mLc (mRg1 (mV 1)) (mgN 7) (mTe (mOp pLt (mCallT m__law_pick [] (mA1 (mV 0) (mA1 (mC (.int (3 : Nat))) mA0))) (mC (.int (1 : Nat))))) (mV 7) [7]) mA0))) (mSeq (mSet 3 (mLst mA0)) (mSeq (mIfS (mTe (mOp pGt (mV 1) (mC (.int (0 : Nat))))) (mFor (mRg1 (mCallT m__law_pick [] (mA1 (mV 0) (mA1 (mC (.int (7 : Nat))) mA0)))) (mgN 4) (mSeq (mSet 5 (mOp pIx (mTup (mA1 (mC (.int (0 : Nat))) (mA1 (mC (.int (1 : Nat))) (mA1 (mC (.int (2 : Nat))) (mA1 (mC (.int (1 : Nat))) (mA1 (mC (.int (0 : Nat))) (mA1 (mC (.int (2 : Nat))) (mA1 (mC (.int (3 : Nat))) (mA1 (mC (.int (4 : Nat))) mA0))))))))) (mCallT m__law_pick [] (mA1 (mV 0) (mA1 (mC (.int (8 : Nat))) mA0))))) (mSeq (mSet 6 (mCB pTuple (mA1 (mLc (mRg1 (mV 5)) (mgN 8) mYes (mCallT m__law_pick [] (mA1 (mV 0) (mA1 (mV 1) mA0))) [8]) mA0))) (mDrop (mBM isL pAppend (mV 3) (mA1 (mTup (mA1 (mCallT m__law_pick [] (mA1 (mV 0) (mA1 (mV 1) mA0))) (mA1 (mV 6) mA0))) mA0)))))) mNx) (mRet (mTup (mA1 (mV 1) (mA1 (mV 2) (mA1 (mCB pTuple (mA1 (mV 3) mA0)) mA0)))))))))
def m__law_book : List PyData → Tp → Rs (Exc × Tp) (PyData × Tp) := fT 1 8 mb__law_book
def mb__law_odd : MS := (mSeq (mSet 1 (mTup mA0)) (mSeq (mFor (mRg1 (mC (.int (20 : Nat)))) (mgN 2) (mSet 1 (mTup (mA1 (mV 1) mA0)))) (mSeq (mSet 3 (mLst (mA1 (mC .none) (mA1 (mC (.bool true)) (mA1 (mC (.bool false)) (mA1 (mC (.int (0 : Nat))) (mA1 (mC (.int (1 : Nat))) (mA1 (mC (.int (2 : Nat))) (mA1 (mUn pNeg (mC (.int (1 : Nat)))) (mA1 (mC (.int (7 : Nat))) (mA1 (mC (.str "a")) (mA1 (mC (.str "")) (mA1 (mC (.str "a b")) (mA1 (mC (.str "it's")) (mA1 (mC (.str "seventeen-signs-x")) (mA1 (mC (.str "sixteen-signs-xx")) (mA1 (mTup mA0) (mA1 (mTup (mA1 (mC (.int (0 : Nat))) mA0)) (mA1 (mTup (mA1 (mC (.int (0 : Nat))) (mA1 (mC (.int (0 : Nat))) mA0))) (mA1 (mTup (mA1 (mC (.int (0 : Nat))) (mA1 (mC (.int (1 : Nat))) mA0))) (mA1 (mTup (mA1 (mC (.int (1 : Nat))) (mA1 (mC (.int (0 : Nat))) mA0))) (mA1 (mTup (mA1 (mC (.int (0 : Nat))) (mA1 (mC (.bool true)) mA0))) (mA1 (mTup (mA1 (mC (.bool false)) (mA1 (mC (.int (0 : Nat))) mA0))) (mA1 (mTup (mA1 (mC (.int (0 : Nat))) (mA1 (mC (.int (0 : Nat))) (mA1 (mC (.int (0 : Nat))) mA0)))) (mA1 (mLst (mA1 (mC (.int (0 : Nat))) (mA1 (mC (.int (0 : Nat))) mA0))) (mA1 (mLst (mA1 (mC (.str "a")) mA0)) (mA1 (mTup (mA1 (mC (.str "a")) mA0)) (mA1 (mC (.str "pieces")) (mA1 (mTup (mA1 (mC (.int (0 : Nat))) (mA1 (mC (.str "a")) mA0))) (mA1 (mTup (mA1 (mUn pNeg (mC (.int (1 : Nat)))) (mA1 (mC (.int (0 : Nat))) mA0))) (mA1 (mTup (mA1 (mC (.int (0 : Nat))) (mA1 (mUn pNeg (mC (.int (1 : Nat)))) mA0))) (mA1 (mTup (mA1 (mC (.int (0 : Nat))) (mA1 (mOp pPow (mC (.int (10 : Nat))) (mC (.int (40 : Nat)))) mA0))) (mA1 (mTup (mA1 (mOp pPow (mC (.int (10 : Nat))) (mC (.int (40 : Nat)))) (mA1 (mC (.int (0 : Nat))) mA0))) (mA1 (mTup (mA1 (mTup (mA1 (mC (.int (0 : Nat))) (mA1 (mC (.int (0 : Nat))) mA0))) mA0)) (mA1 (mTup (mA1 (mTup mA0) (mA1 (mTup mA0) mA0))) (mA1 (mTup (mA1 (mC (.int (1 : Nat))) (mA1 (mC (.int (1 : Nat))) mA0))) (mA1 (mTup (mA1 (mC (.int (1 : Nat))) mA0)) (mA1 (mV 1) (mA1 (mTup (mA1 (mC (.int (0 : Nat))) (mA1 (mC .none) mA0))) (mA1 (mLst mA0) mA0)))))))))))))))))))))))))))))))))))))))) (mRet (mOp pIx (mV 3) (mCallT m__law_pick [] (mA1 (mV 0) (mA1 (mCB pLen (mA1 (mV 3) mA0)) mA0))))))))
def m__law_odd : List PyData → Tp → Rs (Exc × Tp) (PyData × Tp) := fT 1 3 mb__law_odd
def mb__law_path : MS := (mSeq (mSet 2 (mTup mA0)) (mSeq (mSet 3 (mV 1)) (mSeq (mFor (mRg1 (mOp pIx (mTup (mA1 (mC (.int (4 : Nat))) (mA1 (mC (.int (4 : Nat))) (mA1 (mC (.int (2 : Nat))) (mA1 (mC (.int (4 : Nat))) (mA1 (mC (.int (3 : Nat))) (mA1 (mC (.int (4 : Nat))) (mA1 (mC (.int (1 : Nat))) (mA1 (mC (.int (4 : Nat))) mA0))))))))) (mCallT m__law_pick [] (mA1 (mV 0) (mA1 (mC (.int (8 : Nat))) mA0))))) (mgN 4) (mSeq (mIfS (mOr (mNot (mTru pTru (mIsi (fun d => isTup d || isLst d) (mV 3)))) (mTe (mOp (pEq false) (mCB pLen (mA1 (mV 3) mA0)) (mC (.int (0 : Nat)))))) mBk mNx) (mSeq (mSet 5 (mCallT m__law_pick [] (mA1 (mV 0) (mA1 (mCB pLen (mA1 (mV 3) mA0)) mA0)))) (mSeq (mIfS (mAnd (mTe (mOp (pEq false) (mV 4) (mC (.int (0 : Nat))))) (mTe (mOp (pEq false) (mCB pLen (mA1 (mV 3) mA0)) (mC (.int (3 : Nat)))))) (mSet 5 (mOp pIx (mTup (mA1 (mC (.int (2 : Nat))) (mA1 (mC (.int (2 : Nat))) (mA1 (mC (.int (1 : Nat))) (mA1 (mC (.int (2 : Nat))) (mA1 (mC (.int (2 : Nat))) (mA1 (mC (.int (0 : Nat))) (mA1 (mC (.int (2 : Nat))) (mA1 (mC (.int (2 : Nat))) mA0))))))))) (mCallT m__law_pick [] (mA1 (mV 0) (mA1 (mC (.int (8 : Nat))) mA0))))) mNx) (mSeq (mSet 2 (mOp pAdd (mV 2) (mTup (mA1 (mV 5) mA0)))) (mSet 3 (mOp pIx (mV 3) (mV 5)))))))) (mRet (mV 2)))))
def m__law_path : List PyData → Tp → Rs (Exc × Tp) (PyData × Tp) := fT 2 4 mb__law_path
def mb__law_widths : MS := (mSeq (mSet 2 (mOp pIx (mV 1) (mC (.int (1 : Nat))))) (mSeq (mIfS (mTe (mOp (pEq false) (mCB pLen (mA1 (mV 2) mA0)) (mC (.int (0 : Nat))))) (mRet (mLst (mA1 (mTup (mA1 (mC (.str "pieces")) (mA1 (mTup (mA1 (mC (.int (1 : Nat))) mA0)) (mA1 (mOp pIx (mV 1) (mC (.int (2 : Nat)))) mA0)))) mA0))) mNx) (mSeq (mSet 3 (mCallT m__law_pick [] (mA1 (mV 0) (mA1 (mCB pLen (mA1 (mV 2) mA0)) mA0)))) (mSeq (mSet 4 (mTup (mA1 (mC (.bool true)) (mA1 (mC (.int (0 : Nat))) (mA1 (mC (.int (2 : Nat))) (mA1 (mC .none) (mA1 (mOp pAdd (mOp pIx (mV 2) (mV 3)) (mC (.int (1 : Nat)))) (mA1 (mUn pNeg (mC (.int (1 : Nat)))) mA0)))))))) (mRet (mLc (mIt (mV 4)) (mgN 5) mYes (mTup (mA1 (mC (.str "pieces")) (mA1 (mOp pAdd (mOp pAdd (mSl pSl (mV 2) mNoP (mPart (mV 3))) (mTup (mA1 (mV 5) mA0))) (mSl pSl (mV 2) (mPart (mOp pAdd (mV 3) (mC (.int (1 : Nat))))) mNoP)) (mA1 (mOp pIx (mV 1) (mC (.int (2 : Nat)))) mA0)))) [5]))))))
def m__law_widths : List PyData → Tp → Rs (Exc × Tp) (List PyData × Tp) := fM 2 4 mb__law_widths
def mb__law_lines : MS := (mSeq (mSet 5 (mOp pIx (mV 3) (mV 4))) (mSeq (mSet 7 (mLc (mRg1 (mCB pLen (mA1 (mV 5) mA0))) (mgN 6) (mNot (mTru pTru (mIsi isStr (mOp pIx (mV 5) (mV 6))))) (mV 6) [6])) (mSeq (mSet 8 (mLst mA0)) (mSeq (mIfS (mTe (mOp pGt (mCB pLen (mA1 (mV 7) mA0)) (mC (.int (0 : Nat))))) (mSeq (mSet 6 (mOp pIx (mV 7) (mCallT m__law_pick [] (mA1 (mV 0) (mA1 (mCB pLen (mA1 (mV 7) mA0)) mA0))))) (mSeq (mAsg (mOp pIx (mV 5) (mV 6)) (mgT 2 (mg1 (mgN 9) (mg1 (mgN 10) mg0)))) (mFor (mIt (mTup (mA1 (mTup mA0) (mA1 (mTup (mA1 (mTup (mA1 (mV 9) (mA1 (mV 10) mA0))) (mA1 (mTup (mA1 (mV 9) (mA1 (mV 10) mA0))) mA0))) (mA1 (mTup (mA1 (mTup (mA1 (mV 9) (mA1 (mOp (pEq false) (mV 10) (mC (.int (1 : Nat)))) mA0))) mA0)) (mA1 (mTup (mA1 (mLst (mA1 (mV 9) (mA1 (mV 10) mA0))) mA0)) (mA1 (mTup (mA1 (mC (.str "a")) mA0)) (mA1 (mTup (mA1 (mTup (mA1 (mV 9) (mA1 (mOp pAdd (mV 10) (mC (.int (7 : Nat)))) mA0))) mA0)) (mA1 (mTup (mA1 (mTup (mA1 (mOp pAdd (mV 9) (mC (.int (4 : Nat)))) (mA1 (mV 10) mA0))) mA0)) mA0))))))))) (mgN 11) (mDrop (mBM isL pAppend (mV 8) (mA1 (mOp pAdd (mOp pAdd (mSl pSl (mV 5) mNoP (mPart (mV 6))) (mV 11)) (mSl pSl (mV 5) (mPart (mOp pAdd (mV 6) (mC (.int (1 : Nat))))) mNoP)) mA0)))))) mNx) (mSeq (mSet 6 (mCallT m__law_pick [] (mA1 (mV 0) (mA1 (mOp pAdd (mCB pLen (mA1 (mV 5) mA0)) (mC (.int (1 : Nat)))) mA0)))) (mSeq (mFor (mIt (mTup (mA1 (mC (.str "")) (mA1 (mC (.str "a b")) (mA1 (mC (.str "it's")) (mA1 (mC (.str "seventeen-signs-x")) (mA1 (mC (.str "sixteen-signs-xx")) (mA1 (mTup (mA1 (mC (.int (0 : Nat))) (mA1 (mC (.bool true)) mA0))) (mA1 (mC .none) mA0))))))))) (mgN 11) (mDrop (mBM isL pAppend (mV 8) (mA1 (mOp pAdd (mOp pAdd (mSl pSl (mV 5) mNoP (mPart (mV 6))) (mTup (mA1 (mV 11) mA0))) (mSl pSl (mV 5) (mPart (mV 6)) mNoP)) mA0)))) (mRet (mLc (mIt (mOp pAdd (mV 8) (mLst (mA1 (mCB pList (mA1 (mV 5) mA0)) mA0)))) (mgN 11) mYes (mCallQ m__law_with [] (mA1 (mV 1) (mA1 (mV 2) (mA1 (mOp pAdd (mOp pAdd (mSl pSl (mV 3) mNoP (mPart (mV 4))) (mTup (mA1 (mV 11) mA0))) (mSl pSl (mV 3) (mPart (mOp pAdd (mV 4) (mC (.int (1 : Nat))))) mNoP)) mA0)))) [11]))))))))
def m__law_lines : List PyData → Tp → Rs (Exc × Tp) (PyData × Tp) := fT 5 7 mb__law_lines
def mb__law_merged : MS := (mSeq (mSet 4 (mLst mA0)) (mSeq (mFor (mRg1 (mC (.int (10 : Nat)))) (mgN 5) (mSeq (mSet 6 (mOp pIx (mV 2) (mCallT m__law_pick [] (mA1 (mV 0) (mA1 (mCB pLen (mA1 (mV 2) mA0)) mA0))))) (mSeq (mSet 7 (mOp pIx (mV 3) (mCallT m__law_pick [] (mA1 (mV 0) (mA1 (mCB pLen (mA1 (mV 3) mA0)) mA0))))) (mSeq (mSet 8 (mCallT m__law_pick [] (mA1 (mV 0) (mA1 (mOp pAdd (mCB pLen (mA1 (mOp pIx (mV 1) (mC (.int (2 : Nat)))) mA0)) (mC (.int (1 : Nat)))) mA0)))) (mDrop (mBM isL pAppend (mV 4) (mA1 (mTup (mA1 (mC (.str "pieces")) (mA1 (mOp pIx (mV 6) (mC (.int (1 : Nat)))) (mA1 (mOp pAdd (mSl pSl (mOp pIx (mV 7) (mC (.int (2 : Nat)))) mNoP (mPart (mV 8))) (mSl pSl (mOp pIx (mV 6) (mC (.int (2 : Nat)))) (mPart (mV 8)) mNoP)) mA0)))) mA0))))))) (mRet (mV 4))))
def m__law_merged : List PyData → Tp → Rs (Exc × Tp) (PyData × Tp) := fT 4 5 mb__law_merged
def mb__law_row_word : MS := (mSeq (mIfS (mOr (mNot (mTru pTru (mIsi isTup (mV 2)))) (mTe (mOp (pEq true) (mCB pLen (mA1 (mV 2) mA0)) (mOp pIx (mV 1) (mOp pIx (mV 0) (mC (.int (0 : Nat)))))))) (mRet (mC (.str "row"))) mNx) (mSeq (mIfS (mNot (mTru pTru (mCB pAll (mA1 (mLc (mIt (mV 2)) (mgN 3) mYes (mIsi isTup (mV 3)) [3]) mA0)))) (mRet (mC (.str "row"))) mNx) (mSeq (mSet 4 (mLc (mIt (mOp pIx (mV 0) (mC (.int (1 : Nat))))) (mgN 7) mYes (mLst mA0) [7])) (mSeq (mFor (mIt (mV 2)) (mgN 3) (mFor (mIt (mV 3)) (mgN 5) (mSeq (mIfS (mTru pTru (mIsi isStr (mV 5))) (mSeq (mIfS (mNot (mTru pTru (mCallQ m__law_is_word [] (mA1 (mV 5) mA0)))) (mRet (mC (.str "item"))) mNx) mCt) mNx) (mSeq (mIfS (mOr (mNot (mTru pTru (mIsi isTup (mV 5)))) (mOr (mTe (mOp (pEq true) (mCB pLen (mA1 (mV 5) mA0)) (mC (.int (2 : Nat))))) (mOr (mNot (mTru pTru (mCallQ m__law_whole [] (mA1 (mOp pIx (mV 5) (mC (.int (0 : Nat)))) mA0)))) (mNot (mTru pTru (mCallQ m__law_whole [] (mA1 (mOp pIx (mV 5) (mC (.int (1 : Nat)))) mA0))))))) (mRet (mC (.str "item"))) mNx) (mSeq (mIfS (mOr (mNot (mTe (mChain pLe pLt (mC (.int (0 : Nat))) (mOp pIx (mV 5) (mC (.int (0 : Nat)))) (mCB pLen (mA1 (mV 4) mA0))))) (mNot (mTe (mChain pLe pLt (mC (.int (0 : Nat))) (mOp pIx (mV 5) (mC (.int (1 : Nat)))) (mOp pIx (mV 1) (mOp pIx (mOp pIx (mV 0) (mC (.int (1 : Nat)))) (mOp pIx (mV 5) (mC (.int (0 : Nat)))))))))) (mRet (mC (.str "item"))) mNx) (mDrop (mBM isL pAppend (mOp pIx (mV 4) (mOp pIx (mV 5) (mC (.int (0 : Nat))))) (mA1 (mOp pIx (mV 5) (mC (.int (1 : Nat)))) mA0)))))))) (mSeq (mFor (mRg1 (mCB pLen (mA1 (mV 4) mA0))) (mgN 6) (mIfS (mOr (mTe (mOp (pEq true) (mCB pLen (mA1 (mOp pIx (mV 4) (mV 6)) mA0)) (mOp pIx (mV 1) (mOp pIx (mOp pIx (mV 0) (mC (.int (1 : Nat)))) (mV 6))))) (mTe (mOp (pEq true) (mLenSet (mOp pIx (mV 4) (mV 6))) (mCB pLen (mA1 (mOp pIx (mV 4) (mV 6)) mA0))))) (mRet (mC (.str "once"))) mNx)) (mRet (mC (.str ""))))))))
def m__law_row_word : List PyData → Rs Exc PyData := fQ 3 5 mb__law_row_word
def mb_sort_fits : MS := (mRet (mAndV (mCallQ m_is_number [] (mA1 (mV 1) mA0)) (mOp pLt (mV 1) (mV 0))))
def m_sort_fits : List PyData → Rs Exc PyData := fQ 2 0 mb_sort_fits
def mb__are_widths : MS := (mSeq (mIfS (mOr (mNot (mTru pTru (mIsi isTup (mV 1)))) (mTe (mOp (pEq true) (mCB pLen (mA1 (mV 1) mA0)) (mOp pIx (mV 0) (mC (.int (0 : Nat))))))) (mRet (mC (.bool false))) mNx) (mSeq (mFor (mIt (mV 1)) (mgN 2) (mIfS (mOr (mNot (mTru pTru (mCallQ m_is_number [] (mA1 (mV 2) mA0)))) (mTe (mOp (pEq false) (mV 2) (mC (.int (0 : Nat)))))) (mRet (mC (.bool false))) mNx)) (mRet (mCB pAll (mA1 (mLc (mIt (mOp pIx (mV 0) (mC (.int (1 : Nat))))) (mgN 3) mYes (mOp (pEq false) (mOp pIx (mV 1) (mV 3)) (mC (.int (1 : Nat)))) [3]) mA0)))))
def m__are_widths : List PyData → Rs Exc PyData := fQ 2 2 mb__are_widths
def mb__is_slot : MS := (mSeq (mIfS (mOr (mNot (mTru pTru (mIsi isTup (mV 1)))) (mTe (mOp (pEq true) (mCB pLen (mA1 (mV 1) mA0)) (mC (.int (2 : Nat)))))) (mRet (mC (.bool false))) mNx) (mSeq (mAsg (mV 1) (mgT 2 (mg1 (mgN 2) (mg1 (mgN 3) mg0)))) (mRet (mAndV (mCallQ m_is_number [] (mA1 (mV 2) mA0)) (mAndV (mCallQ m_is_number [] (mA1 (mV 3) mA0)) (mAndV (mOp pLt (mV 2) (mCB pLen (mA1 (mV 0) mA0))) (mOp pLt (mV 3) (mOp pIx (mV 0) (mV 2)))))))))
def m__is_slot : List PyData → Rs Exc PyData := fQ 2 2 mb__is_slot
def mb__law_row : MS := (mSeq (mSet 3 (mLst mA0)) (mSeq (mFor (mRg1 (mCB pLen (mA1 (mOp pIx (mV 1) (mC (.int (1 : Nat)))) mA0))) (mgN 4) (mFor (mRg1 (mOp pIx (mV 2) (mOp pIx (mOp pIx (mV 1) (mC (.int (1 : Nat)))) (mV 4)))) (mgN 5) (mDrop (mBM isL pInsert (mV 3) (mA1 (mCallT m__law_pick [] (mA1 (mV 0) (mA1 (mOp pAdd (mCB pLen (mA1 (mV 3) mA0)) (mC (.int (1 : Nat)))) mA0))) (mA1 (mTup (mA1 (mV 4) (mA1 (mV 5) mA0))) mA0)))))) (mSeq (mFor (mRg1 (mCallT m__law_pick [] (mA1 (mV 0) (mA1 (mC (.int (4 : Nat))) mA0)))) (mgN 6) (mDrop (mBM isL pInsert (mV 3) (mA1 (mCallT m__law_pick [] (mA1 (mV 0) (mA1 (mOp pAdd (mCB pLen (mA1 (mV 3) mA0)) (mC (.int (1 : Nat)))) mA0))) (mA1 (mCallT m__law_word [] (mA1 (mV 0) mA0)) mA0))))) (mSeq (mSet 7 (mLc (mRg1 (mOp pIx (mV 2) (mOp pIx (mV 1) (mC (.int (0 : Nat)))))) (mgN 6) mYes (mLst mA0) [6])) (mSeq (mFor (mIt (mV 3)) (mgN 8) (mSeq (mSet 9 (mOp pIx (mV 7) (mCallT m__law_pick [] (mA1 (mV 0) (mA1 (mCB pLen (mA1 (mV 7) mA0)) mA0))))) (mDrop (mBM isL pAppend (mV 9) (mA1 (mV 8) mA0))))) (mRet (mCB pTuple (mA1 (mLc (mIt (mV 7)) (mgN 9) mYes (mCB pTuple (mA1 (mV 9) mA0)) [9]) mA0))))))))
def m__law_row : List PyData → Tp → Rs (Exc × Tp) (PyData × Tp) := fT 3 7 mb__law_row
def mb__law_bent : MS := (mSeq (mSet 2 (mCallT m__law_path [] (mA1 (mV 0) (mA1 (mV 1) mA0)))) (mSeq (mIfS (mTe (mOp (pEq false) (mCB pLen (mA1 (mV 2) mA0)) (mC (.int (0 : Nat))))) (mRet (mCallT m__law_odd [] (mA1 (mV 0) mA0))) mNx) (mSeq (mSet 3 (mLst (mA1 (mV 1) mA0))) (mSeq (mFor (mIt (mSl pSl (mV 2) mNoP (mPart (mUn pNeg (mC (.int (1 : Nat))))))) (mgN 4) (mDrop (mBM isL pAppend (mV 3) (mA1 (mOp pIx (mOp pIx (mV 3) (mUn pNeg (mC (.int (1 : Nat))))) (mV 4)) mA0)))) (mSeq (mSet 5 (mCB pList (mA1 (mOp pIx (mV 3) (mUn pNeg (mC (.int (1 : Nat))))) mA0))) (mSeq (mSet 6 (mOp pIx (mV 2) (mUn pNeg (mC (.int (1 : Nat)))))) (mSeq (mSet 7 (mCallT m__law_pick [] (mA1 (mV 0) (mA1 (mC (.int (8 : Nat))) mA0)))) (mSeq (mIfS (mTe (mOp (pEq false) (mV 7) (mC (.int (0 : Nat))))) (mDrop (mBM isL pPopAt (mV 5) (mA1 (mV 6) mA0))) (mIfS (mTe (mOp (pEq false) (mV 7) (mC (.int (1 : Nat))))) (mDrop (mBM isL pInsert (mV 5) (mA1 (mV 6) (mA1 (mCallT m__law_odd [] (mA1 (mV 0) mA0)) mA0)))) (mIfS (mTe (mOp (pEq false) (mV 7) (mC (.int (2 : Nat))))) (mDrop (mBM isL pInsert (mV 5) (mA1 (mV 6) (mA1 (mOp pIx (mV 5) (mV 6)) mA0)))) (mIfS (mTe (mOp (pEq false) (mV 7) (mC (.int (3 : Nat))))) (mSeq (mSet 8 (mCallT m__law_pick [] (mA1 (mV 0) (mA1 (mCB pLen (mA1 (mV 5) mA0)) mA0)))) (mAsg (mTup (mA1 (mOp pIx (mV 5) (mV 8)) (mA1 (mOp pIx (mV 5) (mV 6)) mA0))) (mgT 2 (mg1 (calmG (mgS pSetL (mV 5) (mV 6))) (mg1 (calmG (mgS pSetL (mV 5) (mV 8))) mg0))))) (mIfS (mAnd (mTe (mOp (pEq false) (mV 7) (mC (.int (4 : Nat))))) (mTru pTru (mIsi isTup (mOp pIx (mV 5) (mV 6))))) (mAsg (mCB pList (mA1 (mOp pIx (mV 5) (mV 6)) mA0)) (calmG (mgS pSetL (mV 5) (mV 6)))) (mIfS (mTe (mOp (pEq false) (mV 7) (mC (.int (5 : Nat))))) (mAsg (mOp pIx (mV 5) (mOp pSub (mV 6) (mC (.int (1 : Nat))))) (calmG (mgS pSetL (mV 5) (mV 6)))) (mAsg (mCallT m__law_odd [] (mA1 (mV 0) mA0)) (calmG (mgS pSetL (mV 5) (mV 6)))))))))) (mSeq (mSet 9 (mIf (mTru pTru (mIsi isLst (mOp pIx (mV 3) (mUn pNeg (mC (.int (1 : Nat))))))) (mV 5) (mCB pTuple (mA1 (mV 5) mA0)))) (mSeq (mFor (mRgD (mOp pSub (mCB pLen (mA1 (mV 2) mA0)) (mC (.int (2 : Nat)))) (mUn pNeg (mC (.int (1 : Nat)))) (mUn pNeg (mC (.int (1 : Nat))))) (mgN 10) (mSeq (mSet 11 (mCB pList (mA1 (mOp pIx (mV 3) (mV 10)) mA0))) (mSeq (mAsg (mV 9) (calmG (mgS pSetL (mV 11) (mOp pIx (mV 2) (mV 10))))) (mSet 9 (mIf (mTru pTru (mIsi isLst (mOp pIx (mV 3) (mV 10)))) (mV 11) (mCB pTuple (mA1 (mV 11) mA0))))))) (mRet (mV 9))))))))))))
def m__law_bent : List PyData → Tp → Rs (Exc × Tp) (PyData × Tp) := fT 2 10 mb__law_bent
def mb__law_planted : MS := (mSeq (mSet 2 (mOp pIx (mV 1) (mC (.int (2 : Nat))))) (mSeq (mSet 3 (mCallM m__law_widths [] (mA1 (mV 0) (mA1 (mV 1) mA0)))) (mSeq (mIfS (mTe (mOp (pEq false) (mCB pLen (mA1 (mV 2) mA0)) (mC (.int (0 : Nat))))) (mRet (mV 3)) mNx) (mSeq (mSet 5 (mLc (mRg1 (mCB pLen (mA1 (mV 2) mA0))) (mgN 4) (mTe (mOp pGt (mCB pLen (mA1 (mCallQ m__law_spots [] (mA1 (mOp pIx (mV 2) (mV 4)) mA0)) mA0)) (mC (.int (0 : Nat))))) (mV 4) [4])) (mSeq (mSet 4 (mIf (mTe (mOp pGt (mCB pLen (mA1 (mV 5) mA0)) (mC (.int (0 : Nat))))) (mOp pIx (mV 5) (mCallT m__law_pick [] (mA1 (mV 0) (mA1 (mCB pLen (mA1 (mV 5) mA0)) mA0)))) (mCallT m__law_pick [] (mA1 (mV 0) (mA1 (mCB pLen (mA1 (mV 2) mA0)) mA0))))) (mSeq (mSet 6 (mCallQ m__law_spots [] (mA1 (mOp pIx (mV 2) (mV 4)) mA0))) (mSeq (mSet 7 (mIf (mTe (mOp pGt (mCB pLen (mA1 (mV 6) mA0)) (mC (.int (0 : Nat))))) (mOp pIx (mV 6) (mCallT m__law_pick [] (mA1 (mV 0) (mA1 (mCB pLen (mA1 (mV 6) mA0)) mA0)))) (mCallT m__law_pick [] (mA1 (mV 0) (mA1 (mCB pLen (mA1 (mOp pIx (mV 2) (mV 4)) mA0)) mA0))))) (mSeq (mDrop (mBM isL pExtend (mV 3) (mA1 (mCallT m__law_lines [] (mA1 (mV 0) (mA1 (mV 1) (mA1 (mV 4) (mA1 (mOp pIx (mV 2) (mV 4)) (mA1 (mV 7) mA0)))))) mA0))) (mSeq (mFor (mIt (mTup (mA1 (mCB pList (mA1 (mOp pIx (mV 2) (mV 4)) mA0)) (mA1 (mOp pAdd (mOp pIx (mV 2) (mV 4)) (mTup (mA1 (mTup mA0) mA0))) (mA1 (mSl pSl (mOp pIx (mV 2) (mV 4)) mNoP (mPart (mUn pNeg (mC (.int (1 : Nat)))))) mA0))))) (mgN 8) (mDrop (mBM isL pAppend (mV 3) (mA1 (mCallQ m__law_with [] (mA1 (mV 1) (mA1 (mV 4) (mA1 (mV 8) mA0)))) mA0)))) (mRet (mV 3)))))))))))
def m__law_planted : List PyData → Tp → Rs (Exc × Tp) (PyData × Tp) := fT 2 7 mb__law_planted
def mb__law_due : MS := (mSeq (mIfS (mOr (mNot (mTru pTru (mIsi isTup (mV 1)))) (mOr (mTe (mOp (pEq true) (mCB pLen (mA1 (mV 1) mA0)) (mC (.int (3 : Nat))))) (mOr (mNot (mTru pTru (mIsi isStr (mOp pIx (mV 1) (mC (.int (0 : Nat))))))) (mTe (mOp (pEq true) (mOp pIx (mV 1) (mC (.int (0 : Nat)))) (mC (.str "pieces"))))))) (mRet (mTup (mA1 (mC (.str "raised")) (mA1 (mC (.str "shape")) (mA1 (mUn pNeg (mC (.int (1 : Nat)))) mA0))))) mNx) (mSeq (mSet 2 (mOp pIx (mV 1) (mC (.int (1 : Nat))))) (mSeq (mIfS (mOr (mNot (mTru pTru (mIsi isTup (mV 2)))) (mTe (mOp (pEq true) (mCB pLen (mA1 (mV 2) mA0)) (mOp pIx (mV 0) (mC (.int (0 : Nat))))))) (mRet (mTup (mA1 (mC (.str "raised")) (mA1 (mC (.str "widths")) (mA1 (mUn pNeg (mC (.int (1 : Nat)))) mA0))))) mNx) (mSeq (mFor (mRg1 (mOp pIx (mV 0) (mC (.int (0 : Nat))))) (mgN 3) (mIfS (mOr (mNot (mTru pTru (mCallQ m__law_whole [] (mA1 (mOp pIx (mV 2) (mV 3)) mA0)))) (mOr (mTe (mOp pLt (mOp pIx (mV 2) (mV 3)) (mC (.int (1 : Nat))))) (mAnd (mTe (mOp (pIn false) (mV 3) (mOp pIx (mV 0) (mC (.int (1 : Nat)))))) (mTe (mOp (pEq true) (mOp pIx (mV 2) (mV 3)) (mC (.int (1 : Nat)))))))) (mRet (mTup (mA1 (mC (.str "raised")) (mA1 (mC (.str "widths")) (mA1 (mUn pNeg (mC (.int (1 : Nat)))) mA0))))) mNx)) (mSeq (mSet 4 (mOp pIx (mV 1) (mC (.int (2 : Nat))))) (mSeq (mIfS (mOr (mNot (mTru pTru (mIsi isTup (mV 4)))) (mTe (mOp (pEq true) (mCB pLen (mA1 (mV 4) mA0)) (mCB pLen (mA1 (mOp pIx (mV 0) (mC (.int (2 : Nat)))) mA0))))) (mRet (mTup (mA1 (mC (.str "raised")) (mA1 (mC (.str "rows")) (mA1 (mUn pNeg (mC (.int (1 : Nat)))) mA0))))) mNx) (mSeq (mFor (mRg1 (mCB pLen (mA1 (mV 4) mA0))) (mgN 5) (mSeq (mSet 6 (mCallQ m__law_row_word [] (mA1 (mOp pIx (mOp pIx (mV 0) (mC (.int (2 : Nat)))) (mV 5)) (mA1 (mV 2) (mA1 (mOp pIx (mV 4) (mV 5)) mA0))))) (mIfS (mTe (mOp (pEq true) (mV 6) (mC (.str "")))) (mRet (mTup (mA1 (mC (.str "raised")) (mA1 (mV 6) (mA1 (mV 5) mA0))))) mNx))) (mRet (mTup (mA1 (mC (.str "told")) (mA1 (mCB pMax (mA1 (mOp pAdd (mLst (mA1 (mC (.int (0 : Nat))) mA0)) (mCB pList (mA1 (mV 2) mA0))) mA0)) mA0)))))))))))
def m__law_due : List PyData → Rs Exc PyData := fQ 2 5 mb__law_due
def mb_starts_fit : MS := (mSeq (mIfS (mNot (mTru pTru (mIsi isTup (mV 1)))) (mRet (mC (.bool false))) mNx) (mSeq (mFor (mEn (mV 1)) (mgT 2 (mg1 (mgN 2) (mg1 (mgN 3) mg0))) (mIfS (mOr (mNot (mTru pTru (mCallQ m_sort_fits [] (mA1 (mV 0) (mA1 (mV 3) mA0))))) (mAnd (mTe (mOp pGt (mV 2) (mC (.int (0 : Nat))))) (mTe (mOp pGe (mOp pIx (mV 1) (mOp pSub (mV 2) (mC (.int (1 : Nat))))) (mV 3))))) (mRet (mC (.bool false))) mNx)) (mRet (mC (.bool true)))))
def m_starts_fit : List PyData → Rs Exc PyData := fQ 2 2 mb_starts_fit
def mb__wrong_row : MS := (mSeq (mIfS (mOr (mNot (mTru pTru (mIsi isTup (mV 2)))) (mTe (mOp (pEq true) (mCB pLen (mA1 (mV 2) mA0)) (mV 1)))) (mRet (mC (.str "row"))) mNx) (mSeq (mFor (mIt (mV 2)) (mgN 3) (mIfS (mNot (mTru pTru (mIsi isTup (mV 3)))) (mRet (mC (.str "row"))) mNx)) (mSeq (mSet 4 (mLst mA0)) (mSeq (mFor (mIt (mV 2)) (mgN 3) (mFor (mIt (mV 3)) (mgN 5) (mIfS (mTru pTru (mCallQ m__is_slot [] (mA1 (mV 0) (mA1 (mV 5) mA0)))) (mDrop (mBM isL pAppend (mV 4) (mA1 (mV 5) mA0))) (mIfS (mNot (mTru pTru (mCallQ m_is_word [] (mA1 (mV 5) mA0)))) (mRet (mC (.str "item"))) mNx)))) (mSeq (mIfS (mOr (mTe (mOp (pEq true) (mCB pLen (mA1 (mV 4) mA0)) (mCB pSum (mA1 (mV 0) mA0)))) (mTe (mOp (pEq true) (mLenSet (mV 4)) (mCB pLen (mA1 (mV 4) mA0))))) (mRet (mC (.str "once"))) mNx) (mRet (mC (.str ""))))))))
def m__wrong_row : List PyData → Rs Exc PyData := fQ 3 3 mb__wrong_row
def mb__law_right : MS := (mSeq (mSet 2 (mLst mA0)) (mSeq (mFor (mRg1 (mOp pIx (mV 1) (mC (.int (0 : Nat))))) (mgN 3) (mSeq (mSet 4 (mOp pIx (mTup (mA1 (mC (.int (1 : Nat))) (mA1 (mC (.int (2 : Nat))) (mA1 (mC (.int (3 : Nat))) (mA1 (mC (.int (1 : Nat))) (mA1 (mC (.int (2 : Nat))) (mA1 (mC (.int (2 : Nat))) (mA1 (mC (.int (4 : Nat))) (mA1 (mC (.int (7 : Nat))) mA0))))))))) (mCallT m__law_pick [] (mA1 (mV 0) (mA1 (mC (.int (8 : Nat))) mA0))))) (mDrop (mBM isL pAppend (mV 2) (mA1 (mIf (mTe (mOp (pIn false) (mV 3) (mOp pIx (mV 1) (mC (.int (1 : Nat)))))) (mC (.int (1 : Nat))) (mV 4)) mA0))))) (mSeq (mSet 5 (mLc (mIt (mOp pIx (mV 1) (mC (.int (2 : Nat))))) (mgN 6) mYes (mCallT m__law_row [] (mA1 (mV 0) (mA1 (mV 6) (mA1 (mV 2) mA0)))) [6])) (mRet (mTup (mA1 (mC (.str "pieces")) (mA1 (mCB pTuple (mA1 (mV 2) mA0)) (mA1 (mCB pTuple (mA1 (mV 5) mA0)) mA0))))))))
def m__law_right : List PyData → Tp → Rs (Exc × Tp) (PyData × Tp) := fT 2 5 mb__law_right
def mb_book_fault : MS := (mSeq (mIfS (mOr (mNot (mTru pTru (mIsi isTup (mV 0)))) (mTe (mOp (pEq true) (mCB pLen (mA1 (mV 0) mA0)) (mC (.int (3 : Nat)))))) (mRet (mTup (mA1 (mC (.str "shape")) (mA1 (mUn pNeg (mC (.int (1 : Nat)))) mA0)))) mNx) (mSeq (mAsg (mV 0) (mgT 3 (mg1 (mgN 1) (mg1 (mgN 2) (mg1 (mgN 3) mg0))))) (mSeq (mIfS (mNot (mTru pTru (mCallQ m_is_number [] (mA1 (mV 1) mA0)))) (mRet (mTup (mA1 (mC (.str "size")) (mA1 (mUn pNeg (mC (.int (1 : Nat)))) mA0)))) mNx) (mSeq (mIfS (mNot (mTru pTru (mCallQ m_starts_fit [] (mA1 (mV 1) (mA1 (mV 2) mA0))))) (mRet (mTup (mA1 (mC (.str "starts")) (mA1 (mUn pNeg (mC (.int (1 : Nat)))) mA0)))) mNx) (mSeq (mIfS (mNot (mTru pTru (mIsi isTup (mV 3)))) (mRet (mTup (mA1 (mC (.str "cons")) (mA1 (mUn pNeg (mC (.int (1 : Nat)))) mA0)))) mNx) (mSeq (mFor (mEn (mV 3)) (mgT 2 (mg1 (mgN 4) (mg1 (mgN 5) mg0))) (mSeq (mIfS (mOr (mNot (mTru pTru (mIsi isTup (mV 5)))) (mTe (mOp (pEq true) (mCB pLen (mA1 (mV 5) mA0)) (mC (.int (2 : Nat)))))) (mRet (mTup (mA1 (mC (.str "con")) (mA1 (mV 4) mA0)))) mNx) (mSeq (mAsg (mV 5) (mgT 2 (mg1 (mgN 6) (mg1 (mgN 7) mg0)))) (mSeq (mIfS (mOr (mNot (mTru pTru (mCallQ m_sort_fits [] (mA1 (mV 1) (mA1 (mV 6) mA0))))) (mNot (mTru pTru (mIsi isTup (mV 7))))) (mRet (mTup (mA1 (mC (.str "con")) (mA1 (mV 4) mA0)))) mNx) (mIfS (mOr (mTe (mOp pGt (mCB pLen (mA1 (mV 7) mA0)) (mC (.int (4 : Nat))))) (mNot (mTru pTru (mCB pAll (mA1 (mLc (mIt (mV 7)) (mgN 8) mYes (mCallQ m_sort_fits [] (mA1 (mV 1) (mA1 (mV 8) mA0))) [8]) mA0))))) (mRet (mTup (mA1 (mC (.str "kids")) (mA1 (mV 4) mA0)))) mNx))))) (mRet (mC .none))))))))
def m_book_fault : List PyData → Rs Exc PyData := fQ 1 8 mb_book_fault
def mb_lets_book : MS := (mSeq (mSet 1 (mCallQ m_book_fault [] (mA1 (mV 0) mA0))) (mSeq (mIfS (mTe (mOp (pIsN true) (mV 1) (mC .none))) (mRaise "InvalidPaper" 2 (mA1 (mOp pIx (mV 1) (mC (.int (0 : Nat)))) (mA1 (mOp pIx (mV 1) (mC (.int (1 : Nat)))) mA0))) mNx) (mRet (mCB pLen (mA1 (mOp pIx (mV 0) (mC (.int (2 : Nat)))) mA0)))))
def m_lets_book : List PyData → Rs Exc PyData := fQ 1 1 mb_lets_book
def mb_lets_pieces : MS := (mSeq (mTryX sub_InvalidPaper (mDrop (mCallQ m_lets_book [] (mA1 (mV 0) mA0))) (mRaise "NotUsable" 2 (mA1 (mC (.str "book")) (mA1 (mUn pNeg (mC (.int (1 : Nat)))) mA0)))) (mSeq (mIfS (mOr (mNot (mTru pTru (mIsi isTup (mV 1)))) (mOr (mTe (mOp (pEq true) (mCB pLen (mA1 (mV 1) mA0)) (mC (.int (3 : Nat))))) (mTe (mOp (pEq true) (mOp pIx (mV 1) (mC (.int (0 : Nat)))) (mC (.str "pieces")))))) (mRaise "InvalidPaper" 2 (mA1 (mC (.str "shape")) (mA1 (mUn pNeg (mC (.int (1 : Nat)))) mA0))) mNx) (mSeq (mSet 2 (mOp pIx (mV 1) (mC (.int (1 : Nat))))) (mSeq (mIfS (mNot (mTru pTru (mCallQ m__are_widths [] (mA1 (mV 0) (mA1 (mV 2) mA0))))) (mRaise "InvalidPaper" 2 (mA1 (mC (.str "widths")) (mA1 (mUn pNeg (mC (.int (1 : Nat)))) mA0))) mNx) (mSeq (mIfS (mOr (mNot (mTru pTru (mIsi isTup (mOp pIx (mV 1) (mC (.int (2 : Nat))))))) (mTe (mOp (pEq true) (mCB pLen (mA1 (mOp pIx (mV 1) (mC (.int (2 : Nat)))) mA0)) (mCB pLen (mA1 (mOp pIx (mV 0) (mC (.int (2 : Nat)))) mA0))))) (mRaise "InvalidPaper" 2 (mA1 (mC (.str "rows")) (mA1 (mUn pNeg (mC (.int (1 : Nat)))) mA0))) mNx) (mSeq (mFor (mEn (mOp pIx (mV 0) (mC (.int (2 : Nat))))) (mgT 2 (mg1 (mgN 3) (mg1 (mgT 2 (mg1 (mgN 4) (mg1 (mgN 5) mg0))) mg0))) (mSeq (mSet 6 (mCallQ m__wrong_row [] (mA1 (mLc (mIt (mV 5)) (mgN 7) mYes (mOp pIx (mV 2) (mV 7)) [7]) (mA1 (mOp pIx (mV 2) (mV 4)) (mA1 (mOp pIx (mOp pIx (mV 1) (mC (.int (2 : Nat)))) (mV 3)) mA0))))) (mIfS (mTru pTru (mV 6)) (mRaise "InvalidPaper" 2 (mA1 (mV 6) (mA1 (mV 3) mA0))) mNx))) (mRet (mMaxDf (mV 2) (mC (.int (0 : Nat)))))))))))
def m_lets_pieces : List PyData → Rs Exc PyData := fQ 2 6 mb_lets_pieces
def mb__law_agrees : MS := (mSeq (mSet 2 (mCallQ m__law_due [] (mA1 (mV 0) (mA1 (mV 1) mA0)))) (mSeq (mSet 3 (mCB pRepr (mA1 (mTup (mA1 (mV 0) (mA1 (mV 1) mA0))) mA0))) (mSeq (mTryC ((sub_InvalidPaper, some 5, (mSeq (mIfS (mOr (mNot (mTru pTru (mExI is_PaperError (mV 5)))) (mOr (mNot (mTru pTru (mExI is_TongueError (mV 5)))) (mNot (mTru pTru (mExI is_ValueError (mV 5)))))) (mRet (mC (.bool false))) mNx) (mSeq (mIfS (mOr (mTru pTru (mExI is_UseError (mV 5))) (mOr (mNot (mTru pTru (mIsi isStr (mExF "InvalidPaper" 1 (mV 5))))) (mNot (mTru pTru (mCallQ m__law_whole [] (mA1 (mExF "InvalidPaper" 0 (mV 5)) mA0)))))) (mRet (mC (.bool false))) mNx) (mRet (mAndV (mOp (pEq false) (mV 2) (mTup (mA1 (mC (.str "raised")) (mA1 (mExF "InvalidPaper" 1 (mV 5)) (mA1 (mExF "InvalidPaper" 0 (mV 5)) mA0))))) (mOp (pEq false) (mCB pRepr (mA1 (mTup (mA1 (mV 0) (mA1 (mV 1) mA0))) mA0)) (mV 3))))))) :: ((sub_NotUsable, none, (mRet (mC (.bool false)))) :: [])) (mSet 4 (mCallQ m_lets_pieces [] (mA1 (mV 0) (mA1 (mV 1) mA0))))) (mRet (mAndV (mOp (pEq false) (mOp pIx (mV 2) (mC (.int (0 : Nat)))) (mC (.str "told"))) (mAndV (mCallQ m__law_whole [] (mA1 (mV 4) mA0)) (mAndV (mOp (pEq false) (mV 4) (mOp pIx (mV 2) (mC (.int (1 : Nat))))) (mOp (pEq false) (mCB pRepr (mA1 (mTup (mA1 (mV 0) (mA1 (mV 1) mA0))) mA0)) (mV 3)))))))))
def m__law_agrees : List PyData → Rs Exc PyData := fQ 2 4 mb__law_agrees
def mb__law_refused : MS := (mSeq (mTryC ((sub_NotUsable, some 3, (mSeq (mIfS (mOr (mNot (mTru pTru (mExI is_UseError (mV 3)))) (mOr (mNot (mTru pTru (mExI is_TongueError (mV 3)))) (mTru pTru (mExI is_PaperError (mV 3))))) (mRet (mC (.bool false))) mNx) (mRet (mAndV (mOp (pEq false) (mExF "NotUsable" 1 (mV 3)) (mC (.str "book"))) (mAndV (mCallQ m__law_whole [] (mA1 (mExF "NotUsable" 0 (mV 3)) mA0)) (mOp (pEq false) (mExF "NotUsable" 0 (mV 3)) (mUn pNeg (mC (.int (1 : Nat)))))))))) :: ((sub_InvalidPaper, none, (mRet (mC (.bool false)))) :: [])) (mIfS (mTru pTru (mV 2)) (mDrop (mCallQ (fun ds => m_lets_pieces (pm_lets_pieces_thing_book ds)) [] (mA1 (mV 1) (mA1 (mV 0) mA0)))) (mDrop (mCallQ m_lets_pieces [] (mA1 (mV 0) (mA1 (mV 1) mA0)))))) (mRet (mC (.bool false))))
def m__law_refused : List PyData → Rs Exc PyData := fQ 3 1 mb__law_refused
def mb_law : MS := (mSeq (mSet 1 (mTape m__law_tape (mA1 (mV 0) mA0))) (mSeq (mSet 2 (mCallT m__law_book [] (mA1 (mV 1) mA0))) (mSeq (mSet 3 (mCallT m__law_right [] (mA1 (mV 1) (mA1 (mV 2) mA0)))) (mSeq (mIfS (mOr (mTe (mOp (pEq true) (mOp pIx (mCallQ m__law_due [] (mA1 (mV 2) (mA1 (mV 3) mA0))) (mC (.int (0 : Nat)))) (mC (.str "told")))) (mNot (mTru pTru (mCallQ m__law_agrees [] (mA1 (mV 2) (mA1 (mV 3) mA0)))))) (mRet (mC (.bool false))) mNx) (mSeq (mSet 4 (mTup (mA1 (mC (.str "pieces")) (mA1 (mOp pAdd (mOp pIx (mV 3) (mC (.int (1 : Nat)))) (mTup (mA1 (mOp pPow (mC (.int (10 : Nat))) (mC (.int (40 : Nat)))) mA0))) (mA1 (mOp pIx (mV 3) (mC (.int (2 : Nat)))) mA0))))) (mSeq (mIfS (mNot (mTru pTru (mCallQ m__law_agrees [] (mA1 (mTup (mA1 (mOp pAdd (mOp pIx (mV 2) (mC (.int (0 : Nat)))) (mC (.int (1 : Nat)))) (mA1 (mOp pIx (mV 2) (mC (.int (1 : Nat)))) (mA1 (mOp pIx (mV 2) (mC (.int (2 : Nat)))) mA0)))) (mA1 (mV 4) mA0))))) (mRet (mC (.bool false))) mNx) (mSeq (mSet 5 (mCallT m__law_planted [] (mA1 (mV 1) (mA1 (mV 3) mA0)))) (mSeq (mSet 6 (mOp pAdd (mOp pAdd (mLst (mA1 (mV 3) mA0)) (mV 5)) (mCallT m__law_merged [] (mA1 (mV 1) (mA1 (mV 3) (mA1 (mV 5) (mA1 (mCallT m__law_planted [] (mA1 (mV 1) (mA1 (mV 3) mA0))) mA0))))))) (mSeq (mFor (mRg1 (mC (.int (10 : Nat)))) (mgN 7) (mSeq (mSet 8 (mV 3)) (mSeq (mFor (mRg1 (mOp pIx (mTup (mA1 (mC (.int (1 : Nat))) (mA1 (mC (.int (1 : Nat))) (mA1 (mC (.int (2 : Nat))) (mA1 (mC (.int (1 : Nat))) (mA1 (mC (.int (3 : Nat))) mA0)))))) (mCallT m__law_pick [] (mA1 (mV 1) (mA1 (mC (.int (5 : Nat))) mA0))))) (mgN 9) (mSet 8 (mCallT m__law_bent [] (mA1 (mV 1) (mA1 (mV 8) mA0))))) (mDrop (mBM isL pAppend (mV 6) (mA1 (mV 8) mA0)))))) (mSeq (mFor (mRg1 (mC (.int (2 : Nat)))) (mgN 7) (mDrop (mBM isL pAppend (mV 6) (mA1 (mCallT m__law_odd [] (mA1 (mV 1) mA0)) mA0)))) (mSeq (mFor (mIt (mV 6)) (mgN 8) (mIfS (mNot (mTru pTru (mCallQ m__law_agrees [] (mA1 (mV 2) (mA1 (mV 8) mA0))))) (mRet (mC (.bool false))) mNx)) (mSeq (mSet 10 (mOp pIx (mV 6) (mCallT m__law_pick [] (mA1 (mV 1) (mA1 (mCB pLen (mA1 (mV 6) mA0)) mA0))))) (mSeq (mSet 11 (mCallQ m__law_no_books [] (mA1 (mV 2) mA0))) (mSeq (mSet 12 (mCallT m__law_pick [] (mA1 (mV 1) (mA1 (mCB pLen (mA1 (mV 11) mA0)) mA0)))) (mSeq (mFor (mRg1 (mCB pLen (mA1 (mV 11) mA0))) (mgN 7) (mIfS (mNot (mTru pTru (mCallQ m__law_refused [] (mA1 (mOp pIx (mV 11) (mV 7)) (mA1 (mV 10) (mA1 (mOp (pEq false) (mV 7) (mV 12)) mA0)))))) (mRet (mC (.bool false))) mNx)) (mSeq (mIfS (mTe (mOp (pEq true) (mCallQ (fun ds => m_lets_pieces (pm_lets_pieces_thing_book ds)) [] (mA1 (mV 3) (mA1 (mV 2) mA0))) (mCB pMax (mA1 (mOp pAdd (mLst (mA1 (mC (.int (0 : Nat))) mA0)) (mCB pList (mA1 (mOp pIx (mV 3) (mC (.int (1 : Nat)))) mA0))) mA0)))) (mRet (mC (.bool false))) mNx) (mRet (mAndV (mCallQ m__law_agrees [] (mA1 (mV 2) (mA1 (mV 10) mA0))) (mCallQ m__law_agrees [] (mA1 (mV 2) (mA1 (mV 3) mA0)))))))))))))))))))))
def m_law : List Int → Option Bool := fL 12 mb_law
end PM.K06
end
section
/-! K06D: derivations, printed by dg.py. -/
namespace PM.K06
open PySem PySem.Spec PyProof.Rows L2 L2H DL PM
def top (i : Nat) : Stmt := PySem.Challenge.pw_everytongue_k06_piece_checker.main.body.getD i (.Pass ⟨0, 0, 0, 0⟩)
abbrev s_is_whole_number : Stmt := top 9
abbrev N_is_whole_number : List Str := ["thing"]
theorem sc_is_whole_number : FnScope N_is_whole_number ["thing"] (defScope s_is_whole_number) := ⟨rfl, rfl, rfl, by decide +kernel, rfl, by decide +kernel, by decide +kernel⟩
abbrev s_is_word : Stmt := top 11
abbrev N_is_word : List Str := ["thing", "codes", "letter", "code"]
theorem sc_is_word : FnScope N_is_word ["thing"] (defScope s_is_word) := ⟨rfl, rfl, rfl, by decide +kernel, rfl, by decide +kernel, by decide +kernel⟩
abbrev s__law_tape : Stmt := top 24
abbrev N__law_tape : List Str := ["script", "wide", "state", "cell", "number"]
theorem sc__law_tape : FnScope N__law_tape ["script"] (defScope s__law_tape) := ⟨rfl, rfl, rfl, by decide +kernel, rfl, by decide +kernel, by decide +kernel⟩
abbrev s__law_pick : Stmt := top 25
abbrev N__law_pick : List Str := ["tape", "many", "number", "mixed"]
theorem sc__law_pick : FnScope N__law_pick ["tape", "many"] (defScope s__law_pick) := ⟨rfl, rfl, rfl, by decide +kernel, rfl, by decide +kernel, by decide +kernel⟩
abbrev s__law_with : Stmt := top 33
abbrev N__law_with : List Str := ["good", "k", "row"]
theorem sc__law_with : FnScope N__law_with ["good", "k", "row"] (defScope s__law_with) := ⟨rfl, rfl, rfl, by decide +kernel, rfl, by decide +kernel, by decide +kernel⟩
abbrev s__law_spots : Stmt := top 36
abbrev N__law_spots : List Str := ["row", "found", "j", "item"]
theorem sc__law_spots : FnScope N__law_spots ["row"] (defScope s__law_spots) := ⟨rfl, rfl, rfl, by decide +kernel, rfl, by decide +kernel, by decide +kernel⟩
abbrev s__law_whole : Stmt := top 39
abbrev N__law_whole : List Str := ["value"]
theorem sc__law_whole : FnScope N__law_whole ["value"] (defScope s__law_whole) := ⟨rfl, rfl, rfl, by decide +kernel, rfl, by decide +kernel, by decide +kernel⟩
abbrev s__law_is_word : Stmt := top 40
abbrev N__law_is_word : List Str := ["value"]
theorem sc__law_is_word : FnScope N__law_is_word ["value"] (defScope s__law_is_word) := ⟨rfl, rfl, rfl, by decide +kernel, rfl, by decide +kernel, by decide +kernel⟩
abbrev s__law_no_books : Stmt := top 45
abbrev N__law_no_books : List Str := ["book", "size", "starts", "cons", "ends", "bad", "end"]
theorem sc__law_no_books : FnScope N__law_no_books ["book"] (defScope s__law_no_books) := ⟨rfl, rfl, rfl, by decide +kernel, rfl, by decide +kernel, by decide +kernel⟩
abbrev s_is_number : Stmt := top 10
abbrev N_is_number : List Str := ["thing"]
theorem sc_is_number : FnScope N_is_number ["thing"] (defScope s_is_number) := ⟨rfl, rfl, rfl, by decide +kernel, rfl, by decide +kernel, by decide +kernel⟩
abbrev s__law_word : Stmt := top 26
abbrev N__law_word : List Str := ["tape", "signs", "many", "k"]
theorem sc__law_word : FnScope N__law_word ["tape"] (defScope s__law_word) := ⟨rfl, rfl, rfl, by decide +kernel, rfl, by decide +kernel, by decide +kernel⟩
abbrev s__law_book : Stmt := top 27
abbrev N__law_book : List Str := ["tape", "size", "starts", "cons", "k", "many", "kids", "s", "i"]
theorem sc__law_book : FnScope N__law_book ["tape"] (defScope s__law_book) := ⟨rfl, rfl, rfl, by decide +kernel, rfl, by decide +kernel, by decide +kernel⟩
abbrev s__law_odd : Stmt := top 30
abbrev N__law_odd : List Str := ["tape", "deep", "k", "odd"]
theorem sc__law_odd : FnScope N__law_odd ["tape"] (defScope s__law_odd) := ⟨rfl, rfl, rfl, by decide +kernel, rfl, by decide +kernel, by decide +kernel⟩
abbrev s__law_path : Stmt := top 31
abbrev N__law_path : List Str := ["tape", "thing", "path", "value", "k", "step"]
theorem sc__law_path : FnScope N__law_path ["tape", "thing"] (defScope s__law_path) := ⟨rfl, rfl, rfl, by decide +kernel, rfl, by decide +kernel, by decide +kernel⟩
abbrev s__law_widths : Stmt := top 34
abbrev N__law_widths : List Str := ["tape", "good", "widths", "s", "news", "new"]
theorem sc__law_widths : FnScope N__law_widths ["tape", "good"] (defScope s__law_widths) := ⟨rfl, rfl, rfl, by decide +kernel, rfl, by decide +kernel, by decide +kernel⟩
abbrev s__law_lines : Stmt := top 35
abbrev N__law_lines : List Str := ["tape", "good", "k", "row", "j", "line", "at", "slots", "lines", "i", "p", "new"]
theorem sc__law_lines : FnScope N__law_lines ["tape", "good", "k", "row", "j"] (defScope s__law_lines) := ⟨rfl, rfl, rfl, by decide +kernel, rfl, by decide +kernel, by decide +kernel⟩
abbrev s__law_merged : Stmt := top 38
abbrev N__law_merged : List Str := ["tape", "good", "first", "second", "found", "k", "one", "other", "cut"]
theorem sc__law_merged : FnScope N__law_merged ["tape", "good", "first", "second"] (defScope s__law_merged) := ⟨rfl, rfl, rfl, by decide +kernel, rfl, by decide +kernel, by decide +kernel⟩
abbrev s__law_row_word : Stmt := top 41
abbrev N__law_row_word : List Str := ["con", "widths", "row", "line", "told", "item", "i", "s"]
theorem sc__law_row_word : FnScope N__law_row_word ["con", "widths", "row"] (defScope s__law_row_word) := ⟨rfl, rfl, rfl, by decide +kernel, rfl, by decide +kernel, by decide +kernel⟩
abbrev s_sort_fits : Stmt := top 13
abbrev N_sort_fits : List Str := ["size", "thing"]
theorem sc_sort_fits : FnScope N_sort_fits ["size", "thing"] (defScope s_sort_fits) := ⟨rfl, rfl, rfl, by decide +kernel, rfl, by decide +kernel, by decide +kernel⟩
abbrev s__are_widths : Stmt := top 20
abbrev N__are_widths : List Str := ["book", "widths", "width", "s"]
theorem sc__are_widths : FnScope N__are_widths ["book", "widths"] (defScope s__are_widths) := ⟨rfl, rfl, rfl, by decide +kernel, rfl, by decide +kernel, by decide +kernel⟩
abbrev s__is_slot : Stmt := top 22
abbrev N__is_slot : List Str := ["kids", "thing", "kid", "piece"]
theorem sc__is_slot : FnScope N__is_slot ["kids", "thing"] (defScope s__is_slot) := ⟨rfl, rfl, rfl, by decide +kernel, rfl, by decide +kernel, by decide +kernel⟩
abbrev s__law_row : Stmt := top 28
abbrev N__law_row : List Str := ["tape", "con", "widths", "items", "i", "j", "k", "lines", "item", "line"]
theorem sc__law_row : FnScope N__law_row ["tape", "con", "widths"] (defScope s__law_row) := ⟨rfl, rfl, rfl, by decide +kernel, rfl, by decide +kernel, by decide +kernel⟩
abbrev s__law_bent : Stmt := top 32
abbrev N__law_bent : List Str := ["tape", "thing", "path", "chain", "step", "row", "at", "deed", "other", "value", "k", "above"]
theorem sc__law_bent : FnScope N__law_bent ["tape", "thing"] (defScope s__law_bent) := ⟨rfl, rfl, rfl, by decide +kernel, rfl, by decide +kernel, by decide +kernel⟩
abbrev s__law_planted : Stmt := top 37
abbrev N__law_planted : List Str := ["tape", "good", "rows", "found", "k", "full", "spots", "j", "row"]
theorem sc__law_planted : FnScope N__law_planted ["tape", "good"] (defScope s__law_planted) := ⟨rfl, rfl, rfl, by decide +kernel, rfl, by decide +kernel, by decide +kernel⟩
abbrev s__law_due : Stmt := top 42
abbrev N__law_due : List Str := ["book", "thing", "widths", "s", "rows", "k", "word"]
theorem sc__law_due : FnScope N__law_due ["book", "thing"] (defScope s__law_due) := ⟨rfl, rfl, rfl, by decide +kernel, rfl, by decide +kernel, by decide +kernel⟩
abbrev s_starts_fit : Stmt := top 14
abbrev N_starts_fit : List Str := ["size", "starts", "place", "sort"]
theorem sc_starts_fit : FnScope N_starts_fit ["size", "starts"] (defScope s_starts_fit) := ⟨rfl, rfl, rfl, by decide +kernel, rfl, by decide +kernel, by decide +kernel⟩
abbrev s__wrong_row : Stmt := top 21
abbrev N__wrong_row : List Str := ["kids", "width", "row", "piece", "slots", "item"]
theorem sc__wrong_row : FnScope N__wrong_row ["kids", "width", "row"] (defScope s__wrong_row) := ⟨rfl, rfl, rfl, by decide +kernel, rfl, by decide +kernel, by decide +kernel⟩
abbrev s__law_right : Stmt := top 29
abbrev N__law_right : List Str := ["tape", "book", "widths", "s", "width", "rows", "con"]
theorem sc__law_right : FnScope N__law_right ["tape", "book"] (defScope s__law_right) := ⟨rfl, rfl, rfl, by decide +kernel, rfl, by decide +kernel, by decide +kernel⟩
abbrev s_book_fault : Stmt := top 15
abbrev N_book_fault : List Str := ["thing", "size", "starts", "cons", "con", "told", "result", "kids", "kid"]
theorem sc_book_fault : FnScope N_book_fault ["thing"] (defScope s_book_fault) := ⟨rfl, rfl, rfl, by decide +kernel, rfl, by decide +kernel, by decide +kernel⟩
abbrev s_lets_book : Stmt := top 17
abbrev N_lets_book : List Str := ["thing", "fault"]
theorem sc_lets_book : FnScope N_lets_book ["thing"] (defScope s_lets_book) := ⟨rfl, rfl, rfl, by decide +kernel, rfl, by decide +kernel, by decide +kernel⟩
abbrev s_lets_pieces : Stmt := top 19
abbrev N_lets_pieces : List Str := ["book", "thing", "widths", "k", "result", "kids", "wrong", "s"]
theorem sc_lets_pieces : FnScope N_lets_pieces ["book", "thing"] (defScope s_lets_pieces) := ⟨rfl, rfl, rfl, by decide +kernel, rfl, by decide +kernel, by decide +kernel⟩
abbrev s__law_agrees : Stmt := top 43
abbrev N__law_agrees : List Str := ["book", "thing", "due", "asis", "told", "e"]
theorem sc__law_agrees : FnScope N__law_agrees ["book", "thing"] (defScope s__law_agrees) := ⟨rfl, rfl, rfl, by decide +kernel, rfl, by decide +kernel, by decide +kernel⟩
abbrev s__law_refused : Stmt := top 44
abbrev N__law_refused : List Str := ["book", "thing", "named", "e"]
theorem sc__law_refused : FnScope N__law_refused ["book", "thing", "named"] (defScope s__law_refused) := ⟨rfl, rfl, rfl, by decide +kernel, rfl, by decide +kernel, by decide +kernel⟩
abbrev s_law : Stmt := top 46
abbrev N_law : List Str := ["script", "tape", "book", "good", "wide", "first", "things", "k", "thing", "j", "last", "bad", "named"]
theorem sc_law : FnScope N_law ["script"] (defScope s_law) := ⟨rfl, rfl, rfl, by decide +kernel, rfl, by decide +kernel, by decide +kernel⟩
abbrev si_InvalidPaper : Stmt := (clsBody (top 4)).getD 0 (.Pass ⟨0, 0, 0, 0⟩)
abbrev Ni_InvalidPaper : List Str := ["self", "word", "at"]
theorem sci_InvalidPaper : FnScope Ni_InvalidPaper Ni_InvalidPaper (defScope si_InvalidPaper) := ⟨rfl, rfl, rfl, by decide +kernel, rfl, by decide +kernel, by decide +kernel⟩
abbrev si_NotUsable : Stmt := (clsBody (top 5)).getD 0 (.Pass ⟨0, 0, 0, 0⟩)
abbrev Ni_NotUsable : List Str := ["self", "word", "at"]
theorem sci_NotUsable : FnScope Ni_NotUsable Ni_NotUsable (defScope si_NotUsable) := ⟨rfl, rfl, rfl, by decide +kernel, rfl, by decide +kernel, by decide +kernel⟩
/-- what the top has written -/
structure En (K : PySem.W.Frag) (mg : Str → Option Value) where
  a_is_whole_number : Addr
  d_is_whole_number : FuncData
  F_is_whole_number : Fun K "is_whole_number" "is_whole_number" s_is_whole_number a_is_whole_number d_is_whole_number
  g_is_whole_number : mg "is_whole_number" = some (.ref a_is_whole_number)
  b_is_whole_number : Binds K d_is_whole_number ["thing"] []
  a_is_word : Addr
  d_is_word : FuncData
  F_is_word : Fun K "is_word" "is_word" s_is_word a_is_word d_is_word
  g_is_word : mg "is_word" = some (.ref a_is_word)
  b_is_word : Binds K d_is_word ["thing"] []
  a__law_tape : Addr
  d__law_tape : FuncData
  F__law_tape : Fun K "_law_tape" "_law_tape" s__law_tape a__law_tape d__law_tape
  g__law_tape : mg "_law_tape" = some (.ref a__law_tape)
  b__law_tape : Binds K d__law_tape ["script"] []
  a__law_pick : Addr
  d__law_pick : FuncData
  F__law_pick : Fun K "_law_pick" "_law_pick" s__law_pick a__law_pick d__law_pick
  g__law_pick : mg "_law_pick" = some (.ref a__law_pick)
  b__law_pick : Binds K d__law_pick ["tape", "many"] []
  a__law_with : Addr
  d__law_with : FuncData
  F__law_with : Fun K "_law_with" "_law_with" s__law_with a__law_with d__law_with
  g__law_with : mg "_law_with" = some (.ref a__law_with)
  b__law_with : Binds K d__law_with ["good", "k", "row"] []
  a__law_spots : Addr
  d__law_spots : FuncData
  F__law_spots : Fun K "_law_spots" "_law_spots" s__law_spots a__law_spots d__law_spots
  g__law_spots : mg "_law_spots" = some (.ref a__law_spots)
  b__law_spots : Binds K d__law_spots ["row"] []
  a__law_whole : Addr
  d__law_whole : FuncData
  F__law_whole : Fun K "_law_whole" "_law_whole" s__law_whole a__law_whole d__law_whole
  g__law_whole : mg "_law_whole" = some (.ref a__law_whole)
  b__law_whole : Binds K d__law_whole ["value"] []
  a__law_is_word : Addr
  d__law_is_word : FuncData
  F__law_is_word : Fun K "_law_is_word" "_law_is_word" s__law_is_word a__law_is_word d__law_is_word
  g__law_is_word : mg "_law_is_word" = some (.ref a__law_is_word)
  b__law_is_word : Binds K d__law_is_word ["value"] []
  a__law_no_books : Addr
  d__law_no_books : FuncData
  F__law_no_books : Fun K "_law_no_books" "_law_no_books" s__law_no_books a__law_no_books d__law_no_books
  g__law_no_books : mg "_law_no_books" = some (.ref a__law_no_books)
  b__law_no_books : Binds K d__law_no_books ["book"] []
  a_is_number : Addr
  d_is_number : FuncData
  F_is_number : Fun K "is_number" "is_number" s_is_number a_is_number d_is_number
  g_is_number : mg "is_number" = some (.ref a_is_number)
  b_is_number : Binds K d_is_number ["thing"] []
  a__law_word : Addr
  d__law_word : FuncData
  F__law_word : Fun K "_law_word" "_law_word" s__law_word a__law_word d__law_word
  g__law_word : mg "_law_word" = some (.ref a__law_word)
  b__law_word : Binds K d__law_word ["tape"] []
  a__law_book : Addr
  d__law_book : FuncData
  F__law_book : Fun K "_law_book" "_law_book" s__law_book a__law_book d__law_book
  g__law_book : mg "_law_book" = some (.ref a__law_book)
  b__law_book : Binds K d__law_book ["tape"] []
  a__law_odd : Addr
  d__law_odd : FuncData
  F__law_odd : Fun K "_law_odd" "_law_odd" s__law_odd a__law_odd d__law_odd
  g__law_odd : mg "_law_odd" = some (.ref a__law_odd)
  b__law_odd : Binds K d__law_odd ["tape"] []
  a__law_path : Addr
  d__law_path : FuncData
  F__law_path : Fun K "_law_path" "_law_path" s__law_path a__law_path d__law_path
  g__law_path : mg "_law_path" = some (.ref a__law_path)
  b__law_path : Binds K d__law_path ["tape", "thing"] []
  a__law_widths : Addr
  d__law_widths : FuncData
  F__law_widths : Fun K "_law_widths" "_law_widths" s__law_widths a__law_widths d__law_widths
  g__law_widths : mg "_law_widths" = some (.ref a__law_widths)
  b__law_widths : Binds K d__law_widths ["tape", "good"] []
  a__law_lines : Addr
  d__law_lines : FuncData
  F__law_lines : Fun K "_law_lines" "_law_lines" s__law_lines a__law_lines d__law_lines
  g__law_lines : mg "_law_lines" = some (.ref a__law_lines)
  b__law_lines : Binds K d__law_lines ["tape", "good", "k", "row", "j"] []
  a__law_merged : Addr
  d__law_merged : FuncData
  F__law_merged : Fun K "_law_merged" "_law_merged" s__law_merged a__law_merged d__law_merged
  g__law_merged : mg "_law_merged" = some (.ref a__law_merged)
  b__law_merged : Binds K d__law_merged ["tape", "good", "first", "second"] []
  a__law_row_word : Addr
  d__law_row_word : FuncData
  F__law_row_word : Fun K "_law_row_word" "_law_row_word" s__law_row_word a__law_row_word d__law_row_word
  g__law_row_word : mg "_law_row_word" = some (.ref a__law_row_word)
  b__law_row_word : Binds K d__law_row_word ["con", "widths", "row"] []
  a_sort_fits : Addr
  d_sort_fits : FuncData
  F_sort_fits : Fun K "sort_fits" "sort_fits" s_sort_fits a_sort_fits d_sort_fits
  g_sort_fits : mg "sort_fits" = some (.ref a_sort_fits)
  b_sort_fits : Binds K d_sort_fits ["size", "thing"] []
  a__are_widths : Addr
  d__are_widths : FuncData
  F__are_widths : Fun K "_are_widths" "_are_widths" s__are_widths a__are_widths d__are_widths
  g__are_widths : mg "_are_widths" = some (.ref a__are_widths)
  b__are_widths : Binds K d__are_widths ["book", "widths"] []
  a__is_slot : Addr
  d__is_slot : FuncData
  F__is_slot : Fun K "_is_slot" "_is_slot" s__is_slot a__is_slot d__is_slot
  g__is_slot : mg "_is_slot" = some (.ref a__is_slot)
  b__is_slot : Binds K d__is_slot ["kids", "thing"] []
  a__law_row : Addr
  d__law_row : FuncData
  F__law_row : Fun K "_law_row" "_law_row" s__law_row a__law_row d__law_row
  g__law_row : mg "_law_row" = some (.ref a__law_row)
  b__law_row : Binds K d__law_row ["tape", "con", "widths"] []
  a__law_bent : Addr
  d__law_bent : FuncData
  F__law_bent : Fun K "_law_bent" "_law_bent" s__law_bent a__law_bent d__law_bent
  g__law_bent : mg "_law_bent" = some (.ref a__law_bent)
  b__law_bent : Binds K d__law_bent ["tape", "thing"] []
  a__law_planted : Addr
  d__law_planted : FuncData
  F__law_planted : Fun K "_law_planted" "_law_planted" s__law_planted a__law_planted d__law_planted
  g__law_planted : mg "_law_planted" = some (.ref a__law_planted)
  b__law_planted : Binds K d__law_planted ["tape", "good"] []
  a__law_due : Addr
  d__law_due : FuncData
  F__law_due : Fun K "_law_due" "_law_due" s__law_due a__law_due d__law_due
  g__law_due : mg "_law_due" = some (.ref a__law_due)
  b__law_due : Binds K d__law_due ["book", "thing"] []
  a_starts_fit : Addr
  d_starts_fit : FuncData
  F_starts_fit : Fun K "starts_fit" "starts_fit" s_starts_fit a_starts_fit d_starts_fit
  g_starts_fit : mg "starts_fit" = some (.ref a_starts_fit)
  b_starts_fit : Binds K d_starts_fit ["size", "starts"] []
  a__wrong_row : Addr
  d__wrong_row : FuncData
  F__wrong_row : Fun K "_wrong_row" "_wrong_row" s__wrong_row a__wrong_row d__wrong_row
  g__wrong_row : mg "_wrong_row" = some (.ref a__wrong_row)
  b__wrong_row : Binds K d__wrong_row ["kids", "width", "row"] []
  a__law_right : Addr
  d__law_right : FuncData
  F__law_right : Fun K "_law_right" "_law_right" s__law_right a__law_right d__law_right
  g__law_right : mg "_law_right" = some (.ref a__law_right)
  b__law_right : Binds K d__law_right ["tape", "book"] []
  a_book_fault : Addr
  d_book_fault : FuncData
  F_book_fault : Fun K "book_fault" "book_fault" s_book_fault a_book_fault d_book_fault
  g_book_fault : mg "book_fault" = some (.ref a_book_fault)
  b_book_fault : Binds K d_book_fault ["thing"] []
  a_lets_book : Addr
  d_lets_book : FuncData
  F_lets_book : Fun K "lets_book" "lets_book" s_lets_book a_lets_book d_lets_book
  g_lets_book : mg "lets_book" = some (.ref a_lets_book)
  b_lets_book : Binds K d_lets_book ["thing"] []
  a_lets_pieces : Addr
  d_lets_pieces : FuncData
  F_lets_pieces : Fun K "lets_pieces" "lets_pieces" s_lets_pieces a_lets_pieces d_lets_pieces
  g_lets_pieces : mg "lets_pieces" = some (.ref a_lets_pieces)
  b_lets_pieces : Binds K d_lets_pieces ["book", "thing"] []
  a__law_agrees : Addr
  d__law_agrees : FuncData
  F__law_agrees : Fun K "_law_agrees" "_law_agrees" s__law_agrees a__law_agrees d__law_agrees
  g__law_agrees : mg "_law_agrees" = some (.ref a__law_agrees)
  b__law_agrees : Binds K d__law_agrees ["book", "thing"] []
  a__law_refused : Addr
  d__law_refused : FuncData
  F__law_refused : Fun K "_law_refused" "_law_refused" s__law_refused a__law_refused d__law_refused
  g__law_refused : mg "_law_refused" = some (.ref a__law_refused)
  b__law_refused : Binds K d__law_refused ["book", "thing", "named"] []
  a_law : Addr
  d_law : FuncData
  F_law : Fun K "law" "law" s_law a_law d_law
  g_law : mg "law" = some (.ref a_law)
  b_law : Binds K d_law ["script"] []
  C_InvalidPaper : Addr
  gC_InvalidPaper : mg "InvalidPaper" = some (.ref C_InvalidPaper)
  C_NotUsable : Addr
  gC_NotUsable : mg "NotUsable" = some (.ref C_NotUsable)
  C_PaperError : Addr
  gC_PaperError : mg "PaperError" = some (.ref C_PaperError)
  C_TongueError : Addr
  gC_TongueError : mg "TongueError" = some (.ref C_TongueError)
  C_UseError : Addr
  gC_UseError : mg "UseError" = some (.ref C_UseError)
  i_InvalidPaper : Addr
  di_InvalidPaper : FuncData
  Fi_InvalidPaper : Fun K "__init__" "InvalidPaper.__init__" si_InvalidPaper i_InvalidPaper di_InvalidPaper
  bi_InvalidPaper : Binds K di_InvalidPaper Ni_InvalidPaper []
  x_InvalidPaper : OexC K C_InvalidPaper
  xf_InvalidPaper : XfC K C_InvalidPaper
  xc_InvalidPaper : ExcC K C_InvalidPaper
  iC_InvalidPaper : PySem.W.findIn K (.ref C_InvalidPaper) "__init__" = some (some (.ref i_InvalidPaper))
  tI_InvalidPaper : PySem.W.typeIn K (.ref i_InvalidPaper) = some (.type "function")
  no_InvalidPaper_word : PySem.W.findIn K (.ref C_InvalidPaper) "word" = some none
  no_InvalidPaper_at : PySem.W.findIn K (.ref C_InvalidPaper) "at" = some none
  e_InvalidPaper_InvalidPaper : PySem.W.exmOne K (.ref C_InvalidPaper) (.ref C_InvalidPaper) = some true
  e_InvalidPaper_NotUsable : PySem.W.exmOne K (.ref C_InvalidPaper) (.ref C_NotUsable) = some false
  k_InvalidPaper_PaperError : PySem.W.kitOne K (.ref C_InvalidPaper) (.ref C_PaperError) = some true
  k_InvalidPaper_TongueError : PySem.W.kitOne K (.ref C_InvalidPaper) (.ref C_TongueError) = some true
  k_InvalidPaper_UseError : PySem.W.kitOne K (.ref C_InvalidPaper) (.ref C_UseError) = some false
  k_InvalidPaper_ValueError : PySem.W.kitOne K (.ref C_InvalidPaper) (.type "ValueError") = some true
  i_NotUsable : Addr
  di_NotUsable : FuncData
  Fi_NotUsable : Fun K "__init__" "NotUsable.__init__" si_NotUsable i_NotUsable di_NotUsable
  bi_NotUsable : Binds K di_NotUsable Ni_NotUsable []
  x_NotUsable : OexC K C_NotUsable
  xf_NotUsable : XfC K C_NotUsable
  xc_NotUsable : ExcC K C_NotUsable
  iC_NotUsable : PySem.W.findIn K (.ref C_NotUsable) "__init__" = some (some (.ref i_NotUsable))
  tI_NotUsable : PySem.W.typeIn K (.ref i_NotUsable) = some (.type "function")
  no_NotUsable_word : PySem.W.findIn K (.ref C_NotUsable) "word" = some none
  no_NotUsable_at : PySem.W.findIn K (.ref C_NotUsable) "at" = some none
  e_NotUsable_InvalidPaper : PySem.W.exmOne K (.ref C_NotUsable) (.ref C_InvalidPaper) = some false
  e_NotUsable_NotUsable : PySem.W.exmOne K (.ref C_NotUsable) (.ref C_NotUsable) = some true
  k_NotUsable_PaperError : PySem.W.kitOne K (.ref C_NotUsable) (.ref C_PaperError) = some false
  k_NotUsable_TongueError : PySem.W.kitOne K (.ref C_NotUsable) (.ref C_TongueError) = some true
  k_NotUsable_UseError : PySem.W.kitOne K (.ref C_NotUsable) (.ref C_UseError) = some true
  k_NotUsable_ValueError : PySem.W.kitOne K (.ref C_NotUsable) (.type "ValueError") = some true
  n_ValueError : mg "ValueError" = none
  n_all : mg "all" = none
  n_bool : mg "bool" = none
  n_enumerate : mg "enumerate" = none
  n_int : mg "int" = none
  n_isinstance : mg "isinstance" = none
  n_len : mg "len" = none
  n_list : mg "list" = none
  n_max : mg "max" = none
  n_ord : mg "ord" = none
  n_range : mg "range" = none
  n_repr : mg "repr" = none
  n_set : mg "set" = none
  n_str : mg "str" = none
  n_sum : mg "sum" = none
  n_tuple : mg "tuple" = none
  t_PERCENT : Tok
  c_PERCENT : mg "PERCENT" = some (.int (37 : Nat) t_PERCENT)
  t_QUOTE : Tok
  c_QUOTE : mg "QUOTE" = some (.int (39 : Nat) t_QUOTE)
section
variable {P : Program} {w : World} {K : PySem.W.Frag} {mg : Str → Option Value} {base : Heap}
def Γk (E : En K mg) : Gm := { K := K, cls := fun n => if n = "InvalidPaper" then some E.C_InvalidPaper else if n = "NotUsable" then some E.C_NotUsable else none, fld := fun n => if n = "InvalidPaper" then ["at", "word"] else if n = "NotUsable" then ["at", "word"] else [], xa := none }
theorem cls_InvalidPaper (E : En K mg) : (Γk E).cls "InvalidPaper" = some E.C_InvalidPaper := rfl
theorem fnd_InvalidPaper (E : En K mg) : ((Γk E).fld "InvalidPaper").Nodup := by show (["at", "word"] : List Str).Nodup; decide
theorem nof_InvalidPaper (E : En K mg) : ∀ f ∈ (["word", "at"] : List Str), PySem.W.findIn (Γk E).K (.ref E.C_InvalidPaper) f = some none := fun f h => by
  simp only [List.mem_cons, List.mem_nil_iff, or_false] at h
  rcases h with rfl | rfl
  · exact E.no_InvalidPaper_word
  · exact E.no_InvalidPaper_at
theorem pi_InvalidPaper (E : En K mg) : FnOk P w K mg base CX0 1 E.i_InvalidPaper E.di_InvalidPaper Ni_InvalidPaper (spI K ["word", "at"]) := fnI (t := fun K => tSeq (tOst K "word" (tVar 0) (tVar 1)) (tOst K "at" (tVar 0) (tVar 2))) E.Fi_InvalidPaper sci_InvalidPaper rfl (fun _ _ _ _ h => init2_ok h) fun _ _ _ _ _ _ => pss_cons (ps_ost (pv 0) (pv 1)) (pss_one (ps_ost (pv 0) (pv 2)))
theorem piH_InvalidPaper (E : En K mg) : FnH P w K mg base CX0 1 E.i_InvalidPaper E.di_InvalidPaper Ni_InvalidPaper (spI K ["word", "at"]) := fnIH (t := fun K => tSeq (tOst K "word" (tVar 0) (tVar 1)) (tOst K "at" (tVar 0) (tVar 2))) E.Fi_InvalidPaper sci_InvalidPaper rfl (fun _ _ _ _ h => init2_ok h) fun _ _ _ _ _ _ _ => pss_cons (ps_ost (pv 0) (pv 1)) (pss_one (ps_ost (pv 0) (pv 2)))
theorem cls_NotUsable (E : En K mg) : (Γk E).cls "NotUsable" = some E.C_NotUsable := rfl
theorem fnd_NotUsable (E : En K mg) : ((Γk E).fld "NotUsable").Nodup := by show (["at", "word"] : List Str).Nodup; decide
theorem nof_NotUsable (E : En K mg) : ∀ f ∈ (["word", "at"] : List Str), PySem.W.findIn (Γk E).K (.ref E.C_NotUsable) f = some none := fun f h => by
  simp only [List.mem_cons, List.mem_nil_iff, or_false] at h
  rcases h with rfl | rfl
  · exact E.no_NotUsable_word
  · exact E.no_NotUsable_at
theorem pi_NotUsable (E : En K mg) : FnOk P w K mg base CX0 1 E.i_NotUsable E.di_NotUsable Ni_NotUsable (spI K ["word", "at"]) := fnI (t := fun K => tSeq (tOst K "word" (tVar 0) (tVar 1)) (tOst K "at" (tVar 0) (tVar 2))) E.Fi_NotUsable sci_NotUsable rfl (fun _ _ _ _ h => init2_ok h) fun _ _ _ _ _ _ => pss_cons (ps_ost (pv 0) (pv 1)) (pss_one (ps_ost (pv 0) (pv 2)))
theorem piH_NotUsable (E : En K mg) : FnH P w K mg base CX0 1 E.i_NotUsable E.di_NotUsable Ni_NotUsable (spI K ["word", "at"]) := fnIH (t := fun K => tSeq (tOst K "word" (tVar 0) (tVar 1)) (tOst K "at" (tVar 0) (tVar 2))) E.Fi_NotUsable sci_NotUsable rfl (fun _ _ _ _ h => init2_ok h) fun _ _ _ _ _ _ _ => pss_cons (ps_ost (pv 0) (pv 1)) (pss_one (ps_ost (pv 0) (pv 2)))
theorem exm_InvalidPaper (E : En K mg) : ∀ n C, (Γk E).cls n = some C → PySem.W.exmOne (Γk E).K (.ref C) (.ref E.C_InvalidPaper) = some (sub_InvalidPaper n) := fun n C e => by
  have e : (if n = "InvalidPaper" then some E.C_InvalidPaper else if n = "NotUsable" then some E.C_NotUsable else none) = some C := e
  by_cases h_InvalidPaper : n = "InvalidPaper"
  · subst h_InvalidPaper; have e2 : some E.C_InvalidPaper = some C := e; cases e2; exact E.e_InvalidPaper_InvalidPaper
  rw [if_neg h_InvalidPaper] at e
  by_cases h_NotUsable : n = "NotUsable"
  · subst h_NotUsable; have e2 : some E.C_NotUsable = some C := e; cases e2; exact E.e_NotUsable_InvalidPaper
  rw [if_neg h_NotUsable] at e
  cases e
theorem exm_NotUsable (E : En K mg) : ∀ n C, (Γk E).cls n = some C → PySem.W.exmOne (Γk E).K (.ref C) (.ref E.C_NotUsable) = some (sub_NotUsable n) := fun n C e => by
  have e : (if n = "InvalidPaper" then some E.C_InvalidPaper else if n = "NotUsable" then some E.C_NotUsable else none) = some C := e
  by_cases h_InvalidPaper : n = "InvalidPaper"
  · subst h_InvalidPaper; have e2 : some E.C_InvalidPaper = some C := e; cases e2; exact E.e_InvalidPaper_NotUsable
  rw [if_neg h_InvalidPaper] at e
  by_cases h_NotUsable : n = "NotUsable"
  · subst h_NotUsable; have e2 : some E.C_NotUsable = some C := e; cases e2; exact E.e_NotUsable_NotUsable
  rw [if_neg h_NotUsable] at e
  cases e
theorem isx_PaperError (E : En K mg) : ∀ n D b, (Γk E).cls n = some D → is_PaperError n = some b → ExcC (Γk E).K D ∧ PySem.W.kitOne (Γk E).K (.ref D) (.ref E.C_PaperError) = some b := fun n D b e e1 => by
  have e : (if n = "InvalidPaper" then some E.C_InvalidPaper else if n = "NotUsable" then some E.C_NotUsable else none) = some D := e
  by_cases h_InvalidPaper : n = "InvalidPaper"
  · subst h_InvalidPaper; have e2 : some E.C_InvalidPaper = some D := e; cases e2; have e3 : some true = some b := e1; cases e3; exact ⟨E.xc_InvalidPaper, E.k_InvalidPaper_PaperError⟩
  rw [if_neg h_InvalidPaper] at e
  by_cases h_NotUsable : n = "NotUsable"
  · subst h_NotUsable; have e2 : some E.C_NotUsable = some D := e; cases e2; have e3 : some false = some b := e1; cases e3; exact ⟨E.xc_NotUsable, E.k_NotUsable_PaperError⟩
  rw [if_neg h_NotUsable] at e
  cases e
theorem isx_TongueError (E : En K mg) : ∀ n D b, (Γk E).cls n = some D → is_TongueError n = some b → ExcC (Γk E).K D ∧ PySem.W.kitOne (Γk E).K (.ref D) (.ref E.C_TongueError) = some b := fun n D b e e1 => by
  have e : (if n = "InvalidPaper" then some E.C_InvalidPaper else if n = "NotUsable" then some E.C_NotUsable else none) = some D := e
  by_cases h_InvalidPaper : n = "InvalidPaper"
  · subst h_InvalidPaper; have e2 : some E.C_InvalidPaper = some D := e; cases e2; have e3 : some true = some b := e1; cases e3; exact ⟨E.xc_InvalidPaper, E.k_InvalidPaper_TongueError⟩
  rw [if_neg h_InvalidPaper] at e
  by_cases h_NotUsable : n = "NotUsable"
  · subst h_NotUsable; have e2 : some E.C_NotUsable = some D := e; cases e2; have e3 : some true = some b := e1; cases e3; exact ⟨E.xc_NotUsable, E.k_NotUsable_TongueError⟩
  rw [if_neg h_NotUsable] at e
  cases e
theorem isx_UseError (E : En K mg) : ∀ n D b, (Γk E).cls n = some D → is_UseError n = some b → ExcC (Γk E).K D ∧ PySem.W.kitOne (Γk E).K (.ref D) (.ref E.C_UseError) = some b := fun n D b e e1 => by
  have e : (if n = "InvalidPaper" then some E.C_InvalidPaper else if n = "NotUsable" then some E.C_NotUsable else none) = some D := e
  by_cases h_InvalidPaper : n = "InvalidPaper"
  · subst h_InvalidPaper; have e2 : some E.C_InvalidPaper = some D := e; cases e2; have e3 : some false = some b := e1; cases e3; exact ⟨E.xc_InvalidPaper, E.k_InvalidPaper_UseError⟩
  rw [if_neg h_InvalidPaper] at e
  by_cases h_NotUsable : n = "NotUsable"
  · subst h_NotUsable; have e2 : some E.C_NotUsable = some D := e; cases e2; have e3 : some true = some b := e1; cases e3; exact ⟨E.xc_NotUsable, E.k_NotUsable_UseError⟩
  rw [if_neg h_NotUsable] at e
  cases e
theorem isx_ValueError (E : En K mg) : ∀ n D b, (Γk E).cls n = some D → is_ValueError n = some b → ExcC (Γk E).K D ∧ PySem.W.kitOne (Γk E).K (.ref D) (.type "ValueError") = some b := fun n D b e e1 => by
  have e : (if n = "InvalidPaper" then some E.C_InvalidPaper else if n = "NotUsable" then some E.C_NotUsable else none) = some D := e
  by_cases h_InvalidPaper : n = "InvalidPaper"
  · subst h_InvalidPaper; have e2 : some E.C_InvalidPaper = some D := e; cases e2; have e3 : some true = some b := e1; cases e3; exact ⟨E.xc_InvalidPaper, E.k_InvalidPaper_ValueError⟩
  rw [if_neg h_InvalidPaper] at e
  by_cases h_NotUsable : n = "NotUsable"
  · subst h_NotUsable; have e2 : some E.C_NotUsable = some D := e; cases e2; have e3 : some true = some b := e1; cases e3; exact ⟨E.xc_NotUsable, E.k_NotUsable_ValueError⟩
  rw [if_neg h_NotUsable] at e
  cases e
def gv_lets_pieces_thing_book {α : Type} (us ws : List α) : List α := match us, ws with
  | [], [x0, x1] => [x1, x0]
  | _, _ => []
theorem kb_lets_pieces_thing_book (E : En K mg) : KBinds K E.d_lets_pieces ["book", "thing"] ["thing", "book"] gv_lets_pieces_thing_book gv_lets_pieces_thing_book := by
  obtain ⟨oc, od, kV, doc, pm, an, cdv, ct, osl, e, lk, hcd⟩ := E.F_lets_pieces.ex
  rw [e]
  refine ⟨fun s us ws _ hl => ?_, fun {vs us zs ws} r r2 => ?_⟩
  · match us, ws, hl with
    | [], [x0, x1], _ => exact .of_eq (by first | rfl | with_unfolding_all rfl)
  · cases r with
    | cons _ _ => exact .nil
    | nil =>
      match zs, ws, r2 with
      | [v0, v1], [x0, x1], .cons r0 (.cons r1 .nil) => exact .cons r1 (.cons r0 (.nil))
      | [], [], _ => exact .nil
      | [_], [_], _ => exact .nil
      | _ :: _ :: _ :: _, _ :: _ :: _ :: _, _ => exact .nil
theorem hpm_lets_pieces_thing_book : ∀ F zs ds, DaL F zs ds → DaL F (gv_lets_pieces_thing_book [] zs) (pm_lets_pieces_thing_book ds) := fun F zs ds h => by
  match zs, ds, h with
  | [v0, v1], [x0, x1], .cons r0 (.cons r1 .nil) => exact .cons r1 (.cons r0 (.nil))
  | [], [], _ => exact .nil
  | [_], [_], _ => exact .nil
  | _ :: _ :: _ :: _, _ :: _ :: _ :: _, _ => exact .nil
theorem p_is_whole_number (E : En K mg) : FnP gCalm P w K mg base CX0 1 E.a_is_whole_number E.d_is_whole_number ["thing"] (spQ (Γk E) m_is_whole_number) :=
  fnQ true (Γk E) E.F_is_whole_number sc_is_whole_number 1 0 mb_is_whole_number rfl rfl rfl (fun _ _ h => h) fun cdv A outer s H E0 hr hg => by exact
  (d_one (d_ret (d_and (d_isi kb_int rfl rfl E.n_isinstance rfl E.n_int PyProof.Rows.boot_int (d_v 0)) (pe_one (d_not (d_isi kb_bool rfl rfl E.n_isinstance rfl E.n_bool PyProof.Rows.boot_bool (d_v 0)))))))
theorem p_is_word (E : En K mg) : FnP gCalm P w K mg base CX0 1 E.a_is_word E.d_is_word ["thing"] (spQ (Γk E) m_is_word) :=
  fnQ true (Γk E) E.F_is_word sc_is_word 1 3 mb_is_word rfl rfl rfl (fun _ _ h => h) fun cdv A outer s H E0 hr hg => by exact
  (d_cons (d_ifS (L2.PW.pt (d_wor (d_tnot (d_ttru rfl k_tru (d_isi kb_str rfl rfl E.n_isinstance rfl E.n_str PyProof.Rows.boot_str (d_v 0)))) (pw_or1 (d_tnot (d_tchain op_le op_le k_B2 k_B2 d_int (d_cb call_lenU k_len rfl E.n_len PySem.boot_len (d_a1 (d_v 0) d_a0)) d_int))))) (d_one (d_ret d_bl)) d_nil)
  (d_cons (d_setLc (own := [("letter", 2)]) rfl sc_is_word.nd rfl rfl (sw_true rfl rfl rfl (by decide +kernel)) (d_sg (d_v 0)) (blkOk_by (N := N_is_word) (sc := defScope s_is_word) (by decide +kernel)) (fun _ _ _ _ _ => (d_gN (hN := sc_is_word.nd) (hi := rfl) (hx := by first | exact Or.inl rfl | exact Or.inr rfl))) (fun _ _ _ _ _ => d_yes') (fun _ _ _ _ _ => (d_cb call_ordU k_ord rfl E.n_ord PyProof.Rows.boot_ord (d_a1 (d_v 2) d_a0))))
  (d_one (d_ret (d_cb (cr_all rfl) k_all rfl E.n_all (by decide +kernel) (d_a1 (d_lc (own := [("code", 3)]) rfl sc_is_word.nd (d_it rfl (d_v 1)) (blkOk_by (N := N_is_word) (sc := defScope s_is_word) (by decide +kernel)) (fun _ _ _ _ _ => (d_gN (hN := sc_is_word.nd) (hi := rfl) (hx := by first | exact Or.inl rfl | exact Or.inr rfl))) (fun _ _ _ _ _ => d_yes') (fun _ _ _ _ _ => (d_and (d_chain op_le op_le k_B2 k_B2 d_int (d_v 3) d_int) (d_and (d_cmp (op_neD hr.u64) k_ne (d_v 3) (d_globI rfl E.c_PERCENT)) (pe_one (d_cmp (op_neD hr.u64) k_ne (d_v 3) (d_globI rfl E.c_QUOTE))))))) d_a0))))))
theorem p__law_tape (E : En K mg) : FnP gCalm P w K mg base CX0 1 E.a__law_tape E.d__law_tape ["script"] (spK (Γk E) m__law_tape) :=
  fnK true (Γk E) E.F__law_tape sc__law_tape 4 mb__law_tape rfl rfl rfl (fun _ _ h => h) fun cdv A outer s H E0 hr hg => by exact
  (d_cons (d_set sc__law_tape.nd rfl (by first | exact Or.inl rfl | exact Or.inr rfl) (d_lst d_a0))
  (d_cons (d_set sc__law_tape.nd rfl (by first | exact Or.inl rfl | exact Or.inr rfl) d_int)
  (d_cons (d_for [3] nx_N (passes_of rfl) rfl (d_it rfl (d_v 0)) (d_gN (hN := sc__law_tape.nd) (hi := rfl) (hx := by first | exact Or.inl rfl | exact Or.inr rfl)) (d_cons (d_set sc__law_tape.nd rfl (by first | exact Or.inl rfl | exact Or.inr rfl) (d_cty call_intU k_int rfl E.n_int PyProof.Rows.boot_int (d_a1 (d_v 3) d_a0)))
  (d_cons (d_ifS (d_tcmp op_lt k_B2 (d_v 4) d_int) (d_one (d_set sc__law_tape.nd rfl (by first | exact Or.inl rfl | exact Or.inr rfl) (d_op op_sub k_sub d_int (d_op op_mulI k_mul d_int (d_v 4))))) d_nil)
  (d_cons (d_ifS (d_tcmp op_ge k_B2 (d_v 4) (d_op op_pow k_pow d_int d_int)) (d_one (d_drop (d_bm rfl PySem.F.plainAttrs_list PySem.F.slot_list_append PySem.F.type_list_append mt_append ty_list k_append (d_v 1) (d_a1 (d_v 4) d_a0)))) d_nil)
  (d_one (d_set sc__law_tape.nd rfl (by first | exact Or.inl rfl | exact Or.inr rfl) (d_op op_mod k_mod (d_op op_addU k_add (d_op op_addU k_add (d_op op_mulI k_mul (d_v 2) d_int) (d_op op_mod k_mod (d_cty call_intU k_int rfl E.n_int PyProof.Rows.boot_int (d_a1 (d_v 4) d_a0)) d_int)) d_int) d_int)))))))
  (d_one (d_ret (d_lst (d_a1 (d_v 1) (d_a1 (d_v 2) (d_a1 d_int d_a0)))))))))
theorem p__law_pick (E : En K mg) : FnP gCalm P w K mg base CX0 1 E.a__law_pick E.d__law_pick ["tape", "many"] (spT (Γk E) m__law_pick) :=
  fnT true (Γk E) E.F__law_pick sc__law_pick 2 2 mb__law_pick rfl rfl rfl (fun _ _ h => h) fun cdv A outer s H E0 hr hg => by exact
  (d_cons (d_while wF (passes_of rfl) (L2.PW.pt (d_wand (d_ttru rfl k_tru (d_ix ix_u k_ix (d_v 0) d_int)) (pw_and1 (d_tcmp (op_eqD hr.u64) k_eq (d_ix ix_u k_ix (d_ix ix_u k_ix (d_v 0) d_int) d_int) d_int)))) (d_one (d_drop (d_bm rfl PySem.F.plainAttrs_list PySem.F.slot_list_pop PySem.F.type_list_pop mt_popU ty_list k_pop (d_ix ix_u k_ix (d_v 0) d_int) (d_a1 d_int d_a0)))))
  (d_cons (d_ifS (d_ttru rfl k_tru (d_ix ix_u k_ix (d_v 0) d_int)) (d_cons (d_set sc__law_pick.nd rfl (by first | exact Or.inl rfl | exact Or.inr rfl) (d_bm rfl PySem.F.plainAttrs_list PySem.F.slot_list_pop PySem.F.type_list_pop mt_popU ty_list k_pop (d_ix ix_u k_ix (d_v 0) d_int) (d_a1 d_int d_a0)))
  (d_cons (d_drop (d_bm rfl PySem.F.plainAttrs_list PySem.F.slot_list_insert PySem.F.type_list_insert mt_insertR ty_list k_insert (d_ix ix_u k_ix (d_v 0) d_int) (d_a1 d_int (d_a1 (d_op op_fdivW k_div (d_v 2) (d_v 1)) d_a0))))
  (d_one (d_ret (d_op op_mod k_mod (d_cty call_intU k_int rfl E.n_int PyProof.Rows.boot_int (d_a1 (d_v 2) d_a0)) (d_v 1)))))) d_nil)
  (d_cons (d_asg [] nx_c (d_op op_addU k_add (d_ix ix_u k_ix (d_v 0) d_int) d_int) (d_gc (d_gS set_list k_setL (d_v 0) d_int)))
  (d_cons (d_asg [] nx_c (d_op op_mod k_mod (d_op op_addU k_add (d_op op_addU k_add (d_op op_mulI k_mul (d_ix ix_u k_ix (d_v 0) d_int) d_int) (d_op op_mulI k_mul (d_ix ix_u k_ix (d_v 0) d_int) d_int)) d_int) d_int) (d_gc (d_gS set_list k_setL (d_v 0) d_int)))
  (d_cons (d_set sc__law_pick.nd rfl (by first | exact Or.inl rfl | exact Or.inr rfl) (d_op op_mod k_mod (d_op op_addU k_add (d_op op_mulI k_mul (d_op op_fdivW k_div (d_ix ix_u k_ix (d_v 0) d_int) d_int) d_int) (d_ix ix_u k_ix (d_v 0) d_int)) d_int))
  (d_one (d_ret (d_op op_mod k_mod (d_cty call_intU k_int rfl E.n_int PyProof.Rows.boot_int (d_a1 (d_op op_fdivW k_div (d_v 3) d_int) d_a0)) (d_v 1)))))))))
theorem p__law_with (E : En K mg) : FnP gCalm P w K mg base CX0 1 E.a__law_with E.d__law_with ["good", "k", "row"] (spQ (Γk E) m__law_with) :=
  fnQ true (Γk E) E.F__law_with sc__law_with 3 0 mb__law_with rfl rfl rfl (fun _ _ h => h) fun cdv A outer s H E0 hr hg => by exact
  (d_one (d_ret (d_tup (d_a1 d_str (d_a1 (d_ix ix_u k_ix (d_v 0) d_int) (d_a1 (d_op op_addU k_add (d_op op_addU k_add (d_sl sl_u k_sl (d_ix ix_u k_ix (d_v 0) d_int) d_noP (d_part (d_v 1))) (d_tup (d_a1 (d_v 2) d_a0))) (d_sl sl_u k_sl (d_ix ix_u k_ix (d_v 0) d_int) (d_part (d_op op_addU k_add (d_v 1) d_int)) d_noP)) d_a0))))))
theorem p__law_spots (E : En K mg) : FnP gCalm P w K mg base CX0 1 E.a__law_spots E.d__law_spots ["row"] (spQ (Γk E) m__law_spots) :=
  fnQ true (Γk E) E.F__law_spots sc__law_spots 1 3 mb__law_spots rfl rfl rfl (fun _ _ h => h) fun cdv A outer s H E0 hr hg => by exact
  (d_cons (d_set sc__law_spots.nd rfl (by first | exact Or.inl rfl | exact Or.inr rfl) (d_lst d_a0))
  (d_cons (d_for [2] nx_N (passes_of rfl) rfl (d_rg1 rfl E.n_range (d_cb call_lenU k_len rfl E.n_len PySem.boot_len (d_a1 (d_v 0) d_a0))) (d_gN (hN := sc__law_spots.nd) (hi := rfl) (hx := by first | exact Or.inl rfl | exact Or.inr rfl)) (d_one (d_for [3] nx_N (passes_of rfl) rfl (d_it rfl (d_ix ix_u k_ix (d_v 0) (d_v 2))) (d_gN (hN := sc__law_spots.nd) (hi := rfl) (hx := by first | exact Or.inl rfl | exact Or.inr rfl)) (d_one (d_ifS (L2.PW.pt (d_wand (d_ttru rfl k_tru (d_isi kb_tup rfl rfl E.n_isinstance rfl E.n_tuple PyProof.Rows.boot_tuple (d_v 3))) (pw_and1 (d_tcmp op_notInU k_in (d_v 2) (d_v 1))))) (d_one (d_drop (d_bm rfl PySem.F.plainAttrs_list PySem.F.slot_list_append PySem.F.type_list_append mt_append ty_list k_append (d_v 1) (d_a1 (d_v 2) d_a0)))) d_nil)))))
  (d_one (d_ret (d_v 1)))))
theorem p__law_whole (E : En K mg) : FnP gAny P w K mg base CX0 1 E.a__law_whole E.d__law_whole ["value"] (spQ (Γk E) m__law_whole) :=
  fnQ false (Γk E) E.F__law_whole sc__law_whole 1 0 mb__law_whole rfl rfl rfl (fun h => nomatch h) fun cdv A outer s H E0 hr hg => by exact
  (d_one (d_ret (d_and (d_isi kb_int rfl rfl E.n_isinstance rfl E.n_int PyProof.Rows.boot_int (d_v 0)) (pe_one (d_not (d_isi kb_bool rfl rfl E.n_isinstance rfl E.n_bool PyProof.Rows.boot_bool (d_v 0)))))))
theorem p__law_is_word (E : En K mg) : FnP gCalm P w K mg base CX0 1 E.a__law_is_word E.d__law_is_word ["value"] (spQ (Γk E) m__law_is_word) :=
  fnQ true (Γk E) E.F__law_is_word sc__law_is_word 1 0 mb__law_is_word rfl rfl rfl (fun _ _ h => h) fun cdv A outer s H E0 hr hg => by exact
  (d_one (d_ret (d_and (d_chain op_le op_le k_B2 k_B2 d_int (d_cb call_lenU k_len rfl E.n_len PySem.boot_len (d_a1 (d_v 0) d_a0)) d_int) (d_and (d_cmp op_notInU k_in d_str (d_v 0)) (pe_one (d_cmp op_notInU k_in d_str (d_v 0)))))))
theorem p__law_no_books (E : En K mg) : FnP gCalm P w K mg base CX0 1 E.a__law_no_books E.d__law_no_books ["book"] (spQ (Γk E) m__law_no_books) :=
  fnQ true (Γk E) E.F__law_no_books sc__law_no_books 1 6 mb__law_no_books rfl rfl rfl (fun _ _ h => h) fun cdv A outer s H E0 hr hg => by exact
  (d_cons (d_asg [1, 2, 3] (nx_T (nx_1 nx_N (nx_1 nx_N (nx_1 nx_N nx_0)))) (d_v 0) (d_gT rfl rfl (d_g1 (d_gN (hN := sc__law_no_books.nd) (hi := rfl) (hx := by first | exact Or.inl rfl | exact Or.inr rfl)) (d_g1 (d_gN (hN := sc__law_no_books.nd) (hi := rfl) (hx := by first | exact Or.inl rfl | exact Or.inr rfl)) (d_g1 (d_gN (hN := sc__law_no_books.nd) (hi := rfl) (hx := by first | exact Or.inl rfl | exact Or.inr rfl)) d_g0)))))
  (d_cons (d_set sc__law_no_books.nd rfl (by first | exact Or.inl rfl | exact Or.inr rfl) (d_lst (d_a1 (d_tup (d_a1 (d_v 1) (d_a1 (d_tup d_a0) d_a0))) (d_a1 (d_tup (d_a1 d_bl (d_a1 (d_tup d_a0) d_a0))) (d_a1 (d_tup (d_a1 (d_un un_neg k_neg d_int) (d_a1 (d_tup d_a0) d_a0))) (d_a1 (d_tup (d_a1 d_int d_a0)) (d_a1 (d_tup (d_a1 d_int (d_a1 (d_lst (d_a1 d_int d_a0)) d_a0))) (d_a1 (d_tup (d_a1 d_int (d_a1 (d_tup (d_a1 (d_v 1) d_a0)) d_a0))) (d_a1 (d_tup (d_a1 d_int (d_a1 (d_tup (d_a1 d_bl d_a0)) d_a0))) (d_a1 (d_tup (d_a1 d_int (d_a1 (d_tup (d_a1 d_int (d_a1 d_int (d_a1 d_int (d_a1 d_int (d_a1 d_int d_a0)))))) d_a0))) (d_a1 (d_lst (d_a1 d_int (d_a1 (d_tup d_a0) d_a0))) d_a0)))))))))))
  (d_cons (d_setLc (own := [("end", 6)]) rfl sc__law_no_books.nd rfl rfl (sw_true rfl rfl rfl (by decide +kernel)) (d_it rfl (d_v 4)) (blkOk_by (N := N__law_no_books) (sc := defScope s__law_no_books) (by decide +kernel)) (fun _ _ _ _ _ => (d_gN (hN := sc__law_no_books.nd) (hi := rfl) (hx := by first | exact Or.inl rfl | exact Or.inr rfl))) (fun _ _ _ _ _ => d_yes') (fun _ _ _ _ _ => (d_tup (d_a1 (d_v 1) (d_a1 (d_v 2) (d_a1 (d_op op_addU k_add (d_v 3) (d_tup (d_a1 (d_v 6) d_a0))) d_a0))))))
  (d_one (d_ret (d_op op_addU k_add (d_v 5) (d_lst (d_a1 d_non (d_a1 (d_cty call_listOf k_list rfl E.n_list PyProof.Rows.boot_list (d_a1 (d_v 0) d_a0)) (d_a1 (d_tup (d_a1 (d_v 1) (d_a1 (d_v 2) d_a0))) (d_a1 (d_op op_addU k_add (d_v 0) (d_tup (d_a1 (d_tup d_a0) d_a0))) (d_a1 (d_tup (d_a1 d_bl (d_a1 (d_tup d_a0) (d_a1 (d_tup d_a0) d_a0)))) (d_a1 (d_tup (d_a1 (d_un un_neg k_neg d_int) (d_a1 (d_tup d_a0) (d_a1 (d_tup d_a0) d_a0)))) (d_a1 (d_tup (d_a1 (d_v 1) (d_a1 (d_cty call_listOf k_list rfl E.n_list PyProof.Rows.boot_list (d_a1 (d_v 2) d_a0)) (d_a1 (d_v 3) d_a0)))) (d_a1 (d_tup (d_a1 (d_v 1) (d_a1 (d_op op_addU k_add (d_v 2) (d_tup (d_a1 (d_v 1) d_a0))) (d_a1 (d_v 3) d_a0)))) (d_a1 (d_tup (d_a1 (d_v 1) (d_a1 (d_tup (d_a1 d_int (d_a1 d_int d_a0))) (d_a1 (d_v 3) d_a0)))) (d_a1 (d_tup (d_a1 (d_v 1) (d_a1 (d_tup (d_a1 d_int (d_a1 d_int d_a0))) (d_a1 (d_v 3) d_a0)))) (d_a1 (d_tup (d_a1 (d_v 1) (d_a1 (d_v 2) (d_a1 (d_cty call_listOf k_list rfl E.n_list PyProof.Rows.boot_list (d_a1 (d_v 3) d_a0)) d_a0)))) d_a0))))))))))))))))))
theorem p_is_number (E : En K mg) : FnP gCalm P w K mg base CX0 2 E.a_is_number E.d_is_number ["thing"] (spQ (Γk E) m_is_number) :=
  fnQ true (Γk E) E.F_is_number sc_is_number 1 0 mb_is_number rfl rfl rfl (fun _ _ h => h) fun cdv A outer s H E0 hr hg => by exact
  (d_one (d_ret (d_and (d_callQ (p_is_whole_number E) (hr.at.mono (by decide)) hg rfl E.g_is_whole_number E.F_is_whole_number.kp E.b_is_whole_number .nil (fun _ => .nil) (fun _ => at0) (d_a1 (d_v 0) d_a0)) (pe_one (d_cmp op_ge k_B2 (d_v 0) d_int)))))
theorem p__law_word (E : En K mg) : FnP gCalm P w K mg base CX0 2 E.a__law_word E.d__law_word ["tape"] (spT (Γk E) m__law_word) :=
  fnT true (Γk E) E.F__law_word sc__law_word 1 3 mb__law_word rfl rfl rfl (fun _ _ h => h) fun cdv A outer s H E0 hr hg => by exact
  (d_cons (d_set sc__law_word.nd rfl (by first | exact Or.inl rfl | exact Or.inr rfl) (d_op op_addU k_add (d_op op_addU k_add d_str d_str) d_str))
  (d_cons (d_set sc__law_word.nd rfl (by first | exact Or.inl rfl | exact Or.inr rfl) (d_ix ix_u k_ix (d_tup (d_a1 d_int (d_a1 d_int (d_a1 d_int (d_a1 d_int (d_a1 d_int (d_a1 d_int (d_a1 d_int (d_a1 d_int d_a0))))))))) (d_callT (p__law_pick E) (hr.at.mono (by decide)) hg rfl E.g__law_pick E.F__law_pick.kp E.b__law_pick .nil (fun _ => .nil) (fun _ => at0) (d_a1 (d_v 0) (d_a1 d_int d_a0)))))
  (d_one (d_ret (d_join rfl d_str (d_lc (own := [("k", 3)]) rfl sc__law_word.nd (d_rg1 rfl E.n_range (d_v 2)) (blkOk_by (N := N__law_word) (sc := defScope s__law_word) (by decide +kernel)) (fun _ _ _ _ _ => (d_gN (hN := sc__law_word.nd) (hi := rfl) (hx := by first | exact Or.inl rfl | exact Or.inr rfl))) (fun _ _ _ _ _ => d_yes') (fun _ _ _ _ _ => (d_ix ix_u k_ix (d_v 1) (d_callT (p__law_pick E) (hr.at.mono (by decide)) hg rfl E.g__law_pick E.F__law_pick.kp E.b__law_pick .nil (fun _ => .nil) (fun _ => at0) (d_a1 (d_v 0) (d_a1 (d_cb call_lenU k_len rfl E.n_len PySem.boot_len (d_a1 (d_v 1) d_a0)) d_a0)))))))))))
theorem p__law_book (E : En K mg) : FnP gCalm P w K mg base CX0 2 E.a__law_book E.d__law_book ["tape"] (spT (Γk E) m__law_book) :=
  fnT true (Γk E) E.F__law_book sc__law_book 1 8 mb__law_book rfl rfl rfl (fun _ _ h => h) fun cdv A outer s H E0 hr hg => by exact
  (d_cons (d_set sc__law_book.nd rfl (by first | exact Or.inl rfl | exact Or.inr rfl) (d_ix ix_u k_ix (d_tup (d_a1 d_int (d_a1 d_int (d_a1 d_int (d_a1 d_int (d_a1 d_int (d_a1 d_int (d_a1 d_int (d_a1 d_int (d_a1 d_int d_a0)))))))))) (d_callT (p__law_pick E) (hr.at.mono (by decide)) hg rfl E.g__law_pick E.F__law_pick.kp E.b__law_pick .nil (fun _ => .nil) (fun _ => at0) (d_a1 (d_v 0) (d_a1 d_int d_a0)))))
  (d_cons (d_set sc__law_book.nd rfl (by first | exact Or.inl rfl | exact Or.inr rfl) (d_cty call_tupOf k_tuple rfl E.n_tuple PyProof.Rows.boot_tuple (d_a1 (d_lc (own := [("s", 7)]) rfl sc__law_book.nd (d_rg1 rfl E.n_range (d_v 1)) (blkOk_by (N := N__law_book) (sc := defScope s__law_book) (by decide +kernel)) (fun _ _ _ _ _ => (d_gN (hN := sc__law_book.nd) (hi := rfl) (hx := by first | exact Or.inl rfl | exact Or.inr rfl))) (fun _ _ _ _ _ => (d_tone (d_tcmp op_lt k_B2 (d_callT (p__law_pick E) (hr.at.mono (by decide)) hg rfl E.g__law_pick E.F__law_pick.kp E.b__law_pick .nil (fun _ => .nil) (fun _ => at0) (d_a1 (d_v 0) (d_a1 d_int d_a0))) d_int))) (fun _ _ _ _ _ => (d_v 7))) d_a0)))
  (d_cons (d_set sc__law_book.nd rfl (by first | exact Or.inl rfl | exact Or.inr rfl) (d_lst d_a0))
  (d_cons (d_ifS (d_tcmp op_gt k_B2 (d_v 1) d_int) (d_one (d_for [4] nx_N (passes_of rfl) rfl (d_rg1 rfl E.n_range (d_callT (p__law_pick E) (hr.at.mono (by decide)) hg rfl E.g__law_pick E.F__law_pick.kp E.b__law_pick .nil (fun _ => .nil) (fun _ => at0) (d_a1 (d_v 0) (d_a1 d_int d_a0)))) (d_gN (hN := sc__law_book.nd) (hi := rfl) (hx := by first | exact Or.inl rfl | exact Or.inr rfl)) (d_cons (d_set sc__law_book.nd rfl (by first | exact Or.inl rfl | exact Or.inr rfl) (d_ix ix_u k_ix (d_tup (d_a1 d_int (d_a1 d_int (d_a1 d_int (d_a1 d_int (d_a1 d_int (d_a1 d_int (d_a1 d_int (d_a1 d_int d_a0))))))))) (d_callT (p__law_pick E) (hr.at.mono (by decide)) hg rfl E.g__law_pick E.F__law_pick.kp E.b__law_pick .nil (fun _ => .nil) (fun _ => at0) (d_a1 (d_v 0) (d_a1 d_int d_a0)))))
  (d_cons (d_set sc__law_book.nd rfl (by first | exact Or.inl rfl | exact Or.inr rfl) (d_cty call_tupOf k_tuple rfl E.n_tuple PyProof.Rows.boot_tuple (d_a1 (d_lc (own := [("i", 8)]) rfl sc__law_book.nd (d_rg1 rfl E.n_range (d_v 5)) (blkOk_by (N := N__law_book) (sc := defScope s__law_book) (by decide +kernel)) (fun _ _ _ _ _ => (d_gN (hN := sc__law_book.nd) (hi := rfl) (hx := by first | exact Or.inl rfl | exact Or.inr rfl))) (fun _ _ _ _ _ => d_yes') (fun _ _ _ _ _ => (d_callT (p__law_pick E) (hr.at.mono (by decide)) hg rfl E.g__law_pick E.F__law_pick.kp E.b__law_pick .nil (fun _ => .nil) (fun _ => at0) (d_a1 (d_v 0) (d_a1 (d_v 1) d_a0))))) d_a0)))
  (d_one (d_drop (d_bm rfl PySem.F.plainAttrs_list PySem.F.slot_list_append PySem.F.type_list_append mt_append ty_list k_append (d_v 3) (d_a1 (d_tup (d_a1 (d_callT (p__law_pick E) (hr.at.mono (by decide)) hg rfl E.g__law_pick E.F__law_pick.kp E.b__law_pick .nil (fun _ => .nil) (fun _ => at0) (d_a1 (d_v 0) (d_a1 (d_v 1) d_a0))) (d_a1 (d_v 6) d_a0))) d_a0)))))))) d_nil)
  (d_one (d_ret (d_tup (d_a1 (d_v 1) (d_a1 (d_v 2) (d_a1 (d_cty call_tupOf k_tuple rfl E.n_tuple PyProof.Rows.boot_tuple (d_a1 (d_v 3) d_a0)) d_a0))))))))))
theorem p__law_odd (E : En K mg) : FnP gCalm P w K mg base CX0 2 E.a__law_odd E.d__law_odd ["tape"] (spT (Γk E) m__law_odd) :=
  fnT true (Γk E) E.F__law_odd sc__law_odd 1 3 mb__law_odd rfl rfl rfl (fun _ _ h => h) fun cdv A outer s H E0 hr hg => by exact
  (d_cons (d_set sc__law_odd.nd rfl (by first | exact Or.inl rfl | exact Or.inr rfl) (d_tup d_a0))
  (d_cons (d_for [2] nx_N (passes_of rfl) rfl (d_rg1 rfl E.n_range d_int) (d_gN (hN := sc__law_odd.nd) (hi := rfl) (hx := by first | exact Or.inl rfl | exact Or.inr rfl)) (d_one (d_set sc__law_odd.nd rfl (by first | exact Or.inl rfl | exact Or.inr rfl) (d_tup (d_a1 (d_v 1) d_a0)))))
  (d_cons (d_set sc__law_odd.nd rfl (by first | exact Or.inl rfl | exact Or.inr rfl) (d_lst (d_a1 d_non (d_a1 d_bl (d_a1 d_bl (d_a1 d_int (d_a1 d_int (d_a1 d_int (d_a1 (d_un un_neg k_neg d_int) (d_a1 d_int (d_a1 d_str (d_a1 d_str (d_a1 d_str (d_a1 d_str (d_a1 d_str (d_a1 d_str (d_a1 (d_tup d_a0) (d_a1 (d_tup (d_a1 d_int d_a0)) (d_a1 (d_tup (d_a1 d_int (d_a1 d_int d_a0))) (d_a1 (d_tup (d_a1 d_int (d_a1 d_int d_a0))) (d_a1 (d_tup (d_a1 d_int (d_a1 d_int d_a0))) (d_a1 (d_tup (d_a1 d_int (d_a1 d_bl d_a0))) (d_a1 (d_tup (d_a1 d_bl (d_a1 d_int d_a0))) (d_a1 (d_tup (d_a1 d_int (d_a1 d_int (d_a1 d_int d_a0)))) (d_a1 (d_lst (d_a1 d_int (d_a1 d_int d_a0))) (d_a1 (d_lst (d_a1 d_str d_a0)) (d_a1 (d_tup (d_a1 d_str d_a0)) (d_a1 d_str (d_a1 (d_tup (d_a1 d_int (d_a1 d_str d_a0))) (d_a1 (d_tup (d_a1 (d_un un_neg k_neg d_int) (d_a1 d_int d_a0))) (d_a1 (d_tup (d_a1 d_int (d_a1 (d_un un_neg k_neg d_int) d_a0))) (d_a1 (d_tup (d_a1 d_int (d_a1 (d_op op_pow k_pow d_int d_int) d_a0))) (d_a1 (d_tup (d_a1 (d_op op_pow k_pow d_int d_int) (d_a1 d_int d_a0))) (d_a1 (d_tup (d_a1 (d_tup (d_a1 d_int (d_a1 d_int d_a0))) d_a0)) (d_a1 (d_tup (d_a1 (d_tup d_a0) (d_a1 (d_tup d_a0) d_a0))) (d_a1 (d_tup (d_a1 d_int (d_a1 d_int d_a0))) (d_a1 (d_tup (d_a1 d_int d_a0)) (d_a1 (d_v 1) (d_a1 (d_tup (d_a1 d_int (d_a1 d_non d_a0))) (d_a1 (d_lst d_a0) d_a0))))))))))))))))))))))))))))))))))))))))
  (d_one (d_ret (d_ix ix_u k_ix (d_v 3) (d_callT (p__law_pick E) (hr.at.mono (by decide)) hg rfl E.g__law_pick E.F__law_pick.kp E.b__law_pick .nil (fun _ => .nil) (fun _ => at0) (d_a1 (d_v 0) (d_a1 (d_cb call_lenU k_len rfl E.n_len PySem.boot_len (d_a1 (d_v 3) d_a0)) d_a0)))))))))
theorem p__law_path (E : En K mg) : FnP gCalm P w K mg base CX0 2 E.a__law_path E.d__law_path ["tape", "thing"] (spT (Γk E) m__law_path) :=
  fnT true (Γk E) E.F__law_path sc__law_path 2 4 mb__law_path rfl rfl rfl (fun _ _ h => h) fun cdv A outer s H E0 hr hg => by exact
  (d_cons (d_set sc__law_path.nd rfl (by first | exact Or.inl rfl | exact Or.inr rfl) (d_tup d_a0))
  (d_cons (d_set sc__law_path.nd rfl (by first | exact Or.inl rfl | exact Or.inr rfl) (d_v 1))
  (d_cons (d_for [4] nx_N (passes_of rfl) rfl (d_rg1 rfl E.n_range (d_ix ix_u k_ix (d_tup (d_a1 d_int (d_a1 d_int (d_a1 d_int (d_a1 d_int (d_a1 d_int (d_a1 d_int (d_a1 d_int (d_a1 d_int d_a0))))))))) (d_callT (p__law_pick E) (hr.at.mono (by decide)) hg rfl E.g__law_pick E.F__law_pick.kp E.b__law_pick .nil (fun _ => .nil) (fun _ => at0) (d_a1 (d_v 0) (d_a1 d_int d_a0))))) (d_gN (hN := sc__law_path.nd) (hi := rfl) (hx := by first | exact Or.inl rfl | exact Or.inr rfl)) (d_cons (d_ifS (L2.PW.pt (d_wor (d_tnot (d_ttru rfl k_tru (d_isiTL rfl rfl E.n_isinstance rfl E.n_tuple rfl E.n_list (d_v 3)))) (pw_or1 (d_tcmp (op_eqD hr.u64) k_eq (d_cb call_lenU k_len rfl E.n_len PySem.boot_len (d_a1 (d_v 3) d_a0)) d_int)))) (d_one d_bk) d_nil)
  (d_cons (d_set sc__law_path.nd rfl (by first | exact Or.inl rfl | exact Or.inr rfl) (d_callT (p__law_pick E) (hr.at.mono (by decide)) hg rfl E.g__law_pick E.F__law_pick.kp E.b__law_pick .nil (fun _ => .nil) (fun _ => at0) (d_a1 (d_v 0) (d_a1 (d_cb call_lenU k_len rfl E.n_len PySem.boot_len (d_a1 (d_v 3) d_a0)) d_a0))))
  (d_cons (d_ifS (L2.PW.pt (d_wand (d_tcmp (op_eqD hr.u64) k_eq (d_v 4) d_int) (pw_and1 (d_tcmp (op_eqD hr.u64) k_eq (d_cb call_lenU k_len rfl E.n_len PySem.boot_len (d_a1 (d_v 3) d_a0)) d_int)))) (d_one (d_set sc__law_path.nd rfl (by first | exact Or.inl rfl | exact Or.inr rfl) (d_ix ix_u k_ix (d_tup (d_a1 d_int (d_a1 d_int (d_a1 d_int (d_a1 d_int (d_a1 d_int (d_a1 d_int (d_a1 d_int (d_a1 d_int d_a0))))))))) (d_callT (p__law_pick E) (hr.at.mono (by decide)) hg rfl E.g__law_pick E.F__law_pick.kp E.b__law_pick .nil (fun _ => .nil) (fun _ => at0) (d_a1 (d_v 0) (d_a1 d_int d_a0)))))) d_nil)
  (d_cons (d_set sc__law_path.nd rfl (by first | exact Or.inl rfl | exact Or.inr rfl) (d_op op_addU k_add (d_v 2) (d_tup (d_a1 (d_v 5) d_a0))))
  (d_one (d_set sc__law_path.nd rfl (by first | exact Or.inl rfl | exact Or.inr rfl) (d_ix ix_u k_ix (d_v 3) (d_v 5)))))))))
  (d_one (d_ret (d_v 2))))))
theorem p__law_widths (E : En K mg) : FnP gCalm P w K mg base CX0 2 E.a__law_widths E.d__law_widths ["tape", "good"] (spM (Γk E) m__law_widths) :=
  fnM true (Γk E) E.F__law_widths sc__law_widths 2 4 mb__law_widths rfl rfl rfl (fun _ _ h => h) fun cdv A outer s H E0 hr hg => by exact
  (d_cons (d_set sc__law_widths.nd rfl (by first | exact Or.inl rfl | exact Or.inr rfl) (d_ix ix_u k_ix (d_v 1) d_int))
  (d_cons (d_ifS (d_tcmp (op_eqD hr.u64) k_eq (d_cb call_lenU k_len rfl E.n_len PySem.boot_len (d_a1 (d_v 2) d_a0)) d_int) (d_one (d_ret (d_lst (d_a1 (d_tup (d_a1 d_str (d_a1 (d_tup (d_a1 d_int d_a0)) (d_a1 (d_ix ix_u k_ix (d_v 1) d_int) d_a0)))) d_a0)))) d_nil)
  (d_cons (d_set sc__law_widths.nd rfl (by first | exact Or.inl rfl | exact Or.inr rfl) (d_callT (p__law_pick E) (hr.at.mono (by decide)) hg rfl E.g__law_pick E.F__law_pick.kp E.b__law_pick .nil (fun _ => .nil) (fun _ => at0) (d_a1 (d_v 0) (d_a1 (d_cb call_lenU k_len rfl E.n_len PySem.boot_len (d_a1 (d_v 2) d_a0)) d_a0))))
  (d_cons (d_set sc__law_widths.nd rfl (by first | exact Or.inl rfl | exact Or.inr rfl) (d_tup (d_a1 d_bl (d_a1 d_int (d_a1 d_int (d_a1 d_non (d_a1 (d_op op_addU k_add (d_ix ix_u k_ix (d_v 2) (d_v 3)) d_int) (d_a1 (d_un un_neg k_neg d_int) d_a0))))))))
  (d_one (d_ret (d_lc (own := [("new", 5)]) rfl sc__law_widths.nd (d_it rfl (d_v 4)) (blkOk_by (N := N__law_widths) (sc := defScope s__law_widths) (by decide +kernel)) (fun _ _ _ _ _ => (d_gN (hN := sc__law_widths.nd) (hi := rfl) (hx := by first | exact Or.inl rfl | exact Or.inr rfl))) (fun _ _ _ _ _ => d_yes') (fun _ _ _ _ _ => (d_tup (d_a1 d_str (d_a1 (d_op op_addU k_add (d_op op_addU k_add (d_sl sl_u k_sl (d_v 2) d_noP (d_part (d_v 3))) (d_tup (d_a1 (d_v 5) d_a0))) (d_sl sl_u k_sl (d_v 2) (d_part (d_op op_addU k_add (d_v 3) d_int)) d_noP)) (d_a1 (d_ix ix_u k_ix (d_v 1) d_int) d_a0))))))))))))
theorem p__law_lines (E : En K mg) : FnP gCalm P w K mg base CX0 2 E.a__law_lines E.d__law_lines ["tape", "good", "k", "row", "j"] (spT (Γk E) m__law_lines) :=
  fnT true (Γk E) E.F__law_lines sc__law_lines 5 7 mb__law_lines rfl rfl rfl (fun _ _ h => h) fun cdv A outer s H E0 hr hg => by exact
  (d_cons (d_set sc__law_lines.nd rfl (by first | exact Or.inl rfl | exact Or.inr rfl) (d_ix ix_u k_ix (d_v 3) (d_v 4)))
  (d_cons (d_setLc (own := [("at", 6)]) rfl sc__law_lines.nd rfl rfl (sw_true rfl rfl rfl (by decide +kernel)) (d_rg1 rfl E.n_range (d_cb call_lenU k_len rfl E.n_len PySem.boot_len (d_a1 (d_v 5) d_a0))) (blkOk_by (N := N__law_lines) (sc := defScope s__law_lines) (by decide +kernel)) (fun _ _ _ _ _ => (d_gN (hN := sc__law_lines.nd) (hi := rfl) (hx := by first | exact Or.inl rfl | exact Or.inr rfl))) (fun _ _ _ _ _ => (d_tone (d_tnot (d_ttru rfl k_tru (d_isi kb_str rfl rfl E.n_isinstance rfl E.n_str PyProof.Rows.boot_str (d_ix ix_u k_ix (d_v 5) (d_v 6))))))) (fun _ _ _ _ _ => (d_v 6)))
  (d_cons (d_set sc__law_lines.nd rfl (by first | exact Or.inl rfl | exact Or.inr rfl) (d_lst d_a0))
  (d_cons (d_ifS (d_tcmp op_gt k_B2 (d_cb call_lenU k_len rfl E.n_len PySem.boot_len (d_a1 (d_v 7) d_a0)) d_int) (d_cons (d_set sc__law_lines.nd rfl (by first | exact Or.inl rfl | exact Or.inr rfl) (d_ix ix_u k_ix (d_v 7) (d_callT (p__law_pick E) (hr.at.mono (by decide)) hg rfl E.g__law_pick E.F__law_pick.kp E.b__law_pick .nil (fun _ => .nil) (fun _ => at0) (d_a1 (d_v 0) (d_a1 (d_cb call_lenU k_len rfl E.n_len PySem.boot_len (d_a1 (d_v 7) d_a0)) d_a0)))))
  (d_cons (d_asg [9, 10] (nx_T (nx_1 nx_N (nx_1 nx_N nx_0))) (d_ix ix_u k_ix (d_v 5) (d_v 6)) (d_gT rfl rfl (d_g1 (d_gN (hN := sc__law_lines.nd) (hi := rfl) (hx := by first | exact Or.inl rfl | exact Or.inr rfl)) (d_g1 (d_gN (hN := sc__law_lines.nd) (hi := rfl) (hx := by first | exact Or.inl rfl | exact Or.inr rfl)) d_g0))))
  (d_one (d_for [11] nx_N (passes_of rfl) rfl (d_it rfl (d_tup (d_a1 (d_tup d_a0) (d_a1 (d_tup (d_a1 (d_tup (d_a1 (d_v 9) (d_a1 (d_v 10) d_a0))) (d_a1 (d_tup (d_a1 (d_v 9) (d_a1 (d_v 10) d_a0))) d_a0))) (d_a1 (d_tup (d_a1 (d_tup (d_a1 (d_v 9) (d_a1 (d_cmp (op_eqD hr.u64) k_eq (d_v 10) d_int) d_a0))) d_a0)) (d_a1 (d_tup (d_a1 (d_lst (d_a1 (d_v 9) (d_a1 (d_v 10) d_a0))) d_a0)) (d_a1 (d_tup (d_a1 d_str d_a0)) (d_a1 (d_tup (d_a1 (d_tup (d_a1 (d_v 9) (d_a1 (d_op op_addU k_add (d_v 10) d_int) d_a0))) d_a0)) (d_a1 (d_tup (d_a1 (d_tup (d_a1 (d_op op_addU k_add (d_v 9) d_int) (d_a1 (d_v 10) d_a0))) d_a0)) d_a0))))))))) (d_gN (hN := sc__law_lines.nd) (hi := rfl) (hx := by first | exact Or.inl rfl | exact Or.inr rfl)) (d_one (d_drop (d_bm rfl PySem.F.plainAttrs_list PySem.F.slot_list_append PySem.F.type_list_append mt_append ty_list k_append (d_v 8) (d_a1 (d_op op_addU k_add (d_op op_addU k_add (d_sl sl_u k_sl (d_v 5) d_noP (d_part (d_v 6))) (d_v 11)) (d_sl sl_u k_sl (d_v 5) (d_part (d_op op_addU k_add (d_v 6) d_int)) d_noP)) d_a0)))))))) d_nil)
  (d_cons (d_set sc__law_lines.nd rfl (by first | exact Or.inl rfl | exact Or.inr rfl) (d_callT (p__law_pick E) (hr.at.mono (by decide)) hg rfl E.g__law_pick E.F__law_pick.kp E.b__law_pick .nil (fun _ => .nil) (fun _ => at0) (d_a1 (d_v 0) (d_a1 (d_op op_addU k_add (d_cb call_lenU k_len rfl E.n_len PySem.boot_len (d_a1 (d_v 5) d_a0)) d_int) d_a0))))
  (d_cons (d_for [11] nx_N (passes_of rfl) rfl (d_it rfl (d_tup (d_a1 d_str (d_a1 d_str (d_a1 d_str (d_a1 d_str (d_a1 d_str (d_a1 (d_tup (d_a1 d_int (d_a1 d_bl d_a0))) (d_a1 d_non d_a0))))))))) (d_gN (hN := sc__law_lines.nd) (hi := rfl) (hx := by first | exact Or.inl rfl | exact Or.inr rfl)) (d_one (d_drop (d_bm rfl PySem.F.plainAttrs_list PySem.F.slot_list_append PySem.F.type_list_append mt_append ty_list k_append (d_v 8) (d_a1 (d_op op_addU k_add (d_op op_addU k_add (d_sl sl_u k_sl (d_v 5) d_noP (d_part (d_v 6))) (d_tup (d_a1 (d_v 11) d_a0))) (d_sl sl_u k_sl (d_v 5) (d_part (d_v 6)) d_noP)) d_a0)))))
  (d_one (d_ret (d_lc (own := [("new", 11)]) rfl sc__law_lines.nd (d_it rfl (d_op op_addU k_add (d_v 8) (d_lst (d_a1 (d_cty call_listOf k_list rfl E.n_list PyProof.Rows.boot_list (d_a1 (d_v 5) d_a0)) d_a0)))) (blkOk_by (N := N__law_lines) (sc := defScope s__law_lines) (by decide +kernel)) (fun _ _ _ _ _ => (d_gN (hN := sc__law_lines.nd) (hi := rfl) (hx := by first | exact Or.inl rfl | exact Or.inr rfl))) (fun _ _ _ _ _ => d_yes') (fun _ _ _ _ _ => (d_callQ (p__law_with E) (hr.at.mono (by decide)) hg rfl E.g__law_with E.F__law_with.kp E.b__law_with .nil (fun _ => .nil) (fun _ => at0) (d_a1 (d_v 1) (d_a1 (d_v 2) (d_a1 (d_op op_addU k_add (d_op op_addU k_add (d_sl sl_u k_sl (d_v 3) d_noP (d_part (d_v 4))) (d_tup (d_a1 (d_v 11) d_a0))) (d_sl sl_u k_sl (d_v 3) (d_part (d_op op_addU k_add (d_v 4) d_int)) d_noP)) d_a0))))))))))))))
theorem p__law_merged (E : En K mg) : FnP gCalm P w K mg base CX0 2 E.a__law_merged E.d__law_merged ["tape", "good", "first", "second"] (spT (Γk E) m__law_merged) :=
  fnT true (Γk E) E.F__law_merged sc__law_merged 4 5 mb__law_merged rfl rfl rfl (fun _ _ h => h) fun cdv A outer s H E0 hr hg => by exact
  (d_cons (d_set sc__law_merged.nd rfl (by first | exact Or.inl rfl | exact Or.inr rfl) (d_lst d_a0))
  (d_cons (d_for [5] nx_N (passes_of rfl) rfl (d_rg1 rfl E.n_range d_int) (d_gN (hN := sc__law_merged.nd) (hi := rfl) (hx := by first | exact Or.inl rfl | exact Or.inr rfl)) (d_cons (d_set sc__law_merged.nd rfl (by first | exact Or.inl rfl | exact Or.inr rfl) (d_ix ix_u k_ix (d_v 2) (d_callT (p__law_pick E) (hr.at.mono (by decide)) hg rfl E.g__law_pick E.F__law_pick.kp E.b__law_pick .nil (fun _ => .nil) (fun _ => at0) (d_a1 (d_v 0) (d_a1 (d_cb call_lenU k_len rfl E.n_len PySem.boot_len (d_a1 (d_v 2) d_a0)) d_a0)))))
  (d_cons (d_set sc__law_merged.nd rfl (by first | exact Or.inl rfl | exact Or.inr rfl) (d_ix ix_u k_ix (d_v 3) (d_callT (p__law_pick E) (hr.at.mono (by decide)) hg rfl E.g__law_pick E.F__law_pick.kp E.b__law_pick .nil (fun _ => .nil) (fun _ => at0) (d_a1 (d_v 0) (d_a1 (d_cb call_lenU k_len rfl E.n_len PySem.boot_len (d_a1 (d_v 3) d_a0)) d_a0)))))
  (d_cons (d_set sc__law_merged.nd rfl (by first | exact Or.inl rfl | exact Or.inr rfl) (d_callT (p__law_pick E) (hr.at.mono (by decide)) hg rfl E.g__law_pick E.F__law_pick.kp E.b__law_pick .nil (fun _ => .nil) (fun _ => at0) (d_a1 (d_v 0) (d_a1 (d_op op_addU k_add (d_cb call_lenU k_len rfl E.n_len PySem.boot_len (d_a1 (d_ix ix_u k_ix (d_v 1) d_int) d_a0)) d_int) d_a0))))
  (d_one (d_drop (d_bm rfl PySem.F.plainAttrs_list PySem.F.slot_list_append PySem.F.type_list_append mt_append ty_list k_append (d_v 4) (d_a1 (d_tup (d_a1 d_str (d_a1 (d_ix ix_u k_ix (d_v 6) d_int) (d_a1 (d_op op_addU k_add (d_sl sl_u k_sl (d_ix ix_u k_ix (d_v 7) d_int) d_noP (d_part (d_v 8))) (d_sl sl_u k_sl (d_ix ix_u k_ix (d_v 6) d_int) (d_part (d_v 8)) d_noP)) d_a0)))) d_a0))))))))
  (d_one (d_ret (d_v 4)))))
theorem p__law_row_word (E : En K mg) : FnP gCalm P w K mg base CX0 2 E.a__law_row_word E.d__law_row_word ["con", "widths", "row"] (spQ (Γk E) m__law_row_word) :=
  fnQ true (Γk E) E.F__law_row_word sc__law_row_word 3 5 mb__law_row_word rfl rfl rfl (fun _ _ h => h) fun cdv A outer s H E0 hr hg => by exact
  (d_cons (d_ifS (L2.PW.pt (d_wor (d_tnot (d_ttru rfl k_tru (d_isi kb_tup rfl rfl E.n_isinstance rfl E.n_tuple PyProof.Rows.boot_tuple (d_v 2)))) (pw_or1 (d_tcmp (op_neD hr.u64) k_ne (d_cb call_lenU k_len rfl E.n_len PySem.boot_len (d_a1 (d_v 2) d_a0)) (d_ix ix_u k_ix (d_v 1) (d_ix ix_u k_ix (d_v 0) d_int)))))) (d_one (d_ret d_str)) d_nil)
  (d_cons (d_ifS (d_tnot (d_ttru rfl k_tru (d_cb (cr_all rfl) k_all rfl E.n_all (by decide +kernel) (d_a1 (d_lc (own := [("line", 3)]) rfl sc__law_row_word.nd (d_it rfl (d_v 2)) (blkOk_by (N := N__law_row_word) (sc := defScope s__law_row_word) (by decide +kernel)) (fun _ _ _ _ _ => (d_gN (hN := sc__law_row_word.nd) (hi := rfl) (hx := by first | exact Or.inl rfl | exact Or.inr rfl))) (fun _ _ _ _ _ => d_yes') (fun _ _ _ _ _ => (d_isi kb_tup rfl rfl E.n_isinstance rfl E.n_tuple PyProof.Rows.boot_tuple (d_v 3)))) d_a0)))) (d_one (d_ret d_str)) d_nil)
  (d_cons (d_setLc (own := [("s", 7)]) rfl sc__law_row_word.nd rfl rfl (sw_true rfl rfl rfl (by decide +kernel)) (d_it rfl (d_ix ix_u k_ix (d_v 0) d_int)) (blkOk_by (N := N__law_row_word) (sc := defScope s__law_row_word) (by decide +kernel)) (fun _ _ _ _ _ => (d_gN (hN := sc__law_row_word.nd) (hi := rfl) (hx := by first | exact Or.inl rfl | exact Or.inr rfl))) (fun _ _ _ _ _ => d_yes') (fun _ _ _ _ _ => (d_lst d_a0)))
  (d_cons (d_for [3] nx_N (passes_of rfl) rfl (d_it rfl (d_v 2)) (d_gN (hN := sc__law_row_word.nd) (hi := rfl) (hx := by first | exact Or.inl rfl | exact Or.inr rfl)) (d_one (d_for [5] nx_N (passes_of rfl) rfl (d_it rfl (d_v 3)) (d_gN (hN := sc__law_row_word.nd) (hi := rfl) (hx := by first | exact Or.inl rfl | exact Or.inr rfl)) (d_cons (d_ifS (d_ttru rfl k_tru (d_isi kb_str rfl rfl E.n_isinstance rfl E.n_str PyProof.Rows.boot_str (d_v 5))) (d_cons (d_ifS (d_tnot (d_ttru rfl k_tru (d_callQ (p__law_is_word E) (hr.at.mono (by decide)) hg rfl E.g__law_is_word E.F__law_is_word.kp E.b__law_is_word .nil (fun _ => .nil) (fun _ => at0) (d_a1 (d_v 5) d_a0)))) (d_one (d_ret d_str)) d_nil)
  (d_one d_ct)) d_nil)
  (d_cons (d_ifS (L2.PW.pt (d_wor (d_tnot (d_ttru rfl k_tru (d_isi kb_tup rfl rfl E.n_isinstance rfl E.n_tuple PyProof.Rows.boot_tuple (d_v 5)))) (d_wor (d_tcmp (op_neD hr.u64) k_ne (d_cb call_lenU k_len rfl E.n_len PySem.boot_len (d_a1 (d_v 5) d_a0)) d_int) (d_wor (d_tnot (d_ttru rfl k_tru (d_callQ (p__law_whole E) (hr.at.mono (by decide)) trivial rfl E.g__law_whole E.F__law_whole.kp E.b__law_whole .nil (fun _ => .nil) (fun _ => at0) (d_a1 (d_ix ix_u k_ix (d_v 5) d_int) d_a0)))) (pw_or1 (d_tnot (d_ttru rfl k_tru (d_callQ (p__law_whole E) (hr.at.mono (by decide)) trivial rfl E.g__law_whole E.F__law_whole.kp E.b__law_whole .nil (fun _ => .nil) (fun _ => at0) (d_a1 (d_ix ix_u k_ix (d_v 5) d_int) d_a0))))))))) (d_one (d_ret d_str)) d_nil)
  (d_cons (d_ifS (L2.PW.pt (d_wor (d_tnot (d_tchain op_le op_lt k_B2 k_B2 d_int (d_ix ix_u k_ix (d_v 5) d_int) (d_cb call_lenU k_len rfl E.n_len PySem.boot_len (d_a1 (d_v 4) d_a0)))) (pw_or1 (d_tnot (d_tchain op_le op_lt k_B2 k_B2 d_int (d_ix ix_u k_ix (d_v 5) d_int) (d_ix ix_u k_ix (d_v 1) (d_ix ix_u k_ix (d_ix ix_u k_ix (d_v 0) d_int) (d_ix ix_u k_ix (d_v 5) d_int)))))))) (d_one (d_ret d_str)) d_nil)
  (d_one (d_drop (d_bm rfl PySem.F.plainAttrs_list PySem.F.slot_list_append PySem.F.type_list_append mt_append ty_list k_append (d_ix ix_u k_ix (d_v 4) (d_ix ix_u k_ix (d_v 5) d_int)) (d_a1 (d_ix ix_u k_ix (d_v 5) d_int) d_a0))))))))))
  (d_cons (d_for [6] nx_N (passes_of rfl) rfl (d_rg1 rfl E.n_range (d_cb call_lenU k_len rfl E.n_len PySem.boot_len (d_a1 (d_v 4) d_a0))) (d_gN (hN := sc__law_row_word.nd) (hi := rfl) (hx := by first | exact Or.inl rfl | exact Or.inr rfl)) (d_one (d_ifS (L2.PW.pt (d_wor (d_tcmp (op_neD hr.u64) k_ne (d_cb call_lenU k_len rfl E.n_len PySem.boot_len (d_a1 (d_ix ix_u k_ix (d_v 4) (d_v 6)) d_a0)) (d_ix ix_u k_ix (d_v 1) (d_ix ix_u k_ix (d_ix ix_u k_ix (d_v 0) d_int) (d_v 6)))) (pw_or1 (d_tcmp (op_neD hr.u64) k_ne (d_lenSet rfl rfl hr.u64 rfl E.n_len rfl E.n_set (d_ix ix_u k_ix (d_v 4) (d_v 6))) (d_cb call_lenU k_len rfl E.n_len PySem.boot_len (d_a1 (d_ix ix_u k_ix (d_v 4) (d_v 6)) d_a0)))))) (d_one (d_ret d_str)) d_nil)))
  (d_one (d_ret d_str)))))))
theorem p_sort_fits (E : En K mg) : FnP gCalm P w K mg base CX0 3 E.a_sort_fits E.d_sort_fits ["size", "thing"] (spQ (Γk E) m_sort_fits) :=
  fnQ true (Γk E) E.F_sort_fits sc_sort_fits 2 0 mb_sort_fits rfl rfl rfl (fun _ _ h => h) fun cdv A outer s H E0 hr hg => by exact
  (d_one (d_ret (d_and (d_callQ (p_is_number E) (hr.at.mono (by decide)) hg rfl E.g_is_number E.F_is_number.kp E.b_is_number .nil (fun _ => .nil) (fun _ => at0) (d_a1 (d_v 1) d_a0)) (pe_one (d_cmp op_lt k_B2 (d_v 1) (d_v 0))))))
theorem p__are_widths (E : En K mg) : FnP gCalm P w K mg base CX0 3 E.a__are_widths E.d__are_widths ["book", "widths"] (spQ (Γk E) m__are_widths) :=
  fnQ true (Γk E) E.F__are_widths sc__are_widths 2 2 mb__are_widths rfl rfl rfl (fun _ _ h => h) fun cdv A outer s H E0 hr hg => by exact
  (d_cons (d_ifS (L2.PW.pt (d_wor (d_tnot (d_ttru rfl k_tru (d_isi kb_tup rfl rfl E.n_isinstance rfl E.n_tuple PyProof.Rows.boot_tuple (d_v 1)))) (pw_or1 (d_tcmp (op_neD hr.u64) k_ne (d_cb call_lenU k_len rfl E.n_len PySem.boot_len (d_a1 (d_v 1) d_a0)) (d_ix ix_u k_ix (d_v 0) d_int))))) (d_one (d_ret d_bl)) d_nil)
  (d_cons (d_for [2] nx_N (passes_of rfl) rfl (d_it rfl (d_v 1)) (d_gN (hN := sc__are_widths.nd) (hi := rfl) (hx := by first | exact Or.inl rfl | exact Or.inr rfl)) (d_one (d_ifS (L2.PW.pt (d_wor (d_tnot (d_ttru rfl k_tru (d_callQ (p_is_number E) (hr.at.mono (by decide)) hg rfl E.g_is_number E.F_is_number.kp E.b_is_number .nil (fun _ => .nil) (fun _ => at0) (d_a1 (d_v 2) d_a0)))) (pw_or1 (d_tcmp (op_eqD hr.u64) k_eq (d_v 2) d_int)))) (d_one (d_ret d_bl)) d_nil)))
  (d_one (d_ret (d_cb (cr_all rfl) k_all rfl E.n_all (by decide +kernel) (d_a1 (d_lc (own := [("s", 3)]) rfl sc__are_widths.nd (d_it rfl (d_ix ix_u k_ix (d_v 0) d_int)) (blkOk_by (N := N__are_widths) (sc := defScope s__are_widths) (by decide +kernel)) (fun _ _ _ _ _ => (d_gN (hN := sc__are_widths.nd) (hi := rfl) (hx := by first | exact Or.inl rfl | exact Or.inr rfl))) (fun _ _ _ _ _ => d_yes') (fun _ _ _ _ _ => (d_cmp (op_eqD hr.u64) k_eq (d_ix ix_u k_ix (d_v 1) (d_v 3)) d_int))) d_a0))))))
theorem p__is_slot (E : En K mg) : FnP gCalm P w K mg base CX0 3 E.a__is_slot E.d__is_slot ["kids", "thing"] (spQ (Γk E) m__is_slot) :=
  fnQ true (Γk E) E.F__is_slot sc__is_slot 2 2 mb__is_slot rfl rfl rfl (fun _ _ h => h) fun cdv A outer s H E0 hr hg => by exact
  (d_cons (d_ifS (L2.PW.pt (d_wor (d_tnot (d_ttru rfl k_tru (d_isi kb_tup rfl rfl E.n_isinstance rfl E.n_tuple PyProof.Rows.boot_tuple (d_v 1)))) (pw_or1 (d_tcmp (op_neD hr.u64) k_ne (d_cb call_lenU k_len rfl E.n_len PySem.boot_len (d_a1 (d_v 1) d_a0)) d_int)))) (d_one (d_ret d_bl)) d_nil)
  (d_cons (d_asg [2, 3] (nx_T (nx_1 nx_N (nx_1 nx_N nx_0))) (d_v 1) (d_gT rfl rfl (d_g1 (d_gN (hN := sc__is_slot.nd) (hi := rfl) (hx := by first | exact Or.inl rfl | exact Or.inr rfl)) (d_g1 (d_gN (hN := sc__is_slot.nd) (hi := rfl) (hx := by first | exact Or.inl rfl | exact Or.inr rfl)) d_g0))))
  (d_one (d_ret (d_and (d_callQ (p_is_number E) (hr.at.mono (by decide)) hg rfl E.g_is_number E.F_is_number.kp E.b_is_number .nil (fun _ => .nil) (fun _ => at0) (d_a1 (d_v 2) d_a0)) (d_and (d_callQ (p_is_number E) (hr.at.mono (by decide)) hg rfl E.g_is_number E.F_is_number.kp E.b_is_number .nil (fun _ => .nil) (fun _ => at0) (d_a1 (d_v 3) d_a0)) (d_and (d_cmp op_lt k_B2 (d_v 2) (d_cb call_lenU k_len rfl E.n_len PySem.boot_len (d_a1 (d_v 0) d_a0))) (pe_one (d_cmp op_lt k_B2 (d_v 3) (d_ix ix_u k_ix (d_v 0) (d_v 2)))))))))))
theorem p__law_row (E : En K mg) : FnP gCalm P w K mg base CX0 3 E.a__law_row E.d__law_row ["tape", "con", "widths"] (spT (Γk E) m__law_row) :=
  fnT true (Γk E) E.F__law_row sc__law_row 3 7 mb__law_row rfl rfl rfl (fun _ _ h => h) fun cdv A outer s H E0 hr hg => by exact
  (d_cons (d_set sc__law_row.nd rfl (by first | exact Or.inl rfl | exact Or.inr rfl) (d_lst d_a0))
  (d_cons (d_for [4] nx_N (passes_of rfl) rfl (d_rg1 rfl E.n_range (d_cb call_lenU k_len rfl E.n_len PySem.boot_len (d_a1 (d_ix ix_u k_ix (d_v 1) d_int) d_a0))) (d_gN (hN := sc__law_row.nd) (hi := rfl) (hx := by first | exact Or.inl rfl | exact Or.inr rfl)) (d_one (d_for [5] nx_N (passes_of rfl) rfl (d_rg1 rfl E.n_range (d_ix ix_u k_ix (d_v 2) (d_ix ix_u k_ix (d_ix ix_u k_ix (d_v 1) d_int) (d_v 4)))) (d_gN (hN := sc__law_row.nd) (hi := rfl) (hx := by first | exact Or.inl rfl | exact Or.inr rfl)) (d_one (d_drop (d_bm rfl PySem.F.plainAttrs_list PySem.F.slot_list_insert PySem.F.type_list_insert mt_insertR ty_list k_insert (d_v 3) (d_a1 (d_callT (p__law_pick E) (hr.at.mono (by decide)) hg rfl E.g__law_pick E.F__law_pick.kp E.b__law_pick .nil (fun _ => .nil) (fun _ => at0) (d_a1 (d_v 0) (d_a1 (d_op op_addU k_add (d_cb call_lenU k_len rfl E.n_len PySem.boot_len (d_a1 (d_v 3) d_a0)) d_int) d_a0))) (d_a1 (d_tup (d_a1 (d_v 4) (d_a1 (d_v 5) d_a0))) d_a0))))))))
  (d_cons (d_for [6] nx_N (passes_of rfl) rfl (d_rg1 rfl E.n_range (d_callT (p__law_pick E) (hr.at.mono (by decide)) hg rfl E.g__law_pick E.F__law_pick.kp E.b__law_pick .nil (fun _ => .nil) (fun _ => at0) (d_a1 (d_v 0) (d_a1 d_int d_a0)))) (d_gN (hN := sc__law_row.nd) (hi := rfl) (hx := by first | exact Or.inl rfl | exact Or.inr rfl)) (d_one (d_drop (d_bm rfl PySem.F.plainAttrs_list PySem.F.slot_list_insert PySem.F.type_list_insert mt_insertR ty_list k_insert (d_v 3) (d_a1 (d_callT (p__law_pick E) (hr.at.mono (by decide)) hg rfl E.g__law_pick E.F__law_pick.kp E.b__law_pick .nil (fun _ => .nil) (fun _ => at0) (d_a1 (d_v 0) (d_a1 (d_op op_addU k_add (d_cb call_lenU k_len rfl E.n_len PySem.boot_len (d_a1 (d_v 3) d_a0)) d_int) d_a0))) (d_a1 (d_callT (p__law_word E) (hr.at.mono (by decide)) hg rfl E.g__law_word E.F__law_word.kp E.b__law_word .nil (fun _ => .nil) (fun _ => at0) (d_a1 (d_v 0) d_a0)) d_a0))))))
  (d_cons (d_setLc (own := [("k", 6)]) rfl sc__law_row.nd rfl rfl (sw_true rfl rfl rfl (by decide +kernel)) (d_rg1 rfl E.n_range (d_ix ix_u k_ix (d_v 2) (d_ix ix_u k_ix (d_v 1) d_int))) (blkOk_by (N := N__law_row) (sc := defScope s__law_row) (by decide +kernel)) (fun _ _ _ _ _ => (d_gN (hN := sc__law_row.nd) (hi := rfl) (hx := by first | exact Or.inl rfl | exact Or.inr rfl))) (fun _ _ _ _ _ => d_yes') (fun _ _ _ _ _ => (d_lst d_a0)))
  (d_cons (d_for [8] nx_N (passes_of rfl) rfl (d_it rfl (d_v 3)) (d_gN (hN := sc__law_row.nd) (hi := rfl) (hx := by first | exact Or.inl rfl | exact Or.inr rfl)) (d_cons (d_set sc__law_row.nd rfl (by first | exact Or.inl rfl | exact Or.inr rfl) (d_ix ix_u k_ix (d_v 7) (d_callT (p__law_pick E) (hr.at.mono (by decide)) hg rfl E.g__law_pick E.F__law_pick.kp E.b__law_pick .nil (fun _ => .nil) (fun _ => at0) (d_a1 (d_v 0) (d_a1 (d_cb call_lenU k_len rfl E.n_len PySem.boot_len (d_a1 (d_v 7) d_a0)) d_a0)))))
  (d_one (d_drop (d_bm rfl PySem.F.plainAttrs_list PySem.F.slot_list_append PySem.F.type_list_append mt_append ty_list k_append (d_v 9) (d_a1 (d_v 8) d_a0))))))
  (d_one (d_ret (d_cty call_tupOf k_tuple rfl E.n_tuple PyProof.Rows.boot_tuple (d_a1 (d_lc (own := [("line", 9)]) rfl sc__law_row.nd (d_it rfl (d_v 7)) (blkOk_by (N := N__law_row) (sc := defScope s__law_row) (by decide +kernel)) (fun _ _ _ _ _ => (d_gN (hN := sc__law_row.nd) (hi := rfl) (hx := by first | exact Or.inl rfl | exact Or.inr rfl))) (fun _ _ _ _ _ => d_yes') (fun _ _ _ _ _ => (d_cty call_tupOf k_tuple rfl E.n_tuple PyProof.Rows.boot_tuple (d_a1 (d_v 9) d_a0)))) d_a0)))))))))
theorem p__law_bent (E : En K mg) : FnP gCalm P w K mg base CX0 3 E.a__law_bent E.d__law_bent ["tape", "thing"] (spT (Γk E) m__law_bent) :=
  fnT true (Γk E) E.F__law_bent sc__law_bent 2 10 mb__law_bent rfl rfl rfl (fun _ _ h => h) fun cdv A outer s H E0 hr hg => by exact
  (d_cons (d_set sc__law_bent.nd rfl (by first | exact Or.inl rfl | exact Or.inr rfl) (d_callT (p__law_path E) (hr.at.mono (by decide)) hg rfl E.g__law_path E.F__law_path.kp E.b__law_path .nil (fun _ => .nil) (fun _ => at0) (d_a1 (d_v 0) (d_a1 (d_v 1) d_a0))))
  (d_cons (d_ifS (d_tcmp (op_eqD hr.u64) k_eq (d_cb call_lenU k_len rfl E.n_len PySem.boot_len (d_a1 (d_v 2) d_a0)) d_int) (d_one (d_ret (d_callT (p__law_odd E) (hr.at.mono (by decide)) hg rfl E.g__law_odd E.F__law_odd.kp E.b__law_odd .nil (fun _ => .nil) (fun _ => at0) (d_a1 (d_v 0) d_a0)))) d_nil)
  (d_cons (d_set sc__law_bent.nd rfl (by first | exact Or.inl rfl | exact Or.inr rfl) (d_lst (d_a1 (d_v 1) d_a0)))
  (d_cons (d_for [4] nx_N (passes_of rfl) rfl (d_it rfl (d_sl sl_u k_sl (d_v 2) d_noP (d_part (d_un un_neg k_neg d_int)))) (d_gN (hN := sc__law_bent.nd) (hi := rfl) (hx := by first | exact Or.inl rfl | exact Or.inr rfl)) (d_one (d_drop (d_bm rfl PySem.F.plainAttrs_list PySem.F.slot_list_append PySem.F.type_list_append mt_append ty_list k_append (d_v 3) (d_a1 (d_ix ix_u k_ix (d_ix ix_u k_ix (d_v 3) (d_un un_neg k_neg d_int)) (d_v 4)) d_a0)))))
  (d_cons (d_set sc__law_bent.nd rfl (by first | exact Or.inl rfl | exact Or.inr rfl) (d_cty call_listOf k_list rfl E.n_list PyProof.Rows.boot_list (d_a1 (d_ix ix_u k_ix (d_v 3) (d_un un_neg k_neg d_int)) d_a0)))
  (d_cons (d_set sc__law_bent.nd rfl (by first | exact Or.inl rfl | exact Or.inr rfl) (d_ix ix_u k_ix (d_v 2) (d_un un_neg k_neg d_int)))
  (d_cons (d_set sc__law_bent.nd rfl (by first | exact Or.inl rfl | exact Or.inr rfl) (d_callT (p__law_pick E) (hr.at.mono (by decide)) hg rfl E.g__law_pick E.F__law_pick.kp E.b__law_pick .nil (fun _ => .nil) (fun _ => at0) (d_a1 (d_v 0) (d_a1 d_int d_a0))))
  (d_cons (d_ifS (d_tcmp (op_eqD hr.u64) k_eq (d_v 7) d_int) (d_one (d_drop (d_bm rfl PySem.F.plainAttrs_list PySem.F.slot_list_pop PySem.F.type_list_pop mt_popU ty_list k_pop (d_v 5) (d_a1 (d_v 6) d_a0)))) (d_one (d_ifS (d_tcmp (op_eqD hr.u64) k_eq (d_v 7) d_int) (d_one (d_drop (d_bm rfl PySem.F.plainAttrs_list PySem.F.slot_list_insert PySem.F.type_list_insert mt_insertR ty_list k_insert (d_v 5) (d_a1 (d_v 6) (d_a1 (d_callT (p__law_odd E) (hr.at.mono (by decide)) hg rfl E.g__law_odd E.F__law_odd.kp E.b__law_odd .nil (fun _ => .nil) (fun _ => at0) (d_a1 (d_v 0) d_a0)) d_a0))))) (d_one (d_ifS (d_tcmp (op_eqD hr.u64) k_eq (d_v 7) d_int) (d_one (d_drop (d_bm rfl PySem.F.plainAttrs_list PySem.F.slot_list_insert PySem.F.type_list_insert mt_insertR ty_list k_insert (d_v 5) (d_a1 (d_v 6) (d_a1 (d_ix ix_u k_ix (d_v 5) (d_v 6)) d_a0))))) (d_one (d_ifS (d_tcmp (op_eqD hr.u64) k_eq (d_v 7) d_int) (d_cons (d_set sc__law_bent.nd rfl (by first | exact Or.inl rfl | exact Or.inr rfl) (d_callT (p__law_pick E) (hr.at.mono (by decide)) hg rfl E.g__law_pick E.F__law_pick.kp E.b__law_pick .nil (fun _ => .nil) (fun _ => at0) (d_a1 (d_v 0) (d_a1 (d_cb call_lenU k_len rfl E.n_len PySem.boot_len (d_a1 (d_v 5) d_a0)) d_a0))))
  (d_one (d_asg [] (nx_T (nx_1 nx_c (nx_1 nx_c nx_0))) (d_tup (d_a1 (d_ix ix_u k_ix (d_v 5) (d_v 8)) (d_a1 (d_ix ix_u k_ix (d_v 5) (d_v 6)) d_a0))) (d_gT rfl rfl (d_g1 (d_gc (d_gS set_list k_setL (d_v 5) (d_v 6))) (d_g1 (d_gc (d_gS set_list k_setL (d_v 5) (d_v 8))) d_g0)))))) (d_one (d_ifS (L2.PW.pt (d_wand (d_tcmp (op_eqD hr.u64) k_eq (d_v 7) d_int) (pw_and1 (d_ttru rfl k_tru (d_isi kb_tup rfl rfl E.n_isinstance rfl E.n_tuple PyProof.Rows.boot_tuple (d_ix ix_u k_ix (d_v 5) (d_v 6))))))) (d_one (d_asg [] nx_c (d_cty call_listOf k_list rfl E.n_list PyProof.Rows.boot_list (d_a1 (d_ix ix_u k_ix (d_v 5) (d_v 6)) d_a0)) (d_gc (d_gS set_list k_setL (d_v 5) (d_v 6))))) (d_one (d_ifS (d_tcmp (op_eqD hr.u64) k_eq (d_v 7) d_int) (d_one (d_asg [] nx_c (d_ix ix_u k_ix (d_v 5) (d_op op_sub k_sub (d_v 6) d_int)) (d_gc (d_gS set_list k_setL (d_v 5) (d_v 6))))) (d_one (d_asg [] nx_c (d_callT (p__law_odd E) (hr.at.mono (by decide)) hg rfl E.g__law_odd E.F__law_odd.kp E.b__law_odd .nil (fun _ => .nil) (fun _ => at0) (d_a1 (d_v 0) d_a0)) (d_gc (d_gS set_list k_setL (d_v 5) (d_v 6))))))))))))))))
  (d_cons (d_set sc__law_bent.nd rfl (by first | exact Or.inl rfl | exact Or.inr rfl) (d_if (d_ttru rfl k_tru (d_isi kb_lst rfl rfl E.n_isinstance rfl E.n_list PyProof.Rows.boot_list (d_ix ix_u k_ix (d_v 3) (d_un un_neg k_neg d_int)))) (d_v 5) (d_cty call_tupOf k_tuple rfl E.n_tuple PyProof.Rows.boot_tuple (d_a1 (d_v 5) d_a0))))
  (d_cons (d_for [10] nx_N (passes_of rfl) rfl (d_rgD rfl E.n_range (d_op op_sub k_sub (d_cb call_lenU k_len rfl E.n_len PySem.boot_len (d_a1 (d_v 2) d_a0)) d_int) (d_un un_neg k_neg d_int) (d_un un_neg k_neg d_int)) (d_gN (hN := sc__law_bent.nd) (hi := rfl) (hx := by first | exact Or.inl rfl | exact Or.inr rfl)) (d_cons (d_set sc__law_bent.nd rfl (by first | exact Or.inl rfl | exact Or.inr rfl) (d_cty call_listOf k_list rfl E.n_list PyProof.Rows.boot_list (d_a1 (d_ix ix_u k_ix (d_v 3) (d_v 10)) d_a0)))
  (d_cons (d_asg [] nx_c (d_v 9) (d_gc (d_gS set_list k_setL (d_v 11) (d_ix ix_u k_ix (d_v 2) (d_v 10)))))
  (d_one (d_set sc__law_bent.nd rfl (by first | exact Or.inl rfl | exact Or.inr rfl) (d_if (d_ttru rfl k_tru (d_isi kb_lst rfl rfl E.n_isinstance rfl E.n_list PyProof.Rows.boot_list (d_ix ix_u k_ix (d_v 3) (d_v 10)))) (d_v 11) (d_cty call_tupOf k_tuple rfl E.n_tuple PyProof.Rows.boot_tuple (d_a1 (d_v 11) d_a0))))))))
  (d_one (d_ret (d_v 9)))))))))))))
theorem p__law_planted (E : En K mg) : FnP gCalm P w K mg base CX0 3 E.a__law_planted E.d__law_planted ["tape", "good"] (spT (Γk E) m__law_planted) :=
  fnT true (Γk E) E.F__law_planted sc__law_planted 2 7 mb__law_planted rfl rfl rfl (fun _ _ h => h) fun cdv A outer s H E0 hr hg => by exact
  (d_cons (d_set sc__law_planted.nd rfl (by first | exact Or.inl rfl | exact Or.inr rfl) (d_ix ix_u k_ix (d_v 1) d_int))
  (d_cons (d_set sc__law_planted.nd rfl (by first | exact Or.inl rfl | exact Or.inr rfl) (d_callM (p__law_widths E) (hr.at.mono (by decide)) hg rfl E.g__law_widths E.F__law_widths.kp E.b__law_widths .nil (fun _ => .nil) (fun _ => at0) (d_a1 (d_v 0) (d_a1 (d_v 1) d_a0))))
  (d_cons (d_ifS (d_tcmp (op_eqD hr.u64) k_eq (d_cb call_lenU k_len rfl E.n_len PySem.boot_len (d_a1 (d_v 2) d_a0)) d_int) (d_one (d_ret (d_v 3))) d_nil)
  (d_cons (d_setLc (own := [("k", 4)]) rfl sc__law_planted.nd rfl rfl (sw_true rfl rfl rfl (by decide +kernel)) (d_rg1 rfl E.n_range (d_cb call_lenU k_len rfl E.n_len PySem.boot_len (d_a1 (d_v 2) d_a0))) (blkOk_by (N := N__law_planted) (sc := defScope s__law_planted) (by decide +kernel)) (fun _ _ _ _ _ => (d_gN (hN := sc__law_planted.nd) (hi := rfl) (hx := by first | exact Or.inl rfl | exact Or.inr rfl))) (fun _ _ _ _ _ => (d_tone (d_tcmp op_gt k_B2 (d_cb call_lenU k_len rfl E.n_len PySem.boot_len (d_a1 (d_callQ (p__law_spots E) (hr.at.mono (by decide)) hg rfl E.g__law_spots E.F__law_spots.kp E.b__law_spots .nil (fun _ => .nil) (fun _ => at0) (d_a1 (d_ix ix_u k_ix (d_v 2) (d_v 4)) d_a0)) d_a0)) d_int))) (fun _ _ _ _ _ => (d_v 4)))
  (d_cons (d_set sc__law_planted.nd rfl (by first | exact Or.inl rfl | exact Or.inr rfl) (d_if (d_tcmp op_gt k_B2 (d_cb call_lenU k_len rfl E.n_len PySem.boot_len (d_a1 (d_v 5) d_a0)) d_int) (d_ix ix_u k_ix (d_v 5) (d_callT (p__law_pick E) (hr.at.mono (by decide)) hg rfl E.g__law_pick E.F__law_pick.kp E.b__law_pick .nil (fun _ => .nil) (fun _ => at0) (d_a1 (d_v 0) (d_a1 (d_cb call_lenU k_len rfl E.n_len PySem.boot_len (d_a1 (d_v 5) d_a0)) d_a0)))) (d_callT (p__law_pick E) (hr.at.mono (by decide)) hg rfl E.g__law_pick E.F__law_pick.kp E.b__law_pick .nil (fun _ => .nil) (fun _ => at0) (d_a1 (d_v 0) (d_a1 (d_cb call_lenU k_len rfl E.n_len PySem.boot_len (d_a1 (d_v 2) d_a0)) d_a0)))))
  (d_cons (d_set sc__law_planted.nd rfl (by first | exact Or.inl rfl | exact Or.inr rfl) (d_callQ (p__law_spots E) (hr.at.mono (by decide)) hg rfl E.g__law_spots E.F__law_spots.kp E.b__law_spots .nil (fun _ => .nil) (fun _ => at0) (d_a1 (d_ix ix_u k_ix (d_v 2) (d_v 4)) d_a0)))
  (d_cons (d_set sc__law_planted.nd rfl (by first | exact Or.inl rfl | exact Or.inr rfl) (d_if (d_tcmp op_gt k_B2 (d_cb call_lenU k_len rfl E.n_len PySem.boot_len (d_a1 (d_v 6) d_a0)) d_int) (d_ix ix_u k_ix (d_v 6) (d_callT (p__law_pick E) (hr.at.mono (by decide)) hg rfl E.g__law_pick E.F__law_pick.kp E.b__law_pick .nil (fun _ => .nil) (fun _ => at0) (d_a1 (d_v 0) (d_a1 (d_cb call_lenU k_len rfl E.n_len PySem.boot_len (d_a1 (d_v 6) d_a0)) d_a0)))) (d_callT (p__law_pick E) (hr.at.mono (by decide)) hg rfl E.g__law_pick E.F__law_pick.kp E.b__law_pick .nil (fun _ => .nil) (fun _ => at0) (d_a1 (d_v 0) (d_a1 (d_cb call_lenU k_len rfl E.n_len PySem.boot_len (d_a1 (d_ix ix_u k_ix (d_v 2) (d_v 4)) d_a0)) d_a0)))))
  (d_cons (d_drop (d_bm rfl PySem.F.plainAttrs_list PySem.F.slot_list_extend PySem.F.type_list_extend mt_extend ty_list k_extend (d_v 3) (d_a1 (d_callT (p__law_lines E) (hr.at.mono (by decide)) hg rfl E.g__law_lines E.F__law_lines.kp E.b__law_lines .nil (fun _ => .nil) (fun _ => at0) (d_a1 (d_v 0) (d_a1 (d_v 1) (d_a1 (d_v 4) (d_a1 (d_ix ix_u k_ix (d_v 2) (d_v 4)) (d_a1 (d_v 7) d_a0)))))) d_a0)))
  (d_cons (d_for [8] nx_N (passes_of rfl) rfl (d_it rfl (d_tup (d_a1 (d_cty call_listOf k_list rfl E.n_list PyProof.Rows.boot_list (d_a1 (d_ix ix_u k_ix (d_v 2) (d_v 4)) d_a0)) (d_a1 (d_op op_addU k_add (d_ix ix_u k_ix (d_v 2) (d_v 4)) (d_tup (d_a1 (d_tup d_a0) d_a0))) (d_a1 (d_sl sl_u k_sl (d_ix ix_u k_ix (d_v 2) (d_v 4)) d_noP (d_part (d_un un_neg k_neg d_int))) d_a0))))) (d_gN (hN := sc__law_planted.nd) (hi := rfl) (hx := by first | exact Or.inl rfl | exact Or.inr rfl)) (d_one (d_drop (d_bm rfl PySem.F.plainAttrs_list PySem.F.slot_list_append PySem.F.type_list_append mt_append ty_list k_append (d_v 3) (d_a1 (d_callQ (p__law_with E) (hr.at.mono (by decide)) hg rfl E.g__law_with E.F__law_with.kp E.b__law_with .nil (fun _ => .nil) (fun _ => at0) (d_a1 (d_v 1) (d_a1 (d_v 4) (d_a1 (d_v 8) d_a0)))) d_a0)))))
  (d_one (d_ret (d_v 3))))))))))))
theorem p__law_due (E : En K mg) : FnP gCalm P w K mg base CX0 3 E.a__law_due E.d__law_due ["book", "thing"] (spQ (Γk E) m__law_due) :=
  fnQ true (Γk E) E.F__law_due sc__law_due 2 5 mb__law_due rfl rfl rfl (fun _ _ h => h) fun cdv A outer s H E0 hr hg => by exact
  (d_cons (d_ifS (L2.PW.pt (d_wor (d_tnot (d_ttru rfl k_tru (d_isi kb_tup rfl rfl E.n_isinstance rfl E.n_tuple PyProof.Rows.boot_tuple (d_v 1)))) (d_wor (d_tcmp (op_neD hr.u64) k_ne (d_cb call_lenU k_len rfl E.n_len PySem.boot_len (d_a1 (d_v 1) d_a0)) d_int) (d_wor (d_tnot (d_ttru rfl k_tru (d_isi kb_str rfl rfl E.n_isinstance rfl E.n_str PyProof.Rows.boot_str (d_ix ix_u k_ix (d_v 1) d_int)))) (pw_or1 (d_tcmp (op_neD hr.u64) k_ne (d_ix ix_u k_ix (d_v 1) d_int) d_str)))))) (d_one (d_ret (d_tup (d_a1 d_str (d_a1 d_str (d_a1 (d_un un_neg k_neg d_int) d_a0)))))) d_nil)
  (d_cons (d_set sc__law_due.nd rfl (by first | exact Or.inl rfl | exact Or.inr rfl) (d_ix ix_u k_ix (d_v 1) d_int))
  (d_cons (d_ifS (L2.PW.pt (d_wor (d_tnot (d_ttru rfl k_tru (d_isi kb_tup rfl rfl E.n_isinstance rfl E.n_tuple PyProof.Rows.boot_tuple (d_v 2)))) (pw_or1 (d_tcmp (op_neD hr.u64) k_ne (d_cb call_lenU k_len rfl E.n_len PySem.boot_len (d_a1 (d_v 2) d_a0)) (d_ix ix_u k_ix (d_v 0) d_int))))) (d_one (d_ret (d_tup (d_a1 d_str (d_a1 d_str (d_a1 (d_un un_neg k_neg d_int) d_a0)))))) d_nil)
  (d_cons (d_for [3] nx_N (passes_of rfl) rfl (d_rg1 rfl E.n_range (d_ix ix_u k_ix (d_v 0) d_int)) (d_gN (hN := sc__law_due.nd) (hi := rfl) (hx := by first | exact Or.inl rfl | exact Or.inr rfl)) (d_one (d_ifS (L2.PW.pt (d_wor (d_tnot (d_ttru rfl k_tru (d_callQ (p__law_whole E) (hr.at.mono (by decide)) trivial rfl E.g__law_whole E.F__law_whole.kp E.b__law_whole .nil (fun _ => .nil) (fun _ => at0) (d_a1 (d_ix ix_u k_ix (d_v 2) (d_v 3)) d_a0)))) (d_wor (d_tcmp op_lt k_B2 (d_ix ix_u k_ix (d_v 2) (d_v 3)) d_int) (pw_or1 (L2.PW.pt (d_wand (d_tcmp op_inU k_in (d_v 3) (d_ix ix_u k_ix (d_v 0) d_int)) (pw_and1 (d_tcmp (op_neD hr.u64) k_ne (d_ix ix_u k_ix (d_v 2) (d_v 3)) d_int)))))))) (d_one (d_ret (d_tup (d_a1 d_str (d_a1 d_str (d_a1 (d_un un_neg k_neg d_int) d_a0)))))) d_nil)))
  (d_cons (d_set sc__law_due.nd rfl (by first | exact Or.inl rfl | exact Or.inr rfl) (d_ix ix_u k_ix (d_v 1) d_int))
  (d_cons (d_ifS (L2.PW.pt (d_wor (d_tnot (d_ttru rfl k_tru (d_isi kb_tup rfl rfl E.n_isinstance rfl E.n_tuple PyProof.Rows.boot_tuple (d_v 4)))) (pw_or1 (d_tcmp (op_neD hr.u64) k_ne (d_cb call_lenU k_len rfl E.n_len PySem.boot_len (d_a1 (d_v 4) d_a0)) (d_cb call_lenU k_len rfl E.n_len PySem.boot_len (d_a1 (d_ix ix_u k_ix (d_v 0) d_int) d_a0)))))) (d_one (d_ret (d_tup (d_a1 d_str (d_a1 d_str (d_a1 (d_un un_neg k_neg d_int) d_a0)))))) d_nil)
  (d_cons (d_for [5] nx_N (passes_of rfl) rfl (d_rg1 rfl E.n_range (d_cb call_lenU k_len rfl E.n_len PySem.boot_len (d_a1 (d_v 4) d_a0))) (d_gN (hN := sc__law_due.nd) (hi := rfl) (hx := by first | exact Or.inl rfl | exact Or.inr rfl)) (d_cons (d_set sc__law_due.nd rfl (by first | exact Or.inl rfl | exact Or.inr rfl) (d_callQ (p__law_row_word E) (hr.at.mono (by decide)) hg rfl E.g__law_row_word E.F__law_row_word.kp E.b__law_row_word .nil (fun _ => .nil) (fun _ => at0) (d_a1 (d_ix ix_u k_ix (d_ix ix_u k_ix (d_v 0) d_int) (d_v 5)) (d_a1 (d_v 2) (d_a1 (d_ix ix_u k_ix (d_v 4) (d_v 5)) d_a0)))))
  (d_one (d_ifS (d_tcmp (op_neD hr.u64) k_ne (d_v 6) d_str) (d_one (d_ret (d_tup (d_a1 d_str (d_a1 (d_v 6) (d_a1 (d_v 5) d_a0)))))) d_nil))))
  (d_one (d_ret (d_tup (d_a1 d_str (d_a1 (d_cb (cr_max rfl) k_max rfl E.n_max PyProof.Rows.boot_max (d_a1 (d_op op_addU k_add (d_lst (d_a1 d_int d_a0)) (d_cty call_listOf k_list rfl E.n_list PyProof.Rows.boot_list (d_a1 (d_v 2) d_a0))) d_a0)) d_a0))))))))))))
theorem p_starts_fit (E : En K mg) : FnP gCalm P w K mg base CX0 4 E.a_starts_fit E.d_starts_fit ["size", "starts"] (spQ (Γk E) m_starts_fit) :=
  fnQ true (Γk E) E.F_starts_fit sc_starts_fit 2 2 mb_starts_fit rfl rfl rfl (fun _ _ h => h) fun cdv A outer s H E0 hr hg => by exact
  (d_cons (d_ifS (d_tnot (d_ttru rfl k_tru (d_isi kb_tup rfl rfl E.n_isinstance rfl E.n_tuple PyProof.Rows.boot_tuple (d_v 1)))) (d_one (d_ret d_bl)) d_nil)
  (d_cons (d_for [2, 3] (nx_T (nx_1 nx_N (nx_1 nx_N nx_0))) (passes_of rfl) rfl (d_en rfl rfl E.n_enumerate (d_v 1)) (d_gT rfl rfl (d_g1 (d_gN (hN := sc_starts_fit.nd) (hi := rfl) (hx := by first | exact Or.inl rfl | exact Or.inr rfl)) (d_g1 (d_gN (hN := sc_starts_fit.nd) (hi := rfl) (hx := by first | exact Or.inl rfl | exact Or.inr rfl)) d_g0))) (d_one (d_ifS (L2.PW.pt (d_wor (d_tnot (d_ttru rfl k_tru (d_callQ (p_sort_fits E) (hr.at.mono (by decide)) hg rfl E.g_sort_fits E.F_sort_fits.kp E.b_sort_fits .nil (fun _ => .nil) (fun _ => at0) (d_a1 (d_v 0) (d_a1 (d_v 3) d_a0))))) (pw_or1 (L2.PW.pt (d_wand (d_tcmp op_gt k_B2 (d_v 2) d_int) (pw_and1 (d_tcmp op_ge k_B2 (d_ix ix_u k_ix (d_v 1) (d_op op_sub k_sub (d_v 2) d_int)) (d_v 3)))))))) (d_one (d_ret d_bl)) d_nil)))
  (d_one (d_ret d_bl))))
theorem p__wrong_row (E : En K mg) : FnP gCalm P w K mg base CX0 4 E.a__wrong_row E.d__wrong_row ["kids", "width", "row"] (spQ (Γk E) m__wrong_row) :=
  fnQ true (Γk E) E.F__wrong_row sc__wrong_row 3 3 mb__wrong_row rfl rfl rfl (fun _ _ h => h) fun cdv A outer s H E0 hr hg => by exact
  (d_cons (d_ifS (L2.PW.pt (d_wor (d_tnot (d_ttru rfl k_tru (d_isi kb_tup rfl rfl E.n_isinstance rfl E.n_tuple PyProof.Rows.boot_tuple (d_v 2)))) (pw_or1 (d_tcmp (op_neD hr.u64) k_ne (d_cb call_lenU k_len rfl E.n_len PySem.boot_len (d_a1 (d_v 2) d_a0)) (d_v 1))))) (d_one (d_ret d_str)) d_nil)
  (d_cons (d_for [3] nx_N (passes_of rfl) rfl (d_it rfl (d_v 2)) (d_gN (hN := sc__wrong_row.nd) (hi := rfl) (hx := by first | exact Or.inl rfl | exact Or.inr rfl)) (d_one (d_ifS (d_tnot (d_ttru rfl k_tru (d_isi kb_tup rfl rfl E.n_isinstance rfl E.n_tuple PyProof.Rows.boot_tuple (d_v 3)))) (d_one (d_ret d_str)) d_nil)))
  (d_cons (d_set sc__wrong_row.nd rfl (by first | exact Or.inl rfl | exact Or.inr rfl) (d_lst d_a0))
  (d_cons (d_for [3] nx_N (passes_of rfl) rfl (d_it rfl (d_v 2)) (d_gN (hN := sc__wrong_row.nd) (hi := rfl) (hx := by first | exact Or.inl rfl | exact Or.inr rfl)) (d_one (d_for [5] nx_N (passes_of rfl) rfl (d_it rfl (d_v 3)) (d_gN (hN := sc__wrong_row.nd) (hi := rfl) (hx := by first | exact Or.inl rfl | exact Or.inr rfl)) (d_one (d_ifS (d_ttru rfl k_tru (d_callQ (p__is_slot E) (hr.at.mono (by decide)) hg rfl E.g__is_slot E.F__is_slot.kp E.b__is_slot .nil (fun _ => .nil) (fun _ => at0) (d_a1 (d_v 0) (d_a1 (d_v 5) d_a0)))) (d_one (d_drop (d_bm rfl PySem.F.plainAttrs_list PySem.F.slot_list_append PySem.F.type_list_append mt_append ty_list k_append (d_v 4) (d_a1 (d_v 5) d_a0)))) (d_one (d_ifS (d_tnot (d_ttru rfl k_tru (d_callQ (p_is_word E) (hr.at.mono (by decide)) hg rfl E.g_is_word E.F_is_word.kp E.b_is_word .nil (fun _ => .nil) (fun _ => at0) (d_a1 (d_v 5) d_a0)))) (d_one (d_ret d_str)) d_nil)))))))
  (d_cons (d_ifS (L2.PW.pt (d_wor (d_tcmp (op_neD hr.u64) k_ne (d_cb call_lenU k_len rfl E.n_len PySem.boot_len (d_a1 (d_v 4) d_a0)) (d_cb (cr_sum rfl) k_sum rfl E.n_sum (by decide +kernel) (d_a1 (d_v 0) d_a0))) (pw_or1 (d_tcmp (op_neD hr.u64) k_ne (d_lenSet rfl rfl hr.u64 rfl E.n_len rfl E.n_set (d_v 4)) (d_cb call_lenU k_len rfl E.n_len PySem.boot_len (d_a1 (d_v 4) d_a0)))))) (d_one (d_ret d_str)) d_nil)
  (d_one (d_ret d_str)))))))
theorem p__law_right (E : En K mg) : FnP gCalm P w K mg base CX0 4 E.a__law_right E.d__law_right ["tape", "book"] (spT (Γk E) m__law_right) :=
  fnT true (Γk E) E.F__law_right sc__law_right 2 5 mb__law_right rfl rfl rfl (fun _ _ h => h) fun cdv A outer s H E0 hr hg => by exact
  (d_cons (d_set sc__law_right.nd rfl (by first | exact Or.inl rfl | exact Or.inr rfl) (d_lst d_a0))
  (d_cons (d_for [3] nx_N (passes_of rfl) rfl (d_rg1 rfl E.n_range (d_ix ix_u k_ix (d_v 1) d_int)) (d_gN (hN := sc__law_right.nd) (hi := rfl) (hx := by first | exact Or.inl rfl | exact Or.inr rfl)) (d_cons (d_set sc__law_right.nd rfl (by first | exact Or.inl rfl | exact Or.inr rfl) (d_ix ix_u k_ix (d_tup (d_a1 d_int (d_a1 d_int (d_a1 d_int (d_a1 d_int (d_a1 d_int (d_a1 d_int (d_a1 d_int (d_a1 d_int d_a0))))))))) (d_callT (p__law_pick E) (hr.at.mono (by decide)) hg rfl E.g__law_pick E.F__law_pick.kp E.b__law_pick .nil (fun _ => .nil) (fun _ => at0) (d_a1 (d_v 0) (d_a1 d_int d_a0)))))
  (d_one (d_drop (d_bm rfl PySem.F.plainAttrs_list PySem.F.slot_list_append PySem.F.type_list_append mt_append ty_list k_append (d_v 2) (d_a1 (d_if (d_tcmp op_inU k_in (d_v 3) (d_ix ix_u k_ix (d_v 1) d_int)) d_int (d_v 4)) d_a0))))))
  (d_cons (d_setLc (own := [("con", 6)]) rfl sc__law_right.nd rfl rfl (sw_true rfl rfl rfl (by decide +kernel)) (d_it rfl (d_ix ix_u k_ix (d_v 1) d_int)) (blkOk_by (N := N__law_right) (sc := defScope s__law_right) (by decide +kernel)) (fun _ _ _ _ _ => (d_gN (hN := sc__law_right.nd) (hi := rfl) (hx := by first | exact Or.inl rfl | exact Or.inr rfl))) (fun _ _ _ _ _ => d_yes') (fun _ _ _ _ _ => (d_callT (p__law_row E) (hr.at.mono (by decide)) hg rfl E.g__law_row E.F__law_row.kp E.b__law_row .nil (fun _ => .nil) (fun _ => at0) (d_a1 (d_v 0) (d_a1 (d_v 6) (d_a1 (d_v 2) d_a0))))))
  (d_one (d_ret (d_tup (d_a1 d_str (d_a1 (d_cty call_tupOf k_tuple rfl E.n_tuple PyProof.Rows.boot_tuple (d_a1 (d_v 2) d_a0)) (d_a1 (d_cty call_tupOf k_tuple rfl E.n_tuple PyProof.Rows.boot_tuple (d_a1 (d_v 5) d_a0)) d_a0)))))))))
theorem p_book_fault (E : En K mg) : FnP gCalm P w K mg base CX0 5 E.a_book_fault E.d_book_fault ["thing"] (spQ (Γk E) m_book_fault) :=
  fnQ true (Γk E) E.F_book_fault sc_book_fault 1 8 mb_book_fault rfl rfl rfl (fun _ _ h => h) fun cdv A outer s H E0 hr hg => by exact
  (d_cons (d_ifS (L2.PW.pt (d_wor (d_tnot (d_ttru rfl k_tru (d_isi kb_tup rfl rfl E.n_isinstance rfl E.n_tuple PyProof.Rows.boot_tuple (d_v 0)))) (pw_or1 (d_tcmp (op_neD hr.u64) k_ne (d_cb call_lenU k_len rfl E.n_len PySem.boot_len (d_a1 (d_v 0) d_a0)) d_int)))) (d_one (d_ret (d_tup (d_a1 d_str (d_a1 (d_un un_neg k_neg d_int) d_a0))))) d_nil)
  (d_cons (d_asg [1, 2, 3] (nx_T (nx_1 nx_N (nx_1 nx_N (nx_1 nx_N nx_0)))) (d_v 0) (d_gT rfl rfl (d_g1 (d_gN (hN := sc_book_fault.nd) (hi := rfl) (hx := by first | exact Or.inl rfl | exact Or.inr rfl)) (d_g1 (d_gN (hN := sc_book_fault.nd) (hi := rfl) (hx := by first | exact Or.inl rfl | exact Or.inr rfl)) (d_g1 (d_gN (hN := sc_book_fault.nd) (hi := rfl) (hx := by first | exact Or.inl rfl | exact Or.inr rfl)) d_g0)))))
  (d_cons (d_ifS (d_tnot (d_ttru rfl k_tru (d_callQ (p_is_number E) (hr.at.mono (by decide)) hg rfl E.g_is_number E.F_is_number.kp E.b_is_number .nil (fun _ => .nil) (fun _ => at0) (d_a1 (d_v 1) d_a0)))) (d_one (d_ret (d_tup (d_a1 d_str (d_a1 (d_un un_neg k_neg d_int) d_a0))))) d_nil)
  (d_cons (d_ifS (d_tnot (d_ttru rfl k_tru (d_callQ (p_starts_fit E) (hr.at.mono (by decide)) hg rfl E.g_starts_fit E.F_starts_fit.kp E.b_starts_fit .nil (fun _ => .nil) (fun _ => at0) (d_a1 (d_v 1) (d_a1 (d_v 2) d_a0))))) (d_one (d_ret (d_tup (d_a1 d_str (d_a1 (d_un un_neg k_neg d_int) d_a0))))) d_nil)
  (d_cons (d_ifS (d_tnot (d_ttru rfl k_tru (d_isi kb_tup rfl rfl E.n_isinstance rfl E.n_tuple PyProof.Rows.boot_tuple (d_v 3)))) (d_one (d_ret (d_tup (d_a1 d_str (d_a1 (d_un un_neg k_neg d_int) d_a0))))) d_nil)
  (d_cons (d_for [4, 5] (nx_T (nx_1 nx_N (nx_1 nx_N nx_0))) (passes_of rfl) rfl (d_en rfl rfl E.n_enumerate (d_v 3)) (d_gT rfl rfl (d_g1 (d_gN (hN := sc_book_fault.nd) (hi := rfl) (hx := by first | exact Or.inl rfl | exact Or.inr rfl)) (d_g1 (d_gN (hN := sc_book_fault.nd) (hi := rfl) (hx := by first | exact Or.inl rfl | exact Or.inr rfl)) d_g0))) (d_cons (d_ifS (L2.PW.pt (d_wor (d_tnot (d_ttru rfl k_tru (d_isi kb_tup rfl rfl E.n_isinstance rfl E.n_tuple PyProof.Rows.boot_tuple (d_v 5)))) (pw_or1 (d_tcmp (op_neD hr.u64) k_ne (d_cb call_lenU k_len rfl E.n_len PySem.boot_len (d_a1 (d_v 5) d_a0)) d_int)))) (d_one (d_ret (d_tup (d_a1 d_str (d_a1 (d_v 4) d_a0))))) d_nil)
  (d_cons (d_asg [6, 7] (nx_T (nx_1 nx_N (nx_1 nx_N nx_0))) (d_v 5) (d_gT rfl rfl (d_g1 (d_gN (hN := sc_book_fault.nd) (hi := rfl) (hx := by first | exact Or.inl rfl | exact Or.inr rfl)) (d_g1 (d_gN (hN := sc_book_fault.nd) (hi := rfl) (hx := by first | exact Or.inl rfl | exact Or.inr rfl)) d_g0))))
  (d_cons (d_ifS (L2.PW.pt (d_wor (d_tnot (d_ttru rfl k_tru (d_callQ (p_sort_fits E) (hr.at.mono (by decide)) hg rfl E.g_sort_fits E.F_sort_fits.kp E.b_sort_fits .nil (fun _ => .nil) (fun _ => at0) (d_a1 (d_v 1) (d_a1 (d_v 6) d_a0))))) (pw_or1 (d_tnot (d_ttru rfl k_tru (d_isi kb_tup rfl rfl E.n_isinstance rfl E.n_tuple PyProof.Rows.boot_tuple (d_v 7))))))) (d_one (d_ret (d_tup (d_a1 d_str (d_a1 (d_v 4) d_a0))))) d_nil)
  (d_one (d_ifS (L2.PW.pt (d_wor (d_tcmp op_gt k_B2 (d_cb call_lenU k_len rfl E.n_len PySem.boot_len (d_a1 (d_v 7) d_a0)) d_int) (pw_or1 (d_tnot (d_ttru rfl k_tru (d_cb (cr_all rfl) k_all rfl E.n_all (by decide +kernel) (d_a1 (d_lc (own := [("kid", 8)]) rfl sc_book_fault.nd (d_it rfl (d_v 7)) (blkOk_by (N := N_book_fault) (sc := defScope s_book_fault) (by decide +kernel)) (fun _ _ _ _ _ => (d_gN (hN := sc_book_fault.nd) (hi := rfl) (hx := by first | exact Or.inl rfl | exact Or.inr rfl))) (fun _ _ _ _ _ => d_yes') (fun _ _ _ _ _ => (d_callQ (p_sort_fits E) (hr.at.mono (by decide)) hg rfl E.g_sort_fits E.F_sort_fits.kp E.b_sort_fits .nil (fun _ => .nil) (fun _ => at0) (d_a1 (d_v 1) (d_a1 (d_v 8) d_a0))))) d_a0))))))) (d_one (d_ret (d_tup (d_a1 d_str (d_a1 (d_v 4) d_a0))))) d_nil))))))
  (d_one (d_ret d_non))))))))
theorem p_lets_book (E : En K mg) : FnP gCalm P w K mg base (L2N.CX P w) 6 E.a_lets_book E.d_lets_book ["thing"] (spQ (Γk E) m_lets_book) :=
  fnQ true (Γk E) E.F_lets_book sc_lets_book 1 1 mb_lets_book rfl rfl rfl (fun _ _ h => h) fun cdv A outer s H E0 hr hg => by have tk := L2N.takes_of (X := cxP true (L2N.CX P w) P w K mg base N_lets_book "lets_book" (defScope s_lets_book) E.a_lets_book cdv A outer s H E0) rfl rfl rfl rfl; have hgc : A.handled = none := hg; exact
  (d_cons (d_set sc_lets_book.nd rfl (by first | exact Or.inl rfl | exact Or.inr rfl) (d_callQ (p_book_fault E) (hr.at.mono (by decide)) hg rfl E.g_book_fault E.F_book_fault.kp E.b_book_fault .nil (fun _ => .nil) (fun _ => at0) (d_a1 (d_v 0) d_a0)))
  (d_cons (d_ifS (d_tcmp op_notN k_notN (d_v 1) d_non) (d_one (d_raiseN (cn := "InvalidPaper") (fl := ["word", "at"]) rfl (cls_InvalidPaper E) rfl rfl (by decide) (nof_InvalidPaper E) rfl tk E.x_InvalidPaper E.iC_InvalidPaper E.tI_InvalidPaper (pi_InvalidPaper E) ((hr.at.mono (by decide)).room hgc) E.bi_InvalidPaper rfl E.gC_InvalidPaper (d_a1 (d_ix ix_u k_ix (d_v 1) d_int) (d_a1 (d_ix ix_u k_ix (d_v 1) d_int) d_a0)))) d_nil)
  (d_one (d_ret (d_cb call_lenU k_len rfl E.n_len PySem.boot_len (d_a1 (d_ix ix_u k_ix (d_v 0) d_int) d_a0))))))
theorem p_lets_pieces (E : En K mg) : FnP gCalm P w K mg base (L2.CX P w) 7 E.a_lets_pieces E.d_lets_pieces ["book", "thing"] (spQ (Γk E) m_lets_pieces) :=
  fnQ true (Γk E) E.F_lets_pieces sc_lets_pieces 2 6 mb_lets_pieces rfl rfl rfl (fun _ _ h => h) fun cdv A outer s H E0 hr hg => by have tk := L2.takes_of (X := cxP true (L2.CX P w) P w K mg base N_lets_pieces "lets_pieces" (defScope s_lets_pieces) E.a_lets_pieces cdv A outer s H E0) rfl rfl rfl rfl; have hgc : A.handled = none := hg; exact
  (d_cons (d_tryX rfl (exm_InvalidPaper E) rfl rfl rfl ⟨rfl, by decide, .inl E.gC_InvalidPaper⟩ (passesAt_of rfl) tk (fun W' pn xe tk pw => (d_one (d_drop (d_callQ (p_lets_book E) (hr.at.mono (by decide)) hg rfl E.g_lets_book E.F_lets_book.kp E.b_lets_book .nil (fun _ => .nil) (fun σ => L2N.passAt tk σ) (d_a1 (d_v 0) d_a0))))) (fun a oe cls d pn tk hot => (d_one (d_raiseH (cn := "NotUsable") (fl := ["word", "at"]) rfl (cls_NotUsable E) rfl rfl (by decide) (nof_NotUsable E) hot tk E.x_NotUsable E.iC_NotUsable E.tI_NotUsable (piH_NotUsable E) (hr.at.mono (by decide)) E.bi_NotUsable rfl E.gC_NotUsable (d_a1 d_str (d_a1 (d_un un_neg k_neg d_int) d_a0))))))
  (d_cons (d_ifS (L2.PW.pt (d_wor (d_tnot (d_ttru rfl k_tru (d_isi kb_tup rfl rfl E.n_isinstance rfl E.n_tuple PyProof.Rows.boot_tuple (d_v 1)))) (d_wor (d_tcmp (op_neD hr.u64) k_ne (d_cb call_lenU k_len rfl E.n_len PySem.boot_len (d_a1 (d_v 1) d_a0)) d_int) (pw_or1 (d_tcmp (op_neD hr.u64) k_ne (d_ix ix_u k_ix (d_v 1) d_int) d_str))))) (d_one (d_raiseL (cn := "InvalidPaper") (fl := ["word", "at"]) rfl (cls_InvalidPaper E) rfl rfl (by decide) (nof_InvalidPaper E) rfl tk E.x_InvalidPaper E.iC_InvalidPaper E.tI_InvalidPaper (pi_InvalidPaper E) ((hr.at.mono (by decide)).room hgc) E.bi_InvalidPaper rfl E.gC_InvalidPaper (d_a1 d_str (d_a1 (d_un un_neg k_neg d_int) d_a0)))) d_nil)
  (d_cons (d_set sc_lets_pieces.nd rfl (by first | exact Or.inl rfl | exact Or.inr rfl) (d_ix ix_u k_ix (d_v 1) d_int))
  (d_cons (d_ifS (d_tnot (d_ttru rfl k_tru (d_callQ (p__are_widths E) (hr.at.mono (by decide)) hg rfl E.g__are_widths E.F__are_widths.kp E.b__are_widths .nil (fun _ => .nil) (fun _ => at0) (d_a1 (d_v 0) (d_a1 (d_v 2) d_a0))))) (d_one (d_raiseL (cn := "InvalidPaper") (fl := ["word", "at"]) rfl (cls_InvalidPaper E) rfl rfl (by decide) (nof_InvalidPaper E) rfl tk E.x_InvalidPaper E.iC_InvalidPaper E.tI_InvalidPaper (pi_InvalidPaper E) ((hr.at.mono (by decide)).room hgc) E.bi_InvalidPaper rfl E.gC_InvalidPaper (d_a1 d_str (d_a1 (d_un un_neg k_neg d_int) d_a0)))) d_nil)
  (d_cons (d_ifS (L2.PW.pt (d_wor (d_tnot (d_ttru rfl k_tru (d_isi kb_tup rfl rfl E.n_isinstance rfl E.n_tuple PyProof.Rows.boot_tuple (d_ix ix_u k_ix (d_v 1) d_int)))) (pw_or1 (d_tcmp (op_neD hr.u64) k_ne (d_cb call_lenU k_len rfl E.n_len PySem.boot_len (d_a1 (d_ix ix_u k_ix (d_v 1) d_int) d_a0)) (d_cb call_lenU k_len rfl E.n_len PySem.boot_len (d_a1 (d_ix ix_u k_ix (d_v 0) d_int) d_a0)))))) (d_one (d_raiseL (cn := "InvalidPaper") (fl := ["word", "at"]) rfl (cls_InvalidPaper E) rfl rfl (by decide) (nof_InvalidPaper E) rfl tk E.x_InvalidPaper E.iC_InvalidPaper E.tI_InvalidPaper (pi_InvalidPaper E) ((hr.at.mono (by decide)).room hgc) E.bi_InvalidPaper rfl E.gC_InvalidPaper (d_a1 d_str (d_a1 (d_un un_neg k_neg d_int) d_a0)))) d_nil)
  (d_cons (d_for [3, 4, 5] (nx_T (nx_1 nx_N (nx_1 (nx_T (nx_1 nx_N (nx_1 nx_N nx_0))) nx_0))) (passes_of rfl) rfl (d_en rfl rfl E.n_enumerate (d_ix ix_u k_ix (d_v 0) d_int)) (d_gT rfl rfl (d_g1 (d_gN (hN := sc_lets_pieces.nd) (hi := rfl) (hx := by first | exact Or.inl rfl | exact Or.inr rfl)) (d_g1 (d_gT rfl rfl (d_g1 (d_gN (hN := sc_lets_pieces.nd) (hi := rfl) (hx := by first | exact Or.inl rfl | exact Or.inr rfl)) (d_g1 (d_gN (hN := sc_lets_pieces.nd) (hi := rfl) (hx := by first | exact Or.inl rfl | exact Or.inr rfl)) d_g0))) d_g0))) (d_cons (d_set sc_lets_pieces.nd rfl (by first | exact Or.inl rfl | exact Or.inr rfl) (d_callQ (p__wrong_row E) (hr.at.mono (by decide)) hg rfl E.g__wrong_row E.F__wrong_row.kp E.b__wrong_row .nil (fun _ => .nil) (fun _ => at0) (d_a1 (d_lc (own := [("s", 7)]) rfl sc_lets_pieces.nd (d_it rfl (d_v 5)) (blkOk_by (N := N_lets_pieces) (sc := defScope s_lets_pieces) (by decide +kernel)) (fun _ _ _ _ _ => (d_gN (hN := sc_lets_pieces.nd) (hi := rfl) (hx := by first | exact Or.inl rfl | exact Or.inr rfl))) (fun _ _ _ _ _ => d_yes') (fun _ _ _ _ _ => (d_ix ix_u k_ix (d_v 2) (d_v 7)))) (d_a1 (d_ix ix_u k_ix (d_v 2) (d_v 4)) (d_a1 (d_ix ix_u k_ix (d_ix ix_u k_ix (d_v 1) d_int) (d_v 3)) d_a0)))))
  (d_one (d_ifS (d_ttru rfl k_tru (d_v 6)) (d_one (d_raiseL (cn := "InvalidPaper") (fl := ["word", "at"]) rfl (cls_InvalidPaper E) rfl rfl (by decide) (nof_InvalidPaper E) rfl tk E.x_InvalidPaper E.iC_InvalidPaper E.tI_InvalidPaper (pi_InvalidPaper E) ((hr.at.mono (by decide)).room hgc) E.bi_InvalidPaper rfl E.gC_InvalidPaper (d_a1 (d_v 6) (d_a1 (d_v 3) d_a0)))) d_nil))))
  (d_one (d_ret (d_maxDf rfl rfl hr.u64 rfl E.n_max (d_v 2) d_int)))))))))
theorem p__law_agrees (E : En K mg) : FnP gRep P w K mg base CX0 8 E.a__law_agrees E.d__law_agrees ["book", "thing"] (spQ (Γk E) m__law_agrees) :=
  fnQ true (Γk E) E.F__law_agrees sc__law_agrees 2 4 mb__law_agrees rfl rfl rfl (fun _ _ h => h.1) fun cdv A outer s H E0 hr hg => by exact
  (d_cons (d_set sc__law_agrees.nd rfl (by first | exact Or.inl rfl | exact Or.inr rfl) (d_callQ (p__law_due E) (hr.at.mono (by decide)) hg.1 rfl E.g__law_due E.F__law_due.kp E.b__law_due .nil (fun _ => .nil) (fun _ => at0) (d_a1 (d_v 0) (d_a1 (d_v 1) d_a0))))
  (d_cons (d_set sc__law_agrees.nd rfl (by first | exact Or.inl rfl | exact Or.inr rfl) (d_cb (call_reprD hg.2 hr.u64) k_repr rfl E.n_repr PyProof.Rows.boot_repr (d_a1 (d_tup (d_a1 (d_v 0) (d_a1 (d_v 1) d_a0))) d_a0)))
  (d_cons (d_tryC rfl (.cons (exm_InvalidPaper E) (.cons (exm_NotUsable E) HR.nil)) rfl rfl rfl sc__law_agrees.nd (fun W' pn xe tk pw => (d_one (d_set sc__law_agrees.nd rfl (by first | exact Or.inl rfl | exact Or.inr rfl) (d_callQ (p_lets_pieces E) (hr.at.mono (by decide)) hg.1 rfl E.g_lets_pieces E.F_lets_pieces.kp E.b_lets_pieces .nil (fun _ => .nil) (fun σ => L2.passAt tk σ) (d_a1 (d_v 0) (d_a1 (d_v 1) d_a0)))))) (.consAs rfl rfl ⟨rfl, by decide, .inl E.gC_InvalidPaper⟩ (fun a oe cls d pn hz hv => (d_cons (d_ifS (L2.PW.pt (d_wor (d_tnot (d_ttru rfl k_tru (d_exI (v := .ref E.C_PaperError) (cv := .ref E.C_PaperError) rfl hz hv (fun _ h => h) (isx_PaperError E) rfl E.n_isinstance (d_v 5) (pe_glob (v := .ref E.C_PaperError) rfl E.gC_PaperError rfl)))) (d_wor (d_tnot (d_ttru rfl k_tru (d_exI (v := .ref E.C_TongueError) (cv := .ref E.C_TongueError) rfl hz hv (fun _ h => h) (isx_TongueError E) rfl E.n_isinstance (d_v 5) (pe_glob (v := .ref E.C_TongueError) rfl E.gC_TongueError rfl)))) (pw_or1 (d_tnot (d_ttru rfl k_tru (d_exI (v := .ty "ValueError") (cv := .type "ValueError") rfl hz hv (fun _ h => h) (isx_ValueError E) rfl E.n_isinstance (d_v 5) (pe_bltn (v := .ty "ValueError") rfl E.n_ValueError (by decide +kernel) rfl)))))))) (d_one (d_ret d_bl)) d_nil)
  (d_cons (d_ifS (L2.PW.pt (d_wor (d_ttru rfl k_tru (d_exI (v := .ref E.C_UseError) (cv := .ref E.C_UseError) rfl hz hv (fun _ h => h) (isx_UseError E) rfl E.n_isinstance (d_v 5) (pe_glob (v := .ref E.C_UseError) rfl E.gC_UseError rfl))) (d_wor (d_tnot (d_ttru rfl k_tru (d_isi kb_str rfl rfl E.n_isinstance rfl E.n_str PyProof.Rows.boot_str (d_exF (cn := "InvalidPaper") (k := 1) (cls_InvalidPaper E) (fnd_InvalidPaper E) rfl E.xf_InvalidPaper E.no_InvalidPaper_word hz hv (d_v 5))))) (pw_or1 (d_tnot (d_ttru rfl k_tru (d_callQ (p__law_whole E) (hr.at.mono (by decide)) trivial rfl E.g__law_whole E.F__law_whole.kp E.b__law_whole .nil (fun _ => .nil) (fun _ => at0) (d_a1 (d_exF (cn := "InvalidPaper") (k := 0) (cls_InvalidPaper E) (fnd_InvalidPaper E) rfl E.xf_InvalidPaper E.no_InvalidPaper_at hz hv (d_v 5)) d_a0)))))))) (d_one (d_ret d_bl)) d_nil)
  (d_one (d_ret (d_and (d_cmp (op_eqD hr.u64) k_eq (d_v 2) (d_tup (d_a1 d_str (d_a1 (d_exF (cn := "InvalidPaper") (k := 1) (cls_InvalidPaper E) (fnd_InvalidPaper E) rfl E.xf_InvalidPaper E.no_InvalidPaper_word hz hv (d_v 5)) (d_a1 (d_exF (cn := "InvalidPaper") (k := 0) (cls_InvalidPaper E) (fnd_InvalidPaper E) rfl E.xf_InvalidPaper E.no_InvalidPaper_at hz hv (d_v 5)) d_a0))))) (pe_one (d_cmp (op_eqD hr.u64) k_eq (d_cb (call_reprD hg.2 hr.u64) k_repr rfl E.n_repr PyProof.Rows.boot_repr (d_a1 (d_tup (d_a1 (d_v 0) (d_a1 (d_v 1) d_a0))) d_a0)) (d_v 3))))))))) (.cons ⟨rfl, by decide, .inl E.gC_NotUsable⟩ (fun a oe cls d pn hz hv => (d_one (d_ret d_bl))) HdsM.nil)))
  (d_one (d_ret (d_and (d_cmp (op_eqD hr.u64) k_eq (d_ix ix_u k_ix (d_v 2) d_int) d_str) (d_and (d_callQ (p__law_whole E) (hr.at.mono (by decide)) trivial rfl E.g__law_whole E.F__law_whole.kp E.b__law_whole .nil (fun _ => .nil) (fun _ => at0) (d_a1 (d_v 4) d_a0)) (d_and (d_cmp (op_eqD hr.u64) k_eq (d_v 4) (d_ix ix_u k_ix (d_v 2) d_int)) (pe_one (d_cmp (op_eqD hr.u64) k_eq (d_cb (call_reprD hg.2 hr.u64) k_repr rfl E.n_repr PyProof.Rows.boot_repr (d_a1 (d_tup (d_a1 (d_v 0) (d_a1 (d_v 1) d_a0))) d_a0)) (d_v 3)))))))))))
theorem p__law_refused (E : En K mg) : FnP gCalm P w K mg base CX0 8 E.a__law_refused E.d__law_refused ["book", "thing", "named"] (spQ (Γk E) m__law_refused) :=
  fnQ true (Γk E) E.F__law_refused sc__law_refused 3 1 mb__law_refused rfl rfl rfl (fun _ _ h => h) fun cdv A outer s H E0 hr hg => by exact
  (d_cons (d_tryC rfl (.cons (exm_NotUsable E) (.cons (exm_InvalidPaper E) HR.nil)) rfl rfl rfl sc__law_refused.nd (fun W' pn xe tk pw => (d_one (d_ifS (d_ttru rfl k_tru (d_v 2)) (d_one (d_drop (d_callQK (p_lets_pieces E) (hr.at.mono (by decide)) hg rfl E.g_lets_pieces E.F_lets_pieces.kp (kb_lets_pieces_thing_book E) hpm_lets_pieces_thing_book (fun σ => L2.passAt tk σ) (d_k1 (d_v 1) (d_k1 (d_v 0) d_k0))))) (d_one (d_drop (d_callQ (p_lets_pieces E) (hr.at.mono (by decide)) hg rfl E.g_lets_pieces E.F_lets_pieces.kp E.b_lets_pieces .nil (fun _ => .nil) (fun σ => L2.passAt tk σ) (d_a1 (d_v 0) (d_a1 (d_v 1) d_a0)))))))) (.consAs rfl rfl ⟨rfl, by decide, .inl E.gC_NotUsable⟩ (fun a oe cls d pn hz hv => (d_cons (d_ifS (L2.PW.pt (d_wor (d_tnot (d_ttru rfl k_tru (d_exI (v := .ref E.C_UseError) (cv := .ref E.C_UseError) rfl hz hv (fun _ h => h) (isx_UseError E) rfl E.n_isinstance (d_v 3) (pe_glob (v := .ref E.C_UseError) rfl E.gC_UseError rfl)))) (d_wor (d_tnot (d_ttru rfl k_tru (d_exI (v := .ref E.C_TongueError) (cv := .ref E.C_TongueError) rfl hz hv (fun _ h => h) (isx_TongueError E) rfl E.n_isinstance (d_v 3) (pe_glob (v := .ref E.C_TongueError) rfl E.gC_TongueError rfl)))) (pw_or1 (d_ttru rfl k_tru (d_exI (v := .ref E.C_PaperError) (cv := .ref E.C_PaperError) rfl hz hv (fun _ h => h) (isx_PaperError E) rfl E.n_isinstance (d_v 3) (pe_glob (v := .ref E.C_PaperError) rfl E.gC_PaperError rfl))))))) (d_one (d_ret d_bl)) d_nil)
  (d_one (d_ret (d_and (d_cmp (op_eqD hr.u64) k_eq (d_exF (cn := "NotUsable") (k := 1) (cls_NotUsable E) (fnd_NotUsable E) rfl E.xf_NotUsable E.no_NotUsable_word hz hv (d_v 3)) d_str) (d_and (d_callQ (p__law_whole E) (hr.at.mono (by decide)) trivial rfl E.g__law_whole E.F__law_whole.kp E.b__law_whole .nil (fun _ => .nil) (fun _ => at0) (d_a1 (d_exF (cn := "NotUsable") (k := 0) (cls_NotUsable E) (fnd_NotUsable E) rfl E.xf_NotUsable E.no_NotUsable_at hz hv (d_v 3)) d_a0)) (pe_one (d_cmp (op_eqD hr.u64) k_eq (d_exF (cn := "NotUsable") (k := 0) (cls_NotUsable E) (fnd_NotUsable E) rfl E.xf_NotUsable E.no_NotUsable_at hz hv (d_v 3)) (d_un un_neg k_neg d_int))))))))) (.cons ⟨rfl, by decide, .inl E.gC_InvalidPaper⟩ (fun a oe cls d pn hz hv => (d_one (d_ret d_bl))) HdsM.nil)))
  (d_one (d_ret d_bl)))
theorem p_law (E : En K mg) : FnP gRep P w K mg base (L2.CX P w) 9 E.a_law E.d_law ["script"] (spL (Γk E) m_law) :=
  fnL true (Γk E) E.F_law sc_law 12 mb_law rfl rfl rfl (fun _ _ h => h.1) fun cdv A outer s H E0 hr hg => by have tk := L2.takes_of (X := cxP true (L2.CX P w) P w K mg base N_law "law" (defScope s_law) E.a_law cdv A outer s H E0) rfl rfl rfl rfl; have hgc : A.handled = none := hg.1; exact
  (d_cons (d_set sc_law.nd rfl (by first | exact Or.inl rfl | exact Or.inr rfl) (d_tape (p__law_tape E) (hr.at.mono (by decide)) hg.1 rfl E.g__law_tape E.F__law_tape.kp E.b__law_tape (fun _ => at0) (d_a1 (d_v 0) d_a0)))
  (d_cons (d_set sc_law.nd rfl (by first | exact Or.inl rfl | exact Or.inr rfl) (d_callT (p__law_book E) (hr.at.mono (by decide)) hg.1 rfl E.g__law_book E.F__law_book.kp E.b__law_book .nil (fun _ => .nil) (fun _ => at0) (d_a1 (d_v 1) d_a0)))
  (d_cons (d_set sc_law.nd rfl (by first | exact Or.inl rfl | exact Or.inr rfl) (d_callT (p__law_right E) (hr.at.mono (by decide)) hg.1 rfl E.g__law_right E.F__law_right.kp E.b__law_right .nil (fun _ => .nil) (fun _ => at0) (d_a1 (d_v 1) (d_a1 (d_v 2) d_a0))))
  (d_cons (d_ifS (L2.PW.pt (d_wor (d_tcmp (op_neD hr.u64) k_ne (d_ix ix_u k_ix (d_callQ (p__law_due E) (hr.at.mono (by decide)) hg.1 rfl E.g__law_due E.F__law_due.kp E.b__law_due .nil (fun _ => .nil) (fun _ => at0) (d_a1 (d_v 2) (d_a1 (d_v 3) d_a0))) d_int) d_str) (pw_or1 (d_tnot (d_ttru rfl k_tru (d_callQ (p__law_agrees E) (hr.at.mono (by decide)) hg rfl E.g__law_agrees E.F__law_agrees.kp E.b__law_agrees .nil (fun _ => .nil) (fun _ => at0) (d_a1 (d_v 2) (d_a1 (d_v 3) d_a0)))))))) (d_one (d_ret d_bl)) d_nil)
  (d_cons (d_set sc_law.nd rfl (by first | exact Or.inl rfl | exact Or.inr rfl) (d_tup (d_a1 d_str (d_a1 (d_op op_addU k_add (d_ix ix_u k_ix (d_v 3) d_int) (d_tup (d_a1 (d_op op_pow k_pow d_int d_int) d_a0))) (d_a1 (d_ix ix_u k_ix (d_v 3) d_int) d_a0)))))
  (d_cons (d_ifS (d_tnot (d_ttru rfl k_tru (d_callQ (p__law_agrees E) (hr.at.mono (by decide)) hg rfl E.g__law_agrees E.F__law_agrees.kp E.b__law_agrees .nil (fun _ => .nil) (fun _ => at0) (d_a1 (d_tup (d_a1 (d_op op_addU k_add (d_ix ix_u k_ix (d_v 2) d_int) d_int) (d_a1 (d_ix ix_u k_ix (d_v 2) d_int) (d_a1 (d_ix ix_u k_ix (d_v 2) d_int) d_a0)))) (d_a1 (d_v 4) d_a0))))) (d_one (d_ret d_bl)) d_nil)
  (d_cons (d_set sc_law.nd rfl (by first | exact Or.inl rfl | exact Or.inr rfl) (d_callT (p__law_planted E) (hr.at.mono (by decide)) hg.1 rfl E.g__law_planted E.F__law_planted.kp E.b__law_planted .nil (fun _ => .nil) (fun _ => at0) (d_a1 (d_v 1) (d_a1 (d_v 3) d_a0))))
  (d_cons (d_set sc_law.nd rfl (by first | exact Or.inl rfl | exact Or.inr rfl) (d_op op_addU k_add (d_op op_addU k_add (d_lst (d_a1 (d_v 3) d_a0)) (d_v 5)) (d_callT (p__law_merged E) (hr.at.mono (by decide)) hg.1 rfl E.g__law_merged E.F__law_merged.kp E.b__law_merged .nil (fun _ => .nil) (fun _ => at0) (d_a1 (d_v 1) (d_a1 (d_v 3) (d_a1 (d_v 5) (d_a1 (d_callT (p__law_planted E) (hr.at.mono (by decide)) hg.1 rfl E.g__law_planted E.F__law_planted.kp E.b__law_planted .nil (fun _ => .nil) (fun _ => at0) (d_a1 (d_v 1) (d_a1 (d_v 3) d_a0))) d_a0)))))))
  (d_cons (d_for [7] nx_N (passes_of rfl) rfl (d_rg1 rfl E.n_range d_int) (d_gN (hN := sc_law.nd) (hi := rfl) (hx := by first | exact Or.inl rfl | exact Or.inr rfl)) (d_cons (d_set sc_law.nd rfl (by first | exact Or.inl rfl | exact Or.inr rfl) (d_v 3))
  (d_cons (d_for [9] nx_N (passes_of rfl) rfl (d_rg1 rfl E.n_range (d_ix ix_u k_ix (d_tup (d_a1 d_int (d_a1 d_int (d_a1 d_int (d_a1 d_int (d_a1 d_int d_a0)))))) (d_callT (p__law_pick E) (hr.at.mono (by decide)) hg.1 rfl E.g__law_pick E.F__law_pick.kp E.b__law_pick .nil (fun _ => .nil) (fun _ => at0) (d_a1 (d_v 1) (d_a1 d_int d_a0))))) (d_gN (hN := sc_law.nd) (hi := rfl) (hx := by first | exact Or.inl rfl | exact Or.inr rfl)) (d_one (d_set sc_law.nd rfl (by first | exact Or.inl rfl | exact Or.inr rfl) (d_callT (p__law_bent E) (hr.at.mono (by decide)) hg.1 rfl E.g__law_bent E.F__law_bent.kp E.b__law_bent .nil (fun _ => .nil) (fun _ => at0) (d_a1 (d_v 1) (d_a1 (d_v 8) d_a0))))))
  (d_one (d_drop (d_bm rfl PySem.F.plainAttrs_list PySem.F.slot_list_append PySem.F.type_list_append mt_append ty_list k_append (d_v 6) (d_a1 (d_v 8) d_a0)))))))
  (d_cons (d_for [7] nx_N (passes_of rfl) rfl (d_rg1 rfl E.n_range d_int) (d_gN (hN := sc_law.nd) (hi := rfl) (hx := by first | exact Or.inl rfl | exact Or.inr rfl)) (d_one (d_drop (d_bm rfl PySem.F.plainAttrs_list PySem.F.slot_list_append PySem.F.type_list_append mt_append ty_list k_append (d_v 6) (d_a1 (d_callT (p__law_odd E) (hr.at.mono (by decide)) hg.1 rfl E.g__law_odd E.F__law_odd.kp E.b__law_odd .nil (fun _ => .nil) (fun _ => at0) (d_a1 (d_v 1) d_a0)) d_a0)))))
  (d_cons (d_for [8] nx_N (passes_of rfl) rfl (d_it rfl (d_v 6)) (d_gN (hN := sc_law.nd) (hi := rfl) (hx := by first | exact Or.inl rfl | exact Or.inr rfl)) (d_one (d_ifS (d_tnot (d_ttru rfl k_tru (d_callQ (p__law_agrees E) (hr.at.mono (by decide)) hg rfl E.g__law_agrees E.F__law_agrees.kp E.b__law_agrees .nil (fun _ => .nil) (fun _ => at0) (d_a1 (d_v 2) (d_a1 (d_v 8) d_a0))))) (d_one (d_ret d_bl)) d_nil)))
  (d_cons (d_set sc_law.nd rfl (by first | exact Or.inl rfl | exact Or.inr rfl) (d_ix ix_u k_ix (d_v 6) (d_callT (p__law_pick E) (hr.at.mono (by decide)) hg.1 rfl E.g__law_pick E.F__law_pick.kp E.b__law_pick .nil (fun _ => .nil) (fun _ => at0) (d_a1 (d_v 1) (d_a1 (d_cb call_lenU k_len rfl E.n_len PySem.boot_len (d_a1 (d_v 6) d_a0)) d_a0)))))
  (d_cons (d_set sc_law.nd rfl (by first | exact Or.inl rfl | exact Or.inr rfl) (d_callQ (p__law_no_books E) (hr.at.mono (by decide)) hg.1 rfl E.g__law_no_books E.F__law_no_books.kp E.b__law_no_books .nil (fun _ => .nil) (fun _ => at0) (d_a1 (d_v 2) d_a0)))
  (d_cons (d_set sc_law.nd rfl (by first | exact Or.inl rfl | exact Or.inr rfl) (d_callT (p__law_pick E) (hr.at.mono (by decide)) hg.1 rfl E.g__law_pick E.F__law_pick.kp E.b__law_pick .nil (fun _ => .nil) (fun _ => at0) (d_a1 (d_v 1) (d_a1 (d_cb call_lenU k_len rfl E.n_len PySem.boot_len (d_a1 (d_v 11) d_a0)) d_a0))))
  (d_cons (d_for [7] nx_N (passes_of rfl) rfl (d_rg1 rfl E.n_range (d_cb call_lenU k_len rfl E.n_len PySem.boot_len (d_a1 (d_v 11) d_a0))) (d_gN (hN := sc_law.nd) (hi := rfl) (hx := by first | exact Or.inl rfl | exact Or.inr rfl)) (d_one (d_ifS (d_tnot (d_ttru rfl k_tru (d_callQ (p__law_refused E) (hr.at.mono (by decide)) hg.1 rfl E.g__law_refused E.F__law_refused.kp E.b__law_refused .nil (fun _ => .nil) (fun _ => at0) (d_a1 (d_ix ix_u k_ix (d_v 11) (d_v 7)) (d_a1 (d_v 10) (d_a1 (d_cmp (op_eqD hr.u64) k_eq (d_v 7) (d_v 12)) d_a0)))))) (d_one (d_ret d_bl)) d_nil)))
  (d_cons (d_ifS (d_tcmp (op_neD hr.u64) k_ne (d_callQK (p_lets_pieces E) (hr.at.mono (by decide)) hg.1 rfl E.g_lets_pieces E.F_lets_pieces.kp (kb_lets_pieces_thing_book E) hpm_lets_pieces_thing_book (fun σ => L2.passAt tk σ) (d_k1 (d_v 3) (d_k1 (d_v 2) d_k0))) (d_cb (cr_max rfl) k_max rfl E.n_max PyProof.Rows.boot_max (d_a1 (d_op op_addU k_add (d_lst (d_a1 d_int d_a0)) (d_cty call_listOf k_list rfl E.n_list PyProof.Rows.boot_list (d_a1 (d_ix ix_u k_ix (d_v 3) d_int) d_a0))) d_a0))) (d_one (d_ret d_bl)) d_nil)
  (d_one (d_ret (d_and (d_callQ (p__law_agrees E) (hr.at.mono (by decide)) hg rfl E.g__law_agrees E.F__law_agrees.kp E.b__law_agrees .nil (fun _ => .nil) (fun _ => at0) (d_a1 (d_v 2) (d_a1 (d_v 10) d_a0))) (pe_one (d_callQ (p__law_agrees E) (hr.at.mono (by decide)) hg rfl E.g__law_agrees E.F__law_agrees.kp E.b__law_agrees .nil (fun _ => .nil) (fun _ => at0) (d_a1 (d_v 2) (d_a1 (d_v 3) d_a0)))))))))))))))))))))))
end
end PM.K06
end
section
/-! K06F: what the top has written, out of single facts, printed by dg.py. -/
namespace PM.K06
open PySem PySem.Spec PyProof.Rows L2 L2H DL PM
theorem en_mk {P : Program} {w : World} {K : PySem.W.Frag} {h : Heap} {mg : Str → Option Value} {fa : Addr} (X : K.In h) (G : h.Ns mainGlobals mg) (hfa : mg "law" = some (.ref fa))
  {f0 : Addr} {od0 an0 : Option Addr} {sl0 : Array (Option Value)} {oc0 kV0 dc0 pm0 cd0 ct0 : Value}
  {f1 : Addr} {od1 an1 : Option Addr} {sl1 : Array (Option Value)} {oc1 kV1 dc1 pm1 cd1 ct1 : Value}
  {f2 : Addr} {od2 an2 : Option Addr} {sl2 : Array (Option Value)} {oc2 kV2 dc2 pm2 cd2 ct2 : Value}
  {f3 : Addr} {od3 an3 : Option Addr} {sl3 : Array (Option Value)} {oc3 kV3 dc3 pm3 cd3 ct3 : Value}
  {f4 : Addr} {od4 an4 : Option Addr} {sl4 : Array (Option Value)} {oc4 kV4 dc4 pm4 cd4 ct4 : Value}
  {f5 : Addr} {od5 an5 : Option Addr} {sl5 : Array (Option Value)} {oc5 kV5 dc5 pm5 cd5 ct5 : Value}
  {f6 : Addr} {od6 an6 : Option Addr} {sl6 : Array (Option Value)} {oc6 kV6 dc6 pm6 cd6 ct6 : Value}
  {f7 : Addr} {od7 an7 : Option Addr} {sl7 : Array (Option Value)} {oc7 kV7 dc7 pm7 cd7 ct7 : Value}
  {f8 : Addr} {od8 an8 : Option Addr} {sl8 : Array (Option Value)} {oc8 kV8 dc8 pm8 cd8 ct8 : Value}
  {f9 : Addr} {od9 an9 : Option Addr} {sl9 : Array (Option Value)} {oc9 kV9 dc9 pm9 cd9 ct9 : Value}
  {f10 : Addr} {od10 an10 : Option Addr} {sl10 : Array (Option Value)} {oc10 kV10 dc10 pm10 cd10 ct10 : Value}
  {f11 : Addr} {od11 an11 : Option Addr} {sl11 : Array (Option Value)} {oc11 kV11 dc11 pm11 cd11 ct11 : Value}
  {f12 : Addr} {od12 an12 : Option Addr} {sl12 : Array (Option Value)} {oc12 kV12 dc12 pm12 cd12 ct12 : Value}
  {f13 : Addr} {od13 an13 : Option Addr} {sl13 : Array (Option Value)} {oc13 kV13 dc13 pm13 cd13 ct13 : Value}
  {f14 : Addr} {od14 an14 : Option Addr} {sl14 : Array (Option Value)} {oc14 kV14 dc14 pm14 cd14 ct14 : Value}
  {f15 : Addr} {od15 an15 : Option Addr} {sl15 : Array (Option Value)} {oc15 kV15 dc15 pm15 cd15 ct15 : Value}
  {f16 : Addr} {od16 an16 : Option Addr} {sl16 : Array (Option Value)} {oc16 kV16 dc16 pm16 cd16 ct16 : Value}
  {f17 : Addr} {od17 an17 : Option Addr} {sl17 : Array (Option Value)} {oc17 kV17 dc17 pm17 cd17 ct17 : Value}
  {f18 : Addr} {od18 an18 : Option Addr} {sl18 : Array (Option Value)} {oc18 kV18 dc18 pm18 cd18 ct18 : Value}
  {f19 : Addr} {od19 an19 : Option Addr} {sl19 : Array (Option Value)} {oc19 kV19 dc19 pm19 cd19 ct19 : Value}
  {f20 : Addr} {od20 an20 : Option Addr} {sl20 : Array (Option Value)} {oc20 kV20 dc20 pm20 cd20 ct20 : Value}
  {f21 : Addr} {od21 an21 : Option Addr} {sl21 : Array (Option Value)} {oc21 kV21 dc21 pm21 cd21 ct21 : Value}
  {f22 : Addr} {od22 an22 : Option Addr} {sl22 : Array (Option Value)} {oc22 kV22 dc22 pm22 cd22 ct22 : Value}
  {f23 : Addr} {od23 an23 : Option Addr} {sl23 : Array (Option Value)} {oc23 kV23 dc23 pm23 cd23 ct23 : Value}
  {f24 : Addr} {od24 an24 : Option Addr} {sl24 : Array (Option Value)} {oc24 kV24 dc24 pm24 cd24 ct24 : Value}
  {f25 : Addr} {od25 an25 : Option Addr} {sl25 : Array (Option Value)} {oc25 kV25 dc25 pm25 cd25 ct25 : Value}
  {f26 : Addr} {od26 an26 : Option Addr} {sl26 : Array (Option Value)} {oc26 kV26 dc26 pm26 cd26 ct26 : Value}
  {f27 : Addr} {od27 an27 : Option Addr} {sl27 : Array (Option Value)} {oc27 kV27 dc27 pm27 cd27 ct27 : Value}
  {f28 : Addr} {od28 an28 : Option Addr} {sl28 : Array (Option Value)} {oc28 kV28 dc28 pm28 cd28 ct28 : Value}
  {f29 : Addr} {od29 an29 : Option Addr} {sl29 : Array (Option Value)} {oc29 kV29 dc29 pm29 cd29 ct29 : Value}
  {f30 : Addr} {od30 an30 : Option Addr} {sl30 : Array (Option Value)} {oc30 kV30 dc30 pm30 cd30 ct30 : Value}
  {f31 : Addr} {od31 an31 : Option Addr} {sl31 : Array (Option Value)} {oc31 kV31 dc31 pm31 cd31 ct31 : Value}
  {f32 : Addr} {od32 an32 : Option Addr} {sl32 : Array (Option Value)} {oc32 kV32 dc32 pm32 cd32 ct32 : Value}
  {f33 : Addr} {od33 an33 : Option Addr} {sl33 : Array (Option Value)} {oc33 kV33 dc33 pm33 cd33 ct33 : Value}
  {x_InvalidPaper : Addr}
  {x_NotUsable : Addr}
  {x_PaperError : Addr}
  {x_TongueError : Addr}
  {x_UseError : Addr}
  {i_InvalidPaper : Addr} {od_InvalidPaper an_InvalidPaper : Option Addr} {sl_InvalidPaper : Array (Option Value)} {oc_InvalidPaper kV_InvalidPaper dc_InvalidPaper pm_InvalidPaper cd_InvalidPaper ct_InvalidPaper : Value} {nm_InvalidPaper q_InvalidPaper : Str} {N_InvalidPaper : Addr} {bs_InvalidPaper mr_InvalidPaper : List Value} {sn_InvalidPaper : List Str} {sub_InvalidPaper : List Value} {ab_InvalidPaper : Bool} {col_InvalidPaper : Option Bool} {dd_InvalidPaper : Option Addr} {m0_InvalidPaper m1_InvalidPaper m2_InvalidPaper m3_InvalidPaper m5_InvalidPaper : Option Value}
  {i_NotUsable : Addr} {od_NotUsable an_NotUsable : Option Addr} {sl_NotUsable : Array (Option Value)} {oc_NotUsable kV_NotUsable dc_NotUsable pm_NotUsable cd_NotUsable ct_NotUsable : Value} {nm_NotUsable q_NotUsable : Str} {N_NotUsable : Addr} {bs_NotUsable mr_NotUsable : List Value} {sn_NotUsable : List Str} {sub_NotUsable : List Value} {ab_NotUsable : Bool} {col_NotUsable : Option Bool} {dd_NotUsable : Option Addr} {m0_NotUsable m1_NotUsable m2_NotUsable m3_NotUsable m5_NotUsable : Option Value}
  {t_PERCENT : Tok}
  {t_QUOTE : Tok}
  (a0 : PySem.W.nsIn K mainGlobals "is_whole_number" = some (some (.ref f0)))
  (l0 : K.lookup f0 = some ⟨oc0, od0, .func (PySem.W.fnOf "is_whole_number" "is_whole_number" (defArgs s_is_whole_number) (defBody s_is_whole_number) (defScope s_is_whole_number) .none kV0 dc0 pm0 an0 cd0 ct0), sl0⟩)
  (c0 : PySem.W.codeIn K cd0 "is_whole_number" = true)
  (k0 : PySem.W.keepIn K (.ref f0) = true)
  (a1 : PySem.W.nsIn K mainGlobals "is_word" = some (some (.ref f1)))
  (l1 : K.lookup f1 = some ⟨oc1, od1, .func (PySem.W.fnOf "is_word" "is_word" (defArgs s_is_word) (defBody s_is_word) (defScope s_is_word) .none kV1 dc1 pm1 an1 cd1 ct1), sl1⟩)
  (c1 : PySem.W.codeIn K cd1 "is_word" = true)
  (k1 : PySem.W.keepIn K (.ref f1) = true)
  (a2 : PySem.W.nsIn K mainGlobals "_law_tape" = some (some (.ref f2)))
  (l2 : K.lookup f2 = some ⟨oc2, od2, .func (PySem.W.fnOf "_law_tape" "_law_tape" (defArgs s__law_tape) (defBody s__law_tape) (defScope s__law_tape) .none kV2 dc2 pm2 an2 cd2 ct2), sl2⟩)
  (c2 : PySem.W.codeIn K cd2 "_law_tape" = true)
  (k2 : PySem.W.keepIn K (.ref f2) = true)
  (a3 : PySem.W.nsIn K mainGlobals "_law_pick" = some (some (.ref f3)))
  (l3 : K.lookup f3 = some ⟨oc3, od3, .func (PySem.W.fnOf "_law_pick" "_law_pick" (defArgs s__law_pick) (defBody s__law_pick) (defScope s__law_pick) .none kV3 dc3 pm3 an3 cd3 ct3), sl3⟩)
  (c3 : PySem.W.codeIn K cd3 "_law_pick" = true)
  (k3 : PySem.W.keepIn K (.ref f3) = true)
  (a4 : PySem.W.nsIn K mainGlobals "_law_with" = some (some (.ref f4)))
  (l4 : K.lookup f4 = some ⟨oc4, od4, .func (PySem.W.fnOf "_law_with" "_law_with" (defArgs s__law_with) (defBody s__law_with) (defScope s__law_with) .none kV4 dc4 pm4 an4 cd4 ct4), sl4⟩)
  (c4 : PySem.W.codeIn K cd4 "_law_with" = true)
  (k4 : PySem.W.keepIn K (.ref f4) = true)
  (a5 : PySem.W.nsIn K mainGlobals "_law_spots" = some (some (.ref f5)))
  (l5 : K.lookup f5 = some ⟨oc5, od5, .func (PySem.W.fnOf "_law_spots" "_law_spots" (defArgs s__law_spots) (defBody s__law_spots) (defScope s__law_spots) .none kV5 dc5 pm5 an5 cd5 ct5), sl5⟩)
  (c5 : PySem.W.codeIn K cd5 "_law_spots" = true)
  (k5 : PySem.W.keepIn K (.ref f5) = true)
  (a6 : PySem.W.nsIn K mainGlobals "_law_whole" = some (some (.ref f6)))
  (l6 : K.lookup f6 = some ⟨oc6, od6, .func (PySem.W.fnOf "_law_whole" "_law_whole" (defArgs s__law_whole) (defBody s__law_whole) (defScope s__law_whole) .none kV6 dc6 pm6 an6 cd6 ct6), sl6⟩)
  (c6 : PySem.W.codeIn K cd6 "_law_whole" = true)
  (k6 : PySem.W.keepIn K (.ref f6) = true)
  (a7 : PySem.W.nsIn K mainGlobals "_law_is_word" = some (some (.ref f7)))
  (l7 : K.lookup f7 = some ⟨oc7, od7, .func (PySem.W.fnOf "_law_is_word" "_law_is_word" (defArgs s__law_is_word) (defBody s__law_is_word) (defScope s__law_is_word) .none kV7 dc7 pm7 an7 cd7 ct7), sl7⟩)
  (c7 : PySem.W.codeIn K cd7 "_law_is_word" = true)
  (k7 : PySem.W.keepIn K (.ref f7) = true)
  (a8 : PySem.W.nsIn K mainGlobals "_law_no_books" = some (some (.ref f8)))
  (l8 : K.lookup f8 = some ⟨oc8, od8, .func (PySem.W.fnOf "_law_no_books" "_law_no_books" (defArgs s__law_no_books) (defBody s__law_no_books) (defScope s__law_no_books) .none kV8 dc8 pm8 an8 cd8 ct8), sl8⟩)
  (c8 : PySem.W.codeIn K cd8 "_law_no_books" = true)
  (k8 : PySem.W.keepIn K (.ref f8) = true)
  (a9 : PySem.W.nsIn K mainGlobals "is_number" = some (some (.ref f9)))
  (l9 : K.lookup f9 = some ⟨oc9, od9, .func (PySem.W.fnOf "is_number" "is_number" (defArgs s_is_number) (defBody s_is_number) (defScope s_is_number) .none kV9 dc9 pm9 an9 cd9 ct9), sl9⟩)
  (c9 : PySem.W.codeIn K cd9 "is_number" = true)
  (k9 : PySem.W.keepIn K (.ref f9) = true)
  (a10 : PySem.W.nsIn K mainGlobals "_law_word" = some (some (.ref f10)))
  (l10 : K.lookup f10 = some ⟨oc10, od10, .func (PySem.W.fnOf "_law_word" "_law_word" (defArgs s__law_word) (defBody s__law_word) (defScope s__law_word) .none kV10 dc10 pm10 an10 cd10 ct10), sl10⟩)
  (c10 : PySem.W.codeIn K cd10 "_law_word" = true)
  (k10 : PySem.W.keepIn K (.ref f10) = true)
  (a11 : PySem.W.nsIn K mainGlobals "_law_book" = some (some (.ref f11)))
  (l11 : K.lookup f11 = some ⟨oc11, od11, .func (PySem.W.fnOf "_law_book" "_law_book" (defArgs s__law_book) (defBody s__law_book) (defScope s__law_book) .none kV11 dc11 pm11 an11 cd11 ct11), sl11⟩)
  (c11 : PySem.W.codeIn K cd11 "_law_book" = true)
  (k11 : PySem.W.keepIn K (.ref f11) = true)
  (a12 : PySem.W.nsIn K mainGlobals "_law_odd" = some (some (.ref f12)))
  (l12 : K.lookup f12 = some ⟨oc12, od12, .func (PySem.W.fnOf "_law_odd" "_law_odd" (defArgs s__law_odd) (defBody s__law_odd) (defScope s__law_odd) .none kV12 dc12 pm12 an12 cd12 ct12), sl12⟩)
  (c12 : PySem.W.codeIn K cd12 "_law_odd" = true)
  (k12 : PySem.W.keepIn K (.ref f12) = true)
  (a13 : PySem.W.nsIn K mainGlobals "_law_path" = some (some (.ref f13)))
  (l13 : K.lookup f13 = some ⟨oc13, od13, .func (PySem.W.fnOf "_law_path" "_law_path" (defArgs s__law_path) (defBody s__law_path) (defScope s__law_path) .none kV13 dc13 pm13 an13 cd13 ct13), sl13⟩)
  (c13 : PySem.W.codeIn K cd13 "_law_path" = true)
  (k13 : PySem.W.keepIn K (.ref f13) = true)
  (a14 : PySem.W.nsIn K mainGlobals "_law_widths" = some (some (.ref f14)))
  (l14 : K.lookup f14 = some ⟨oc14, od14, .func (PySem.W.fnOf "_law_widths" "_law_widths" (defArgs s__law_widths) (defBody s__law_widths) (defScope s__law_widths) .none kV14 dc14 pm14 an14 cd14 ct14), sl14⟩)
  (c14 : PySem.W.codeIn K cd14 "_law_widths" = true)
  (k14 : PySem.W.keepIn K (.ref f14) = true)
  (a15 : PySem.W.nsIn K mainGlobals "_law_lines" = some (some (.ref f15)))
  (l15 : K.lookup f15 = some ⟨oc15, od15, .func (PySem.W.fnOf "_law_lines" "_law_lines" (defArgs s__law_lines) (defBody s__law_lines) (defScope s__law_lines) .none kV15 dc15 pm15 an15 cd15 ct15), sl15⟩)
  (c15 : PySem.W.codeIn K cd15 "_law_lines" = true)
  (k15 : PySem.W.keepIn K (.ref f15) = true)
  (a16 : PySem.W.nsIn K mainGlobals "_law_merged" = some (some (.ref f16)))
  (l16 : K.lookup f16 = some ⟨oc16, od16, .func (PySem.W.fnOf "_law_merged" "_law_merged" (defArgs s__law_merged) (defBody s__law_merged) (defScope s__law_merged) .none kV16 dc16 pm16 an16 cd16 ct16), sl16⟩)
  (c16 : PySem.W.codeIn K cd16 "_law_merged" = true)
  (k16 : PySem.W.keepIn K (.ref f16) = true)
  (a17 : PySem.W.nsIn K mainGlobals "_law_row_word" = some (some (.ref f17)))
  (l17 : K.lookup f17 = some ⟨oc17, od17, .func (PySem.W.fnOf "_law_row_word" "_law_row_word" (defArgs s__law_row_word) (defBody s__law_row_word) (defScope s__law_row_word) .none kV17 dc17 pm17 an17 cd17 ct17), sl17⟩)
  (c17 : PySem.W.codeIn K cd17 "_law_row_word" = true)
  (k17 : PySem.W.keepIn K (.ref f17) = true)
  (a18 : PySem.W.nsIn K mainGlobals "sort_fits" = some (some (.ref f18)))
  (l18 : K.lookup f18 = some ⟨oc18, od18, .func (PySem.W.fnOf "sort_fits" "sort_fits" (defArgs s_sort_fits) (defBody s_sort_fits) (defScope s_sort_fits) .none kV18 dc18 pm18 an18 cd18 ct18), sl18⟩)
  (c18 : PySem.W.codeIn K cd18 "sort_fits" = true)
  (k18 : PySem.W.keepIn K (.ref f18) = true)
  (a19 : PySem.W.nsIn K mainGlobals "_are_widths" = some (some (.ref f19)))
  (l19 : K.lookup f19 = some ⟨oc19, od19, .func (PySem.W.fnOf "_are_widths" "_are_widths" (defArgs s__are_widths) (defBody s__are_widths) (defScope s__are_widths) .none kV19 dc19 pm19 an19 cd19 ct19), sl19⟩)
  (c19 : PySem.W.codeIn K cd19 "_are_widths" = true)
  (k19 : PySem.W.keepIn K (.ref f19) = true)
  (a20 : PySem.W.nsIn K mainGlobals "_is_slot" = some (some (.ref f20)))
  (l20 : K.lookup f20 = some ⟨oc20, od20, .func (PySem.W.fnOf "_is_slot" "_is_slot" (defArgs s__is_slot) (defBody s__is_slot) (defScope s__is_slot) .none kV20 dc20 pm20 an20 cd20 ct20), sl20⟩)
  (c20 : PySem.W.codeIn K cd20 "_is_slot" = true)
  (k20 : PySem.W.keepIn K (.ref f20) = true)
  (a21 : PySem.W.nsIn K mainGlobals "_law_row" = some (some (.ref f21)))
  (l21 : K.lookup f21 = some ⟨oc21, od21, .func (PySem.W.fnOf "_law_row" "_law_row" (defArgs s__law_row) (defBody s__law_row) (defScope s__law_row) .none kV21 dc21 pm21 an21 cd21 ct21), sl21⟩)
  (c21 : PySem.W.codeIn K cd21 "_law_row" = true)
  (k21 : PySem.W.keepIn K (.ref f21) = true)
  (a22 : PySem.W.nsIn K mainGlobals "_law_bent" = some (some (.ref f22)))
  (l22 : K.lookup f22 = some ⟨oc22, od22, .func (PySem.W.fnOf "_law_bent" "_law_bent" (defArgs s__law_bent) (defBody s__law_bent) (defScope s__law_bent) .none kV22 dc22 pm22 an22 cd22 ct22), sl22⟩)
  (c22 : PySem.W.codeIn K cd22 "_law_bent" = true)
  (k22 : PySem.W.keepIn K (.ref f22) = true)
  (a23 : PySem.W.nsIn K mainGlobals "_law_planted" = some (some (.ref f23)))
  (l23 : K.lookup f23 = some ⟨oc23, od23, .func (PySem.W.fnOf "_law_planted" "_law_planted" (defArgs s__law_planted) (defBody s__law_planted) (defScope s__law_planted) .none kV23 dc23 pm23 an23 cd23 ct23), sl23⟩)
  (c23 : PySem.W.codeIn K cd23 "_law_planted" = true)
  (k23 : PySem.W.keepIn K (.ref f23) = true)
  (a24 : PySem.W.nsIn K mainGlobals "_law_due" = some (some (.ref f24)))
  (l24 : K.lookup f24 = some ⟨oc24, od24, .func (PySem.W.fnOf "_law_due" "_law_due" (defArgs s__law_due) (defBody s__law_due) (defScope s__law_due) .none kV24 dc24 pm24 an24 cd24 ct24), sl24⟩)
  (c24 : PySem.W.codeIn K cd24 "_law_due" = true)
  (k24 : PySem.W.keepIn K (.ref f24) = true)
  (a25 : PySem.W.nsIn K mainGlobals "starts_fit" = some (some (.ref f25)))
  (l25 : K.lookup f25 = some ⟨oc25, od25, .func (PySem.W.fnOf "starts_fit" "starts_fit" (defArgs s_starts_fit) (defBody s_starts_fit) (defScope s_starts_fit) .none kV25 dc25 pm25 an25 cd25 ct25), sl25⟩)
  (c25 : PySem.W.codeIn K cd25 "starts_fit" = true)
  (k25 : PySem.W.keepIn K (.ref f25) = true)
  (a26 : PySem.W.nsIn K mainGlobals "_wrong_row" = some (some (.ref f26)))
  (l26 : K.lookup f26 = some ⟨oc26, od26, .func (PySem.W.fnOf "_wrong_row" "_wrong_row" (defArgs s__wrong_row) (defBody s__wrong_row) (defScope s__wrong_row) .none kV26 dc26 pm26 an26 cd26 ct26), sl26⟩)
  (c26 : PySem.W.codeIn K cd26 "_wrong_row" = true)
  (k26 : PySem.W.keepIn K (.ref f26) = true)
  (a27 : PySem.W.nsIn K mainGlobals "_law_right" = some (some (.ref f27)))
  (l27 : K.lookup f27 = some ⟨oc27, od27, .func (PySem.W.fnOf "_law_right" "_law_right" (defArgs s__law_right) (defBody s__law_right) (defScope s__law_right) .none kV27 dc27 pm27 an27 cd27 ct27), sl27⟩)
  (c27 : PySem.W.codeIn K cd27 "_law_right" = true)
  (k27 : PySem.W.keepIn K (.ref f27) = true)
  (a28 : PySem.W.nsIn K mainGlobals "book_fault" = some (some (.ref f28)))
  (l28 : K.lookup f28 = some ⟨oc28, od28, .func (PySem.W.fnOf "book_fault" "book_fault" (defArgs s_book_fault) (defBody s_book_fault) (defScope s_book_fault) .none kV28 dc28 pm28 an28 cd28 ct28), sl28⟩)
  (c28 : PySem.W.codeIn K cd28 "book_fault" = true)
  (k28 : PySem.W.keepIn K (.ref f28) = true)
  (a29 : PySem.W.nsIn K mainGlobals "lets_book" = some (some (.ref f29)))
  (l29 : K.lookup f29 = some ⟨oc29, od29, .func (PySem.W.fnOf "lets_book" "lets_book" (defArgs s_lets_book) (defBody s_lets_book) (defScope s_lets_book) .none kV29 dc29 pm29 an29 cd29 ct29), sl29⟩)
  (c29 : PySem.W.codeIn K cd29 "lets_book" = true)
  (k29 : PySem.W.keepIn K (.ref f29) = true)
  (a30 : PySem.W.nsIn K mainGlobals "lets_pieces" = some (some (.ref f30)))
  (l30 : K.lookup f30 = some ⟨oc30, od30, .func (PySem.W.fnOf "lets_pieces" "lets_pieces" (defArgs s_lets_pieces) (defBody s_lets_pieces) (defScope s_lets_pieces) .none kV30 dc30 pm30 an30 cd30 ct30), sl30⟩)
  (c30 : PySem.W.codeIn K cd30 "lets_pieces" = true)
  (k30 : PySem.W.keepIn K (.ref f30) = true)
  (a31 : PySem.W.nsIn K mainGlobals "_law_agrees" = some (some (.ref f31)))
  (l31 : K.lookup f31 = some ⟨oc31, od31, .func (PySem.W.fnOf "_law_agrees" "_law_agrees" (defArgs s__law_agrees) (defBody s__law_agrees) (defScope s__law_agrees) .none kV31 dc31 pm31 an31 cd31 ct31), sl31⟩)
  (c31 : PySem.W.codeIn K cd31 "_law_agrees" = true)
  (k31 : PySem.W.keepIn K (.ref f31) = true)
  (a32 : PySem.W.nsIn K mainGlobals "_law_refused" = some (some (.ref f32)))
  (l32 : K.lookup f32 = some ⟨oc32, od32, .func (PySem.W.fnOf "_law_refused" "_law_refused" (defArgs s__law_refused) (defBody s__law_refused) (defScope s__law_refused) .none kV32 dc32 pm32 an32 cd32 ct32), sl32⟩)
  (c32 : PySem.W.codeIn K cd32 "_law_refused" = true)
  (k32 : PySem.W.keepIn K (.ref f32) = true)
  (a33 : PySem.W.nsIn K mainGlobals "law" = some (some (.ref f33)))
  (l33 : K.lookup f33 = some ⟨oc33, od33, .func (PySem.W.fnOf "law" "law" (defArgs s_law) (defBody s_law) (defScope s_law) .none kV33 dc33 pm33 an33 cd33 ct33), sl33⟩)
  (c33 : PySem.W.codeIn K cd33 "law" = true)
  (k33 : PySem.W.keepIn K (.ref f33) = true)
  (g_InvalidPaper : PySem.W.nsIn K mainGlobals "InvalidPaper" = some (some (.ref x_InvalidPaper)))
  (hc_InvalidPaper : PySem.W.isClsIn K x_InvalidPaper = true)
  (ht_InvalidPaper : PySem.W.typeIn K (.ref x_InvalidPaper) = some (.type "type"))
  (hb_InvalidPaper : PySem.W.subIn K (.ref x_InvalidPaper) (.type "BaseException") = some true)
  (g_NotUsable : PySem.W.nsIn K mainGlobals "NotUsable" = some (some (.ref x_NotUsable)))
  (hc_NotUsable : PySem.W.isClsIn K x_NotUsable = true)
  (ht_NotUsable : PySem.W.typeIn K (.ref x_NotUsable) = some (.type "type"))
  (hb_NotUsable : PySem.W.subIn K (.ref x_NotUsable) (.type "BaseException") = some true)
  (g_PaperError : PySem.W.nsIn K mainGlobals "PaperError" = some (some (.ref x_PaperError)))
  (hc_PaperError : PySem.W.isClsIn K x_PaperError = true)
  (ht_PaperError : PySem.W.typeIn K (.ref x_PaperError) = some (.type "type"))
  (g_TongueError : PySem.W.nsIn K mainGlobals "TongueError" = some (some (.ref x_TongueError)))
  (hc_TongueError : PySem.W.isClsIn K x_TongueError = true)
  (ht_TongueError : PySem.W.typeIn K (.ref x_TongueError) = some (.type "type"))
  (g_UseError : PySem.W.nsIn K mainGlobals "UseError" = some (some (.ref x_UseError)))
  (hc_UseError : PySem.W.isClsIn K x_UseError = true)
  (ht_UseError : PySem.W.typeIn K (.ref x_UseError) = some (.type "type"))
  (xl_InvalidPaper : K.lookup x_InvalidPaper = some (excClassObj nm_InvalidPaper q_InvalidPaper x_InvalidPaper N_InvalidPaper bs_InvalidPaper mr_InvalidPaper true sn_InvalidPaper sub_InvalidPaper ab_InvalidPaper col_InvalidPaper dd_InvalidPaper m0_InvalidPaper m1_InvalidPaper m2_InvalidPaper m3_InvalidPaper m5_InvalidPaper "ValueError.__new__"))
  (xr_InvalidPaper : PySem.HandSPX.refsVE mr_InvalidPaper = true)
  (sa_InvalidPaper : PySem.W.findIn K (.ref x_InvalidPaper) "__setattr__" = some (some (.builtin "object.__setattr__")))
  (ex_InvalidPaper : PySem.W.subIn K (.ref x_InvalidPaper) (.type "BaseException") = some true)
  (ty_InvalidPaper : PySem.W.typeIn K (.ref x_InvalidPaper) = some (.type "type"))
  (kc_InvalidPaper : PySem.W.keepIn K (.ref x_InvalidPaper) = true)
  (ga_InvalidPaper : PySem.W.findIn K (.ref x_InvalidPaper) "__getattribute__" = some (some (.builtin "BaseException.__getattribute__")))
  (gg_InvalidPaper : PySem.W.findIn K (.ref x_InvalidPaper) "__getattr__" = some none)
  (hd_InvalidPaper : PySem.W.hasDictIn K x_InvalidPaper = true)
  (ca_InvalidPaper : PySem.W.findIn K (.ref x_InvalidPaper) "__class__" = some (some (.builtin "object.__class__")))
  (mo_InvalidPaper : PySem.W.mroIn K x_InvalidPaper (.type "object") = some true)
  (ic_InvalidPaper : PySem.W.findIn K (.ref x_InvalidPaper) "__init__" = some (some (.ref i_InvalidPaper)))
  (ti_InvalidPaper : PySem.W.typeIn K (.ref i_InvalidPaper) = some (.type "function"))
  (no_InvalidPaper_word : PySem.W.findIn K (.ref x_InvalidPaper) "word" = some none)
  (no_InvalidPaper_at : PySem.W.findIn K (.ref x_InvalidPaper) "at" = some none)
  (li_InvalidPaper : K.lookup i_InvalidPaper = some ⟨oc_InvalidPaper, od_InvalidPaper, .func (PySem.W.fnOf "__init__" "InvalidPaper.__init__" (defArgs si_InvalidPaper) (defBody si_InvalidPaper) (defScope si_InvalidPaper) .none kV_InvalidPaper dc_InvalidPaper pm_InvalidPaper an_InvalidPaper cd_InvalidPaper ct_InvalidPaper), sl_InvalidPaper⟩)
  (ci_InvalidPaper : PySem.W.codeIn K cd_InvalidPaper "InvalidPaper.__init__" = true)
  (ki_InvalidPaper : PySem.W.keepIn K (.ref i_InvalidPaper) = true)
  (e_InvalidPaper_InvalidPaper : PySem.W.subIn K (.ref x_InvalidPaper) (.ref x_InvalidPaper) = some true)
  (e_InvalidPaper_NotUsable : PySem.W.subIn K (.ref x_InvalidPaper) (.ref x_NotUsable) = some false)
  (k_InvalidPaper_PaperError : PySem.W.subIn K (.ref x_InvalidPaper) (.ref x_PaperError) = some true)
  (d_InvalidPaper_PaperError : x_InvalidPaper ≠ x_PaperError)
  (k_InvalidPaper_TongueError : PySem.W.subIn K (.ref x_InvalidPaper) (.ref x_TongueError) = some true)
  (d_InvalidPaper_TongueError : x_InvalidPaper ≠ x_TongueError)
  (k_InvalidPaper_UseError : PySem.W.subIn K (.ref x_InvalidPaper) (.ref x_UseError) = some false)
  (d_InvalidPaper_UseError : x_InvalidPaper ≠ x_UseError)
  (k_InvalidPaper_ValueError : PySem.W.subIn K (.ref x_InvalidPaper) (.type "ValueError") = some true)
  (xl_NotUsable : K.lookup x_NotUsable = some (excClassObj nm_NotUsable q_NotUsable x_NotUsable N_NotUsable bs_NotUsable mr_NotUsable true sn_NotUsable sub_NotUsable ab_NotUsable col_NotUsable dd_NotUsable m0_NotUsable m1_NotUsable m2_NotUsable m3_NotUsable m5_NotUsable "ValueError.__new__"))
  (xr_NotUsable : PySem.HandSPX.refsVE mr_NotUsable = true)
  (sa_NotUsable : PySem.W.findIn K (.ref x_NotUsable) "__setattr__" = some (some (.builtin "object.__setattr__")))
  (ex_NotUsable : PySem.W.subIn K (.ref x_NotUsable) (.type "BaseException") = some true)
  (ty_NotUsable : PySem.W.typeIn K (.ref x_NotUsable) = some (.type "type"))
  (kc_NotUsable : PySem.W.keepIn K (.ref x_NotUsable) = true)
  (ga_NotUsable : PySem.W.findIn K (.ref x_NotUsable) "__getattribute__" = some (some (.builtin "BaseException.__getattribute__")))
  (gg_NotUsable : PySem.W.findIn K (.ref x_NotUsable) "__getattr__" = some none)
  (hd_NotUsable : PySem.W.hasDictIn K x_NotUsable = true)
  (ca_NotUsable : PySem.W.findIn K (.ref x_NotUsable) "__class__" = some (some (.builtin "object.__class__")))
  (mo_NotUsable : PySem.W.mroIn K x_NotUsable (.type "object") = some true)
  (ic_NotUsable : PySem.W.findIn K (.ref x_NotUsable) "__init__" = some (some (.ref i_NotUsable)))
  (ti_NotUsable : PySem.W.typeIn K (.ref i_NotUsable) = some (.type "function"))
  (no_NotUsable_word : PySem.W.findIn K (.ref x_NotUsable) "word" = some none)
  (no_NotUsable_at : PySem.W.findIn K (.ref x_NotUsable) "at" = some none)
  (li_NotUsable : K.lookup i_NotUsable = some ⟨oc_NotUsable, od_NotUsable, .func (PySem.W.fnOf "__init__" "NotUsable.__init__" (defArgs si_NotUsable) (defBody si_NotUsable) (defScope si_NotUsable) .none kV_NotUsable dc_NotUsable pm_NotUsable an_NotUsable cd_NotUsable ct_NotUsable), sl_NotUsable⟩)
  (ci_NotUsable : PySem.W.codeIn K cd_NotUsable "NotUsable.__init__" = true)
  (ki_NotUsable : PySem.W.keepIn K (.ref i_NotUsable) = true)
  (e_NotUsable_InvalidPaper : PySem.W.subIn K (.ref x_NotUsable) (.ref x_InvalidPaper) = some false)
  (e_NotUsable_NotUsable : PySem.W.subIn K (.ref x_NotUsable) (.ref x_NotUsable) = some true)
  (k_NotUsable_PaperError : PySem.W.subIn K (.ref x_NotUsable) (.ref x_PaperError) = some false)
  (d_NotUsable_PaperError : x_NotUsable ≠ x_PaperError)
  (k_NotUsable_TongueError : PySem.W.subIn K (.ref x_NotUsable) (.ref x_TongueError) = some true)
  (d_NotUsable_TongueError : x_NotUsable ≠ x_TongueError)
  (k_NotUsable_UseError : PySem.W.subIn K (.ref x_NotUsable) (.ref x_UseError) = some true)
  (d_NotUsable_UseError : x_NotUsable ≠ x_UseError)
  (k_NotUsable_ValueError : PySem.W.subIn K (.ref x_NotUsable) (.type "ValueError") = some true)
  (sp0 : PySem.W.specialIn K (.builtin "object.__class__") "__get__" = some (some (.builtin "getset_descriptor.__get__")))
  (tk0 : PySem.W.takesIn K (.builtin "object.__class__") = some true)
  (n_ValueError : PySem.W.nsIn K mainGlobals "ValueError" = some none)
  (n_all : PySem.W.nsIn K mainGlobals "all" = some none)
  (n_bool : PySem.W.nsIn K mainGlobals "bool" = some none)
  (n_enumerate : PySem.W.nsIn K mainGlobals "enumerate" = some none)
  (n_int : PySem.W.nsIn K mainGlobals "int" = some none)
  (n_isinstance : PySem.W.nsIn K mainGlobals "isinstance" = some none)
  (n_len : PySem.W.nsIn K mainGlobals "len" = some none)
  (n_list : PySem.W.nsIn K mainGlobals "list" = some none)
  (n_max : PySem.W.nsIn K mainGlobals "max" = some none)
  (n_ord : PySem.W.nsIn K mainGlobals "ord" = some none)
  (n_range : PySem.W.nsIn K mainGlobals "range" = some none)
  (n_repr : PySem.W.nsIn K mainGlobals "repr" = some none)
  (n_set : PySem.W.nsIn K mainGlobals "set" = some none)
  (n_str : PySem.W.nsIn K mainGlobals "str" = some none)
  (n_sum : PySem.W.nsIn K mainGlobals "sum" = some none)
  (n_tuple : PySem.W.nsIn K mainGlobals "tuple" = some none)
  (v_PERCENT : PySem.W.nsIn K mainGlobals "PERCENT" = some (some (.int (37 : Nat) t_PERCENT)))
  (v_QUOTE : PySem.W.nsIn K mainGlobals "QUOTE" = some (some (.int (39 : Nat) t_QUOTE))) :
  ∃ fd : FuncData, (∀ (s : Shared) (u : Value), BindsTo s fd ⟨[u], []⟩ [("script", u)]) ∧ ∀ base : Heap, K.In base → base.Ns mainGlobals mg → FnP gRep P w K mg base (L2.CX P w) 9 fa fd ["script"] (sp_law m_law K) := by
  have e := hfa.symm.trans (PySem.W.mg_of X G a33)
  cases e
  have F0 := fun_mk (st := s_is_whole_number) l0 c0 k0
  have F1 := fun_mk (st := s_is_word) l1 c1 k1
  have F2 := fun_mk (st := s__law_tape) l2 c2 k2
  have F3 := fun_mk (st := s__law_pick) l3 c3 k3
  have F4 := fun_mk (st := s__law_with) l4 c4 k4
  have F5 := fun_mk (st := s__law_spots) l5 c5 k5
  have F6 := fun_mk (st := s__law_whole) l6 c6 k6
  have F7 := fun_mk (st := s__law_is_word) l7 c7 k7
  have F8 := fun_mk (st := s__law_no_books) l8 c8 k8
  have F9 := fun_mk (st := s_is_number) l9 c9 k9
  have F10 := fun_mk (st := s__law_word) l10 c10 k10
  have F11 := fun_mk (st := s__law_book) l11 c11 k11
  have F12 := fun_mk (st := s__law_odd) l12 c12 k12
  have F13 := fun_mk (st := s__law_path) l13 c13 k13
  have F14 := fun_mk (st := s__law_widths) l14 c14 k14
  have F15 := fun_mk (st := s__law_lines) l15 c15 k15
  have F16 := fun_mk (st := s__law_merged) l16 c16 k16
  have F17 := fun_mk (st := s__law_row_word) l17 c17 k17
  have F18 := fun_mk (st := s_sort_fits) l18 c18 k18
  have F19 := fun_mk (st := s__are_widths) l19 c19 k19
  have F20 := fun_mk (st := s__is_slot) l20 c20 k20
  have F21 := fun_mk (st := s__law_row) l21 c21 k21
  have F22 := fun_mk (st := s__law_bent) l22 c22 k22
  have F23 := fun_mk (st := s__law_planted) l23 c23 k23
  have F24 := fun_mk (st := s__law_due) l24 c24 k24
  have F25 := fun_mk (st := s_starts_fit) l25 c25 k25
  have F26 := fun_mk (st := s__wrong_row) l26 c26 k26
  have F27 := fun_mk (st := s__law_right) l27 c27 k27
  have F28 := fun_mk (st := s_book_fault) l28 c28 k28
  have F29 := fun_mk (st := s_lets_book) l29 c29 k29
  have F30 := fun_mk (st := s_lets_pieces) l30 c30 k30
  have F31 := fun_mk (st := s__law_agrees) l31 c31 k31
  have F32 := fun_mk (st := s__law_refused) l32 c32 k32
  have F33 := fun_mk (st := s_law) l33 c33 k33
  have Fi_InvalidPaper := fun_mk (st := si_InvalidPaper) li_InvalidPaper ci_InvalidPaper ki_InvalidPaper
  have Fi_NotUsable := fun_mk (st := si_NotUsable) li_NotUsable ci_NotUsable ki_NotUsable
  let E : En K mg := { a_is_whole_number := f0, d_is_whole_number := _, F_is_whole_number := F0, g_is_whole_number := PySem.W.mg_of X G a0, b_is_whole_number := (F0.binds (ps := ["thing"]) fun _ _ _ _ _ _ us hl => match us, hl with | [_], _ => rfl), a_is_word := f1, d_is_word := _, F_is_word := F1, g_is_word := PySem.W.mg_of X G a1, b_is_word := (F1.binds (ps := ["thing"]) fun _ _ _ _ _ _ us hl => match us, hl with | [_], _ => rfl), a__law_tape := f2, d__law_tape := _, F__law_tape := F2, g__law_tape := PySem.W.mg_of X G a2, b__law_tape := (F2.binds (ps := ["script"]) fun _ _ _ _ _ _ us hl => match us, hl with | [_], _ => rfl), a__law_pick := f3, d__law_pick := _, F__law_pick := F3, g__law_pick := PySem.W.mg_of X G a3, b__law_pick := (F3.binds (ps := ["tape", "many"]) fun _ _ _ _ _ _ us hl => match us, hl with | [_, _], _ => rfl), a__law_with := f4, d__law_with := _, F__law_with := F4, g__law_with := PySem.W.mg_of X G a4, b__law_with := (F4.binds (ps := ["good", "k", "row"]) fun _ _ _ _ _ _ us hl => match us, hl with | [_, _, _], _ => rfl), a__law_spots := f5, d__law_spots := _, F__law_spots := F5, g__law_spots := PySem.W.mg_of X G a5, b__law_spots := (F5.binds (ps := ["row"]) fun _ _ _ _ _ _ us hl => match us, hl with | [_], _ => rfl), a__law_whole := f6, d__law_whole := _, F__law_whole := F6, g__law_whole := PySem.W.mg_of X G a6, b__law_whole := (F6.binds (ps := ["value"]) fun _ _ _ _ _ _ us hl => match us, hl with | [_], _ => rfl), a__law_is_word := f7, d__law_is_word := _, F__law_is_word := F7, g__law_is_word := PySem.W.mg_of X G a7, b__law_is_word := (F7.binds (ps := ["value"]) fun _ _ _ _ _ _ us hl => match us, hl with | [_], _ => rfl), a__law_no_books := f8, d__law_no_books := _, F__law_no_books := F8, g__law_no_books := PySem.W.mg_of X G a8, b__law_no_books := (F8.binds (ps := ["book"]) fun _ _ _ _ _ _ us hl => match us, hl with | [_], _ => rfl), a_is_number := f9, d_is_number := _, F_is_number := F9, g_is_number := PySem.W.mg_of X G a9, b_is_number := (F9.binds (ps := ["thing"]) fun _ _ _ _ _ _ us hl => match us, hl with | [_], _ => rfl), a__law_word := f10, d__law_word := _, F__law_word := F10, g__law_word := PySem.W.mg_of X G a10, b__law_word := (F10.binds (ps := ["tape"]) fun _ _ _ _ _ _ us hl => match us, hl with | [_], _ => rfl), a__law_book := f11, d__law_book := _, F__law_book := F11, g__law_book := PySem.W.mg_of X G a11, b__law_book := (F11.binds (ps := ["tape"]) fun _ _ _ _ _ _ us hl => match us, hl with | [_], _ => rfl), a__law_odd := f12, d__law_odd := _, F__law_odd := F12, g__law_odd := PySem.W.mg_of X G a12, b__law_odd := (F12.binds (ps := ["tape"]) fun _ _ _ _ _ _ us hl => match us, hl with | [_], _ => rfl), a__law_path := f13, d__law_path := _, F__law_path := F13, g__law_path := PySem.W.mg_of X G a13, b__law_path := (F13.binds (ps := ["tape", "thing"]) fun _ _ _ _ _ _ us hl => match us, hl with | [_, _], _ => rfl), a__law_widths := f14, d__law_widths := _, F__law_widths := F14, g__law_widths := PySem.W.mg_of X G a14, b__law_widths := (F14.binds (ps := ["tape", "good"]) fun _ _ _ _ _ _ us hl => match us, hl with | [_, _], _ => rfl), a__law_lines := f15, d__law_lines := _, F__law_lines := F15, g__law_lines := PySem.W.mg_of X G a15, b__law_lines := (F15.binds (ps := ["tape", "good", "k", "row", "j"]) fun _ _ _ _ _ _ us hl => match us, hl with | [_, _, _, _, _], _ => rfl), a__law_merged := f16, d__law_merged := _, F__law_merged := F16, g__law_merged := PySem.W.mg_of X G a16, b__law_merged := (F16.binds (ps := ["tape", "good", "first", "second"]) fun _ _ _ _ _ _ us hl => match us, hl with | [_, _, _, _], _ => rfl), a__law_row_word := f17, d__law_row_word := _, F__law_row_word := F17, g__law_row_word := PySem.W.mg_of X G a17, b__law_row_word := (F17.binds (ps := ["con", "widths", "row"]) fun _ _ _ _ _ _ us hl => match us, hl with | [_, _, _], _ => rfl), a_sort_fits := f18, d_sort_fits := _, F_sort_fits := F18, g_sort_fits := PySem.W.mg_of X G a18, b_sort_fits := (F18.binds (ps := ["size", "thing"]) fun _ _ _ _ _ _ us hl => match us, hl with | [_, _], _ => rfl), a__are_widths := f19, d__are_widths := _, F__are_widths := F19, g__are_widths := PySem.W.mg_of X G a19, b__are_widths := (F19.binds (ps := ["book", "widths"]) fun _ _ _ _ _ _ us hl => match us, hl with | [_, _], _ => rfl), a__is_slot := f20, d__is_slot := _, F__is_slot := F20, g__is_slot := PySem.W.mg_of X G a20, b__is_slot := (F20.binds (ps := ["kids", "thing"]) fun _ _ _ _ _ _ us hl => match us, hl with | [_, _], _ => rfl), a__law_row := f21, d__law_row := _, F__law_row := F21, g__law_row := PySem.W.mg_of X G a21, b__law_row := (F21.binds (ps := ["tape", "con", "widths"]) fun _ _ _ _ _ _ us hl => match us, hl with | [_, _, _], _ => rfl), a__law_bent := f22, d__law_bent := _, F__law_bent := F22, g__law_bent := PySem.W.mg_of X G a22, b__law_bent := (F22.binds (ps := ["tape", "thing"]) fun _ _ _ _ _ _ us hl => match us, hl with | [_, _], _ => rfl), a__law_planted := f23, d__law_planted := _, F__law_planted := F23, g__law_planted := PySem.W.mg_of X G a23, b__law_planted := (F23.binds (ps := ["tape", "good"]) fun _ _ _ _ _ _ us hl => match us, hl with | [_, _], _ => rfl), a__law_due := f24, d__law_due := _, F__law_due := F24, g__law_due := PySem.W.mg_of X G a24, b__law_due := (F24.binds (ps := ["book", "thing"]) fun _ _ _ _ _ _ us hl => match us, hl with | [_, _], _ => rfl), a_starts_fit := f25, d_starts_fit := _, F_starts_fit := F25, g_starts_fit := PySem.W.mg_of X G a25, b_starts_fit := (F25.binds (ps := ["size", "starts"]) fun _ _ _ _ _ _ us hl => match us, hl with | [_, _], _ => rfl), a__wrong_row := f26, d__wrong_row := _, F__wrong_row := F26, g__wrong_row := PySem.W.mg_of X G a26, b__wrong_row := (F26.binds (ps := ["kids", "width", "row"]) fun _ _ _ _ _ _ us hl => match us, hl with | [_, _, _], _ => rfl), a__law_right := f27, d__law_right := _, F__law_right := F27, g__law_right := PySem.W.mg_of X G a27, b__law_right := (F27.binds (ps := ["tape", "book"]) fun _ _ _ _ _ _ us hl => match us, hl with | [_, _], _ => rfl), a_book_fault := f28, d_book_fault := _, F_book_fault := F28, g_book_fault := PySem.W.mg_of X G a28, b_book_fault := (F28.binds (ps := ["thing"]) fun _ _ _ _ _ _ us hl => match us, hl with | [_], _ => rfl), a_lets_book := f29, d_lets_book := _, F_lets_book := F29, g_lets_book := PySem.W.mg_of X G a29, b_lets_book := (F29.binds (ps := ["thing"]) fun _ _ _ _ _ _ us hl => match us, hl with | [_], _ => rfl), a_lets_pieces := f30, d_lets_pieces := _, F_lets_pieces := F30, g_lets_pieces := PySem.W.mg_of X G a30, b_lets_pieces := (F30.binds (ps := ["book", "thing"]) fun _ _ _ _ _ _ us hl => match us, hl with | [_, _], _ => rfl), a__law_agrees := f31, d__law_agrees := _, F__law_agrees := F31, g__law_agrees := PySem.W.mg_of X G a31, b__law_agrees := (F31.binds (ps := ["book", "thing"]) fun _ _ _ _ _ _ us hl => match us, hl with | [_, _], _ => rfl), a__law_refused := f32, d__law_refused := _, F__law_refused := F32, g__law_refused := PySem.W.mg_of X G a32, b__law_refused := (F32.binds (ps := ["book", "thing", "named"]) fun _ _ _ _ _ _ us hl => match us, hl with | [_, _, _], _ => rfl), a_law := fa, d_law := _, F_law := F33, g_law := PySem.W.mg_of X G a33, b_law := (F33.binds (ps := ["script"]) fun _ _ _ _ _ _ us hl => match us, hl with | [_], _ => rfl), C_InvalidPaper := x_InvalidPaper, gC_InvalidPaper := PySem.W.mg_of X G g_InvalidPaper, C_NotUsable := x_NotUsable, gC_NotUsable := PySem.W.mg_of X G g_NotUsable, C_PaperError := x_PaperError, gC_PaperError := PySem.W.mg_of X G g_PaperError, C_TongueError := x_TongueError, gC_TongueError := PySem.W.mg_of X G g_TongueError, C_UseError := x_UseError, gC_UseError := PySem.W.mg_of X G g_UseError, i_InvalidPaper := i_InvalidPaper, di_InvalidPaper := _, Fi_InvalidPaper := Fi_InvalidPaper, bi_InvalidPaper := (Fi_InvalidPaper.binds (ps := Ni_InvalidPaper) fun _ _ _ _ _ _ us hl => match us, hl with | [_, _, _], _ => rfl), x_InvalidPaper := ⟨⟨_, _, _, _, _, _, _, _, _, _, _, _, _, _, _, xl_InvalidPaper, xr_InvalidPaper⟩, sa_InvalidPaper, ex_InvalidPaper, ty_InvalidPaper, kc_InvalidPaper⟩, xf_InvalidPaper := ⟨ga_InvalidPaper, gg_InvalidPaper, ex_InvalidPaper, hd_InvalidPaper⟩, xc_InvalidPaper := ⟨ga_InvalidPaper, gg_InvalidPaper, ex_InvalidPaper, hd_InvalidPaper, ca_InvalidPaper, sp0, tk0, mo_InvalidPaper⟩, iC_InvalidPaper := ic_InvalidPaper, tI_InvalidPaper := ti_InvalidPaper, no_InvalidPaper_word := no_InvalidPaper_word, no_InvalidPaper_at := no_InvalidPaper_at, e_InvalidPaper_InvalidPaper := exm_is hb_InvalidPaper hc_InvalidPaper ht_InvalidPaper e_InvalidPaper_InvalidPaper, e_InvalidPaper_NotUsable := exm_is hb_NotUsable hc_NotUsable ht_NotUsable e_InvalidPaper_NotUsable, k_InvalidPaper_PaperError := kit_is d_InvalidPaper_PaperError hc_PaperError ht_PaperError k_InvalidPaper_PaperError, k_InvalidPaper_TongueError := kit_is d_InvalidPaper_TongueError hc_TongueError ht_TongueError k_InvalidPaper_TongueError, k_InvalidPaper_UseError := kit_is d_InvalidPaper_UseError hc_UseError ht_UseError k_InvalidPaper_UseError, k_InvalidPaper_ValueError := kit_isT (by decide +kernel) k_InvalidPaper_ValueError, i_NotUsable := i_NotUsable, di_NotUsable := _, Fi_NotUsable := Fi_NotUsable, bi_NotUsable := (Fi_NotUsable.binds (ps := Ni_NotUsable) fun _ _ _ _ _ _ us hl => match us, hl with | [_, _, _], _ => rfl), x_NotUsable := ⟨⟨_, _, _, _, _, _, _, _, _, _, _, _, _, _, _, xl_NotUsable, xr_NotUsable⟩, sa_NotUsable, ex_NotUsable, ty_NotUsable, kc_NotUsable⟩, xf_NotUsable := ⟨ga_NotUsable, gg_NotUsable, ex_NotUsable, hd_NotUsable⟩, xc_NotUsable := ⟨ga_NotUsable, gg_NotUsable, ex_NotUsable, hd_NotUsable, ca_NotUsable, sp0, tk0, mo_NotUsable⟩, iC_NotUsable := ic_NotUsable, tI_NotUsable := ti_NotUsable, no_NotUsable_word := no_NotUsable_word, no_NotUsable_at := no_NotUsable_at, e_NotUsable_InvalidPaper := exm_is hb_InvalidPaper hc_InvalidPaper ht_InvalidPaper e_NotUsable_InvalidPaper, e_NotUsable_NotUsable := exm_is hb_NotUsable hc_NotUsable ht_NotUsable e_NotUsable_NotUsable, k_NotUsable_PaperError := kit_is d_NotUsable_PaperError hc_PaperError ht_PaperError k_NotUsable_PaperError, k_NotUsable_TongueError := kit_is d_NotUsable_TongueError hc_TongueError ht_TongueError k_NotUsable_TongueError, k_NotUsable_UseError := kit_is d_NotUsable_UseError hc_UseError ht_UseError k_NotUsable_UseError, k_NotUsable_ValueError := kit_isT (by decide +kernel) k_NotUsable_ValueError, n_ValueError := PySem.W.mg_none_of X G n_ValueError, n_all := PySem.W.mg_none_of X G n_all, n_bool := PySem.W.mg_none_of X G n_bool, n_enumerate := PySem.W.mg_none_of X G n_enumerate, n_int := PySem.W.mg_none_of X G n_int, n_isinstance := PySem.W.mg_none_of X G n_isinstance, n_len := PySem.W.mg_none_of X G n_len, n_list := PySem.W.mg_none_of X G n_list, n_max := PySem.W.mg_none_of X G n_max, n_ord := PySem.W.mg_none_of X G n_ord, n_range := PySem.W.mg_none_of X G n_range, n_repr := PySem.W.mg_none_of X G n_repr, n_set := PySem.W.mg_none_of X G n_set, n_str := PySem.W.mg_none_of X G n_str, n_sum := PySem.W.mg_none_of X G n_sum, n_tuple := PySem.W.mg_none_of X G n_tuple, t_PERCENT := t_PERCENT, c_PERCENT := PySem.W.mg_of X G v_PERCENT, t_QUOTE := t_QUOTE, c_QUOTE := PySem.W.mg_of X G v_QUOTE }
  exact ⟨_, fun s u => .of_eq (by first | rfl | with_unfolding_all rfl), fun base _ _ => p_law E⟩
end PM.K06
end
section
/-! PM11: reasoning about pure code: what holds behind it, construct by construct. -/
namespace PM
open PySem PySem.Spec PyProof.Rows L2 L2H DL
section
variable {sl sl' : Sl} {c c' : Cf} {Q : Vv → Cf → Prop} {QA : List Vv → Cf → Prop} {QB : Bool → Cf → Prop} {QO : Option Int → Cf → Prop} {QI : Itv → Cf → Prop} {QG : Sl → Cf → Prop} {QS : Fl → Sl → Cf → Prop} {X : Exc → Cf → Prop} {XS : Exc → Sl → Cf → Prop}
/-- behind an operator by values -/
def Opt {α : Type} (o : Option α) (Q : α → Prop) : Prop := match o with
  | some a => Q a
  | none => False
@[simp] theorem opt_s {α : Type} {a : α} {Q : α → Prop} : Opt (some a) Q ↔ Q a := Iff.rfl
@[simp] theorem opt_n {α : Type} {Q : α → Prop} : Opt (none : Option α) Q ↔ False := Iff.rfl
theorem opt_iff {α : Type} {o : Option α} {Q : α → Prop} : Opt o Q ↔ ∃ a, o = some a ∧ Q a := by cases o <;> simp
@[simp] theorem opt_if {α : Type} {b : Prop} [Decidable b] {x y : Option α} {Q : α → Prop} : Opt (if b then x else y) Q ↔ if b then Opt x Q else Opt y Q := by
  by_cases h : b <;> simp [h]
@[simp] theorem opt_map {α β : Type} {o : Option α} {f : α → β} {Q : β → Prop} : Opt (o.map f) Q ↔ Opt o fun a => Q (f a) := by cases o <;> rfl
@[simp] theorem opt_bind {α β : Type} {o : Option α} {f : α → Option β} {Q : β → Prop} : Opt (o.bind f) Q ↔ Opt o fun a => Opt (f a) Q := by cases o <;> rfl
theorem post_iff {α : Type} {r : RsC α} {k k' : α → Cf → Prop} {x : Exc → Cf → Prop} (h : ∀ a c, k a c ↔ k' a c) : Post r k x ↔ Post r k' x := by
  cases r with
  | ok p => exact h _ _
  | ex p => exact Iff.rfl
  | bad => exact Iff.rfl
theorem post_ok {α : Type} {a : α} {k : α → Cf → Prop} {x : Exc → Cf → Prop} : Post (.ok (a, c)) k x ↔ k a c := Iff.rfl
theorem post_opt' {α : Type} {o : Option (α × Cf)} {k : α → Cf → Prop} {x : Exc → Cf → Prop} : Post (Rs.opt o) k x ↔ Opt o fun p => k p.1 p.2 := by cases o <;> exact Iff.rfl
@[simp ↓] theorem q_V {i : Nat} : Post (mV i sl c) Q X ↔ Opt (sl[i]?) fun o => Opt o fun v => Q v c := by
  unfold mV
  cases sl[i]? with
  | none => exact Iff.rfl
  | some o => cases o <;> exact Iff.rfl
@[simp ↓] theorem q_C {d : PyData} : Post (mC d sl c) Q X ↔ Q (.da d) c := Iff.rfl
@[simp ↓] theorem q_Op {p : Vv → Vv → Cf → Option (Vv × Cf)} {a b : ME} : Post (mOp p a b sl c) Q X ↔ Post (a sl c) (fun v c1 => Post (b sl c1) (fun w c2 => Opt (p v w c2) fun r => Q r.1 r.2) X) X := by
  unfold mOp
  rw [post_bind]
  refine post_iff fun v c1 => ?_
  rw [post_bind]
  simp only [post_opt']
@[simp ↓] theorem q_Un {p : Vv → Option Vv} {a : ME} : Post (mUn p a sl c) Q X ↔ Post (a sl c) (fun v c1 => Opt (p v) fun u => Q u c1) X := by
  unfold mUn
  rw [post_bind]
  simp only [post_opt', opt_map]
@[simp ↓] theorem q_A0 : Post (mA0 sl c) QA X ↔ QA [] c := Iff.rfl
@[simp ↓] theorem q_A1 {a : ME} {r : MA} : Post (mA1 a r sl c) QA X ↔ Post (a sl c) (fun v c1 => Post (r sl c1) (fun vs c2 => QA (v :: vs) c2) X) X := by
  unfold mA1
  rw [post_bind]
  simp only [post_bind]
  exact Iff.rfl
@[simp ↓] theorem q_CB {p : List Vv → Cf → Option (Vv × Cf)} {a : MA} : Post (mCB p a sl c) Q X ↔ Post (a sl c) (fun vs c1 => Opt (p vs c1) fun r => Q r.1 r.2) X := by
  unfold mCB
  rw [post_bind]
  simp only [post_opt']
@[simp ↓] theorem q_BM {q : Vv → Cf → Bool} {p : Vv → List Vv → Cf → Option (Vv × Cf)} {o : ME} {a : MA} : Post (mBM q p o a sl c) Q X ↔ Post (o sl c) (fun v c1 => q v c1 = true ∧ Post (a sl c1) (fun vs c2 => Opt (p v vs c2) fun r => Q r.1 r.2) X) X := by
  unfold mBM
  rw [post_bind]
  refine post_iff fun v c1 => ?_
  by_cases hb : q v c1 = true
  · rw [if_pos hb, post_bind]
    simp only [post_opt', hb, true_and]
  · rw [if_neg hb]
    exact ⟨fun z => z.elim, fun z => absurd z.1 hb⟩
def boolOf : Vv → Option Bool
  | .da (.bool b) => some b
  | _ => none
@[simp ↓] theorem q_Te {a : ME} : Post (mTe a sl c) QB X ↔ Post (a sl c) (fun v c1 => Opt (boolOf v) fun b => QB b c1) X := by
  unfold mTe
  rw [post_bind]
  refine post_iff fun v c1 => ?_
  cases v with
  | da d => cases d <;> exact Iff.rfl
  | _ => exact Iff.rfl
@[simp ↓] theorem q_Tru {p : Vv → Cf → Option Bool} {a : ME} : Post (mTru p a sl c) QB X ↔ Post (a sl c) (fun v c1 => Opt (p v c1) fun b => QB b c1) X := by
  unfold mTru
  rw [post_bind]
  simp only [post_opt', opt_map]
theorem post_if {α : Type} {b : Bool} {x y : RsC α} {k : α → Cf → Prop} {z : Exc → Cf → Prop} : Post (if b = true then x else y) k z ↔ if b = true then Post x k z else Post y k z := by cases b <;> simp
@[simp ↓] theorem q_And {a b : MT} : Post (mAnd a b sl c) QB X ↔ Post (a sl c) (fun t c1 => if t = true then Post (b sl c1) QB X else QB false c1) X := by
  unfold mAnd
  rw [post_bind]
  simp only [post_if, post_ok]
@[simp ↓] theorem q_Or {a b : MT} : Post (mOr a b sl c) QB X ↔ Post (a sl c) (fun t c1 => if t = true then QB true c1 else Post (b sl c1) QB X) X := by
  unfold mOr
  rw [post_bind]
  simp only [post_if, post_ok]
@[simp ↓] theorem q_Not {a : MT} : Post (mNot a sl c) QB X ↔ Post (a sl c) (fun t c1 => QB (!t) c1) X := by
  unfold mNot
  rw [post_bind]
  exact Iff.rfl
@[simp ↓] theorem q_Yes : Post (mYes sl c) QB X ↔ QB true c := Iff.rfl
@[simp ↓] theorem q_AndV {a b : ME} : Post (mAndV a b sl c) Q X ↔ Post (a sl c) (fun v c1 => Opt (boolOf v) fun t => if t = true then Post (b sl c1) Q X else Q (.da (.bool false)) c1) X := by
  unfold mAndV
  rw [post_bind]
  refine post_iff fun v c1 => ?_
  cases v with
  | da d =>
    cases d with
    | bool t => cases t <;> simp [boolOf, post_ok]
    | _ => exact Iff.rfl
  | _ => exact Iff.rfl
@[simp ↓] theorem q_OrV {a b : ME} : Post (mOrV a b sl c) Q X ↔ Post (a sl c) (fun v c1 => Opt (boolOf v) fun t => if t = true then Q (.da (.bool true)) c1 else Post (b sl c1) Q X) X := by
  unfold mOrV
  rw [post_bind]
  refine post_iff fun v c1 => ?_
  cases v with
  | da d =>
    cases d with
    | bool t => cases t <;> simp [boolOf, post_ok]
    | _ => exact Iff.rfl
  | _ => exact Iff.rfl
@[simp ↓] theorem q_NotV {a : ME} : Post (mNotV a sl c) Q X ↔ Post (a sl c) (fun v c1 => Opt (boolOf v) fun t => Q (.da (.bool (!t))) c1) X := by
  unfold mNotV
  rw [post_bind]
  refine post_iff fun v c1 => ?_
  cases v with
  | da d => cases d <;> exact Iff.rfl
  | _ => exact Iff.rfl
@[simp ↓] theorem q_If {t : MT} {a b : ME} : Post (mIf t a b sl c) Q X ↔ Post (t sl c) (fun x c1 => if x = true then Post (a sl c1) Q X else Post (b sl c1) Q X) X := by
  unfold mIf
  rw [post_bind]
  simp only [post_if]
@[simp ↓] theorem q_Isi {f : PyData → Bool} {a : ME} : Post (mIsi f a sl c) Q X ↔ Post (a sl c) (fun v c1 => Opt (kindOf v) fun d => Q (.da (.bool (f d))) c1) X := by
  unfold mIsi
  rw [post_bind]
  simp only [post_opt', opt_map]
@[simp ↓] theorem q_Tup {a : MA} : Post (mTup a sl c) Q X ↔ Post (a sl c) (fun vs c1 => vs.length ≤ 100000 ∧ Opt (fzL (fz fzN) vs c1) fun r => Q (.da (.tuple r.1)) r.2) X := by
  unfold mTup
  rw [post_bind]
  refine post_iff fun vs c1 => ?_
  by_cases hz : vs.length ≤ 100000
  · rw [if_pos hz]
    simp only [post_opt', opt_map, hz, true_and]
  · rw [if_neg hz]
    exact ⟨fun z => z.elim, fun z => absurd z.1 hz⟩
@[simp ↓] theorem q_Lst {a : MA} : Post (mLst a sl c) Q X ↔ Post (a sl c) (fun vs c1 => vs.length ≤ 100000 ∧ Q (.ref c1.st.length) (c1.app vs)) X := by
  unfold mLst
  rw [post_bind]
  refine post_iff fun vs c1 => ?_
  by_cases hz : vs.length ≤ 100000
  · rw [if_pos hz]
    simp only [post_ok, hz, true_and]
  · rw [if_neg hz]
    exact ⟨fun z => z.elim, fun z => absurd z.1 hz⟩
@[simp ↓] theorem q_NoP : Post (mNoP sl c) QO X ↔ QO none c := Iff.rfl
def intOf : Vv → Option Int
  | .da (.int b) => some b
  | _ => none
@[simp ↓] theorem q_Part {a : ME} : Post (mPart a sl c) QO X ↔ Post (a sl c) (fun v c1 => Opt (intOf v) fun i => QO (some i) c1) X := by
  unfold mPart
  rw [post_bind]
  refine post_iff fun v c1 => ?_
  cases v with
  | da d => cases d <;> exact Iff.rfl
  | _ => exact Iff.rfl
@[simp ↓] theorem q_Sl {p : Vv → Option Int → Option Int → Cf → Option (Vv × Cf)} {a : ME} {l h : MO} : Post (mSl p a l h sl c) Q X ↔ Post (a sl c) (fun v c1 => Post (l sl c1) (fun lo c2 => Post (h sl c2) (fun hi c3 => Opt (p v lo hi c3) fun r => Q r.1 r.2) X) X) X := by
  unfold mSl
  simp only [post_bind, post_opt']
@[simp ↓] theorem q_Chain {p p' : Vv → Vv → Cf → Option (Vv × Cf)} {a b d : ME} : Post (mChain p p' a b d sl c) Q X ↔ Post (a sl c) (fun v c1 => Post (b sl c1) (fun w c2 => Opt (p v w c2) fun r => Opt (boolOf r.1) fun t => if t = true then Post (d sl r.2) (fun u c4 => Opt (p' w u c4) fun r' => Q r'.1 r'.2) X else Q (.da (.bool false)) r.2) X) X := by
  unfold mChain
  simp only [post_bind]
  refine post_iff fun v c1 => post_iff fun w c2 => ?_
  show Post (match p v w c2 with | some (Vv.da (.bool true), c2) => (d sl c2).bind fun r3 => Rs.opt (p' w r3.1 r3.2) | some (.da (.bool false), c2) => Rs.ok (.da (.bool false), c2) | _ => Rs.bad) Q X ↔ _
  cases p v w c2 with
  | none => exact Iff.rfl
  | some r =>
    obtain ⟨u, c3⟩ := r
    cases u with
    | da y =>
      cases y with
      | bool t => cases t <;> simp [boolOf, post_bind, post_opt', post_ok]
      | _ => exact Iff.rfl
    | _ => exact Iff.rfl
end
end PM
end
section
/-! PM12: reasoning about pure code: statements, walks, comprehensions, calls. -/
namespace PM
open PySem PySem.Spec PyProof.Rows L2 L2H DL
section
variable {sl sl' : Sl} {c c' : Cf} {Q : Vv → Cf → Prop} {QA : List Vv → Cf → Prop} {QB : Bool → Cf → Prop} {QI : Itv → Cf → Prop} {QG : Sl → Cf → Prop} {QS : Fl → Sl → Cf → Prop} {X : Exc → Cf → Prop} {XS : Exc → Sl → Cf → Prop}
/-- what a call hands back -/
def Res (r : Rs Exc PyData) (k : PyData → Prop) (x : Exc → Prop) : Prop := match r with
  | .ok d => k d
  | .ex e => x e
  | .bad => False
def ResT (r : Rs (Exc × Tp) (PyData × Tp)) (k : PyData → Tp → Prop) (x : Exc → Tp → Prop) : Prop := match r with
  | .ok (d, t) => k d t
  | .ex (e, t) => x e t
  | .bad => False
@[simp] theorem res_ok {d : PyData} {k : PyData → Prop} {x : Exc → Prop} : Res (.ok d) k x ↔ k d := Iff.rfl
@[simp] theorem res_ex {d : Exc} {k : PyData → Prop} {x : Exc → Prop} : Res (.ex d) k x ↔ x d := Iff.rfl
theorem Res.imp {r : Rs Exc PyData} {k k' : PyData → Prop} {x x' : Exc → Prop} (h : Res r k x) (hk : ∀ d, k d → k' d) (hx : ∀ e, x e → x' e) : Res r k' x' := by
  cases r with
  | ok d => exact hk _ h
  | ex d => exact hx _ h
  | bad => exact h
theorem ResT.imp {r : Rs (Exc × Tp) (PyData × Tp)} {k k' : PyData → Tp → Prop} {x x' : Exc → Tp → Prop} (h : ResT r k x) (hk : ∀ d t, k d t → k' d t) (hx : ∀ e t, x e t → x' e t) : ResT r k' x' := by
  cases r with
  | ok d => exact hk _ _ h
  | ex d => exact hx _ _ h
  | bad => exact h
@[simp ↓] theorem q_CallQ {f : List PyData → Rs Exc PyData} {dds : List PyData} {a : MA} : Post (mCallQ f dds a sl c) Q X ↔ Post (a sl c) (fun vs c1 => Opt (fzL (fz fzN) vs c1) fun r => Res (f (r.1 ++ dds)) (fun d => Q (.da d) r.2) fun e => X e r.2) X := by
  unfold mCallQ
  rw [post_bind]
  refine post_iff fun vs c1 => ?_
  show Post (match fzL (fz fzN) vs c1 with | some (ds, c2) => (match f (ds ++ dds) with | .ok d => Rs.ok (Vv.da d, c2) | .ex e => .ex (e, c2) | .bad => .bad) | none => .bad) Q X ↔ _
  cases fzL (fz fzN) vs c1 with
  | none => exact Iff.rfl
  | some r =>
    obtain ⟨ds, c2⟩ := r
    show Post (match f (ds ++ dds) with | .ok d => Rs.ok (Vv.da d, c2) | .ex e => .ex (e, c2) | .bad => .bad) Q X ↔ Res (f (ds ++ dds)) _ _
    cases f (ds ++ dds) <;> exact Iff.rfl
@[simp ↓] theorem q_CallT {f : List PyData → Tp → Rs (Exc × Tp) (PyData × Tp)} {dds : List PyData} {a : MA} : Post (mCallT f dds a sl c) Q X ↔ Post (a sl c) (fun vs c1 => ∃ us, vs = .tape :: us ∧ Opt (fzL (fz fzN) us c1) fun r => ResT (f (r.1 ++ dds) r.2.tp) (fun d t => Q (.da d) { r.2 with tp := t }) fun e t => X e { r.2 with tp := t }) X := by
  unfold mCallT
  rw [post_bind]
  refine post_iff fun vs c1 => ?_
  cases vs with
  | nil => exact ⟨fun h => h.elim, fun ⟨_, h, _⟩ => by cases h⟩
  | cons v us =>
    cases v with
    | tape =>
      have e : ∀ P : Prop, (∃ us', Vv.tape :: us = Vv.tape :: us' ∧ P) ↔ P := fun P => ⟨fun ⟨_, _, h⟩ => h, fun h => ⟨us, rfl, h⟩⟩
      have e2 : ∀ P : List Vv → Prop, (∃ us', Vv.tape :: us = Vv.tape :: us' ∧ P us') ↔ P us := fun P => ⟨fun ⟨_, h1, h⟩ => by cases h1; exact h, fun h => ⟨us, rfl, h⟩⟩
      rw [e2]
      show Post (match fzL (fz fzN) us c1 with | some (ds, c2) => (match f (ds ++ dds) c2.tp with | .ok (d, tp) => Rs.ok (Vv.da d, { c2 with tp := tp }) | .ex (e, tp) => .ex (e, { c2 with tp := tp }) | .bad => .bad) | none => .bad) Q X ↔ _
      cases fzL (fz fzN) us c1 with
      | none => exact Iff.rfl
      | some r =>
        obtain ⟨ds, c2⟩ := r
        show Post (match f (ds ++ dds) c2.tp with | .ok (d, tp) => Rs.ok (Vv.da d, { c2 with tp := tp }) | .ex (e, tp) => .ex (e, { c2 with tp := tp }) | .bad => .bad) Q X ↔ ResT (f (ds ++ dds) c2.tp) _ _
        cases f (ds ++ dds) c2.tp <;> exact Iff.rfl
    | _ => exact ⟨fun h => h.elim, fun ⟨_, h, _⟩ => by cases h⟩
/-! ### statements -/
def Then (n : MS) (QS : Fl → Sl → Cf → Prop) (XS : Exc → Sl → Cf → Prop) : Fl → Sl → Cf → Prop
  | .nx, s, c => PostS (n s c) QS XS
  | f, s, c => QS f s c
@[simp ↓] theorem then_nx {n : MS} : Then n QS XS .nx sl c ↔ PostS (n sl c) QS XS := Iff.rfl
@[simp ↓] theorem then_ret {n : MS} {v : Vv} : Then n QS XS (.ret v) sl c ↔ QS (.ret v) sl c := Iff.rfl
@[simp ↓] theorem then_bk {n : MS} : Then n QS XS .bk sl c ↔ QS .bk sl c := Iff.rfl
@[simp ↓] theorem then_ct {n : MS} : Then n QS XS .ct sl c ↔ QS .ct sl c := Iff.rfl
@[simp ↓] theorem q_Nx : PostS (mNx sl c) QS XS ↔ QS .nx sl c := Iff.rfl
@[simp ↓] theorem q_Bk : PostS (mBk sl c) QS XS ↔ QS .bk sl c := Iff.rfl
@[simp ↓] theorem q_Ct : PostS (mCt sl c) QS XS ↔ QS .ct sl c := Iff.rfl
@[simp ↓] theorem q_RetN : PostS (mRetN sl c) QS XS ↔ QS (.ret (.da .none)) sl c := Iff.rfl
@[simp ↓] theorem q_Seq {m n : MS} : PostS (mSeq m n sl c) QS XS ↔ PostS (m sl c) (Then n QS XS) XS := by
  show PostS (bindS (m sl c) n) QS XS ↔ _
  cases m sl c with
  | ok p => obtain ⟨f, s, c1⟩ := p; cases f <;> exact Iff.rfl
  | ex p => exact Iff.rfl
  | bad => exact Iff.rfl
@[simp ↓] theorem q_Ret {m : ME} : PostS (mRet m sl c) QS XS ↔ Post (m sl c) (fun v c1 => QS (.ret v) sl c1) (fun x c1 => XS x sl c1) := by
  show PostS (bindE (m sl c) sl _) QS XS ↔ _
  rw [postS_bindE]
  exact Iff.rfl
@[simp ↓] theorem q_Drop {m : ME} : PostS (mDrop m sl c) QS XS ↔ Post (m sl c) (fun _ c1 => QS .nx sl c1) (fun x c1 => XS x sl c1) := by
  show PostS (bindE (m sl c) sl _) QS XS ↔ _
  rw [postS_bindE]
  exact Iff.rfl
@[simp ↓] theorem q_Set {i : Nat} {m : ME} : PostS (mSet i m sl c) QS XS ↔ Post (m sl c) (fun v c1 => QS .nx (sl.set i (some v)) c1) (fun x c1 => XS x sl c1) := by
  show PostS (bindE (m sl c) sl _) QS XS ↔ _
  rw [postS_bindE]
  exact Iff.rfl
@[simp ↓] theorem q_IfS {t : MT} {m n : MS} : PostS (mIfS t m n sl c) QS XS ↔ Post (t sl c) (fun b c1 => if b = true then PostS (m sl c1) QS XS else PostS (n sl c1) QS XS) (fun x c1 => XS x sl c1) := by
  show PostS (bindE (t sl c) sl _) QS XS ↔ _
  rw [postS_bindE]
  exact post_iff fun b c1 => by cases b <;> exact Iff.rfl
@[simp ↓] theorem q_Asg {m : ME} {mg : MG} : PostS (mAsg m mg sl c) QS XS ↔ Post (m sl c) (fun v c1 => Post (mg v sl c1) (fun s c2 => QS .nx s c2) (fun x c2 => XS x sl c2)) (fun x c1 => XS x sl c1) := by
  show PostS (bindE (m sl c) sl _) QS XS ↔ _
  rw [postS_bindE]
  refine post_iff fun v c1 => ?_
  rw [postS_bindE]
  exact Iff.rfl
@[simp ↓] theorem q_mgN {i : Nat} {v : Vv} : Post (mgN i v sl c) QG X ↔ QG (sl.set i (some v)) c := Iff.rfl
@[simp ↓] theorem q_mg0 : Post (mg0 [] sl c) QG X ↔ QG sl c := Iff.rfl
@[simp ↓] theorem q_mg1 {mg : MG} {mr : List Vv → Sl → Cf → RsC Sl} {v : Vv} {r : List Vv} : Post (mg1 mg mr (v :: r) sl c) QG X ↔ Post (mg v sl c) (fun s c1 => Post (mr r s c1) QG X) X := by
  show Post ((mg v sl c).bind fun q => mr r q.1 q.2) QG X ↔ _
  rw [post_bind]
@[simp ↓] theorem q_mgT {n : Nat} {mr : List Vv → Sl → Cf → RsC Sl} {ds : List PyData} : Post (mgT n mr (.da (.tuple ds)) sl c) QG X ↔ ds.length = n ∧ Post (mr (ds.map .da) sl c) QG X := by
  show Post (if ds.length = n then mr (ds.map .da) sl c else .bad) QG X ↔ _
  by_cases h : ds.length = n
  · rw [if_pos h]; exact ⟨fun z => ⟨h, z⟩, fun z => z.2⟩
  · rw [if_neg h]; exact ⟨fun z => z.elim, fun z => absurd z.1 h⟩
@[simp ↓] theorem q_Raise {cn : Str} {n : Nat} {a : MA} : PostS (mRaise cn n a sl c) QS XS ↔ Post (a sl c) (fun vs c1 => Opt (fzL (fz fzN) vs c1) fun r => r.1.length = n ∧ XS ⟨cn, r.1.reverse⟩ sl r.2) (fun x c1 => XS x sl c1) := by
  show PostS (bindE (a sl c) sl _) QS XS ↔ _
  rw [postS_bindE]
  refine post_iff fun vs c1 => ?_
  cases fzL (fz fzN) vs c1 with
  | none => exact Iff.rfl
  | some r =>
    obtain ⟨ds, c2⟩ := r
    show PostS (if ds.length = n then .ex (⟨cn, ds.reverse⟩, sl, c2) else .bad) QS XS ↔ ds.length = n ∧ _
    by_cases h : ds.length = n
    · rw [if_pos h]; exact ⟨fun z => ⟨h, z⟩, fun z => z.2⟩
    · rw [if_neg h]; exact ⟨fun z => z.elim, fun z => absurd z.1 h⟩
/-! ### walks -/
/-- behind a turn -/
def Turn1 (I : Sl → Cf → Prop) (QS : Fl → Sl → Cf → Prop) : Fl → Sl → Cf → Prop
  | .nx, s, c => I s c
  | .ct, s, c => I s c
  | .bk, s, c => QS .nx s c
  | .ret v, s, c => QS (.ret v) s c
@[simp] theorem turn1_nx {I : Sl → Cf → Prop} : Turn1 I QS .nx sl c ↔ I sl c := Iff.rfl
@[simp] theorem turn1_ct {I : Sl → Cf → Prop} : Turn1 I QS .ct sl c ↔ I sl c := Iff.rfl
@[simp] theorem turn1_bk {I : Sl → Cf → Prop} : Turn1 I QS .bk sl c ↔ QS .nx sl c := Iff.rfl
@[simp] theorem turn1_ret {I : Sl → Cf → Prop} {v : Vv} : Turn1 I QS (.ret v) sl c ↔ QS (.ret v) sl c := Iff.rfl
theorem turnS_post {r : RsS} {f : Sl → Cf → RsS} : PostS (turnS r f) QS XS ↔ PostS r (Turn1 (fun s c => PostS (f s c) QS XS) QS) XS := by
  cases r with
  | ok p => obtain ⟨fl, s, c1⟩ := p; cases fl <;> exact Iff.rfl
  | ex p => exact Iff.rfl
  | bad => exact Iff.rfl
theorem forL_inv {mg : MG} {mb : MS} {vs : List Vv} (I : List Vv → Sl → Cf → Prop) (h0 : I [] sl c)
    (hs : ∀ pre v post s c, vs = pre ++ v :: post → I pre s c → Post (mg v s c) (fun s1 c1 => PostS (mb s1 c1) (Turn1 (I (pre ++ [v])) QS) XS) (fun x c1 => XS x s c1))
    (hd : ∀ s c, I vs s c → QS .nx s c) : PostS (forL mg mb vs sl c) QS XS := by
  have go : ∀ (post pre : List Vv) (s : Sl) (c : Cf), vs = pre ++ post → I pre s c → PostS (forL mg mb post s c) QS XS := by
    intro post
    induction post with
    | nil =>
      intro pre s c e h
      rw [List.append_nil] at e
      exact hd s c (e ▸ h)
    | cons v post ih =>
      intro pre s c e h
      show PostS (bindE (mg v s c) s fun sl1 c1 => turnS (mb sl1 c1) fun sl2 c2 => forL mg mb post sl2 c2) QS XS
      rw [postS_bindE]
      refine (hs pre v post s c e h).imp (fun s1 c1 h1 => ?_) fun _ _ z => z
      rw [turnS_post]
      have nxt : ∀ s2 c2, I (pre ++ [v]) s2 c2 → PostS (forL mg mb post s2 c2) QS XS := fun s2 c2 h2 => ih (pre ++ [v]) s2 c2 (by rw [e, List.append_assoc]; rfl) h2
      refine h1.imp (fun f s2 c2 h2 => ?_) fun _ _ _ z => z
      cases f with
      | nx => exact nxt s2 c2 h2
      | ct => exact nxt s2 c2 h2
      | bk => exact h2
      | ret v => exact h2
  exact go vs [] sl c rfl h0
theorem q_For {mi : MI} {mg : MG} {mb : MS} (h : Post (mi sl c) (fun g c1 => ∃ vs, g = captured vs ∧ PostS (forL mg mb vs sl c1) QS XS) (fun x c1 => XS x sl c1)) : PostS (mFor mi mg mb sl c) QS XS := by
  show PostS (bindE (mi sl c) sl fun g c1 => loopF g.get mg mb g.n 0 sl c1) QS XS
  rw [postS_bindE]
  refine h.imp (fun g c1 h1 => ?_) fun _ _ z => z
  obtain ⟨vs, rfl, h1⟩ := h1
  rw [show loopF (captured vs).get mg mb (captured vs).n 0 sl c1 = forL mg mb vs sl c1 from loopF_captured vs 0 sl c1 rfl]
  exact h1
/-- a walk over a list of the store that stays as it is while it is walked -/
theorem q_ForR {mi : MI} {mg : MG} {mb : MS} (h : Post (mi sl c) (fun g c1 => ∃ w l, g = ⟨l.length, fun i c => (lsOf c w).bind fun l => l[i]?⟩ ∧ ∃ I : List Vv → Sl → Cf → Prop, (∀ pre s c, I pre s c → lsOf c w = some l) ∧ I [] sl c1 ∧
      (∀ pre v post s c, l = pre ++ v :: post → I pre s c → Post (mg v s c) (fun s1 c1 => PostS (mb s1 c1) (Turn1 (I (pre ++ [v])) QS) XS) (fun x c1 => XS x s c1)) ∧ ∀ s c, I l s c → QS .nx s c) (fun x c1 => XS x sl c1)) : PostS (mFor mi mg mb sl c) QS XS := by
  show PostS (bindE (mi sl c) sl fun g c1 => loopF g.get mg mb g.n 0 sl c1) QS XS
  rw [postS_bindE]
  refine h.imp (fun g c1 h1 => ?_) fun _ _ z => z
  obtain ⟨w, l, rfl, I, hl, h0, hs, hd⟩ := h1
  have go : ∀ (post pre : List Vv) (s : Sl) (c : Cf), l = pre ++ post → I pre s c → PostS (loopF (fun i c => (lsOf c w).bind fun l => l[i]?) mg mb post.length pre.length s c) QS XS := by
    intro post
    induction post with
    | nil =>
      intro pre s c e h
      rw [List.append_nil] at e
      have hn : ((lsOf c w).bind fun l => l[pre.length]?) = none := by
        rw [hl pre s c h, Option.bind_some, e]
        exact List.getElem?_eq_none (Nat.le_refl _)
      simp only [List.length_nil, loopF, hn]
      exact hd s c (e ▸ h)
    | cons v post ih =>
      intro pre s c e h
      have hn : ((lsOf c w).bind fun l => l[pre.length]?) = some v := by
        rw [hl pre s c h, Option.bind_some, e, List.getElem?_append_right (Nat.le_refl _), Nat.sub_self]
        rfl
      simp only [List.length_cons, loopF, hn]
      rw [postS_bindE]
      refine (hs pre v post s c e h).imp (fun s1 c1 h1 => ?_) fun _ _ z => z
      rw [turnS_post]
      have nxt : ∀ s2 c2, I (pre ++ [v]) s2 c2 → PostS (loopF (fun i c => (lsOf c w).bind fun l => l[i]?) mg mb post.length (pre.length + 1) s2 c2) QS XS := fun s2 c2 h2 => by
        have := ih (pre ++ [v]) s2 c2 (by rw [e, List.append_assoc]; rfl) h2
        rw [List.length_append] at this
        exact this
      refine h1.imp (fun f s2 c2 h2 => ?_) fun _ _ _ z => z
      cases f with
      | nx => exact nxt s2 c2 h2
      | ct => exact nxt s2 c2 h2
      | bk => exact h2
      | ret v => exact h2
  exact go l [] sl c1 rfl h0
/-! ### what is walked -/
@[simp ↓] theorem q_It {m : ME} : Post (mIt m sl c) QI X ↔ Post (m sl c) (fun v c1 => Opt (pIt v c1) fun g => QI g c1) X := by
  unfold mIt
  rw [post_bind]
  simp only [post_opt', opt_map]
@[simp ↓] theorem q_Rg1 {m : ME} : Post (mRg1 m sl c) QI X ↔ Post (m sl c) (fun v c1 => Opt (intOf v) fun n => (-(2 ^ 62) ≤ n ∧ n < 2 ^ 62) ∧ QI (captured (rngV 0 n.toNat)) c1) X := by
  unfold mRg1
  rw [post_bind]
  refine post_iff fun v c1 => ?_
  cases v with
  | da d =>
    cases d with
    | int n =>
      show Post (if r62b n = true then .ok (captured (rngV 0 n.toNat), c1) else .bad) QI X ↔ (-(2 ^ 62) ≤ n ∧ n < 2 ^ 62) ∧ _
      rw [← r62b_iff]
      by_cases h : r62b n = true
      · rw [if_pos h]; exact ⟨fun z => ⟨h, z⟩, fun z => z.2⟩
      · rw [if_neg h]; exact ⟨fun z => z.elim, fun z => absurd z.1 h⟩
    | _ => exact Iff.rfl
  | _ => exact Iff.rfl
/-! ### comprehensions -/
theorem noX_post {α : Type} {r : RsC α} {k : α → Cf → Prop} : Post (noX r) k (fun _ _ => False) ↔ Post r k (fun _ _ => False) := by
  cases r <;> exact Iff.rfl
theorem noX_postX {α : Type} {r : RsC α} {k : α → Cf → Prop} {x : Exc → Cf → Prop} : Post (noX r) k x ↔ Post r k (fun _ _ => False) := by
  cases r <;> exact Iff.rfl
/-- one comprehension, by an invariant of what is made so far -/
theorem lcL_inv {mg : MG} {mt : MT} {me : ME} {ws : List Nat} {vs : List Vv} (I : List Vv → List Vv → Cf → Prop) (h0 : I [] [] c)
    (hs : ∀ pre v post acc c, vs = pre ++ v :: post → I pre acc c → Post (mg v (wipeS sl ws) c) (fun s1 c1 => Post (mt s1 c1) (fun b c2 => if b = true then Post (me s1 c2) (fun u c3 => I (pre ++ [v]) (acc ++ [u]) c3) (fun _ _ => False) else I (pre ++ [v]) acc c2) (fun _ _ => False)) (fun _ _ => False))
    (hd : ∀ acc c, I vs acc c → QA acc c) : Post (lcL mg mt me ws vs sl c) QA X := by
  have go : ∀ (post pre acc : List Vv) (c : Cf), vs = pre ++ post → I pre acc c → Post (lcL mg mt me ws post sl c) (fun us c' => QA (acc ++ us) c') X := by
    intro post
    induction post with
    | nil =>
      intro pre acc c e h
      rw [List.append_nil] at e
      show QA (acc ++ []) c
      rw [List.append_nil]
      exact hd acc c (e ▸ h)
    | cons v post ih =>
      intro pre acc c e h
      show Post ((noX (mg v (wipeS sl ws) c)).bind fun r => (noX (mt r.1 r.2)).bind fun b => if b.1 = true then (noX (me r.1 b.2)).bind fun u => (lcL mg mt me ws post sl u.2).bind fun us => .ok (u.1 :: us.1, us.2) else lcL mg mt me ws post sl b.2) _ X
      rw [post_bind, noX_postX]
      refine (hs pre v post acc c e h).imp (fun s1 c1 h1 => ?_) fun _ _ z => z
      rw [post_bind, noX_postX]
      refine h1.imp (fun b c2 h2 => ?_) fun _ _ z => z
      have e' : vs = (pre ++ [v]) ++ post := by rw [e, List.append_assoc]; rfl
      cases b with
      | false => exact ih (pre ++ [v]) acc c2 e' h2
      | true =>
        show Post ((noX (me s1 c2)).bind fun u => (lcL mg mt me ws post sl u.2).bind fun us => .ok (u.1 :: us.1, us.2)) _ X
        rw [post_bind, noX_postX]
        refine (show Post (me s1 c2) (fun u c3 => I (pre ++ [v]) (acc ++ [u]) c3) (fun _ _ => False) from h2).imp (fun u c3 h3 => ?_) fun _ _ z => z
        rw [post_bind]
        refine (ih (pre ++ [v]) (acc ++ [u]) c3 e' h3).imp (fun us c4 h4 => ?_) fun _ _ z => z
        rw [List.append_assoc] at h4
        exact h4
  exact (go vs [] [] c rfl h0).imp (fun us c' h => h) fun _ _ z => z
theorem q_Lc {mi : MI} {mg : MG} {mt : MT} {me : ME} {ws : List Nat} (h : Post (mi sl c) (fun g c1 => ∃ vs, g = captured vs ∧ vs.length ≤ 100000 ∧ Post (lcL mg mt me ws vs sl c1) (fun us c2 => Q (.ref c2.st.length) (c2.app us)) X) X) : Post (mLc mi mg mt me ws sl c) Q X := by
  unfold mLc
  rw [post_bind]
  refine h.imp (fun g c1 h1 => ?_) fun _ _ z => z
  obtain ⟨vs, rfl, hz, h1⟩ := h1
  show Post (if vs.length ≤ 100000 then (lcR (captured vs).get mg mt me ws vs.length 0 sl c1).bind fun r => .ok (.ref r.2.st.length, r.2.app r.1) else .bad) Q X
  rw [if_pos hz, lcR_captured vs 0 sl c1 rfl, post_bind]
  exact h1
/-! ### a def's answer -/
def endF (f : Fl) (c : Cf) : Option PyData := match f with
  | .nx => some .none
  | .ret v => (fz fzN v c).map Prod.fst
  | _ => none
theorem fQ_post {n k : Nat} {mb : MS} {ds : List PyData} {K : PyData → Prop} {XX : Exc → Prop} (hn : ds.length = n) (h : PostS (mb (slots k (ds.map .da)) cf0) (fun f _ c => Opt (endF f c) K) (fun x _ _ => XX x)) : Res (fQ n k mb ds) K XX := by
  unfold fQ
  rw [if_pos hn]
  cases e : mb (slots k (ds.map .da)) cf0 with
  | bad => rw [e] at h; exact h.elim
  | ex p => rw [e] at h; exact h
  | ok p =>
    obtain ⟨f, s, c⟩ := p
    rw [e] at h
    cases f with
    | nx => exact h
    | ret v =>
      have h : Opt ((fz fzN v c).map Prod.fst) K := h
      show Res (match fz fzN v c with | some (d, _) => .ok d | none => .bad) K XX
      cases e2 : fz fzN v c with
      | none => rw [e2] at h; exact h.elim
      | some p => rw [e2] at h; exact h
    | bk => exact h.elim
    | ct => exact h.elim
def endFT (f : Fl) (c : Cf) : Option (PyData × Tp) := match f with
  | .nx => some (.none, c.tp)
  | .ret v => (fz fzN v c).map fun p => (p.1, p.2.tp)
  | _ => none
theorem fT_post {n k : Nat} {mb : MS} {ds : List PyData} {tp : Tp} {K : PyData → Tp → Prop} {XX : Exc → Tp → Prop} (hn : ds.length + 1 = n) (h : PostS (mb (slots k (.tape :: ds.map .da)) ⟨[], tp, []⟩) (fun f _ c => Opt (endFT f c) fun p => K p.1 p.2) (fun x _ c => XX x c.tp)) : ResT (fT n k mb ds tp) K XX := by
  unfold fT
  rw [if_pos hn]
  cases e : mb (slots k (.tape :: ds.map .da)) ⟨[], tp, []⟩ with
  | bad => rw [e] at h; exact h.elim
  | ex p => rw [e] at h; exact h
  | ok p =>
    obtain ⟨f, s, c⟩ := p
    rw [e] at h
    cases f with
    | nx => exact h
    | ret v =>
      have h : Opt ((fz fzN v c).map fun p => (p.1, p.2.tp)) (fun p => K p.1 p.2) := h
      show ResT (match fz fzN v c with | some (d, c') => .ok (d, c'.tp) | none => .bad) K XX
      cases e2 : fz fzN v c with
      | none => rw [e2] at h; exact h.elim
      | some p => rw [e2] at h; exact h
    | bk => exact h.elim
    | ct => exact h.elim
theorem Res.eq {r : Rs Exc PyData} {d : PyData} (h : Res r (fun e => e = d) fun _ => False) : r = .ok d := by
  cases r with
  | ok e => rw [show e = d from h]
  | ex e => exact h.elim
  | bad => exact h.elim
end
end PM
end
section
/-! PM13: walks over whatever is walked, by what they yield. -/
namespace PM
open PySem DL
section
variable {sl sl' : Sl} {c c1 c' : Cf} {Q : Vv → Cf → Prop} {QS : Fl → Sl → Cf → Prop} {X : Exc → Cf → Prop} {XS : Exc → Sl → Cf → Prop}
/-- in the state c the walk g yields vs -/
def Walks (g : Itv) (vs : List Vv) (c : Cf) : Prop := g.n = vs.length ∧ ∀ i, g.get i c = vs[i]?
@[simp] theorem walks_cap {vs us : List Vv} : Walks (captured vs) us c ↔ vs = us := by
  refine ⟨fun h => ?_, fun h => by subst h; exact ⟨rfl, fun i => rfl⟩⟩
  exact List.ext_getElem? fun i => h.2 i
theorem walks_ref {w : Vv} {l : List Vv} (h : lsOf c w = some l) : Walks ⟨l.length, fun i c => (lsOf c w).bind fun l => l[i]?⟩ l c := ⟨rfl, fun i => by
  show ((lsOf c w).bind fun l => l[i]?) = l[i]?
  rw [h]
  rfl⟩
theorem q_ForW {mi : MI} {mg : MG} {mb : MS} (vs : List Vv) (I : List Vv → Sl → Cf → Prop)
    (h0 : Post (mi sl c) (fun g c1 => (∀ pre s c, I pre s c → Walks g vs c) ∧ I [] sl c1) (fun x c1 => XS x sl c1))
    (hs : ∀ pre v post s c, vs = pre ++ v :: post → I pre s c → Post (mg v s c) (fun s1 c1 => PostS (mb s1 c1) (Turn1 (I (pre ++ [v])) QS) XS) (fun x c1 => XS x s c1))
    (hd : ∀ s c, I vs s c → QS .nx s c) : PostS (mFor mi mg mb sl c) QS XS := by
  show PostS (bindE (mi sl c) sl fun g c1 => loopF g.get mg mb g.n 0 sl c1) QS XS
  rw [postS_bindE]
  refine h0.imp (fun g c1 h1 => ?_) fun _ _ z => z
  obtain ⟨hw, h0⟩ := h1
  have hn : g.n = vs.length := (hw _ _ _ h0).1
  have go : ∀ (post pre : List Vv) (s : Sl) (c : Cf), vs = pre ++ post → I pre s c → PostS (loopF g.get mg mb post.length pre.length s c) QS XS := by
    intro post
    induction post with
    | nil =>
      intro pre s c e h
      rw [List.append_nil] at e
      have hg : g.get pre.length c = none := by
        rw [(hw _ _ _ h).2, e]
        exact List.getElem?_eq_none (Nat.le_refl _)
      simp only [List.length_nil, loopF, hg]
      exact hd s c (e ▸ h)
    | cons v post ih =>
      intro pre s c e h
      have hg : g.get pre.length c = some v := by
        rw [(hw _ _ _ h).2, e, List.getElem?_append_right (Nat.le_refl _), Nat.sub_self]
        rfl
      simp only [List.length_cons, loopF, hg]
      rw [postS_bindE]
      refine (hs pre v post s c e h).imp (fun s1 c1 h1 => ?_) fun _ _ z => z
      rw [turnS_post]
      have nxt : ∀ s2 c2, I (pre ++ [v]) s2 c2 → PostS (loopF g.get mg mb post.length (pre.length + 1) s2 c2) QS XS := fun s2 c2 h2 => by
        have := ih (pre ++ [v]) s2 c2 (by rw [e, List.append_assoc]; rfl) h2
        rw [List.length_append] at this
        exact this
      refine h1.imp (fun f s2 c2 h2 => ?_) fun _ _ _ z => z
      cases f with
      | nx => exact nxt s2 c2 h2
      | ct => exact nxt s2 c2 h2
      | bk => exact h2
      | ret v => exact h2
  rw [hn]
  exact go vs [] sl c1 rfl h0
theorem q_LcW {mi : MI} {mg : MG} {mt : MT} {me : ME} {ws : List Nat} (vs : List Vv) (I : List Vv → List Vv → Cf → Prop)
    (h0 : Post (mi sl c) (fun g c1 => (∀ pre acc c, I pre acc c → Walks g vs c) ∧ I [] [] c1) X) (hz : vs.length ≤ 100000)
    (hs : ∀ pre v post acc c, vs = pre ++ v :: post → I pre acc c → Post (mg v (wipeS sl ws) c) (fun s1 c1 => Post (mt s1 c1) (fun b c2 => if b = true then Post (me s1 c2) (fun u c3 => I (pre ++ [v]) (acc ++ [u]) c3) (fun _ _ => False) else I (pre ++ [v]) acc c2) (fun _ _ => False)) (fun _ _ => False))
    (hd : ∀ acc c, I vs acc c → Q (.ref c.st.length) (c.app acc)) : Post (mLc mi mg mt me ws sl c) Q X := by
  unfold mLc
  rw [post_bind]
  refine h0.imp (fun g c1 h1 => ?_) fun _ _ z => z
  obtain ⟨hw, h0⟩ := h1
  have hn : g.n = vs.length := (hw _ _ _ h0).1
  have go : ∀ (post pre acc : List Vv) (c : Cf), vs = pre ++ post → I pre acc c → Post (lcR g.get mg mt me ws post.length pre.length sl c) (fun us c' => Q (.ref c'.st.length) (c'.app (acc ++ us))) X := by
    intro post
    induction post with
    | nil =>
      intro pre acc c e h
      rw [List.append_nil] at e
      have hg : g.get pre.length c = none := by
        rw [(hw _ _ _ h).2, e]
        exact List.getElem?_eq_none (Nat.le_refl _)
      simp only [List.length_nil, lcR, hg]
      show Q (.ref c.st.length) (c.app (acc ++ []))
      rw [List.append_nil]
      exact hd acc c (e ▸ h)
    | cons v post ih =>
      intro pre acc c e h
      have hg : g.get pre.length c = some v := by
        rw [(hw _ _ _ h).2, e, List.getElem?_append_right (Nat.le_refl _), Nat.sub_self]
        rfl
      simp only [List.length_cons, lcR, hg]
      rw [post_bind, noX_postX]
      refine (hs pre v post acc c e h).imp (fun s1 c1 h1 => ?_) fun _ _ z => z
      rw [post_bind, noX_postX]
      refine h1.imp (fun b c2 h2 => ?_) fun _ _ z => z
      have e' : vs = (pre ++ [v]) ++ post := by rw [e, List.append_assoc]; rfl
      have nxt : ∀ acc c, I (pre ++ [v]) acc c → Post (lcR g.get mg mt me ws post.length (pre.length + 1) sl c) (fun us c' => Q (.ref c'.st.length) (c'.app (acc ++ us))) X := fun acc c h => by
        have := ih (pre ++ [v]) acc c e' h
        rw [List.length_append] at this
        exact this
      cases b with
      | false => exact nxt acc c2 h2
      | true =>
        show Post ((noX (me s1 c2)).bind fun u => (lcR g.get mg mt me ws post.length (pre.length + 1) sl u.2).bind fun us => .ok (u.1 :: us.1, us.2)) _ X
        rw [post_bind, noX_postX]
        refine (show Post (me s1 c2) (fun u c3 => I (pre ++ [v]) (acc ++ [u]) c3) (fun _ _ => False) from h2).imp (fun u c3 h3 => ?_) fun _ _ z => z
        rw [post_bind]
        refine (nxt (acc ++ [u]) c3 h3).imp (fun us c4 h4 => ?_) fun _ _ z => z
        rw [List.append_assoc] at h4
        exact h4
  have hz' : g.n ≤ 100000 := by rw [hn]; exact hz
  show Post (if g.n ≤ 100000 then (lcR g.get mg mt me ws g.n 0 sl c1).bind fun r => .ok (.ref r.2.st.length, r.2.app r.1) else .bad) Q X
  rw [if_pos hz', post_bind, hn]
  exact (go vs [] [] c1 rfl h0).imp (fun us c' h => h) fun _ _ z => z
/-- [e for x in ..]: each e is g of the item, the state stays -/
theorem q_LcMap {mi : MI} {mg : MG} {me : ME} {ws : List Nat} (vs : List Vv) (g : Vv → Vv) {c1 : Cf} (hi : Post (mi sl c) (fun k c2 => Walks k vs c1 ∧ c2 = c1) X) (hz : vs.length ≤ 100000)
    (hs : ∀ v ∈ vs, Post (mg v (wipeS sl ws) c1) (fun s1 c2 => Post (me s1 c2) (fun u c4 => u = g v ∧ c4 = c1) (fun _ _ => False)) (fun _ _ => False)) (h : Q (.ref c1.st.length) (c1.app (vs.map g))) : Post (mLc mi mg mYes me ws sl c) Q X := by
  refine q_LcW vs (fun pre acc c => acc = pre.map g ∧ c = c1) (hi.imp (fun k c2 h1 => ⟨fun pre acc c h2 => h2.2 ▸ h1.1, rfl, h1.2⟩) fun _ _ z => z) hz (fun pre v post acc c e h1 => ?_) fun acc c h1 => ?_
  · obtain ⟨rfl, rfl⟩ := h1
    refine (hs v (by rw [e]; simp)).imp (fun s1 c2 h2 => ?_) fun _ _ z => z
    simp only [q_Yes, if_true]
    refine h2.imp (fun u c4 h4 => ?_) fun _ _ z => z
    obtain ⟨rfl, rfl⟩ := h4
    exact ⟨by rw [List.map_append]; rfl, rfl⟩
  · obtain ⟨rfl, rfl⟩ := h1
    exact h
/-- over items made of a list of whatever: x gives the item a x -/
theorem q_ForL {α : Type} {mi : MI} {mg : MG} {mb : MS} (l : List α) (a : α → Vv) (I : List α → Sl → Cf → Prop)
    (h0 : Post (mi sl c) (fun g c1 => (∀ pre s c, I pre s c → Walks g (l.map a) c) ∧ I [] sl c1) (fun x c1 => XS x sl c1))
    (hs : ∀ pre x post s c, l = pre ++ x :: post → I pre s c → Post (mg (a x) s c) (fun s1 c1 => PostS (mb s1 c1) (Turn1 (I (pre ++ [x])) QS) XS) (fun x c1 => XS x s c1))
    (hd : ∀ s c, I l s c → QS .nx s c) : PostS (mFor mi mg mb sl c) QS XS := by
  have cut : ∀ {l1 l2 : List α} {pre : List Vv} {v : Vv} {post : List Vv}, l = l1 ++ l2 → pre = l1.map a → l.map a = pre ++ v :: post → ∃ x l3, l2 = x :: l3 ∧ v = a x := by
    intro l1 l2 pre v post e1 e2 e3
    rw [e1, List.map_append, e2] at e3
    have e4 := List.append_cancel_left e3
    cases l2 with
    | nil => cases e4
    | cons x l3 => rw [List.map_cons] at e4; injection e4 with e5 _; exact ⟨x, l3, rfl, e5.symm⟩
  refine q_ForW (l.map a) (fun pre s c => ∃ l1 l2, l = l1 ++ l2 ∧ pre = l1.map a ∧ I l1 s c) (h0.imp (fun g c1 h => ⟨fun pre s c ⟨l1, _, _, _, h3⟩ => h.1 l1 s c h3, [], l, rfl, rfl, h.2⟩) fun _ _ z => z) (fun pre v post s c e h => ?_) fun s c h => ?_
  · obtain ⟨l1, l2, e1, e2, h3⟩ := h
    obtain ⟨x, l3, rfl, rfl⟩ := cut e1 e2 e
    refine (hs l1 x l3 s c e1 h3).imp (fun s1 c1 h4 => h4.imp (fun f s2 c2 h5 => ?_) fun _ _ _ z => z) fun _ _ z => z
    have nx : ∀ s c, I (l1 ++ [x]) s c → ∃ m1 m2, l = m1 ++ m2 ∧ pre ++ [a x] = m1.map a ∧ I m1 s c := fun s c h => ⟨l1 ++ [x], l3, by rw [e1, List.append_assoc]; rfl, by rw [e2, List.map_append]; rfl, h⟩
    cases f with
    | nx => exact nx s2 c2 h5
    | ct => exact nx s2 c2 h5
    | bk => exact h5
    | ret u => exact h5
  · obtain ⟨l1, l2, e1, e2, h3⟩ := h
    have : l2 = [] := by
      have := congrArg List.length e2
      rw [e1] at this
      simp at this
      exact this
    rw [this, List.append_nil] at e1
    exact hd s c (e1 ▸ h3)
theorem q_LcMapL {α : Type} {mi : MI} {mg : MG} {me : ME} {ws : List Nat} (l : List α) (a b : α → Vv) (c1 : Cf) (hi : Post (mi sl c) (fun k c2 => Walks k (l.map a) c1 ∧ c2 = c1) X) (hz : l.length ≤ 100000)
    (hs : ∀ x ∈ l, Post (mg (a x) (wipeS sl ws) c1) (fun s1 c2 => Post (me s1 c2) (fun u c4 => u = b x ∧ c4 = c1) (fun _ _ => False)) (fun _ _ => False)) (h : Q (.ref c1.st.length) (c1.app (l.map b))) : Post (mLc mi mg mYes me ws sl c) Q X := by
  refine q_LcW (l.map a) (fun pre acc c => c = c1 ∧ ∃ l1 l2, l = l1 ++ l2 ∧ pre = l1.map a ∧ acc = l1.map b) (hi.imp (fun k c2 h1 => ⟨fun pre acc c h2 => h2.1 ▸ h1.1, h1.2, [], l, rfl, rfl, rfl⟩) fun _ _ z => z) (by rw [List.length_map]; exact hz) (fun pre v post acc c e h1 => ?_) fun acc c h1 => ?_
  · obtain ⟨rfl, l1, l2, e1, e2, e3⟩ := h1
    have e4 := e
    rw [e1, List.map_append, e2] at e4
    have e5 := List.append_cancel_left e4
    cases l2 with
    | nil => cases e5
    | cons x l3 =>
      rw [List.map_cons] at e5
      injection e5 with e6 _
      subst e6
      refine (hs x (by rw [e1]; simp)).imp (fun s1 c2 h2 => ?_) fun _ _ z => z
      simp only [q_Yes, if_true]
      refine h2.imp (fun u c4 h4 => ?_) fun _ _ z => z
      obtain ⟨rfl, rfl⟩ := h4
      exact ⟨rfl, l1 ++ [x], l3, by rw [e1, List.append_assoc]; rfl, by rw [e2, List.map_append]; rfl, by rw [e3, List.map_append]; rfl⟩
  · obtain ⟨rfl, l1, l2, e1, e2, e3⟩ := h1
    have : l2 = [] := by
      have := congrArg List.length e2
      rw [e1] at this
      simp at this
      exact this
    rw [this, List.append_nil] at e1
    rw [e3, ← e1]
    exact h
/-- the items of a list, a tuple, the script -/
def itemsOf (v : Vv) (c : Cf) : Option (List Vv) := match v with
  | .da (.tuple ds) => some (ds.map .da)
  | .scr => some (c.sc.map fun i => .da (.int i))
  | v => lsOf c v
theorem q_ItW {m : ME} {QI : Itv → Cf → Prop} (h : Post (m sl c) (fun v c2 => ∃ l, itemsOf v c2 = some l ∧ ∀ g, (∀ c', (v = .scr → c'.sc = c2.sc) → itemsOf v c' = some l → Walks g l c') → QI g c2) X) : Post (mIt m sl c) QI X := by
  rw [q_It]
  refine h.imp (fun v c2 h1 => ?_) fun _ _ z => z
  obtain ⟨l, e, h1⟩ := h1
  cases v with
  | da d =>
    cases d with
    | tuple ds => cases e; exact h1 _ fun c' _ _ => walks_cap.mpr rfl
    | list ds => cases e; exact h1 _ fun c' _ _ => walks_cap.mpr rfl
    | _ => cases e
  | scr => cases e; exact h1 _ fun c' hc _ => walks_cap.mpr rfl
  | ref n =>
    have e : lsOf c2 (.ref n) = some l := e
    show Opt ((lsOf c2 (.ref n)).map fun l => (⟨l.length, fun i c => (lsOf c (.ref n)).bind fun l => l[i]?⟩ : Itv)) _
    rw [e]
    exact h1 _ fun c' _ e' => walks_ref e'
  | tape =>
    have e : lsOf c2 .tape = some l := e
    show Opt ((lsOf c2 .tape).map fun l => (⟨l.length, fun i c => (lsOf c .tape).bind fun l => l[i]?⟩ : Itv)) _
    rw [e]
    exact h1 _ fun c' _ e' => walks_ref e'
  | wide =>
    have e : lsOf c2 .wide = some l := e
    show Opt ((lsOf c2 .wide).map fun l => (⟨l.length, fun i c => (lsOf c .wide).bind fun l => l[i]?⟩ : Itv)) _
    rw [e]
    exact h1 _ fun c' _ e' => walks_ref e'
  | exc _ => cases e
@[simp] theorem shaped_int {i : Int} : SeqAt.shaped (.int i) = true := rfl
@[simp] theorem shaped_bool {i : Bool} : SeqAt.shaped (.bool i) = true := rfl
@[simp] theorem shaped_none : SeqAt.shaped .none = true := rfl
end
end PM
end
section
/-! K06M1: mathematics of k06: the small functions. -/
namespace PM.K06
open PySem DL PM
/-- no dict -/
def noD : PyData → Bool
  | .dict _ => false
  | _ => true
theorem kind_da {d : PyData} (h : noD d = true) : kindOf (.da d) = some d := by cases d <;> first | rfl | cases h
@[simp] theorem sl0 {vs : List Vv} {k : Nat} : slots k vs = vs.map some ++ List.replicate k none := rfl
def isWhole (d : PyData) : Bool := isInt d && !isBool d
theorem whole_ok {d : PyData} (h : noD d = true) : m_is_whole_number [d] = .ok (.bool (isWhole d)) := by
  refine Res.eq (fQ_post rfl ?_)
  simp [mb_is_whole_number, kind_da h, boolOf, endF]
  cases d <;> simp [isWhole, isInt, isBool]
theorem whole_ok' {d : PyData} (h : noD d = true) : m__law_whole [d] = .ok (.bool (isWhole d)) := by
  refine Res.eq (fQ_post rfl ?_)
  simp [mb__law_whole, kind_da h, boolOf, endF]
  cases d <;> simp [isWhole, isInt, isBool]
def isNum : PyData → Bool
  | .int i => decide (0 ≤ i)
  | _ => false
theorem number_ok {d : PyData} (h : noD d = true) : m_is_number [d] = .ok (.bool (isNum d)) := by
  refine Res.eq (fQ_post rfl ?_)
  simp [mb_is_number, fzL, whole_ok h, boolOf, endF]
  cases d <;> simp [isWhole, isInt, isBool, isNum, pB2]
theorem sort_ok {n : Int} {d : PyData} (h : noD d = true) : m_sort_fits [.int n, d] = .ok (.bool (match d with | .int i => decide (0 ≤ i) && decide (i < n) | _ => false)) := by
  refine Res.eq (fQ_post rfl ?_)
  simp [mb_sort_fits, fzL, number_ok h, boolOf, endF]
  cases d <;> simp [isNum, pB2]
  split <;> omega
/-- the signs of a word of the program: no blank, no percent, no quote, printable -/
def wordC (k : Nat) : Bool := decide (33 ≤ k) && decide (k ≤ 126) && !decide (k = 37) && !decide (k = 39)
def isWordB : PyData → Bool
  | .str x => decide (1 ≤ x.length) && decide (x.length ≤ 16) && x.cps.toList.all wordC
  | _ => false
theorem bools_map {α : Type} {f : α → Bool} : ∀ l : List α, boolsOf (l.map fun a => .da (.bool (f a))) = some (l.map f)
  | [] => rfl
  | a :: l => by simp [boolsOf, bools_map l]
theorem word_ok {d : PyData} (h : noD d = true) (hl : ∀ x, d = .str x → x.length ≤ 100000) : m_is_word [d] = .ok (.bool (isWordB d)) := by
  refine Res.eq (fQ_post rfl ?_)
  cases d with
  | dict _ => cases h
  | str x =>
    simp [mb_is_word, kindOf, pTru, truth, isStr, boolOf, endF, pLen, hl x rfl, pB2]
    by_cases h1 : 1 ≤ (x.length : Int)
    · by_cases h2 : (x.length : Int) ≤ 16
      · simp [h1, h2]
        refine q_LcMapL x.cps.toList (fun k => .da (.str ⟨#[k]⟩)) (fun k => .da (.int (k : Nat))) cf0 ?_ ?_ ?_ ?_
        · simp [mSg, post_bind, post_ok, DL.signs]
        · have := hl x rfl; unfold Str.length at this; simpa using this
        · intro k hk
          simp [wipeS, pOrd, Str.length]
        · refine q_LcMapL x.cps.toList (fun k => .da (.int (k : Nat))) (fun k => .da (.bool (wordC k))) (cf0.app (x.cps.toList.map fun k => .da (.int (k : Nat)))) ?_ ?_ ?_ ?_
          · refine q_ItW ?_
            simp [itemsOf, lsOf, cf0, Cf.app]
            exact fun g hg => hg _ rfl
          · have := hl x rfl; unfold Str.length at this; simpa using this
          · intro k hk
            have i1 : (33 : Int) ≤ (k : Nat) ↔ 33 ≤ k := by omega
            have i2 : ((k : Nat) : Int) ≤ 126 ↔ k ≤ 126 := by omega
            have i3 : ((k : Nat) : Int) = 37 ↔ k = 37 := by omega
            have i4 : (((k : Nat) : Int) == 39) = decide (k = 39) := by
              by_cases h : k = 39
              · subst h; rfl
              · simp [h]; omega
            simp [wipeS, pB2, boolOf, pEq, PyData.eqv, i1, i2, i3, i4]
            by_cases a1 : 33 ≤ k <;> by_cases a2 : k ≤ 126 <;> by_cases a3 : k = 37 <;> by_cases a4 : k = 39 <;> simp [wordC, a1, a2, a3, a4]
          · simp [pOfBools, lsOf, cf0, Cf.app, bools_map, isWordB]
            intro _
            omega
      · simp [h1, h2, isWordB]
        intro _ h; omega
    · simp [h1, isWordB]
      intro h; omega
  | _ => simp [mb_is_word, kindOf, pTru, truth, isStr, boolOf, endF, isWordB]
end PM.K06
end
section
/-! K06M2: mathematics of k06: books. -/
namespace PM.K06
open PySem DL PM
def sortB (n : Int) : PyData → Bool
  | .int i => decide (0 ≤ i) && decide (i < n)
  | _ => false
theorem sort_ok' {n : Int} {d : PyData} (h : noD d = true) : m_sort_fits [.int n, d] = .ok (.bool (sortB n d)) := by
  rw [sort_ok h]
  cases d <;> rfl
/-- ascending sorts behind p -/
def startsB (n : Int) : Option Int → List PyData → Bool
  | _, [] => true
  | p, .int i :: r => sortB n (.int i) && (match p with | some p => decide (p < i) | none => true) && startsB n (some i) r
  | _, _ :: _ => false
def prevOf (ds : List PyData) : Nat → Option Int
  | 0 => none
  | k + 1 => match ds[k]? with
    | some (.int i) => some i
    | _ => none
def startsD (n : Int) : PyData → Bool
  | .tuple ds => startsB n none ds
  | _ => false
theorem zip_cut {ds : List PyData} {pre : List (PyData × Nat)} {x : PyData × Nat} {post : List (PyData × Nat)} (e : ds.zipIdx = pre ++ x :: post) : ds[pre.length]? = some x.1 ∧ x.2 = pre.length ∧ ds.drop pre.length = x.1 :: ds.drop (pre.length + 1) := by
  have h : ds.zipIdx[pre.length]? = some x := by rw [e, List.getElem?_append_right (Nat.le_refl _), Nat.sub_self]; rfl
  rw [List.getElem?_zipIdx] at h
  cases q : ds[pre.length]? with
  | none => rw [q] at h; cases h
  | some d =>
    rw [q] at h
    simp at h
    subst h
    refine ⟨rfl, rfl, ?_⟩
    obtain ⟨hl, hd⟩ := List.getElem?_eq_some_iff.mp q
    rw [List.drop_eq_getElem_cons hl, hd]
theorem atI_nat' {ds : List PyData} {k : Nat} {d : PyData} (h : ds[k]? = some d) : L2.atI ds (k : Int) = some d := by
  have hl := (List.getElem?_eq_some_iff.mp h).1
  unfold L2.atI L2.ixN
  rw [if_pos (by omega), if_pos (by omega)]
  simpa using h
theorem prev_get {ds : List PyData} {k : Nat} {p : Int} (h : prevOf ds (k + 1) = some p) : ds[k]? = some (.int p) := by
  cases e : ds[k]? with
  | none => simp [prevOf, e] at h
  | some d => cases d <;> simp [prevOf, e] at h ⊢ <;> exact h
theorem starts_ok {n : Int} {d : PyData} (hd : noD d = true) (hs : ∀ ds, d = .tuple ds → ∀ x ∈ ds, noD x = true) : m_starts_fit [.int n, d] = .ok (.bool (startsD n d)) := by
  refine Res.eq (fQ_post rfl ?_)
  cases d with
  | dict _ => cases hd
  | tuple ds =>
    have hs := hs ds rfl
    simp [mb_starts_fit, kindOf, pTru, truth, isTup, boolOf, endF]
    refine q_ForL ds.zipIdx (fun p => .da (.tuple [.int (p.2 : Nat), p.1])) (fun pre s c => c = cf0 ∧ (∃ u v, s = [some (.da (.int n)), some (.da (.tuple ds)), u, v]) ∧ (pre.length = 0 ∨ ∃ p, prevOf ds pre.length = some p) ∧ startsB n none ds = startsB n (prevOf ds pre.length) (ds.drop pre.length)) ?_ ?_ ?_
    · simp [mEn, post_bind, post_ok, enumV, enumD, prevOf]
    · intro pre x post s c e h
      obtain ⟨rfl, ⟨u, v, rfl⟩, hp, hi⟩ := h
      obtain ⟨h1, h2, h3⟩ := zip_cut e
      have hx : noD x.1 = true := hs _ (List.mem_of_getElem? h1)
      simp [fzL, sort_ok' hx, pTru, truth, pB2, h2, boolOf]
      have key : startsD n (.tuple ds) = startsB n (prevOf ds pre.length) (x.1 :: ds.drop (pre.length + 1)) := by
        show startsB n none ds = _
        rw [hi, h3]
      cases hx1 : x.1 with
      | int i =>
        rw [hx1] at h1 key h3
        have hp1 : prevOf ds (pre.length + 1) = some i := by simp [prevOf, h1]
        by_cases hso : sortB n (.int i) = true
        · simp only [hso, if_true]
          cases hk : pre.length with
          | zero =>
            rw [hk] at hi h3 hp1 key
            simp [prevOf, startsB, hso] at key hp1
            simp [hi, h3, hp1, prevOf, startsB, hso]
          | succ k =>
            rw [hk] at hp hi h3 hp1 key
            obtain ⟨p, hp⟩ : ∃ p, prevOf ds (k + 1) = some p := by
              rcases hp with hp | hp
              · cases hp
              · exact hp
            have hg := prev_get hp
            have e1 : (((k + 1 : Nat) : Int) - 1) = (k : Nat) := by omega
            rw [hp] at key hi
            rw [h3] at hi
            simp [pSub, e1, pIx, atI_nat' hg, boolOf, hp1, pB2, hi, key, startsB, hso]
            by_cases hle : i ≤ p
            · simp [hle]; intro hlt; omega
            · simp [hle]; omega
        · simp [hso] at key ⊢
          rw [key]
          simp [startsB, hso]
      | _ =>
        rw [hx1] at key
        simp [sortB, key, startsB]
    · intro s c h
      obtain ⟨rfl, ⟨u, v, rfl⟩, hp, hi⟩ := h
      simp [hi, startsD, startsB]
  | _ => simp [mb_starts_fit, kindOf, pTru, truth, isTup, boolOf, endF, startsD]
end PM.K06
end
section
/-! K06M3: mathematics of k06: the faults of a book. -/
namespace PM.K06
open PySem DL PM
theorem noD_of {d : PyData} (h : d.hasDict = false) : noD d = true := by cases d <;> first | rfl | (simp [PyData.hasDict] at h)
theorem noD_all : ∀ {ds : List PyData}, PyData.hasDictAll ds = false → ∀ x ∈ ds, x.hasDict = false
  | d :: ds, h, x, hx => by
    simp only [PyData.hasDictAll, Bool.or_eq_false_iff] at h
    rcases List.mem_cons.mp hx with rfl | hx
    · exact h.1
    · exact noD_all h.2 x hx
theorem noD_tup {ds : List PyData} (h : (PyData.tuple ds).hasDict = false) : ∀ x ∈ ds, x.hasDict = false := noD_all (by simpa [PyData.hasDict] using h)
theorem noD_lst {ds : List PyData} (h : (PyData.list ds).hasDict = false) : ∀ x ∈ ds, x.hasDict = false := noD_all (by simpa [PyData.hasDict] using h)
def ft (w : Str) (k : Int) : PyData := .tuple [.str w, .int k]
def conF (n : Int) (k : Nat) : PyData → Option PyData
  | .tuple [r, .tuple ks] => if !sortB n r then some (ft "con" k) else if decide (4 < ks.length) || !ks.all (sortB n) then some (ft "kids" k) else none
  | _ => some (ft "con" k)
def consF (n : Int) : Nat → List PyData → PyData
  | _, [] => .none
  | k, d :: r => match conF n k d with
    | some f => f
    | none => consF n (k + 1) r
def bookF : PyData → PyData
  | .tuple [.int n, st, cs] => if decide (n < 0) then ft "size" (-1) else if !startsD n st then ft "starts" (-1) else match cs with
    | .tuple ds => consF n 0 ds
    | _ => ft "cons" (-1)
  | .tuple [_, _, _] => ft "size" (-1)
  | _ => ft "shape" (-1)
theorem kids_ok {n : Int} {ks : List PyData} (hk : ∀ x ∈ ks, noD x = true) (hz : ks.length ≤ 100000) {sl : Sl} {c : Cf} {QQ : Vv → Cf → Prop} {X : Exc → Cf → Prop} (h1 : sl[1]? = some (some (.da (.int n)))) (h7 : sl[7]? = some (some (.da (.tuple ks)))) (h8 : 8 < sl.length)
    (h : QQ (.ref c.st.length) (c.app (ks.map fun d => .da (.bool (sortB n d))))) : Post (mLc (mIt (mV 7)) (mgN 8) mYes (mCallQ m_sort_fits [] (mA1 (mV 1) (mA1 (mV 8) mA0))) [8] sl c) QQ X := by
  refine q_LcMapL ks .da (fun d => .da (.bool (sortB n d))) c ?_ hz ?_ h
  · refine q_ItW ?_
    simp [h7, itemsOf]
    exact fun g hg => hg _
  · intro x hx
    simp [wipeS, h8, h1, List.getElem?_set, fzL, sort_ok' (hk x hx)]
theorem fault_ok {d : PyData} (hd : d.hasDict = false) : m_book_fault [d] = .ok (bookF d) := by
  refine Res.eq (fQ_post rfl ?_)
  have nd := noD_of hd
  cases d with
  | dict _ => cases nd
  | tuple ds =>
    have hs := noD_tup hd
    rcases ds with _ | ⟨a, _ | ⟨b, _ | ⟨cc, _ | ⟨e, r⟩⟩⟩⟩
    · simp [mb_book_fault, kindOf, pTru, truth, isTup, boolOf, endF, pLen, pEq, PyData.eqv, fzL, pNeg, bookF, ft]
    · simp [mb_book_fault, kindOf, pTru, truth, isTup, boolOf, endF, pLen, pEq, PyData.eqv, fzL, pNeg, bookF, ft]
    · simp [mb_book_fault, kindOf, pTru, truth, isTup, boolOf, endF, pLen, pEq, PyData.eqv, fzL, pNeg, bookF, ft]
    · have ha := noD_of (hs a (by simp))
      have hb := hs b (by simp)
      have hc := hs cc (by simp)
      simp [mb_book_fault, kindOf, pTru, truth, isTup, boolOf, endF, pLen, pEq, PyData.eqv, fzL, pNeg, number_ok ha]
      cases a with
      | int n =>
        simp [isNum, bookF]
        by_cases hn : 0 ≤ n
        · have hn' : ¬ n < 0 := by omega
          simp [hn, hn', starts_ok (noD_of hb) (fun ds e x hx => noD_of (noD_tup (e ▸ hb) x hx))]
          by_cases hst : startsD n b = true
          · simp [hst]
            cases cc with
            | tuple ds =>
              have hds := noD_tup hc
              simp
              refine q_ForL ds.zipIdx (fun p => .da (.tuple [.int (p.2 : Nat), p.1])) (fun pre s c => (∃ u4 u5 u6 u7 u8, s = [some (.da (.tuple [.int n, b, .tuple ds])), some (.da (.int n)), some (.da b), some (.da (.tuple ds)), u4, u5, u6, u7, u8]) ∧ consF n 0 ds = consF n pre.length (ds.drop pre.length)) ?_ ?_ ?_
              · simp [mEn, post_bind, post_ok, enumV, enumD]
              · intro pre x post s c e h
                obtain ⟨⟨u4, u5, u6, u7, u8, rfl⟩, hi⟩ := h
                obtain ⟨h1, h2, h3⟩ := zip_cut e
                have hx := hds _ (List.mem_of_getElem? h1)
                rw [h3] at hi
                obtain ⟨d1, k1⟩ := x
                simp only at h1 h2 h3 hx hi
                subst h2
                simp
                cases d1 with
                | dict _ => simp [PyData.hasDict] at hx
                | tuple es =>
                  have hes := noD_tup hx
                  rcases es with _ | ⟨p, _ | ⟨q, _ | ⟨r, es⟩⟩⟩
                  · simp [kindOf, pTru, truth, isTup, pLen, pEq, PyData.eqv, boolOf, fzL, hi, consF, conF, ft]
                  · simp [kindOf, pTru, truth, isTup, pLen, pEq, PyData.eqv, boolOf, fzL, hi, consF, conF, ft]
                  · have hp := noD_of (hes p (by simp))
                    have hq := hes q (by simp)
                    simp [kindOf, pTru, truth, isTup, pLen, pEq, PyData.eqv, boolOf, fzL, sort_ok' hp]
                    by_cases hsp : sortB n p = true
                    · simp [hsp]
                      cases q with
                      | dict _ => simp [PyData.hasDict] at hq
                      | tuple ks =>
                        have hks := noD_tup hq
                        simp [kindOf, isTup, pGt, pB2, boolOf]
                        split
                        · have hl : 4 < ks.length := by omega
                          simp [hl, hi, consF, conF, hsp, ft]
                        · have hl : ¬ 4 < ks.length := by omega
                          refine kids_ok (fun x hx => noD_of (hks x hx)) (by omega) rfl rfl (by simp) ?_
                          have hl2 : decide (4 < ks.length) = false := by simp; omega
                          simp only [pAll, pOfBools, lsOf, Cf.app, List.getElem?_concat_length]
                          simp [bools_map]
                          by_cases hf : ∀ x ∈ ks, sortB n x = true
                          · have ha : ks.all (sortB n) = true := List.all_eq_true.mpr hf
                            have hc : conF n pre.length (.tuple [p, .tuple ks]) = none := by simp only [conF, hsp, ha, hl2]; rfl
                            rw [if_pos hf, hi]
                            simp [consF, hc]
                          · have ha : ks.all (sortB n) = false := by
                              cases e : ks.all (sortB n) with
                              | false => rfl
                              | true => exact absurd (List.all_eq_true.mp e) hf
                            have hc : conF n pre.length (.tuple [p, .tuple ks]) = some (ft "kids" pre.length) := by simp only [conF, hsp, ha, hl2]; rfl
                            rw [if_neg hf, hi]
                            simp [consF, hc, ft]
                      | _ => simp [kindOf, isTup, fzL, hi, consF, conF, ft]
                    · simp [hsp, fzL, hi, consF, ft]
                      cases q <;> simp [conF, hsp, ft]
                  · have e3 : ((es.length : Int) + 1 + 1 + 1 == 2) = false := by simp; omega
                    simp [kindOf, pTru, truth, isTup, pLen, pEq, PyData.eqv, boolOf, fzL, hi, consF, conF, ft]
                    omega
                | _ => simp [kindOf, pTru, truth, isTup, fzL, hi, consF, conF, ft]
              · intro s c h
                obtain ⟨⟨u4, u5, u6, u7, u8, rfl⟩, hi⟩ := h
                simp [hi, consF]
            | dict _ => simp [PyData.hasDict] at hc
            | _ => simp [ft]
          · simp [hst, ft]
        · have hn' : n < 0 := by omega
          simp [hn, hn', ft]
      | _ => simp [isNum, bookF, ft]
    · have e3 : ((r.length : Int) + 1 + 1 + 1 + 1 == 3) = false := by simp; omega
      simp [mb_book_fault, kindOf, pTru, truth, isTup, boolOf, endF, pLen, pEq, PyData.eqv, fzL, pNeg, bookF, ft]
      omega
  | _ => simp [mb_book_fault, kindOf, pTru, truth, isTup, boolOf, endF, fzL, pNeg, bookF, ft]
end PM.K06
end
section
/-! K06M4: mathematics of k06: pieces. -/
namespace PM.K06
open PySem DL PM
def slotB (ws : List Int) : PyData → Bool
  | .tuple [.int i, .int j] => decide (0 ≤ i) && decide (0 ≤ j) && decide (i < ws.length) && (match L2.atI ws i with | some w => decide (j < w) | none => false)
  | _ => false
theorem slot_ok {ws : List Int} {d : PyData} (hd : d.hasDict = false) : m__is_slot [.list (ws.map .int), d] = .ok (.bool (slotB ws d)) := by
  refine Res.eq (fQ_post rfl ?_)
  cases d with
  | dict _ => simp [PyData.hasDict] at hd
  | tuple ds =>
    have hs := noD_tup hd
    rcases ds with _ | ⟨a, _ | ⟨b, _ | ⟨cc, r⟩⟩⟩
    · simp [mb__is_slot, kindOf, pTru, truth, isTup, boolOf, endF, pLen, pEq, PyData.eqv, fzL, slotB]
    · simp [mb__is_slot, kindOf, pTru, truth, isTup, boolOf, endF, pLen, pEq, PyData.eqv, fzL, slotB]
    · have ha := noD_of (hs a (by simp))
      have hb := noD_of (hs b (by simp))
      simp [mb__is_slot, kindOf, pTru, truth, isTup, boolOf, endF, pLen, pEq, PyData.eqv, fzL, number_ok ha, number_ok hb]
      cases a with
      | int i =>
        cases b with
        | int j =>
          by_cases hi : 0 ≤ i
          · by_cases hj : 0 ≤ j
            · simp [isNum, hi, hj, pLt, pB2, slotB]
              split
              case isFalse h => exact fun h' => absurd h' h
              rename_i hl
              obtain ⟨k, rfl⟩ := Int.eq_ofNat_of_zero_le hi
              have hk : k < ws.length := by omega
              have e1 : (ws.map PyData.int)[k]? = some (.int ws[k]) := by simp [hk]
              have e2 : L2.atI ws (k : Int) = some ws[k] := by
                unfold L2.atI L2.ixN
                rw [if_pos (by omega), if_pos (by omega)]
                simp [hk]
              simp [pIx, atI_nat' e1, e2, pB2, hk]
            · simp [isNum, hi, hj, slotB]
          · simp [isNum, hi, slotB]
        | _ => simp [isNum, slotB]
      | _ => simp [isNum, slotB]
    · have e3 : ((r.length : Int) + 1 + 1 + 1 == 2) = false := by simp; omega
      simp [mb__is_slot, kindOf, pTru, truth, isTup, boolOf, endF, pLen, pEq, PyData.eqv, fzL, slotB]
      omega
  | _ => simp [mb__is_slot, kindOf, pTru, truth, isTup, boolOf, endF, fzL, slotB]
def posB : PyData → Bool
  | .int i => decide (0 < i)
  | _ => false
def oneB (ws : List PyData) (s : Int) : Bool := match L2.atI ws s with
  | some (.int i) => decide (i = 1)
  | _ => false
def widthsB (n : Int) (st : List Int) : PyData → Bool
  | .tuple ws => decide ((ws.length : Int) = n) && ws.all posB && st.all (oneB ws)
  | _ => false
theorem atI_some {ws : List PyData} {s : Int} (h0 : 0 ≤ s) (h1 : s < ws.length) : ∃ d ∈ ws, L2.atI ws s = some d := by
  obtain ⟨k, rfl⟩ := Int.eq_ofNat_of_zero_le h0
  have hk : k < ws.length := by omega
  exact ⟨ws[k], List.getElem_mem hk, atI_nat' (by simp [hk])⟩
theorem eqv_ii {i j : Int} : PyData.eqv (.int i) (.int j) = decide (i = j) := by
  rw [Bool.eq_iff_iff]; simp [PyData.eqv]
theorem eqv_ss {i j : Str} : PyData.eqv (.str i) (.str j) = decide (i = j) := by
  rw [Bool.eq_iff_iff]; simp [PyData.eqv]
@[simp] theorem atI3_0 {a b c : PyData} : L2.atI [a, b, c] 0 = some a := rfl
@[simp] theorem atI3_1 {a b c : PyData} : L2.atI [a, b, c] 1 = some b := rfl
@[simp] theorem atI3_2 {a b c : PyData} : L2.atI [a, b, c] 2 = some c := rfl
@[simp] theorem atI2_0 {a b : PyData} : L2.atI [a, b] 0 = some a := rfl
@[simp] theorem atI2_1 {a b : PyData} : L2.atI [a, b] 1 = some b := rfl
theorem pos_of {d : PyData} (h : posB d = true) : ∃ i, d = .int i ∧ 0 < i := by
  cases d <;> simp [posB] at h
  exact ⟨_, rfl, h⟩
theorem widths_ok {n : Int} {st : List Int} {cs : PyData} {d : PyData} (hd : d.hasDict = false) (hst : ∀ s ∈ st, 0 ≤ s ∧ s < n) (hz : st.length ≤ 100000) : m__are_widths [.tuple [.int n, .tuple (st.map .int), cs], d] = .ok (.bool (widthsB n st d)) := by
  refine Res.eq (fQ_post rfl ?_)
  cases d with
  | dict _ => simp [PyData.hasDict] at hd
  | tuple ws =>
    have hs := noD_tup hd
    simp [mb__are_widths, kindOf, pTru, truth, isTup, boolOf, endF, pLen, pEq, eqv_ii, fzL, widthsB, pIx]
    by_cases hn : (ws.length : Int) = n
    · simp [hn]
      refine q_ForL ws .da (fun pre s c => (∃ u2 u3, s = [some (.da (.tuple [.int n, .tuple (st.map .int), cs])), some (.da (.tuple ws)), u2, u3]) ∧ pre.all posB = true) ?_ ?_ ?_
      · refine q_ItW ?_
        simp [itemsOf]
        intro g hg pre s c u2 u3 e h
        exact hg c
      · intro pre x post s c e h
        obtain ⟨⟨u2, u3, rfl⟩, hp⟩ := h
        have hx := noD_of (hs x (by rw [e]; simp))
        have hm : x ∈ ws := by rw [e]; simp
        clear e
        simp [fzL, number_ok hx, pTru, truth]
        cases x with
        | int i =>
          by_cases hi : 0 < i
          · have h1 : 0 ≤ i := by omega
            have h2 : i ≠ 0 := by omega
            simp [isNum, h1, pEq, eqv_ii, h2, boolOf]
            exact ⟨by simpa using hp, by simp [posB, hi]⟩
          · by_cases h1 : i = 0
            · subst h1
              simp [isNum, pEq, eqv_ii, boolOf]
              exact fun h => absurd (h _ hm) (by simp [posB])
            · have h3 : ¬ 0 ≤ i := by omega
              simp [isNum, h3]
              exact fun h => absurd (h _ hm) (by simp [posB]; omega)
        | _ =>
          simp [isNum]
          exact fun h => absurd (h _ hm) (by simp [posB])
      · intro s c h
        obtain ⟨⟨u2, u3, rfl⟩, hp⟩ := h
        simp [pIx]
        refine q_LcMapL (st.map .int) .da (fun d => .da (.bool (match d with | .int s => oneB ws s | _ => false))) c ?_ (by simpa using hz) ?_ ?_
        · refine q_ItW ?_
          simp [pIx, itemsOf]
          intro g hg
          exact hg c
        · intro x hx
          obtain ⟨i, hi, rfl⟩ := List.mem_map.mp hx
          obtain ⟨d, hd1, hd2⟩ := atI_some (hst i hi).1 (hn ▸ (hst i hi).2)
          obtain ⟨j, rfl, hj⟩ := pos_of (List.all_eq_true.mp hp d hd1)
          simp [wipeS, pIx, hd2, pEq, eqv_ii, oneB]
        · have hb : ((st.map PyData.int).map fun d => Vv.da (.bool (match d with | .int s => oneB ws s | _ => false))) = st.map fun s => Vv.da (.bool (oneB ws s)) := by simp
          rw [hb]
          simp only [pAll, pOfBools, lsOf, Cf.app, List.getElem?_concat_length]
          simp [bools_map, hp]
    · simp [hn]
  | _ => simp [mb__are_widths, kindOf, pTru, truth, isTup, boolOf, endF, fzL, widthsB]
end PM.K06
end
section
/-! K06M5: mathematics of k06: rows. -/
namespace PM.K06
open PySem DL PM
/-- the signs of the texts -/
def sgnC (k : Nat) : Bool := decide (32 ≤ k) && decide (k ≤ 126) && !decide (k = 37)
mutual
/-- data of k06: no dicts, small texts, small numbers -/
def smD : PyData → Bool
  | .none => true
  | .bool _ => true
  | .int i => (decide (-1 ≤ i) && decide (i ≤ 15)) || decide (i = 10 ^ 40)
  | .str s => s.cps.toList.all sgnC && decide (s.length ≤ 100)
  | .list ds => smA ds
  | .tuple ds => smA ds
  | .dict _ => false
def smA : List PyData → Bool
  | [] => true
  | d :: ds => smD d && smA ds
end
theorem smA_all : ∀ {ds : List PyData}, smA ds = true ↔ ∀ x ∈ ds, smD x = true
  | [] => by simp [smA]
  | d :: ds => by simp [smA, smA_all (ds := ds)]
mutual
theorem smD_nd : ∀ d : PyData, smD d = true → d.hasDict = false
  | .none, _ => rfl
  | .bool _, _ => rfl
  | .int _, _ => rfl
  | .str _, _ => rfl
  | .list ds, h => by simpa [PyData.hasDict] using smA_nd ds (by simpa [smD] using h)
  | .tuple ds, h => by simpa [PyData.hasDict] using smA_nd ds (by simpa [smD] using h)
  | .dict _, h => by simp [smD] at h
theorem smA_nd : ∀ ds : List PyData, smA ds = true → PyData.hasDictAll ds = false
  | [], _ => rfl
  | d :: ds, h => by
    simp only [smA, Bool.and_eq_true] at h
    simp [PyData.hasDictAll, smD_nd d h.1, smA_nd ds h.2]
end
def isTupB : PyData → Bool
  | .tuple _ => true
  | _ => false
def partsD : PyData → List PyData
  | .tuple xs => xs
  | _ => []
def slotK : PyData → List Int
  | .tuple [.int i, .int j] => [i, j]
  | _ => []
def goodI (ks : List Int) (x : PyData) : Bool := slotB ks x || isWordB x
def rowW (ks : List Int) (w : Int) : PyData → Str
  | .tuple ps => if ¬ ((ps.length : Int) = w ∧ ps.all isTupB = true) then "row" else
      if ¬ (ps.flatMap partsD).all (goodI ks) = true then "item" else
      if ((((ps.flatMap partsD).filter (slotB ks)).length : Int) = ks.sum ∧ (ddl (((ps.flatMap partsD).filter (slotB ks)).map slotK)).length = ((ps.flatMap partsD).filter (slotB ks)).length) then "" else "once"
  | _ => "row"
def rowC (l : List Vv) : Cf := { cf0 with st := [.mu l] }
@[simp] theorem parts_tup {xs : List PyData} : partsD (.tuple xs) = xs := rfl
theorem ints_map : ∀ l : List Int, intsOf ((l.map PyData.int).map Vv.da) = some l
  | [] => rfl
  | a :: l => by simp only [List.map_cons, intsOf, ints_map l]; rfl
theorem slot_key {ks : List Int} {x : PyData} (h : slotB ks x = true) : ∃ ds, x = .tuple ds ∧ intsD ds = some (slotK x) := by
  unfold slotB at h
  split at h
  · exact ⟨_, rfl, rfl⟩
  · cases h
theorem slots_key {ks : List Int} : ∀ {l : List PyData}, (∀ x ∈ l, slotB ks x = true) → tupsOf (l.map Vv.da) = some (l.map slotK)
  | [], _ => rfl
  | x :: l, h => by
    obtain ⟨ds, rfl, h1⟩ := slot_key (h x (by simp))
    have h3 : tupsOf (l.map Vv.da) = some (l.map slotK) := slots_key fun y hy => h y (List.mem_cons_of_mem _ hy)
    simp only [List.map_cons, tupsOf, h1, h3]
    rfl
theorem slots_len {ks : List Int} {l : List PyData} (h : ∀ x ∈ l, slotB ks x = true) (hz : l.length < 64) : pLenSet (l.map Vv.da) = some (ddl (l.map slotK)).length := by
  cases l with
  | nil => rfl
  | cons x l =>
    have h1 := slots_key h
    obtain ⟨ds, rfl, h2⟩ := slot_key (h x (by simp))
    unfold pLenSet
    rw [show intsOf ((PyData.tuple ds :: l).map Vv.da) = none from rfl]
    simp only [h1]
    rw [if_pos (by simpa using hz)]
theorem row_len {l : List Vv} : pLen [.ref 0] (rowC l) = some (.da (.int l.length), rowC l) := rfl
theorem row_sum {c : Cf} {l : List Int} : pSum [.da (.list (l.map .int))] c = some (.da (.int l.sum), c) := by
  simp only [pSum, pOfInts, lsOf, Option.bind_some, ints_map]
  rfl
theorem row_app {l : List Vv} {w : Vv} (h : l.length < 100000) : pAppend (.ref 0) [w] (rowC l) = some (.da .none, rowC (l ++ [w])) := by
  show (if l.length < 100000 then _ else _) = _
  rw [if_pos h]
  rfl
theorem row_ls {l : List Vv} : lsOf (rowC l) (.ref 0) = some l := rfl
theorem row_isL {l : List Vv} : isL (.ref 0) (rowC l) = true := rfl
theorem slot_word {ks : List Int} {y : PyData} (h : slotB ks y = false) : goodI ks y = isWordB y := by simp [goodI, h]
theorem row_ok {ks : List Int} {w : Int} {d : PyData} (hd : smD d = true) (hk : ks.sum < 64 ∨ 100000 < ks.sum) (hz : ((partsD d).flatMap partsD).length ≤ 99999) : m__wrong_row [.list (ks.map .int), .int w, d] = .ok (.str (rowW ks w d)) := by
  refine Res.eq (fQ_post rfl ?_)
  cases d with
  | dict _ => simp [smD] at hd
  | tuple ps =>
    have hs : ∀ x ∈ ps, smD x = true := smA_all.mp (by simpa [smD] using hd)
    simp [mb__wrong_row, kindOf, pTru, truth, isTup, boolOf, endF, pLen, pEq, eqv_ii, fzL]
    by_cases hw : (ps.length : Int) = w
    case neg => simp [hw, rowW]
    simp only [hw, if_true]
    refine q_ForL ps .da (fun pre s c => c = cf0 ∧ (∃ u, s = [some (.da (.list (ks.map .int))), some (.da (.int w)), some (.da (.tuple ps)), u, none, none]) ∧ pre.all isTupB = true) ?_ ?_ ?_
    · refine q_ItW ?_
      simp [itemsOf]
      intro g hg _ _
      exact hg _
    · intro pre x post s c e h
      obtain ⟨rfl, ⟨u, rfl⟩, hp⟩ := h
      have hx := hs x (by rw [e]; simp)
      have hm : x ∈ ps := by rw [e]; simp
      have hF : isTupB x = false → rowW ks w (.tuple ps) = "row" := fun h => by
        refine if_pos ?_
        rintro ⟨_, h2⟩
        rw [List.all_eq_true.mp h2 x hm] at h
        cases h
      clear e
      cases x with
      | dict _ => simp [smD] at hx
      | tuple xs =>
        simp [kindOf, isTup, pTru, truth]
        exact ⟨by simpa using hp, rfl⟩
      | _ =>
        simp [kindOf, isTup, pTru, truth, hF rfl]
        try rfl
    · intro s c h
      obtain ⟨rfl, ⟨u, rfl⟩, hp⟩ := h
      simp
      refine q_ForL ps .da (fun pre s c => c = rowC (((pre.flatMap partsD).filter (slotB ks)).map .da) ∧ (∃ u v, s = [some (.da (.list (ks.map .int))), some (.da (.int w)), some (.da (.tuple ps)), u, some (.ref 0), v]) ∧ (pre.flatMap partsD).all (goodI ks) = true) ?_ ?_ ?_
      · refine q_ItW ?_
        simp [itemsOf]
        exact fun g hg => ⟨fun _ _ _ _ _ _ => hg _, rfl, rfl⟩
      · intro pre x post s c e h
        obtain ⟨rfl, ⟨u, v, rfl⟩, hg0⟩ := h
        obtain ⟨xs, rfl⟩ : ∃ xs, x = .tuple xs := by
          have := List.all_eq_true.mp hp x (by rw [e]; simp)
          cases x <;> simp [isTupB] at this
          exact ⟨_, rfl⟩
        have hx : ∀ y ∈ xs, smD y = true := smA_all.mp (by simpa [smD] using hs (.tuple xs) (by rw [e]; simp))
        simp
        refine q_ForL xs .da (fun pre2 s c => c = rowC (((pre.flatMap partsD ++ pre2).filter (slotB ks)).map .da) ∧ (∃ v, s = [some (.da (.list (ks.map .int))), some (.da (.int w)), some (.da (.tuple ps)), some (.da (.tuple xs)), some (.ref 0), v]) ∧ (pre.flatMap partsD ++ pre2).all (goodI ks) = true) ?_ ?_ ?_
        · refine q_ItW ?_
          simp [itemsOf]
          exact fun g hg => ⟨fun _ _ _ => hg _, by simpa using hg0⟩
        · intro pre2 y post2 s c e2 h
          obtain ⟨rfl, ⟨v, rfl⟩, hg⟩ := h
          have hy := smD_nd y (hx y (by rw [e2]; simp))
          have hL : ps.flatMap partsD = (pre.flatMap partsD ++ pre2) ++ y :: (post2 ++ post.flatMap partsD) := by rw [e, e2]; simp [partsD]
          have hlen : (((pre.flatMap partsD ++ pre2).filter (slotB ks)).map Vv.da).length < 100000 := by
            rw [List.length_map]
            have h1 := List.length_filter_le (slotB ks) (pre.flatMap partsD ++ pre2)
            have h2 := congrArg List.length hL
            rw [List.length_append] at h2
            have h3 : (ps.flatMap partsD).length ≤ 99999 := hz
            omega
          have hw1 : ∀ z, y = .str z → z.length ≤ 100000 := by
            rintro z rfl
            have := hx (.str z) (by rw [e2]; simp)
            simp [smD] at this
            omega
          have hI : goodI ks y = false → rowW ks w (.tuple ps) = "item" := fun h => by
            refine (if_neg fun h3 => h3 ⟨hw, hp⟩).trans (if_pos fun h2 => ?_)
            rw [List.all_eq_true.mp h2 y (by rw [hL]; simp)] at h
            cases h
          simp [fzL, slot_ok hy, pTru, truth]
          by_cases hsl : slotB ks y = true
          · rw [← List.map_append, ← List.filter_append]
            simp only [hsl, if_true, row_isL, row_app hlen, true_and]
            refine ⟨by simp [hsl], ?_⟩
            simp [goodI, hsl]
            simpa [goodI] using hg
          · have hsl' : slotB ks y = false := by simpa using hsl
            simp only [hsl', word_ok (noD_of hy) hw1]
            by_cases hwd : isWordB y = true
            · simp [hwd, hsl', goodI]
              simpa [goodI] using hg
            · have hwd' : isWordB y = false := by simpa using hwd
              simp [hwd', hI (by simp [goodI, hsl', hwd'])]
        · intro s c h
          obtain ⟨rfl, ⟨v, rfl⟩, hg⟩ := h
          simp
          simpa using hg
      · intro s c h
        obtain ⟨rfl, ⟨u, v, rfl⟩, hg⟩ := h
        have hR : rowW ks w (.tuple ps) = if ((((ps.flatMap partsD).filter (slotB ks)).length : Int) = ks.sum ∧ (ddl (((ps.flatMap partsD).filter (slotB ks)).map slotK)).length = ((ps.flatMap partsD).filter (slotB ks)).length) then Str.ofString "" else Str.ofString "once" := (if_neg fun h3 => h3 ⟨hw, hp⟩).trans (if_neg (fun h : ¬ _ => h hg))
        have hS : ∀ x ∈ (ps.flatMap partsD).filter (slotB ks), slotB ks x = true := fun x hx => (List.mem_filter.mp hx).2
        have hB := List.length_filter_le (slotB ks) (ps.flatMap partsD)
        have hB2 : (ps.flatMap partsD).length ≤ 99999 := hz
        rw [hR]
        generalize (ps.flatMap partsD).filter (slotB ks) = sl at hS hB
        simp [row_len, row_sum, pEq, eqv_ii, boolOf]
        by_cases h1 : (sl.length : Int) = ks.sum
        · have h2 : sl.length < 64 := by omega
          simp [h1, mLenSet, post_bind, row_ls, slots_len hS h2, row_len]
          simp [post_ok, row_len, eqv_ii]
          split
          · intro h; exact (h (by omega)).elim
          · rename_i h0; intro h; exact (h0 (by omega)).elim
        · simp [h1]
  | _ => simp [mb__wrong_row, kindOf, pTru, truth, isTup, boolOf, endF, fzL, rowW]
end PM.K06
end
section
/-! PM14: reasoning about pure code: errors caught, max with a default, how many different. -/
namespace PM
open PySem PySem.Spec PyProof.Rows L2 L2H DL
section
variable {sl sl' : Sl} {c c' : Cf} {Q : Vv → Cf → Prop} {QS : Fl → Sl → Cf → Prop} {XS : Exc → Sl → Cf → Prop} {X : Exc → Cf → Prop}
/-- a suite's end: what it leaves holds no error; slot i was the error's -/
def OutF (oi : Option Nat) (QS : Fl → Sl → Cf → Prop) : Fl → Sl → Cf → Prop := fun f s c => (plainF f = true ∧ plainS (unset oi s) = true ∧ plainC c = true) ∧ QS f (unset oi s) c
theorem postS_outC {oi : Option Nat} {r : RsS} : PostS (outC oi r) QS XS ↔ PostS r (OutF oi QS) fun _ _ _ => False := by
  cases r with
  | ok p =>
    obtain ⟨f, s, c1⟩ := p
    show PostS (if plainF f && plainS (unset oi s) && plainC c1 then _ else _) QS XS ↔ (plainF f = true ∧ plainS (unset oi s) = true ∧ plainC c1 = true) ∧ QS f (unset oi s) c1
    by_cases h : (plainF f && plainS (unset oi s) && plainC c1) = true
    · rw [if_pos h]
      simp only [Bool.and_eq_true, and_assoc] at h
      exact ⟨fun q => ⟨h, q⟩, fun q => q.2⟩
    · rw [if_neg h]
      simp only [Bool.and_eq_true, and_assoc] at h
      exact ⟨fun q => q.elim, fun q => (h q.1).elim⟩
  | ex p => exact Iff.rfl
  | bad => exact Iff.rfl
theorem postS_outX {r : RsS} : PostS (outX r) QS XS ↔ PostS r (OutF none QS) fun x s c => (plainS s = true ∧ plainC c = true) ∧ XS x s c := by
  cases r with
  | ok p =>
    obtain ⟨f, s, c1⟩ := p
    show PostS (if plainF f && plainS s && plainC c1 then _ else _) QS XS ↔ (plainF f = true ∧ plainS s = true ∧ plainC c1 = true) ∧ QS f s c1
    by_cases h : (plainF f && plainS s && plainC c1) = true
    · rw [if_pos h]
      simp only [Bool.and_eq_true, and_assoc] at h
      exact ⟨fun q => ⟨h, q⟩, fun q => q.2⟩
    · rw [if_neg h]
      simp only [Bool.and_eq_true, and_assoc] at h
      exact ⟨fun q => q.elim, fun q => (h q.1).elim⟩
  | ex p =>
    obtain ⟨f, s, c1⟩ := p
    show PostS (if plainS s && plainC c1 then _ else _) QS XS ↔ (plainS s = true ∧ plainC c1 = true) ∧ XS f s c1
    by_cases h : (plainS s && plainC c1) = true
    · rw [if_pos h]
      simp only [Bool.and_eq_true] at h
      exact ⟨fun q => ⟨h, q⟩, fun q => q.2⟩
    · rw [if_neg h]
      simp only [Bool.and_eq_true] at h
      exact ⟨fun q => q.elim, fun q => (h q.1).elim⟩
  | bad => exact Iff.rfl
@[simp ↓] theorem q_TryX {p : Str → Bool} {m ms : MS} : PostS (mTryX p m ms sl c) QS XS ↔ PostS (m sl c) QS fun x s c1 => if p x.cls = true then PostS (ms s c1) (OutF none QS) (fun x s c => (plainS s = true ∧ plainC c = true) ∧ XS x s c) else XS x s c1 := by
  unfold mTryX
  cases m sl c with
  | ok q => exact Iff.rfl
  | bad => exact Iff.rfl
  | ex q =>
    obtain ⟨x, s, c1⟩ := q
    show PostS (if p x.cls then outX (ms s c1) else .ex (x, s, c1)) QS XS ↔ if p x.cls = true then _ else _
    by_cases h : p x.cls = true
    · rw [if_pos h, if_pos h]; exact postS_outX
    · rw [if_neg h, if_neg h]; exact Iff.rfl
def Hdl (QS : Fl → Sl → Cf → Prop) : List Hn → Exc → Sl → Cf → Prop
  | [], _, _, _ => False
  | (p, none, ms) :: r, x, s, c => if p x.cls = true then PostS (ms s c) (OutF none QS) (fun _ _ _ => False) else Hdl QS r x s c
  | (p, some i, ms) :: r, x, s, c => if p x.cls = true then PostS (ms (s.set i (some (.exc x))) c) (OutF (some i) QS) (fun _ _ _ => False) else Hdl QS r x s c
@[simp] theorem hdl_nil {x : Exc} : Hdl QS [] x sl c ↔ False := Iff.rfl
@[simp] theorem hdl_n {p : Str → Bool} {ms : MS} {r : List Hn} {x : Exc} : Hdl QS ((p, none, ms) :: r) x sl c ↔ if p x.cls = true then PostS (ms sl c) (OutF none QS) (fun _ _ _ => False) else Hdl QS r x sl c := Iff.rfl
@[simp] theorem hdl_s {p : Str → Bool} {i : Nat} {ms : MS} {r : List Hn} {x : Exc} : Hdl QS ((p, some i, ms) :: r) x sl c ↔ if p x.cls = true then PostS (ms (sl.set i (some (.exc x))) c) (OutF (some i) QS) (fun _ _ _ => False) else Hdl QS r x sl c := Iff.rfl
theorem postS_noXS {r : RsS} : PostS (noXS r) QS XS ↔ PostS r QS fun _ _ _ => False := by cases r <;> exact Iff.rfl
theorem postS_hdl : ∀ (hs : List Hn) (x : Exc) (sl : Sl) (c : Cf), PostS (hdl hs x sl c) QS (fun _ _ _ => False) ↔ Hdl QS hs x sl c
  | [], x, sl, c => Iff.rfl
  | (p, none, ms) :: r, x, sl, c => by
    show PostS (if p x.cls then outC none (ms sl c) else hdl r x sl c) QS _ ↔ if p x.cls = true then _ else _
    by_cases h : p x.cls = true
    · rw [if_pos h, if_pos h]; exact postS_outC
    · rw [if_neg h, if_neg h]; exact postS_hdl r x sl c
  | (p, some i, ms) :: r, x, sl, c => by
    show PostS (if p x.cls then outC (some i) (ms (sl.set i (some (.exc x))) c) else hdl r x sl c) QS _ ↔ if p x.cls = true then _ else _
    by_cases h : p x.cls = true
    · rw [if_pos h, if_pos h]; exact postS_outC
    · rw [if_neg h, if_neg h]; exact postS_hdl r x sl c
@[simp ↓] theorem q_TryC {hs : List Hn} {m : MS} : PostS (mTryC hs m sl c) QS XS ↔ PostS (m sl c) QS fun x s c1 => Hdl QS hs x s c1 := by
  unfold mTryC
  rw [postS_noXS]
  unfold mTry
  cases m sl c with
  | ok q => exact Iff.rfl
  | bad => exact Iff.rfl
  | ex q =>
    obtain ⟨x, s, c1⟩ := q
    exact postS_hdl hs x s c1
def excOf : Vv → Option Exc
  | .exc e => some e
  | _ => none
@[simp] theorem excOf_e {e : Exc} : excOf (.exc e) = some e := rfl
@[simp ↓] theorem q_ExF {cn : Str} {k : Nat} {a : ME} : Post (mExF cn k a sl c) Q X ↔ Post (a sl c) (fun v c1 => Opt (excOf v) fun e => e.cls = cn ∧ Opt e.args[k]? fun d => Q (.da d) c1) X := by
  unfold mExF
  rw [post_bind]
  have : ∀ v c1, Post (match v with | .exc e => if e.cls = cn then (match e.args[k]? with | some d => .ok (.da d, c1) | none => .bad) else .bad | _ => .bad) Q X ↔ Opt (excOf v) fun e => e.cls = cn ∧ Opt e.args[k]? fun d => Q (.da d) c1 := by
    intro v c1
    cases v with
    | exc e =>
      show Post (if e.cls = cn then _ else _) Q X ↔ e.cls = cn ∧ _
      by_cases h : e.cls = cn
      · rw [if_pos h]
        cases e.args[k]? with
        | none => exact ⟨fun q => q.elim, fun q => q.2.elim⟩
        | some d => exact ⟨fun q => ⟨h, q⟩, fun q => q.2⟩
      · rw [if_neg h]; exact ⟨fun q => q.elim, fun q => (h q.1).elim⟩
    | _ => exact Iff.rfl
  exact ⟨fun h => h.imp (fun v c1 => (this v c1).mp) fun _ _ z => z, fun h => h.imp (fun v c1 => (this v c1).mpr) fun _ _ z => z⟩
@[simp ↓] theorem q_ExI {g : Str → Option Bool} {a : ME} : Post (mExI g a sl c) Q X ↔ Post (a sl c) (fun v c1 => Opt (excOf v) fun e => Opt (g e.cls) fun b => Q (.da (.bool b)) c1) X := by
  unfold mExI
  rw [post_bind]
  have : ∀ v c1, Post (match v with | .exc e => (match g e.cls with | some b => .ok (.da (.bool b), c1) | none => .bad) | _ => .bad) Q X ↔ Opt (excOf v) fun e => Opt (g e.cls) fun b => Q (.da (.bool b)) c1 := by
    intro v c1
    cases v with
    | exc e =>
      show Post (match g e.cls with | some b => .ok (.da (.bool b), c1) | none => .bad) Q X ↔ Opt (g e.cls) _
      cases g e.cls <;> exact Iff.rfl
    | _ => exact Iff.rfl
  exact ⟨fun h => h.imp (fun v c1 => (this v c1).mp) fun _ _ z => z, fun h => h.imp (fun v c1 => (this v c1).mpr) fun _ _ z => z⟩
def tupOf : Vv → Option (List PyData)
  | .da (.tuple ds) => some ds
  | _ => none
@[simp] theorem tupOf_t {ds : List PyData} : tupOf (.da (.tuple ds)) = some ds := rfl
@[simp ↓] theorem q_MaxDf {a b : ME} : Post (mMaxDf a b sl c) Q X ↔ Post (a sl c) (fun v c1 => Post (b sl c1) (fun w c2 => Opt (tupOf v) fun ds => Opt (intOf w) fun d => Opt (intsD ds) fun ns => Q (.da (.int ((maxI ns).getD d))) c2) X) X := by
  unfold mMaxDf
  rw [post_bind]
  have : ∀ (v w : Vv) (c2 : Cf), Post (match v, w with | .da (.tuple ds), .da (.int d) => .opt ((intsD ds).map fun ns => (.da (.int ((maxI ns).getD d)), c2)) | _, _ => .bad) Q X ↔ Opt (tupOf v) fun ds => Opt (intOf w) fun d => Opt (intsD ds) fun ns => Q (.da (.int ((maxI ns).getD d))) c2 := by
    intro v w c2
    split
    · rename_i ds d
      show Post (Rs.opt ((intsD ds).map _)) Q X ↔ Opt (intsD ds) _
      cases intsD ds <;> exact Iff.rfl
    · rename_i h
      refine ⟨fun q => q.elim, fun q => ?_⟩
      obtain ⟨ds, e1, q⟩ := opt_iff.mp q
      obtain ⟨d, e2, q⟩ := opt_iff.mp q
      unfold tupOf at e1
      unfold intOf at e2
      split at e1 <;> cases e1
      split at e2 <;> cases e2
      exact (h _ _ rfl rfl).elim
  refine ⟨fun h => h.imp (fun v c1 h => ?_) fun _ _ z => z, fun h => h.imp (fun v c1 h => ?_) fun _ _ z => z⟩
  · exact (post_bind.mp h).imp (fun w c2 h => (this v w c2).mp h) fun _ _ z => z
  · exact post_bind.mpr (h.imp (fun w c2 h => (this v w c2).mpr h) fun _ _ z => z)
@[simp ↓] theorem q_LenSet {a : ME} : Post (mLenSet a sl c) Q X ↔ Post (a sl c) (fun v c1 => Opt (lsOf c1 v) fun l => Opt (pLenSet l) fun n => Q (.da (.int n)) c1) X := by
  unfold mLenSet
  rw [post_bind]
  have : ∀ v c1, Post (Rs.opt ((lsOf c1 v).bind fun l => (pLenSet l).map fun n => (Vv.da (.int n), c1))) Q X ↔ Opt (lsOf c1 v) fun l => Opt (pLenSet l) fun n => Q (.da (.int n)) c1 := by
    intro v c1
    cases lsOf c1 v with
    | none => exact Iff.rfl
    | some l =>
      simp only [Option.bind_some, opt_s]
      cases pLenSet l <;> exact Iff.rfl
  exact ⟨fun h => h.imp (fun v c1 => (this v c1).mp) fun _ _ z => z, fun h => h.imp (fun v c1 => (this v c1).mpr) fun _ _ z => z⟩
theorem Res.eqx {r : Rs Exc PyData} {e : Exc} (h : Res r (fun _ => False) fun x => x = e) : r = .ex e := by
  cases r with
  | ok d => exact h.elim
  | ex d => rw [show d = e from h]
  | bad => exact h.elim
end
end PM
end
section
/-! K06M6: mathematics of k06: the checker. -/
namespace PM.K06
open PySem DL PM
structure Bk where
  n : Int
  st : List Int
  cs : List (Int × List Int)
def conD (p : Int × List Int) : PyData := .tuple [.int p.1, .tuple (p.2.map .int)]
def Bk.d (b : Bk) : PyData := .tuple [.int b.n, .tuple (b.st.map .int), .tuple (b.cs.map conD)]
structure Bk.Ok (b : Bk) : Prop where
  n0 : 0 ≤ b.n
  sl : b.st.length ≤ 100
  cl : b.cs.length ≤ 100
  st : startsB b.n none (b.st.map .int) = true
  cs : ∀ p ∈ b.cs, (0 ≤ p.1 ∧ p.1 < b.n) ∧ p.2.length ≤ 4 ∧ ∀ k ∈ p.2, 0 ≤ k ∧ k < b.n
theorem starts_rng {n : Int} : ∀ {l : List Int} {p : Option Int}, startsB n p (l.map .int) = true → ∀ s ∈ l, 0 ≤ s ∧ s < n
  | [], _, _, s, hs => nomatch hs
  | i :: l, p, h, s, hs => by
    simp only [List.map_cons, startsB, Bool.and_eq_true] at h
    rcases List.mem_cons.mp hs with rfl | hs
    · simpa [sortB] using h.1.1
    · exact starts_rng h.2 s hs
theorem cons_ok {n : Int} : ∀ {l : List (Int × List Int)} {k : Nat}, (∀ p ∈ l, (0 ≤ p.1 ∧ p.1 < n) ∧ p.2.length ≤ 4 ∧ ∀ k ∈ p.2, 0 ≤ k ∧ k < n) → consF n k (l.map conD) = .none
  | [], k, _ => rfl
  | p :: l, k, h => by
    obtain ⟨h1, h2, h3⟩ := h p (by simp)
    have e : conF n k (conD p) = none := by
      have e1 : sortB n (.int p.1) = true := by simp [sortB, h1]
      have e2 : decide (4 < (p.2.map PyData.int).length) = false := by simp; omega
      have e3 : (p.2.map PyData.int).all (sortB n) = true := by
        rw [List.all_eq_true]
        intro x hx
        obtain ⟨k, hk, rfl⟩ := List.mem_map.mp hx
        simp [sortB, h3 k hk]
      simp only [conD, conF, e1, e2, e3]
      rfl
    simp only [List.map_cons, consF, e]
    exact cons_ok fun q hq => h q (by simp [hq])
theorem book_none {b : Bk} (h : b.Ok) : bookF b.d = .none := by
  have h0 := h.n0
  have e1 : decide (b.n < 0) = false := by simp; omega
  have e2 : startsD b.n (.tuple (b.st.map .int)) = true := h.st
  simp only [Bk.d, bookF, e1, e2]
  exact cons_ok h.cs
def noDs : ∀ l : List Int, PyData.hasDictAll (l.map .int) = false
  | [] => rfl
  | _ :: l => by simp [PyData.hasDictAll, PyData.hasDict, noDs l]
def noDc : ∀ l : List (Int × List Int), PyData.hasDictAll (l.map conD) = false
  | [] => rfl
  | _ :: l => by simp [PyData.hasDictAll, PyData.hasDict, conD, noDs, noDc l]
theorem book_nd {b : Bk} : b.d.hasDict = false := by simp [Bk.d, PyData.hasDict, PyData.hasDictAll, noDs, noDc]
theorem lbook_ok {b : Bk} (h : b.Ok) : m_lets_book [b.d] = .ok (.int b.cs.length) := by
  refine Res.eq (fQ_post rfl ?_)
  simp [mb_lets_book, fzL, fault_ok book_nd, book_none h, pIsN, isNone, boolOf, endF]
  simp [Bk.d, pIx, pLen]
theorem lbook_bad {d : PyData} {w : Str} {k : Int} (hd : d.hasDict = false) (h : bookF d = ft w k) : m_lets_book [d] = .ex ⟨"InvalidPaper", [.int k, .str w]⟩ := by
  refine Res.eqx (fQ_post rfl ?_)
  simp [mb_lets_book, fzL, fault_ok hd, h, ft, pIsN, isNone, boolOf, endF, pIx]
end PM.K06
end
section
/-! PM15: how long and of which signs is what repr shows. -/
namespace PM
open PySem DL
mutual
/-- a bound for the length of what repr shows -/
def wtD : PyData → Nat
  | .list ds => 3 + wtA ds
  | .tuple ds => 3 + wtA ds
  | .none => 4
  | .bool _ => 5
  | .int i => (PyData.int i).shown.length
  | .str s => (PyData.str s).shown.length
  | .dict _ => 0
def wtA : List PyData → Nat
  | [] => 0
  | d :: ds => wtD d + 2 + wtA ds
end
@[simp] theorem wtA_nil : wtA [] = 0 := rfl
@[simp] theorem wtA_cons {d : PyData} {ds : List PyData} : wtA (d :: ds) = wtD d + 2 + wtA ds := rfl
@[simp] theorem wtD_tup {ds : List PyData} : wtD (.tuple ds) = 3 + wtA ds := rfl
@[simp] theorem wtD_lst {ds : List PyData} : wtD (.list ds) = 3 + wtA ds := rfl
@[simp] theorem wtD_non : wtD .none = 4 := rfl
@[simp] theorem wtD_bl {b : Bool} : wtD (.bool b) = 5 := rfl
@[simp] theorem wtA_app : ∀ {a b : List PyData}, wtA (a ++ b) = wtA a + wtA b
  | [], b => by simp
  | d :: a, b => by simp [wtA_app (a := a) (b := b)]; omega
theorem wtA_mem : ∀ {ds : List PyData} {d : PyData}, d ∈ ds → wtD d + 2 ≤ wtA ds
  | e :: ds, d, h => by
    rcases List.mem_cons.mp h with rfl | h
    · simp
    · have := wtA_mem h
      simp; omega
theorem wtA_len : ∀ {ds : List PyData}, 2 * ds.length ≤ wtA ds
  | [] => by simp
  | d :: ds => by have := wtA_len (ds := ds); simp; omega
theorem tup_len (ts : List Str) : (tupleText ts).length ≤ 3 + piled ts := by
  unfold tupleText
  rw [strLen_append, strLen_append]
  have e1 : (("(" : String) : Str).length = 1 := rfl
  have e2 : (((if ts.length == 1 then ",)" else ")" : String) : Str)).length ≤ 2 := by
    split
    · exact Nat.le_refl 2
    · exact Nat.le_succ 1
  cases ts with
  | nil =>
    have e3 : (Str.join ", " []).length = 0 := rfl
    rw [e3, e1]
    omega
  | cons t ts =>
    have := join_length_add (t :: ts) (by simp)
    rw [e1]
    omega
theorem list_len (ts : List Str) : (listText ts).length ≤ 3 + piled ts := by
  unfold listText
  rw [strLen_append]
  have e1 : (("]" : String) : Str).length = 1 := rfl
  rw [e1]
  cases ts with
  | nil => show (("[" : String) : Str).length + 1 ≤ _; exact Nat.le_trans (show 2 ≤ 3 by decide) (Nat.le_add_right _ _)
  | cons t r =>
    have h := textFrom_length_pos r 1 (("[" : Str) ++ (if (0 : Nat) > 0 then ", " else "" : String) ++ t) (Nat.succ_pos 0)
    have e : ((("[" : Str) ++ (if (0 : Nat) > 0 then ", " else "" : String) ++ t)).length = 1 + t.length := by
      rw [strLen_append, strLen_append]; rfl
    have hY : (textFrom 0 "[" (t :: r)).length = (textFrom 1 (("[" : Str) ++ (if (0 : Nat) > 0 then ", " else "" : String) ++ t) r).length := rfl
    rw [hY, h, e, piled_cons]
    omega
mutual
theorem shown_len : ∀ d : PyData, d.hasDict = false → d.shown.length ≤ wtD d
  | .none, _ => Nat.le_refl 4
  | .bool true, _ => Nat.le_succ 4
  | .bool false, _ => Nat.le_refl 5
  | .int _, _ => Nat.le_refl _
  | .str _, _ => Nat.le_refl _
  | .list ds, h => by
    have h1 := shownA_len ds (by simpa [PyData.hasDict] using h)
    have h2 := list_len (PyData.shownAll ds)
    show (listText (PyData.shownAll ds)).length ≤ 3 + wtA ds
    omega
  | .tuple ds, h => by
    have h1 := shownA_len ds (by simpa [PyData.hasDict] using h)
    have h2 := tup_len (PyData.shownAll ds)
    show (tupleText (PyData.shownAll ds)).length ≤ 3 + wtA ds
    omega
  | .dict _, h => by simp [PyData.hasDict] at h
theorem shownA_len : ∀ ds : List PyData, PyData.hasDictAll ds = false → piled (PyData.shownAll ds) ≤ wtA ds
  | [], _ => Nat.le_refl 0
  | d :: ds, h => by
    simp only [PyData.hasDictAll, Bool.or_eq_false_iff] at h
    have h1 := shown_len d h.1
    have h2 := shownA_len ds h.2
    show piled (d.shown :: PyData.shownAll ds) ≤ _
    rw [piled_cons, wtA_cons]
    omega
end
/-! ### the signs -/
theorem ok_iff {s : Str} : PyData.strOk s = true ↔ ∀ c ∈ s.cps.toList, c < 0x110000 := by
  unfold PyData.strOk
  rw [Array.all_eq_true_iff_forall_mem]
  simp
theorem ok_app {s t : Str} (h : PyData.strOk s = true) (h' : PyData.strOk t = true) : PyData.strOk (s ++ t) = true := by
  rw [ok_iff] at h h' ⊢
  intro c hc
  have e : (s ++ t).cps.toList = s.cps.toList ++ t.cps.toList := by
    show (s.cps ++ t.cps).toList = _
    simp
  rw [e] at hc
  rcases List.mem_append.mp hc with hc | hc
  · exact h c hc
  · exact h' c hc
theorem ch_lt (c : Char) : c.toNat < 0x110000 := by
  have := c.valid
  rcases this with h | h
  · exact Nat.lt_of_lt_of_le h (by decide)
  · exact h.2
theorem ok_of (s : String) : PyData.strOk (Str.ofString s) = true := by
  rw [ok_iff, Str.ofString_eq_toList]
  intro c hc
  simp only [List.mem_map] at hc
  obtain ⟨a, _, rfl⟩ := hc
  exact ch_lt a
theorem ok_join {s : Str} (hs : PyData.strOk s = true) : ∀ {ts : List Str}, (∀ t ∈ ts, PyData.strOk t = true) → PyData.strOk (Str.join s ts) = true
  | [], _ => by show PyData.strOk (⟨#[]⟩ : Str) = true; rw [ok_iff]; simp
  | [t], h => h t (by simp)
  | t :: u :: r, h => ok_app (ok_app (h t (by simp)) hs) (ok_join hs fun x hx => h x (List.mem_cons_of_mem _ hx))
theorem ok_from : ∀ {ts : List Str} {k : Nat} {a : Str}, PyData.strOk a = true → (∀ t ∈ ts, PyData.strOk t = true) → PyData.strOk (textFrom k a ts) = true
  | [], _, _, h, _ => h
  | t :: r, k, a, h, h' => by
    show PyData.strOk (textFrom (k + 1) (a ++ ((if k > 0 then ", " else "" : String) : Str) ++ t) r) = true
    exact ok_from (ok_app (ok_app h (ok_of _)) (h' t (by simp))) fun x hx => h' x (List.mem_cons_of_mem _ hx)
theorem rep_lt {q c : Nat} (hq : q < 0x110000) (hc : c < 0x110000) : ∀ k ∈ Builtin.Str.reprChar q c, k < 0x110000 := by
  have hx : ∀ (w : Nat) (k : Nat), k ∈ (List.replicate (w - ((Nat.toDigits 16 c).map Char.toNat).length) 48 ++ (Nat.toDigits 16 c).map Char.toNat) → k < 0x110000 := by
    intro w k hk
    rcases List.mem_append.mp hk with hk | hk
    · rw [List.eq_of_mem_replicate hk]; decide
    · obtain ⟨a, _, rfl⟩ := List.mem_map.mp hk
      exact ch_lt a
  have hl : ∀ (a b : Nat) (k : Nat), a < 0x110000 → b < 0x110000 → k ∈ [a, b] → k < 0x110000 := by
    intro a b k ha hb hk
    simp only [List.mem_cons, List.not_mem_nil, or_false] at hk
    rcases hk with rfl | rfl <;> assumption
  intro k hk
  unfold Builtin.Str.reprChar at hk
  dsimp only at hk
  split at hk
  · exact hl _ _ k (by decide) hc hk
  split at hk
  · exact hl _ _ k (by decide) (by decide) hk
  split at hk
  · exact hl _ _ k (by decide) (by decide) hk
  split at hk
  · exact hl _ _ k (by decide) (by decide) hk
  split at hk
  · simp only [List.mem_cons, List.not_mem_nil, or_false] at hk
    rw [hk]; exact hc
  split at hk
  · rcases List.mem_append.mp hk with hk | hk
    · exact hl _ _ k (by decide) (by decide) hk
    · exact hx _ k hk
  split at hk
  · rcases List.mem_append.mp hk with hk | hk
    · exact hl _ _ k (by decide) (by decide) hk
    · exact hx _ k hk
  · rcases List.mem_append.mp hk with hk | hk
    · exact hl _ _ k (by decide) (by decide) hk
    · exact hx _ k hk
theorem ok_rep {s : Str} (h : PyData.strOk s = true) : PyData.strOk (reprText s) = true := by
  have hq : reprQuote s < 0x110000 := by unfold reprQuote; split <;> decide
  rw [ok_iff] at h ⊢
  have go : ∀ (l : List Nat) (a : Array Nat), (∀ c ∈ l, c < 0x110000) → (∀ c ∈ a.toList, c < 0x110000) → ∀ c ∈ (l.foldl (fun out c => out ++ (Builtin.Str.reprChar (reprQuote s) c).toArray) a).toList, c < 0x110000 := by
    intro l
    induction l with
    | nil => intro a _ h; exact h
    | cons x l ih =>
      intro a h1 h2
      refine ih _ (fun c hc => h1 c (List.mem_cons_of_mem _ hc)) fun c hc => ?_
      simp only [Array.toList_append, List.mem_append] at hc
      rcases hc with hc | hc
      · exact h2 c hc
      · exact rep_lt hq (h1 x (by simp)) c (by simpa using hc)
  intro c hc
  unfold reprText at hc
  rw [← Array.foldl_toList] at hc
  simp only [Array.toList_push, List.mem_append, List.mem_singleton] at hc
  rcases hc with hc | rfl
  · exact go _ _ h (by simpa using hq) c hc
  · exact hq
mutual
/-- all texts of signs -/
def sgD : PyData → Bool
  | .str s => PyData.strOk s
  | .list ds => sgA ds
  | .tuple ds => sgA ds
  | .dict _ => false
  | _ => true
def sgA : List PyData → Bool
  | [] => true
  | d :: ds => sgD d && sgA ds
end
mutual
theorem shown_ok : ∀ d : PyData, sgD d = true → PyData.strOk d.shown = true
  | .none, _ => ok_of _
  | .bool true, _ => ok_of _
  | .bool false, _ => ok_of _
  | .int _, _ => ok_of _
  | .str s, h => ok_rep h
  | .list ds, h => by
    show PyData.strOk (textFrom 0 "[" (PyData.shownAll ds) ++ (("]" : String) : Str)) = true
    exact ok_app (ok_from (ok_of _) (shownA_ok ds h)) (ok_of _)
  | .tuple ds, h => by
    show PyData.strOk (tupleText (PyData.shownAll ds)) = true
    unfold tupleText
    exact ok_app (ok_app (ok_of _) (ok_join (ok_of _) (shownA_ok ds h))) (ok_of _)
  | .dict _, h => by cases h
theorem shownA_ok : ∀ ds : List PyData, sgA ds = true → ∀ t ∈ PyData.shownAll ds, PyData.strOk t = true
  | [], _, t, ht => by cases ht
  | d :: ds, h, t, ht => by
    have h : (sgD d && sgA ds) = true := h
    rw [Bool.and_eq_true] at h
    rcases List.mem_cons.mp (show t ∈ d.shown :: PyData.shownAll ds from ht) with rfl | ht
    · exact shown_ok d h.1
    · exact shownA_ok ds h.2 t ht
end
mutual
theorem canLay_ok : ∀ d : PyData, sgD d = true → d.canLay0 = true
  | .none, _ => rfl
  | .bool _, _ => rfl
  | .int _, _ => rfl
  | .str s, h => h
  | .list ds, h => by simpa [PyData.canLay0] using canLayA_ok ds h
  | .tuple ds, h => by simpa [PyData.canLay0] using canLayA_ok ds h
  | .dict _, h => by cases h
theorem canLayA_ok : ∀ ds : List PyData, sgA ds = true → PyData.canLayAll0 ds = true
  | [], _ => rfl
  | d :: ds, h => by
    have h : (sgD d && sgA ds) = true := h
    rw [Bool.and_eq_true] at h
    simp [PyData.canLayAll0, canLay_ok d h.1, canLayA_ok ds h.2]
end
theorem shaped_ok {d : PyData} (h : sgD d = true) (hd : d.depth ≤ 64) : SeqAt.shaped d = true := by
  unfold SeqAt.shaped
  rw [canLay_ok d h]
  simpa using hd
theorem shaped_shown {d : PyData} (h : sgD d = true) : SeqAt.shaped (.str d.shown) = true := shaped_ok (d := .str d.shown) (shown_ok d h) (by simp [PyData.depth])
end PM
end
section
/-! PM16: reasoning about pure code: while; slices. -/
namespace PM
open PySem DL
section
variable {sl sl' : Sl} {c c' : Cf} {Q : Vv → Cf → Prop} {QS : Fl → Sl → Cf → Prop} {XS : Exc → Sl → Cf → Prop} {X : Exc → Cf → Prop}
theorem q_While {mt : MT} {mb : MS} (I : Nat → Sl → Cf → Prop)
    (hs : ∀ n s c, I n s c → Post (mt s c) (fun b c1 => if b = true then PostS (mb s c1) (Turn1 (fun s2 c2 => ∃ m, m < n ∧ I m s2 c2) QS) XS else QS .nx s c1) (fun x c1 => XS x s c1)) : ∀ (k n : Nat) (s : Sl) (c : Cf), n < k → I n s c → PostS (whileF mt mb k s c) QS XS := by
  intro k
  induction k with
  | zero => intro n s c h; omega
  | succ k ih =>
    intro n s c hn h
    show PostS (bindE (mt s c) s fun b c1 => if b then turnS (mb s c1) fun sl2 c2 => whileF mt mb k sl2 c2 else .ok (.nx, s, c1)) QS XS
    rw [postS_bindE]
    refine (hs n s c h).imp (fun b c1 h1 => ?_) fun _ _ z => z
    cases b with
    | false => exact h1
    | true =>
      show PostS (turnS (mb s c1) fun sl2 c2 => whileF mt mb k sl2 c2) QS XS
      rw [turnS_post]
      refine (show PostS (mb s c1) (Turn1 (fun s2 c2 => ∃ m, m < n ∧ I m s2 c2) QS) XS from h1).imp (fun f s2 c2 h2 => ?_) fun _ _ _ z => z
      cases f with
      | nx => obtain ⟨m, hm, h3⟩ := h2; exact ih m s2 c2 (by omega) h3
      | ct => obtain ⟨m, hm, h3⟩ := h2; exact ih m s2 c2 (by omega) h3
      | bk => exact h2
      | ret v => exact h2
/-- a walk over range(n) -/
theorem walks_rng {lo : Int} {n : Nat} {c : Cf} : Walks (captured (rngV lo n)) ((List.range n).map fun i => .da (.int (lo + (i : Nat)))) c := by
  rw [walks_cap]
  refine List.ext_getElem? fun i => ?_
  by_cases h : i < n
  · rw [rngV_get h]
    simp [h]
  · have hl : (rngV lo n).length = n := by unfold rngV; rw [List.length_map, rng_len]
    rw [List.getElem?_eq_none (by omega), List.getElem?_eq_none (by simp; omega)]
theorem rngV_map {n : Nat} : rngV 0 n = (List.range n).map fun i => .da (.int (i : Nat)) := by
  have := walks_cap.mp (walks_rng (lo := 0) (n := n) (c := cf0))
  simpa using this
theorem range_cut {n : Nat} {pre : List Nat} {x : Nat} {post : List Nat} (e : List.range n = pre ++ x :: post) : x = pre.length ∧ pre.length < n := by
  have h : (List.range n)[pre.length]? = some x := by rw [e, List.getElem?_append_right (Nat.le_refl _), Nat.sub_self]; rfl
  have hl := (List.getElem?_eq_some_iff.mp h).1
  rw [List.length_range] at hl
  rw [List.getElem?_range hl] at h
  cases h
  exact ⟨rfl, hl⟩
@[simp] theorem boolOf_b {b : Bool} : boolOf (.da (.bool b)) = some b := rfl
@[simp] theorem intOf_i {i : Int} : intOf (.da (.int i)) = some i := rfl
@[simp] theorem pB2_ii {f : Int → Int → Bool} {i j : Int} : pB2 f (.da (.int i)) (.da (.int j)) c = some (.da (.bool (f i j)), c) := rfl
@[simp] theorem pNeg_i {i : Int} : pNeg (.da (.int i)) = some (.da (.int (-i))) := rfl
@[simp] theorem pTru_b {b : Bool} : pTru (.da (.bool b)) c = some b := rfl
@[simp] theorem pIx_tup {ds : List PyData} {i : Int} : pIx (.da (.tuple ds)) (.da (.int i)) c = (L2.atI ds i).map fun d => (.da d, c) := rfl
@[simp] theorem pIx_lst {ds : List PyData} {i : Int} : pIx (.da (.list ds)) (.da (.int i)) c = (L2.atI ds i).map fun d => (.da d, c) := rfl
@[simp] theorem pLen_tup {ds : List PyData} : pLen [.da (.tuple ds)] c = some (.da (.int ds.length), c) := rfl
@[simp] theorem pLen_lst {ds : List PyData} : pLen [.da (.list ds)] c = some (.da (.int ds.length), c) := rfl
theorem eqvII {i j : Int} : PyData.eqv (.int i) (.int j) = decide (i = j) := by
  rw [Bool.eq_iff_iff]; simp [PyData.eqv]
theorem eqvSS {i j : Str} : PyData.eqv (.str i) (.str j) = decide (i = j) := by
  rw [Bool.eq_iff_iff]; simp [PyData.eqv]
@[simp] theorem pEq_ii {i j : Int} : pEq false (.da (.int i)) (.da (.int j)) c = some (.da (.bool (decide (i = j))), c) := by
  simp [pEq, eqvII]
@[simp] theorem pNe_ii {i j : Int} : pEq true (.da (.int i)) (.da (.int j)) c = some (.da (.bool (!decide (i = j))), c) := by
  simp [pEq, eqvII]
theorem pEq_dd {d e : PyData} (h1 : SeqAt.shaped d = true) (h2 : SeqAt.shaped e = true) : pEq false (.da d) (.da e) c = some (.da (.bool (PyData.eqv d e)), c) := by
  simp [pEq, h1, h2]
theorem pNe_dd {d e : PyData} (h1 : SeqAt.shaped d = true) (h2 : SeqAt.shaped e = true) : pEq true (.da d) (.da e) c = some (.da (.bool (!PyData.eqv d e)), c) := by
  simp [pEq, h1, h2]
@[simp] theorem kind_tup {ds : List PyData} : kindOf (.da (.tuple ds)) = some (.tuple ds) := rfl
@[simp] theorem kind_lst {ds : List PyData} : kindOf (.da (.list ds)) = some (.list ds) := rfl
@[simp] theorem kind_int {i : Int} : kindOf (.da (.int i)) = some (.int i) := rfl
@[simp] theorem kind_str {i : Str} : kindOf (.da (.str i)) = some (.str i) := rfl
@[simp] theorem kind_bool {i : Bool} : kindOf (.da (.bool i)) = some (.bool i) := rfl
@[simp] theorem kind_none : kindOf (.da .none) = some .none := rfl
@[simp] theorem fzL_nil {f : Vv → Cf → Option (PyData × Cf)} : fzL f [] c = some ([], c) := rfl
@[simp] theorem fzL_cons {f : Vv → Cf → Option (PyData × Cf)} {v : Vv} {vs : List Vv} : fzL f (v :: vs) c = (f v c).bind fun r => (fzL f vs r.2).map fun r' => (r.1 :: r'.1, r'.2) := rfl
@[simp] theorem endF_da {d : PyData} : endF (.ret (.da d)) c = some d := by simp [endF]
@[simp] theorem endF_nx : endF .nx c = some .none := rfl
@[simp] theorem endFT_da {d : PyData} : endFT (.ret (.da d)) c = some (d, c.tp) := by simp [endFT]
end
theorem atI_G {α : Type} {ds : List α} {k : Nat} {d : α} (h : ds[k]? = some d) : L2.atI ds (k : Int) = some d := by
  have hl := (List.getElem?_eq_some_iff.mp h).1
  unfold L2.atI L2.ixN
  rw [if_pos (by omega), if_pos (by omega)]
  simpa using h
theorem cut_take {α : Type} {l : List α} {k : Nat} : cutL l none (some (k : Int)) = l.take k := by
  unfold cutL
  rw [HT.sIx_none, HT.sIx_nat]
  simp
theorem cut_drop {α : Type} {l : List α} {k : Nat} : cutL l (some (k : Int)) none = l.drop k := by
  unfold cutL
  rw [HT.sIx_none, HT.sIx_nat]
  rcases Nat.le_total k l.length with h | h
  · rw [Nat.min_eq_left h]
    exact List.take_of_length_le (by simp)
  · rw [Nat.min_eq_right h, List.drop_eq_nil_of_le (Nat.le_refl _), List.drop_eq_nil_of_le h]
    simp
theorem cut_init {α : Type} {l : List α} : cutL l none (some (-1)) = l.dropLast := by
  unfold cutL
  rw [HT.sIx_none]
  have : HT.sIx l.length l.length (some (-1)) = l.length - 1 := by
    show (if (-1 : Int) < 0 then ((-1 : Int) + (l.length : Int)).toNat else min (-1 : Int).toNat l.length) = _
    rw [if_pos (by decide)]
    omega
  rw [this, List.drop_zero, Nat.sub_zero, List.dropLast_eq_take]
end PM
end
section
/-! PM17: lists of the store. -/
namespace PM
open PySem DL
section
variable {c : Cf} {n m k : Nat} {l i j : List Vv} {v w : Vv} {d : PyData} {ds : List PyData}
@[simp] theorem app_len : (c.app l).st.length = c.st.length + 1 := by simp [Cf.app]
@[simp] theorem app_tp : (c.app l).tp = c.tp := rfl
@[simp] theorem app_sc : (c.app l).sc = c.sc := rfl
@[simp] theorem put_len : (c.put n l).st.length = c.st.length := by simp [Cf.put]
@[simp] theorem put_tp : (c.put n l).tp = c.tp := rfl
theorem st_top : (c.app l).st[c.st.length]? = some (.mu l) := by simp [Cf.app]
theorem st_old (h : n < c.st.length) : (c.app l).st[n]? = c.st[n]? := by simp [Cf.app, List.getElem?_append, h]
theorem st_put (h : n < c.st.length) : (c.put n l).st[n]? = some (.mu l) := by simp [Cf.put, h]
theorem st_put' (h : n ≠ m) : (c.put n l).st[m]? = c.st[m]? := by simp [Cf.put, List.getElem?_set, h]
theorem ls_mu (h : c.st[n]? = some (.mu l)) : lsOf c (.ref n) = some l := by unfold lsOf; simp only [h]
theorem ls_frz (h : c.st[n]? = some (.frz ds)) : lsOf c (.ref n) = some (ds.map .da) := by unfold lsOf; simp only [h]
theorem lt_mu {u : Cel} (h : c.st[n]? = some u) : n < c.st.length := (List.getElem?_eq_some_iff.mp h).1
theorem ls_top : lsOf (c.app l) (.ref c.st.length) = some l := ls_mu st_top
theorem ls_old (h : n < c.st.length) : lsOf (c.app l) (.ref n) = lsOf c (.ref n) := by unfold lsOf; simp only [st_old h]
@[simp] theorem ls_list : lsOf c (.da (.list ds)) = some (ds.map .da) := rfl
theorem isL_mu (h : c.st[n]? = some (.mu l)) : isL (.ref n) c = true := by unfold isL; rw [ls_mu h]; rfl
theorem pAdd_rr (h1 : lsOf c (.ref n) = some i) (h2 : lsOf c (.ref m) = some j) (hz : i.length + j.length ≤ 100000) : pAdd (.ref n) (.ref m) c = some (.ref c.st.length, c.app (i ++ j)) := by
  unfold pAdd
  simp only [h1, h2, if_pos hz]
theorem pAdd_rd (h1 : lsOf c (.ref n) = some i) (hz : i.length + ds.length ≤ 100000) : pAdd (.ref n) (.da (.list ds)) c = some (.ref c.st.length, c.app (i ++ ds.map .da)) := by
  unfold pAdd
  simp only [h1, ls_list, List.length_map, if_pos hz]
theorem pAdd_dr (h1 : lsOf c (.ref n) = some i) (hz : ds.length + i.length ≤ 100000) : pAdd (.da (.list ds)) (.ref n) c = some (.ref c.st.length, c.app (ds.map .da ++ i)) := by
  unfold pAdd
  simp only [h1, ls_list, List.length_map, if_pos hz]
theorem pAdd_tt {a b : List PyData} (hz : a.length + b.length ≤ 100000) : pAdd (.da (.tuple a)) (.da (.tuple b)) c = some (.da (.tuple (a ++ b)), c) := if_pos hz
theorem pAppend_mu (h : c.st[n]? = some (.mu l)) (hz : l.length < 100000) : pAppend (.ref n) [w] c = some (.da .none, c.put n (l ++ [w])) := by
  unfold pAppend muOf
  simp only [h, Option.bind_some, hz, if_true, Option.map_some]
theorem pInsert_mu (h : c.st[n]? = some (.mu l)) (hz : l.length < 100000) (hk : k < 2 ^ 40) : pInsert (.ref n) [.da (.int (k : Nat)), w] c = some (.da .none, c.put n (l.take k ++ w :: l.drop k)) := by
  have hk2 : (0 : Int) ≤ (k : Int) ∧ (k : Int) < 2 ^ 63 := ⟨by omega, by omega⟩
  unfold pInsert muOf
  simp only [h, Option.bind_some]
  rw [if_pos ⟨hz, hk2⟩]
  simp
theorem pExtend_mu {l' : List Vv} (h : c.st[n]? = some (.mu l)) (h2 : lsOf c w = some l') (hz : l.length + l'.length ≤ 100000) : pExtend (.ref n) [w] c = some (.da .none, c.put n (l ++ l')) := by
  unfold pExtend muOf
  simp only [h, Option.bind_some, h2, if_pos hz, Option.map_some]
theorem pop_eq {i : Int} : pPopAt v [.da (.int i)] c = (muOf c v).bind fun p => if -(2 ^ 63) ≤ i ∧ i < 2 ^ 63 then (seqIndex? i p.1.length).bind fun k => (p.1[k]?).bind fun w => (p.2 (p.1.eraseIdx k)).map fun c' => (w, c') else none := rfl
theorem mu_eq (h : c.st[n]? = some (.mu l)) : muOf c (.ref n) = some (l, fun l' => some (c.put n l')) := by
  unfold muOf
  simp only [h]
theorem rng63 {k : Nat} (h : k < 2 ^ 40) : -(2 ^ 63) ≤ (k : Int) ∧ (k : Int) < 2 ^ 63 := by
  have h0 : (0 : Int) ≤ 2 ^ 63 := Int.pow_nonneg (by decide)
  have h1 : (k : Int) < ((2 ^ 63 : Nat) : Int) := Int.ofNat_lt.mpr (Nat.lt_trans h (by decide))
  have h2 : ((2 ^ 63 : Nat) : Int) = 2 ^ 63 := Int.natCast_pow 2 63
  exact ⟨Int.le_trans (Int.neg_nonpos_of_nonneg h0) (Int.natCast_nonneg k), h2 ▸ h1⟩
theorem pPopAt_mu (h : c.st[n]? = some (.mu l)) (hk : l[k]? = some w) (hk2 : k < 2 ^ 40) : pPopAt (.ref n) [.da (.int (k : Nat))] c = some (w, c.put n (l.eraseIdx k)) := by
  have hl := (List.getElem?_eq_some_iff.mp hk).1
  have hs : seqIndex? (k : Int) l.length = some k := by
    have : L2.ixN l.length (k : Int) = some k := by
      unfold L2.ixN
      rw [if_pos (by omega), if_pos (by omega)]
      simp
    exact (L2.ixN_seq this).1
  have hk3 := rng63 hk2
  clear hk2
  rw [pop_eq, mu_eq h, Option.bind_some, if_pos hk3, hs, Option.bind_some, hk]
  rfl
theorem pSetL_mu (h : c.st[n]? = some (.mu l)) (hk : k < l.length) : pSetL (.ref n) (.da (.int (k : Nat))) w c = some (c.put n (l.set k w)) := by
  have : L2.ixN l.length (k : Int) = some k := by
    unfold L2.ixN
    rw [if_pos (by omega), if_pos (by omega)]
    simp
  unfold pSetL muOf
  simp only [h, Option.bind_some, this]
theorem pIx_mu (h : lsOf c (.ref n) = some l) (hk : l[k]? = some w) : pIx (.ref n) (.da (.int (k : Nat))) c = some (w, c) := by
  show ((lsOf c (.ref n)).bind fun l => (L2.atI l (k : Int)).map fun d => (d, c)) = _
  rw [h, Option.bind_some, atI_G hk]
  rfl
theorem pLen_mu (h : lsOf c (.ref n) = some l) : pLen [.ref n] c = some (.da (.int l.length), c) := by
  show ((lsOf c (.ref n)).map fun l => (Vv.da (.int l.length), c)) = _
  rw [h]
  rfl
theorem pIxLast_mu (h : lsOf c (.ref n) = some l) (hk : l.getLast? = some w) : pIx (.ref n) (.da (.int (-1))) c = some (w, c) := by
  show ((lsOf c (.ref n)).bind fun l => (L2.atI l (-1)).map fun d => (d, c)) = _
  have hl : l ≠ [] := fun e => by rw [e] at hk; cases hk
  have hp : 0 < l.length := List.length_pos_iff.mpr hl
  have : L2.atI l (-1) = some w := by
    unfold L2.atI L2.ixN
    rw [if_neg (by omega), if_pos (by omega)]
    have e1 : (-1 + (l.length : Int)).toNat = l.length - 1 := by omega
    rw [e1, Option.bind_some, ← List.getLast?_eq_getElem?]
    exact hk
  rw [h, Option.bind_some, this]
  rfl
/-- the store with one more list that stays -/
def frzC (c : Cf) (ds : List PyData) : Cf := { c with st := c.st ++ [.frz ds] }
theorem fz_app {c : Cf} {ds : List PyData} : fz fzN (.ref c.st.length) (c.app (ds.map .da)) = some (.list ds, frzC c ds) := by
  have e1 : (c.app (ds.map Vv.da)).st[c.st.length]? = some (.mu (ds.map Vv.da)) := by simp [Cf.app]
  show fz (5 + 1) _ _ = _
  unfold fz
  simp only [e1, fzL_da, Option.bind_some]
  simp [Cf.app, frzC]
/-- a list of data is frozen -/
theorem fz_mu (h : c.st[n]? = some (.mu (ds.map .da))) : fz fzN (.ref n) c = some (.list ds, { c with st := c.st.set n (.frz ds) }) := by
  show fz (5 + 1) _ _ = _
  unfold fz
  simp only [h, fzL_da, Option.bind_some]
theorem pTuple_mu (h : lsOf c (.ref n) = some (ds.map .da)) : pTuple [.ref n] c = some (.da (.tuple ds), c) := by
  show ((lsOf c (.ref n)).bind fun l => (fzL (fz fzN) l c).map fun r => (Vv.da (.tuple r.1), r.2)) = _
  rw [h, Option.bind_some, fzL_da]
  rfl
@[simp] theorem pTuple_lst : pTuple [.da (.list ds)] c = some (.da (.tuple ds), c) := by
  show ((lsOf c (.da (.list ds))).bind fun l => (fzL (fz fzN) l c).map fun r => (Vv.da (.tuple r.1), r.2)) = _
  rw [ls_list, Option.bind_some, fzL_da]
  rfl
@[simp] theorem pList_tup : pList [.da (.tuple ds)] c = some (.ref c.st.length, c.app (ds.map .da)) := rfl
@[simp] theorem pList_lst : pList [.da (.list ds)] c = some (.ref c.st.length, c.app (ds.map .da)) := rfl
theorem pList_mu (h : lsOf c (.ref n) = some l) : pList [.ref n] c = some (.ref c.st.length, c.app l) := by
  show ((lsOf c (.ref n)).map fun l => (Vv.ref c.st.length, c.app l)) = _
  rw [h]
  rfl
theorem pTru_mu (h : lsOf c (.ref n) = some l) : pTru (.ref n) c = some (!l.isEmpty) := by
  show (lsOf c (.ref n)).map _ = _
  rw [h]
  rfl
theorem ints_da : ∀ l : List Int, intsOf ((l.map PyData.int).map Vv.da) = some l
  | [] => rfl
  | a :: l => by simp only [List.map_cons, intsOf, ints_da l]; rfl
theorem pMax_mu {is : List Int} {x : Int} (h : lsOf c (.ref n) = some ((is.map PyData.int).map .da)) (hx : maxI is = some x) : pMax [.ref n] c = some (.da (.int x), c) := by
  show ((lsOf c (.ref n)).bind fun l => (intsOf l).bind fun ns => (maxI ns).map fun n => (Vv.da (.int n), c)) = _
  rw [h, Option.bind_some, ints_da, Option.bind_some, hx]
  rfl
end
end PM
end
section
/-! K06M7: mathematics of k06: lets_pieces. -/
namespace PM.K06
open PySem DL PM
def wAt (wl : List Int) (s : Int) : Int := (L2.atI wl s).getD 0
def isPieces : PyData → Bool
  | .str s => decide (s = "pieces")
  | _ => false
theorem eqv_pieces {d : PyData} : PyData.eqv d (.str "pieces") = isPieces d := by
  cases d with
  | str s => exact eqv_ss
  | _ => simp [PyData.eqv, isPieces]
/-- the first row that is wrong -/
def rowsW (wl : List Int) : Nat → List (Int × List Int) → List PyData → Option (Str × Nat)
  | k, con :: cs, r :: rs => if rowW (con.2.map (wAt wl)) (wAt wl con.1) r = "" then rowsW wl (k + 1) cs rs else some (rowW (con.2.map (wAt wl)) (wAt wl con.1) r, k)
  | _, _, _ => none
def intL : PyData → List Int
  | .tuple ds => (intsD ds).getD []
  | _ => []
/-- what is due: the word and place of the error, or the greatest width -/
def dueB (b : Bk) : PyData → (Str × Int) ⊕ Int
  | .tuple [a, w, r] => if ¬ isPieces a = true then .inl ("shape", -1) else if ¬ widthsB b.n b.st w = true then .inl ("widths", -1) else
    match r with
      | .tuple rs => if ¬ rs.length = b.cs.length then .inl ("rows", -1) else match rowsW (intL w) 0 b.cs rs with
        | some p => .inl (p.1, p.2)
        | none => .inr ((maxI (intL w)).getD 0)
      | _ => .inl ("rows", -1)
  | _ => .inl ("shape", -1)
def outP : (Str × Int) ⊕ Int → Rs Exc PyData
  | .inl (w, k) => .ex ⟨"InvalidPaper", [.int k, .str w]⟩
  | .inr m => .ok (.int m)
theorem Res.eqR {r R : Rs Exc PyData} (h : Res r (fun d => R = .ok d) fun x => R = .ex x) : r = R := by
  cases r with
  | ok d => exact Eq.symm h
  | ex d => exact Eq.symm h
  | bad => exact h.elim
theorem pos_ints : ∀ {ds : List PyData}, ds.all posB = true → ∃ wl : List Int, ds = wl.map .int ∧ ∀ w ∈ wl, 0 < w
  | [], _ => ⟨[], rfl, by simp⟩
  | d :: ds, h => by
    rw [List.all_cons, Bool.and_eq_true] at h
    obtain ⟨i, rfl, hi⟩ := pos_of h.1
    obtain ⟨wl, rfl, hw⟩ := pos_ints h.2
    exact ⟨i :: wl, rfl, by simpa using ⟨hi, hw⟩⟩
theorem intsD_map : ∀ l : List Int, intsD (l.map .int) = some l
  | [] => rfl
  | a :: l => by simp only [List.map_cons, intsD, intsD_map l]; rfl
@[simp] theorem intL_map {l : List Int} : intL (.tuple (l.map .int)) = l := by simp [intL, intsD_map]
theorem wid_inv {n : Int} {st : List Int} {d : PyData} (h : widthsB n st d = true) : ∃ wl : List Int, d = .tuple (wl.map .int) ∧ (wl.length : Int) = n ∧ ∀ w ∈ wl, 0 < w := by
  cases d with
  | tuple ds =>
    simp only [widthsB, Bool.and_eq_true, decide_eq_true_eq] at h
    obtain ⟨wl, rfl, hw⟩ := pos_ints h.1.2
    exact ⟨wl, rfl, by simpa using h.1.1, hw⟩
  | _ => cases h
theorem wAt_ix {wl : List Int} {s : Int} (h0 : 0 ≤ s) (h1 : s < wl.length) : L2.atI (wl.map PyData.int) s = some (.int (wAt wl s)) ∧ wAt wl s ∈ wl := by
  obtain ⟨k, rfl⟩ := Int.eq_ofNat_of_zero_le h0
  have hk : k < wl.length := by omega
  have e2 : L2.atI wl (k : Int) = some wl[k] := by
    unfold L2.atI L2.ixN
    rw [if_pos (by omega), if_pos (by omega)]
    simp [hk]
  have e3 : wAt wl (k : Int) = wl[k] := by unfold wAt; rw [e2]; rfl
  rw [e3]
  exact ⟨atI_nat' (by simp [hk]), List.getElem_mem hk⟩
theorem sum_rng : ∀ {ks : List Int}, (∀ k ∈ ks, 0 < k ∧ (k ≤ 15 ∨ k = 10 ^ 40)) → 0 ≤ ks.sum ∧ (ks.sum ≤ 15 * ks.length ∨ 10 ^ 40 ≤ ks.sum)
  | [], _ => by simp
  | k :: ks, h => by
    have h1 := h k (by simp)
    have h2 := sum_rng fun x hx => h x (List.mem_cons_of_mem _ hx)
    rw [List.sum_cons, List.length_cons]
    omega
/-- a thing that the checker can look at -/
structure Fit (d : PyData) : Prop where
  sm : smD d = true
  dp : d.depth ≤ 50
  wt : wtD d ≤ 90000
mutual
theorem smD_ok : ∀ d : PyData, smD d = true → sgD d = true
  | .none, _ => rfl
  | .bool _, _ => rfl
  | .int _, _ => rfl
  | .str s, h => by
    simp only [smD, Bool.and_eq_true] at h
    refine ok_iff.mpr fun c hc => ?_
    have := List.all_eq_true.mp h.1 c hc
    simp [sgnC] at this
    omega
  | .list ds, h => smA_ok ds h
  | .tuple ds, h => smA_ok ds h
  | .dict _, h => by cases h
theorem smA_ok : ∀ ds : List PyData, smA ds = true → sgA ds = true
  | [], _ => rfl
  | d :: ds, h => by
    have h : (smD d && smA ds) = true := h
    rw [Bool.and_eq_true] at h
    show (sgD d && sgA ds) = true
    rw [smD_ok d h.1, smA_ok ds h.2]
    rfl
end
theorem dep_mem : ∀ {ds : List PyData} {d : PyData}, d ∈ ds → d.depth ≤ PyData.depthAll ds
  | e :: ds, d, h => by
    simp only [PyData.depthAll]
    rcases List.mem_cons.mp h with rfl | h
    · omega
    · have := dep_mem h; omega
theorem Fit.shaped {d : PyData} (h : Fit d) : SeqAt.shaped d = true := shaped_ok (smD_ok d h.sm) (by have := h.dp; omega)
theorem Fit.item {ds : List PyData} (h : Fit (.tuple ds)) {d : PyData} (hd : d ∈ ds) : Fit d := by
  refine ⟨smA_all.mp (by simpa [smD] using h.sm) d hd, ?_, ?_⟩
  · have h1 := dep_mem hd
    have h2 := h.dp
    simp only [PyData.depth] at h2
    omega
  · have h1 := wtA_mem hd
    have h2 := h.wt
    rw [wtD_tup] at h2
    omega
theorem parts_wt : ∀ {ps : List PyData}, 2 * (ps.flatMap partsD).length ≤ wtA ps
  | [] => by simp
  | p :: ps => by
    have h1 := parts_wt (ps := ps)
    have h2 : 2 * (partsD p).length ≤ wtD p := by
      cases p with
      | tuple xs => have := wtA_len (ds := xs); simp; omega
      | _ => exact Nat.zero_le _
    simp only [List.flatMap_cons, List.length_append, wtA_cons]
    omega
theorem Fit.items {d : PyData} (h : Fit d) : ((partsD d).flatMap partsD).length ≤ 99999 := by
  cases d with
  | tuple xs =>
    have h1 := parts_wt (ps := xs)
    have h2 := h.wt
    rw [wtD_tup] at h2
    simp only [parts_tup]
    omega
  | _ => exact Nat.zero_le _
theorem zip_cut' {α : Type} {ds : List α} {pre : List (α × Nat)} {x : α × Nat} {post : List (α × Nat)} (e : ds.zipIdx = pre ++ x :: post) : ds[pre.length]? = some x.1 ∧ x.2 = pre.length ∧ ds.drop pre.length = x.1 :: ds.drop (pre.length + 1) := by
  have h : ds.zipIdx[pre.length]? = some x := by rw [e, List.getElem?_append_right (Nat.le_refl _), Nat.sub_self]; rfl
  rw [List.getElem?_zipIdx] at h
  cases q : ds[pre.length]? with
  | none => rw [q] at h; cases h
  | some d =>
    rw [q] at h
    simp at h
    subst h
    refine ⟨rfl, rfl, ?_⟩
    obtain ⟨hl, hd⟩ := List.getElem?_eq_some_iff.mp q
    rw [List.drop_eq_getElem_cons hl, hd]
theorem rowW_mem {ks : List Int} {w : Int} {d : PyData} : rowW ks w d = "" ∨ rowW ks w d = "row" ∨ rowW ks w d = "item" ∨ rowW ks w d = "once" := by
  unfold rowW
  split
  · split
    · simp
    split
    · simp
    split <;> simp
  · simp
theorem pieces_ok {b : Bk} (hb : b.Ok) {d : PyData} (T : Fit d) : m_lets_pieces [b.d, d] = outP (dueB b d) := by
  refine Res.eqR (fQ_post rfl ?_)
  simp [mb_lets_pieces, fzL, lbook_ok hb, pTru, truth, pNeg]
  have hd := T.sm
  cases d with
  | dict _ => simp [smD] at hd
  | tuple xs =>
    rcases xs with _ | ⟨a, _ | ⟨w, _ | ⟨r, _ | ⟨e, xs⟩⟩⟩⟩
    · simp [kindOf, isTup, pLen, pEq, eqv_ii, boolOf, dueB, outP]
    · simp [kindOf, isTup, pLen, pEq, eqv_ii, boolOf, dueB, outP]
    · simp [kindOf, isTup, pLen, pEq, eqv_ii, boolOf, dueB, outP]
    · have ha := T.item (d := a) (by simp)
      have hw := T.item (d := w) (by simp)
      have hr := T.item (d := r) (by simp)
      have hnd := smD_nd w hw.sm
      have hsp : SeqAt.shaped (.str "pieces") = true := shaped_ok (d := .str "pieces") (ok_of "pieces") (by simp [PyData.depth])
      simp [kindOf, isTup, pLen, pEq, eqv_ii, boolOf, pIx, ha.shaped, hsp, eqv_pieces]
      by_cases hpc : isPieces a = true
      case neg => simp [hpc, dueB, outP]
      have hwo : m__are_widths [b.d, w] = .ok (.bool (widthsB b.n b.st w)) := widths_ok hnd (starts_rng hb.st) (by have := hb.sl; omega)
      simp only [hpc, if_true, hwo, res_ok]
      by_cases hwd : widthsB b.n b.st w = true
      case neg => simp [hwd, hpc, dueB, outP]
      obtain ⟨wl, rfl, hwl, hpos⟩ := wid_inv hwd
      cases r with
      | dict _ => exact absurd (smD_nd _ hr.sm) (by simp [PyData.hasDict])
      | tuple rs =>
        simp [hwd, Bk.d]
        by_cases hrl : rs.length = b.cs.length
        case neg =>
          have : ¬ ((rs.length : Int) = b.cs.length) := by omega
          simp [this, dueB, hpc, hwd, hrl, outP, eqv_ii]
        simp [hrl, eqv_ii]
        have hdue : dueB b (.tuple [a, .tuple (wl.map .int), .tuple rs]) = match rowsW wl 0 b.cs rs with
          | some p => .inl (p.1, p.2)
          | none => .inr ((maxI wl).getD 0) := by simp [dueB, hpc, hwd, hrl]
        rw [hdue]
        clear hdue
        refine q_ForL b.cs.zipIdx (fun p => .da (.tuple [.int (p.2 : Nat), conD p.1])) (fun pre s c => (∃ u3 u4 u5 u6 u7, s = [some (.da b.d), some (.da (.tuple [a, .tuple (wl.map .int), .tuple rs])), some (.da (.tuple (wl.map .int))), u3, u4, u5, u6, u7]) ∧ rowsW wl 0 b.cs rs = rowsW wl pre.length (b.cs.drop pre.length) (rs.drop pre.length)) ?_ ?_ ?_
        · simp [mEn, post_bind, post_ok, enumV, enumD, Bk.d, List.zipIdx_map, pIx]
        · intro pre x post s c e h
          obtain ⟨⟨u3, u4, u5, u6, u7, rfl⟩, hi⟩ := h
          obtain ⟨h1, h2, h3⟩ := zip_cut' e
          obtain ⟨⟨r0, kids⟩, k⟩ := x
          simp only at h1 h2 h3
          subst h2
          obtain ⟨hc1, hc2, hc3⟩ := hb.cs _ (List.mem_of_getElem? h1)
          simp only at hc1 hc2 hc3
          have hkl : pre.length < rs.length := by rw [hrl]; exact (List.getElem?_eq_some_iff.mp h1).1
          have hrw : L2.atI rs (pre.length : Int) = some rs[pre.length] := atI_nat' (by simp [hkl])
          have hrf := hr.item (List.getElem_mem hkl)
          obtain ⟨hq1, hq2⟩ := wAt_ix hc1.1 (hwl ▸ hc1.2)
          simp [conD]
          refine q_LcMapL kids (fun i => .da (.int i)) (fun i => .da (.int (wAt wl i))) c ?_ ?_ ?_ ?_
          · refine q_ItW ?_
            simp [itemsOf]
            exact fun g hg => hg c
          · omega
          · intro i hik
            obtain ⟨hq3, _⟩ := wAt_ix (hc3 i hik).1 (hwl ▸ (hc3 i hik).2)
            simp [wipeS, pIx, hq3]
          · have em : (kids.map fun i => Vv.da (.int (wAt wl i))) = ((kids.map (wAt wl)).map PyData.int).map Vv.da := by simp
            have hsum : (kids.map (wAt wl)).sum < 64 ∨ 100000 < (kids.map (wAt wl)).sum := by
              have := sum_rng (ks := kids.map (wAt wl)) fun k hk => by
                obtain ⟨i, hi, rfl⟩ := List.mem_map.mp hk
                obtain ⟨_, hm⟩ := wAt_ix (hc3 i hi).1 (hwl ▸ (hc3 i hi).2)
                have h0 := hpos _ hm
                have h9 := smA_all.mp (by simpa [smD] using hw.sm) _ (List.mem_map.mpr ⟨_, hm, rfl⟩)
                simp [smD] at h9
                omega
              rw [List.length_map] at this
              have h10 : (100000 : Int) < 10 ^ 40 := by decide
              omega
            have hdr : rs.drop pre.length = rs[pre.length] :: rs.drop (pre.length + 1) := List.drop_eq_getElem_cons hkl
            have hro := row_ok (ks := kids.map (wAt wl)) (w := wAt wl r0) hrf.sm hsum hrf.items
            simp only [pIx, hq1, hrw, atI3_2, Option.map_some, opt_s]
            rw [em]
            simp only [fzL, fz_app, Option.bind_some, fz_da, Option.map_some, opt_s, hro, res_ok]
            rw [h3, hdr] at hi
            rw [hi]
            rcases rowW_mem (ks := kids.map (wAt wl)) (w := wAt wl r0) (d := rs[pre.length]) with h | h | h | h
            all_goals
              rw [h]
              simp only [rowsW, h]
            · rw [show pTru (.da (.str "")) (frzC c ((kids.map (wAt wl)).map .int)) = some false from rfl]
              simp
            · rw [show pTru (.da (.str "row")) (frzC c ((kids.map (wAt wl)).map .int)) = some true from rfl, if_neg (by decide +kernel)]
              simp [outP]
            · rw [show pTru (.da (.str "item")) (frzC c ((kids.map (wAt wl)).map .int)) = some true from rfl, if_neg (by decide +kernel)]
              simp [outP]
            · rw [show pTru (.da (.str "once")) (frzC c ((kids.map (wAt wl)).map .int)) = some true from rfl, if_neg (by decide +kernel)]
              simp [outP]
        · intro s c h
          obtain ⟨⟨u3, u4, u5, u6, u7, rfl⟩, hi⟩ := h
          have : rowsW wl b.cs.zipIdx.length (b.cs.drop b.cs.zipIdx.length) (rs.drop b.cs.zipIdx.length) = none := by simp [rowsW]
          rw [hi, this]
          simp [intOf, endF, intsD_map, outP]
      | _ => simp [hwd, Bk.d, dueB, hpc, outP]
    · have e3 : ¬ ((xs.length : Int) + 1 + 1 + 1 + 1 = 3) := by omega
      simp [kindOf, isTup, pLen, pEq, eqv_ii, boolOf, dueB, outP, e3]
  | _ => simp [kindOf, isTup, boolOf, dueB, outP]
end PM.K06
end
section
/-! K06M8: mathematics of k06: each slot once. -/
namespace PM.K06
open PySem DL PM
theorem ddl_le {α : Type} [DecidableEq α] : ∀ l : List α, (ddl l).length ≤ l.length
  | [] => Nat.le_refl 0
  | x :: l => by
    have := ddl_le l
    unfold ddl
    split
    · simp; omega
    · simp; omega
theorem ddl_iff {α : Type} [DecidableEq α] : ∀ {l : List α}, (ddl l).length = l.length ↔ l.Nodup
  | [] => by simp [ddl]
  | x :: l => by
    have h1 := ddl_le l
    have h2 := ddl_iff (l := l)
    unfold ddl
    rw [List.nodup_cons]
    split
    · rename_i h
      constructor
      · intro h3; simp at h3; omega
      · exact fun h3 => absurd h h3.1
    · rename_i h
      simp only [List.length_cons, Nat.add_right_cancel_iff]
      rw [h2]
      exact ⟨fun h3 => ⟨h, h3⟩, fun h3 => h3.2⟩
def told (i : Nat) (P : List (Nat × Int)) : List Int := (P.filter fun p => p.1 == i).map (·.2)
def cnt (P : List (Nat × Int)) : Nat → List Int → Int
  | _, [] => 0
  | o, _ :: ks => ((told o P).length : Int) + cnt P (o + 1) ks
@[simp] theorem told_nil {i : Nat} : told i [] = [] := rfl
theorem told_cons {i : Nat} {p : Nat × Int} {P : List (Nat × Int)} : told i (p :: P) = if p.1 = i then p.2 :: told i P else told i P := by
  unfold told
  rw [List.filter_cons]
  by_cases h : p.1 = i
  · simp [h]
  · simp [h]
theorem told_app {i : Nat} {P R : List (Nat × Int)} : told i (P ++ R) = told i P ++ told i R := by simp [told]
theorem cnt_nil : ∀ {ks : List Int} {o : Nat}, cnt [] o ks = 0
  | [], _ => rfl
  | _ :: ks, o => by simp [cnt, cnt_nil (ks := ks)]
theorem cnt_cons {p : Nat × Int} {P : List (Nat × Int)} : ∀ {ks : List Int} {o : Nat}, cnt (p :: P) o ks = cnt P o ks + if o ≤ p.1 ∧ p.1 < o + ks.length then 1 else 0
  | [], o => by
    rw [if_neg (by simp)]
    rfl
  | k :: ks, o => by
    simp only [cnt, told_cons, cnt_cons (ks := ks), List.length_cons]
    by_cases h : p.1 = o
    · rw [if_pos h, if_neg (by omega), if_pos (by omega), List.length_cons]
      omega
    · rw [if_neg h]
      by_cases h2 : o + 1 ≤ p.1 ∧ p.1 < o + 1 + ks.length
      · rw [if_pos h2, if_pos (by omega)]; omega
      · rw [if_neg h2, if_neg (by omega)]; omega
theorem cnt_len {ks : List Int} : ∀ {P : List (Nat × Int)}, (∀ p ∈ P, p.1 < ks.length) → cnt P 0 ks = P.length
  | [], _ => by rw [cnt_nil]; rfl
  | p :: P, h => by
    rw [cnt_cons, cnt_len fun q hq => h q (List.mem_cons_of_mem _ hq), if_pos ⟨Nat.zero_le _, by have := h p (by simp); omega⟩, List.length_cons]
    omega
theorem cnt_eq {P : List (Nat × Int)} : ∀ {ks : List Int} {o : Nat}, (∀ i k, ks[i]? = some k → ((told (o + i) P).length : Int) ≤ k) → cnt P o ks ≤ ks.sum ∧ (cnt P o ks = ks.sum → ∀ i k, ks[i]? = some k → ((told (o + i) P).length : Int) = k)
  | [], o, _ => ⟨by simp [cnt], fun _ i k h => by simp at h⟩
  | a :: ks, o, h => by
    have h0 := h 0 a rfl
    obtain ⟨h1, h2⟩ := cnt_eq (ks := ks) (o := o + 1) fun i k hk => by
      have := h (i + 1) k (by simpa using hk)
      rw [show o + 1 + i = o + (i + 1) from by omega]
      exact this
    simp only [cnt, List.sum_cons]
    rw [Nat.add_zero] at h0
    refine ⟨by omega, fun e i k hk => ?_⟩
    cases i with
    | zero =>
      simp at hk
      rw [Nat.add_zero]
      omega
    | succ i =>
      have := h2 (by omega) i k (by simpa using hk)
      rw [show o + (i + 1) = o + 1 + i from by omega]
      exact this
theorem cnt_sum {P : List (Nat × Int)} : ∀ {ks : List Int} {o : Nat}, (∀ i k, ks[i]? = some k → ((told (o + i) P).length : Int) = k) → cnt P o ks = ks.sum
  | [], o, _ => by simp [cnt]
  | a :: ks, o, h => by
    have h0 := h 0 a rfl
    have h1 := cnt_sum (ks := ks) (o := o + 1) fun i k hk => by
      have := h (i + 1) k (by simpa using hk)
      rw [show o + 1 + i = o + (i + 1) from by omega]
      exact this
    simp only [cnt, List.sum_cons]
    rw [Nat.add_zero] at h0
    omega
theorem nodup_le : ∀ (m : Nat) {l : List Int}, l.Nodup → (∀ x ∈ l, 0 ≤ x ∧ x < m) → l.length ≤ m
  | 0, l, _, h => by
    cases l with
    | nil => exact Nat.le_refl 0
    | cons x l => have := h x (by simp); omega
  | m + 1, l, hn, h => by
    by_cases hm : (m : Int) ∈ l
    · have h1 := nodup_le m (hn.erase (m : Int)) fun x hx => by
        rw [hn.mem_erase_iff] at hx
        have := h x hx.2
        have := hx.1
        omega
      rw [List.length_erase_of_mem hm] at h1
      omega
    · have h1 := nodup_le m hn fun x hx => by
        have := h x hx
        have h3 : x ≠ (m : Int) := fun e => hm (e ▸ hx)
        omega
      omega
theorem told_nodup {P : List (Nat × Int)} (h : P.Nodup) (i : Nat) : (told i P).Nodup := by
  unfold told
  rw [List.Nodup, List.pairwise_map]
  have h1 : (P.filter fun p => p.1 == i).Nodup := h.filter _
  refine List.Pairwise.imp_of_mem ?_ h1
  intro a b ha hb hne e
  have h2 := (List.mem_filter.mp ha).2
  have h3 := (List.mem_filter.mp hb).2
  simp only [beq_iff_eq] at h2 h3
  exact hne (Prod.ext (h2.trans h3.symm) e)
theorem mem_told {P : List (Nat × Int)} {i : Nat} {x : Int} : x ∈ told i P ↔ (i, x) ∈ P := by
  unfold told
  rw [List.mem_map]
  constructor
  · rintro ⟨⟨a, y⟩, hp, rfl⟩
    obtain ⟨h1, h2⟩ := List.mem_filter.mp hp
    simp only [beq_iff_eq] at h2
    exact h2 ▸ h1
  · intro h
    exact ⟨(i, x), List.mem_filter.mpr ⟨h, by simp⟩, rfl⟩
theorem nodup_told : ∀ {P : List (Nat × Int)}, (∀ i, (∃ x, (i, x) ∈ P) → (told i P).Nodup) → P.Nodup
  | [], _ => List.nodup_nil
  | p :: P, h => by
    rw [List.nodup_cons]
    constructor
    · intro hp
      have := h p.1 ⟨p.2, by simp⟩
      rw [told_cons, if_pos rfl, List.nodup_cons] at this
      exact this.1 (mem_told.mpr hp)
    · refine nodup_told fun i hi => ?_
      obtain ⟨x, hx⟩ := hi
      have := h i ⟨x, List.mem_cons_of_mem _ hx⟩
      rw [told_cons] at this
      split at this
      · exact (List.nodup_cons.mp this).2
      · exact this
/-- each slot once: by all of them, or kid by kid -/
theorem once_iff {ks : List Int} {P : List (Nat × Int)} (hp : ∀ k ∈ ks, 0 ≤ k) (h : ∀ p ∈ P, ∃ k, ks[p.1]? = some k ∧ 0 ≤ p.2 ∧ p.2 < k) : ((P.length : Int) = ks.sum ∧ P.Nodup) ↔ ∀ i k, ks[i]? = some k → ((told i P).length : Int) = k ∧ (told i P).Nodup := by
  have hl : ∀ p ∈ P, p.1 < ks.length := fun p hp => by
    obtain ⟨k, h1, _⟩ := h p hp
    exact (List.getElem?_eq_some_iff.mp h1).1
  constructor
  · rintro ⟨h1, h2⟩
    have hle : ∀ i k, ks[i]? = some k → ((told (0 + i) P).length : Int) ≤ k := fun i k hk => by
      rw [Nat.zero_add]
      by_cases hk0 : 0 ≤ k
      · obtain ⟨m, rfl⟩ := Int.eq_ofNat_of_zero_le hk0
        have := nodup_le m (told_nodup h2 i) fun x hx => by
          obtain ⟨k', h3, h4⟩ := h _ (mem_told.mp hx)
          rw [hk] at h3
          cases h3
          exact h4
        omega
      · exact absurd (hp k (List.mem_of_getElem? hk)) hk0
    intro i k hk
    have := (cnt_eq hle).2 (by rw [cnt_len hl, h1]) i k hk
    rw [Nat.zero_add] at this
    exact ⟨this, told_nodup h2 i⟩
  · intro h1
    refine ⟨?_, nodup_told fun i hi => ?_⟩
    · rw [← cnt_len hl]
      exact cnt_sum fun i k hk => by rw [Nat.zero_add]; exact (h1 i k hk).1
    · obtain ⟨x, hx⟩ := hi
      obtain ⟨k, hk, _⟩ := h _ hx
      exact (h1 i k hk).2
end PM.K06
end
section
/-! K06M9: mathematics of k06: the law's own rows. -/
namespace PM.K06
open PySem DL PM
theorem sgn_word {s : Str} (h : smD (.str s) = true) : isWordB (.str s) = (decide (1 ≤ s.length) && decide (s.length ≤ 16) && !decide (32 ∈ s.cps.toList) && !decide (39 ∈ s.cps.toList)) := by
  simp only [smD, Bool.and_eq_true, decide_eq_true_eq] at h
  simp only [isWordB]
  have : s.cps.toList.all wordC = (!decide (32 ∈ s.cps.toList) && !decide (39 ∈ s.cps.toList)) := by
    have h1 := h.1
    revert h1
    generalize s.cps.toList = l
    clear h
    induction l with
    | nil => intro _; rfl
    | cons k l ih =>
      intro h
      rw [List.all_cons, Bool.and_eq_true] at h
      have ih := ih h.2
      have hk : wordC k = (!decide (32 = k) && !decide (39 = k)) := by
        have h1 := h.1
        simp only [sgnC, Bool.and_eq_true, decide_eq_true_eq, Bool.not_eq_true', decide_eq_false_iff_not] at h1
        rw [Bool.eq_iff_iff]
        simp [wordC]
        omega
      rw [List.all_cons, ih, hk]
      rw [Bool.eq_iff_iff]
      simp only [Bool.and_eq_true, Bool.not_eq_true', decide_eq_false_iff_not, List.mem_cons, not_or]
      constructor
      · rintro ⟨⟨a, b⟩, c, d⟩; exact ⟨⟨a, c⟩, b, d⟩
      · rintro ⟨⟨a, c⟩, b, d⟩; exact ⟨⟨a, b⟩, c, d⟩
  rw [this, Bool.and_assoc, Bool.and_assoc, Bool.and_assoc]
theorem lword_ok {s : Str} (h : smD (.str s) = true) : m__law_is_word [.str s] = .ok (.bool (isWordB (.str s))) := by
  refine Res.eq (fQ_post rfl ?_)
  have hl : s.length ≤ 100 := by
    simp only [smD, Bool.and_eq_true, decide_eq_true_eq] at h
    exact h.2
  rw [sgn_word h]
  have e1 : (Str.ofString " ").length = 1 := rfl
  have e2 : (Str.ofString "'").length = 1 := rfl
  have e3 : (Str.ofString " ").cps = #[32] := by decide +kernel
  have e4 : (Str.ofString "'").cps = #[39] := by decide +kernel
  have hl2 : s.length ≤ 100000 := by omega
  simp [mb__law_is_word, pLen, hl2, pB2, boolOf, pIn, e1, e2, e3, e4, endF]
  by_cases h1 : 1 ≤ s.length
  · by_cases h2 : s.length ≤ 16
    · have i1 : (1 : Int) ≤ (s.length : Int) := by omega
      have i2 : (s.length : Int) ≤ 16 := by omega
      simp [h1, h2, i1, i2]
      by_cases a : 32 ∈ s.cps <;> simp [a]
    · have i1 : (1 : Int) ≤ (s.length : Int) := by omega
      have i2 : ¬ (s.length : Int) ≤ 16 := by omega
      simp [h1, h2, i1, i2]
  · have i1 : ¬ (1 : Int) ≤ (s.length : Int) := by omega
    simp [h1, i1]
/-- a slot as a pair -/
def pairOf : PyData → Nat × Int
  | .tuple [.int i, .int j] => (i.toNat, j)
  | _ => (0, 0)
theorem slot_inv {ks : List Int} {x : PyData} (h : slotB ks x = true) : ∃ (a : Nat) (j k : Int), x = .tuple [.int a, .int j] ∧ ks[a]? = some k ∧ 0 ≤ j ∧ j < k := by
  unfold slotB at h
  split at h
  · rename_i i j
    simp only [Bool.and_eq_true, decide_eq_true_eq] at h
    obtain ⟨⟨⟨h1, h2⟩, h3⟩, h4⟩ := h
    obtain ⟨a, rfl⟩ := Int.eq_ofNat_of_zero_le h1
    have ha : a < ks.length := by omega
    have e2 : L2.atI ks (a : Int) = some ks[a] := by
      unfold L2.atI L2.ixN
      rw [if_pos (by omega), if_pos (by omega)]
      simp [ha]
    rw [e2] at h4
    exact ⟨a, j, ks[a], rfl, by simp [ha], h2, by simpa using h4⟩
  · cases h
theorem slots_pair {ks : List Int} : ∀ {sl : List PyData}, (∀ x ∈ sl, slotB ks x = true) → sl.map slotK = (sl.map pairOf).map fun p => [(p.1 : Int), p.2]
  | [], _ => rfl
  | x :: sl, h => by
    obtain ⟨a, j, k, rfl, _⟩ := slot_inv (h x (by simp))
    have := slots_pair fun y hy => h y (List.mem_cons_of_mem _ hy)
    simp only [List.map_cons, this]
    simp [slotK, pairOf]
theorem once_row {ks : List Int} (hp : ∀ k ∈ ks, 0 ≤ k) {sl : List PyData} (h : ∀ x ∈ sl, slotB ks x = true) : ((sl.length : Int) = ks.sum ∧ (ddl (sl.map slotK)).length = sl.length) ↔ ∀ i k, ks[i]? = some k → ((told i (sl.map pairOf)).length : Int) = k ∧ (told i (sl.map pairOf)).Nodup := by
  have h1 : ∀ p ∈ sl.map pairOf, ∃ k, ks[p.1]? = some k ∧ 0 ≤ p.2 ∧ p.2 < k := by
    intro p hm
    obtain ⟨x, hx, rfl⟩ := List.mem_map.mp hm
    obtain ⟨a, j, k, rfl, h2, h3⟩ := slot_inv (h x hx)
    exact ⟨k, by simpa [pairOf] using h2, h3⟩
  rw [← once_iff hp h1, List.length_map]
  have e1 : (sl.map slotK).length = sl.length := List.length_map _
  rw [← e1, ddl_iff, slots_pair h, List.Nodup, List.pairwise_map]
  constructor
  · rintro ⟨a, b⟩
    refine ⟨by simpa using a, b.imp fun {p q} h3 h4 => h3 (by rw [h4])⟩
  · rintro ⟨a, b⟩
    refine ⟨by simpa using a, b.imp fun {p q} h3 h4 => h3 ?_⟩
    simp only [List.cons.injEq, and_true] at h4
    exact Prod.ext (by omega) h4.2
/-- the store while a row is looked at -/
def toC (bs : List Vv) (k : Nat) (P : List (Nat × Int)) : Cf := { cf0 with st := .mu bs :: (((List.range k).map fun i => .mu ((told i P).map fun j => .da (.int j))) ++ [.mu ((List.range k).map fun i => .ref (i + 1))]) }
theorem toC_ls {bs : List Vv} {k : Nat} {P : List (Nat × Int)} : lsOf (toC bs k P) (.ref (k + 1)) = some ((List.range k).map fun i => .ref (i + 1)) := by
  have : (toC bs k P).st[k + 1]? = some (.mu ((List.range k).map fun i => .ref (i + 1))) := by simp [toC, List.getElem?_append]
  unfold lsOf
  simp only [this]
theorem toC_at {bs : List Vv} {k i : Nat} {P : List (Nat × Int)} (h : i < k) : (toC bs k P).st[i + 1]? = some (.mu ((told i P).map fun j => .da (.int j))) := by
  simp [toC, List.getElem?_append, h]
theorem toC_li {bs : List Vv} {k i : Nat} {P : List (Nat × Int)} (h : i < k) : lsOf (toC bs k P) (.ref (i + 1)) = some ((told i P).map fun j => .da (.int j)) := by
  unfold lsOf
  simp only [toC_at h]
theorem toC_ix {bs : List Vv} {k i : Nat} {P : List (Nat × Int)} (h : i < k) : pIx (.ref (k + 1)) (.da (.int (i : Nat))) (toC bs k P) = some (.ref (i + 1), toC bs k P) := by
  have e2 : L2.atI ((List.range k).map fun i => Vv.ref (i + 1)) (i : Int) = some (.ref (i + 1)) := by
    unfold L2.atI L2.ixN
    rw [if_pos (by omega), if_pos (by simp; omega)]
    simp [h]
  show ((lsOf (toC bs k P) (.ref (k + 1))).bind fun l => (L2.atI l (i : Int)).map fun d => (d, toC bs k P)) = _
  rw [toC_ls, Option.bind_some, e2]
  rfl
theorem toC_app {bs : List Vv} {k i : Nat} {P : List (Nat × Int)} {j : Int} (h : i < k) (hz : P.length < 100000) : pAppend (.ref (i + 1)) [.da (.int j)] (toC bs k P) = some (.da .none, toC bs k (P ++ [(i, j)])) := by
  have hl : ((told i P).map fun j => Vv.da (.int j)).length < 100000 := by
    have : (told i P).length ≤ P.length := by
      unfold told
      rw [List.length_map]
      exact List.length_filter_le _ _
    rw [List.length_map]
    omega
  unfold pAppend muOf
  simp only [toC_at h, Option.bind_some, hl, if_true, Option.map_some]
  congr 2
  unfold Cf.put toC
  simp only [List.set_cons_succ]
  congr 2
  rw [List.set_append_left _ _ (by simpa using h)]
  congr 1
  refine List.ext_getElem? fun m => ?_
  rw [List.getElem?_set]
  by_cases hm : i = m
  · subst hm
    simp [h, told_app, told_cons]
  · by_cases hk : m < k
    · simp [hm, hk, told_app, told_cons]
    · simp [hm, hk]
end PM.K06
end
section
/-! K06M10: mathematics of k06: the law's word of a row. -/
namespace PM.K06
open PySem DL PM
def pairsOf (ks : List Int) (l : List PyData) : List (Nat × Int) := (l.filter (slotB ks)).map pairOf
theorem pairs_app {ks : List Int} {a b : List PyData} : pairsOf ks (a ++ b) = pairsOf ks a ++ pairsOf ks b := by simp [pairsOf]
theorem pairs_len {ks : List Int} {l : List PyData} : (pairsOf ks l).length ≤ l.length := by
  unfold pairsOf
  rw [List.length_map]
  exact List.length_filter_le _ _
theorem toC_len {bs : List Vv} {k : Nat} {P : List (Nat × Int)} : pLen [.ref (k + 1)] (toC bs k P) = some (.da (.int k), toC bs k P) := by
  show ((lsOf (toC bs k P) (.ref (k + 1))).map fun l => (Vv.da (.int l.length), toC bs k P)) = _
  rw [toC_ls]
  simp
theorem toC_lenI {bs : List Vv} {k i : Nat} {P : List (Nat × Int)} (h : i < k) : pLen [.ref (i + 1)] (toC bs k P) = some (.da (.int (told i P).length), toC bs k P) := by
  show ((lsOf (toC bs k P) (.ref (i + 1))).map fun l => (Vv.da (.int l.length), toC bs k P)) = _
  rw [toC_li h]
  simp
theorem atI_natG {α : Type} {ds : List α} {k : Nat} {d : α} (h : ds[k]? = some d) : L2.atI ds (k : Int) = some d := by
  have hl := (List.getElem?_eq_some_iff.mp h).1
  unfold L2.atI L2.ixN
  rw [if_pos (by omega), if_pos (by omega)]
  simpa using h
theorem lrow_ok {wl : List Int} {r0 : Int} {kids : List Int} (h0 : 0 ≤ r0 ∧ r0 < wl.length) (hk : ∀ i ∈ kids, 0 ≤ i ∧ i < wl.length) (hkl : kids.length ≤ 4) (hpos : ∀ w ∈ wl, 0 < w ∧ (w ≤ 15 ∨ w = 10 ^ 40)) {d : PyData} (T : Fit d) : m__law_row_word [conD (r0, kids), .tuple (wl.map .int), d] = .ok (.str (rowW (kids.map (wAt wl)) (wAt wl r0) d)) := by
  refine Res.eq (fQ_post rfl ?_)
  have hsm := T.sm
  obtain ⟨hq1, hq2⟩ := wAt_ix h0.1 h0.2
  have hkp : ∀ k ∈ kids.map (wAt wl), 0 ≤ k := by
    intro k hm
    obtain ⟨i, hi, rfl⟩ := List.mem_map.mp hm
    have := hpos _ (wAt_ix (hk i hi).1 (hk i hi).2).2
    omega
  generalize hks : kids.map (wAt wl) = ks at hkp ⊢
  have hksl : ks.length = kids.length := by rw [← hks, List.length_map]
  have hki : ∀ i (h : i < kids.length), L2.atI (kids.map PyData.int) (i : Int) = some (.int kids[i]) ∧ ∃ k, ks[i]? = some k ∧ L2.atI (wl.map PyData.int) kids[i] = some (.int k) := by
    intro i h
    refine ⟨atI_nat' (by simp [h]), wAt wl kids[i], by rw [← hks]; simp [h], (wAt_ix (hk _ (List.getElem_mem h)).1 (hk _ (List.getElem_mem h)).2).1⟩
  cases d with
  | dict _ => simp [smD] at hsm
  | tuple ps =>
    have hs : ∀ x ∈ ps, Fit x := fun x hx => T.item hx
    simp [mb__law_row_word, conD, kindOf, pTru, truth, isTup, boolOf, endF, pLen, pEq, eqv_ii, pIx, hq1]
    by_cases hw : (ps.length : Int) = wAt wl r0
    case neg => simp [hw, rowW]
    simp only [hw, if_true]
    refine q_LcMapL ps .da (fun d => .da (.bool (isTupB d))) cf0 ?_ ?_ ?_ ?_
    · refine q_ItW ?_
      simp [itemsOf]
      exact fun g hg => hg _
    · have := wtA_len (ds := ps); have := T.wt; rw [wtD_tup] at this; omega
    · intro x hx
      have := (hs x hx).sm
      cases x with
      | dict _ => simp [smD] at this
      | _ => simp [wipeS, kindOf, isTup, isTupB]
    · simp only [pAll, pOfBools, lsOf, Cf.app, List.getElem?_concat_length]
      simp [bools_map]
      by_cases hp : ps.all isTupB = true
      case neg =>
        rw [if_neg fun h => hp (List.all_eq_true.mpr h)]
        exact (if_pos fun h => hp h.2).symm
      rw [if_pos (List.all_eq_true.mp hp)]
      generalize (ps.map fun d => Vv.da (.bool (isTupB d))) = bs
      refine q_LcW (kids.map fun i => .da (.int i)) (fun pre acc c => acc = (List.range pre.length).map (fun i => .ref (i + 1)) ∧ c = { cf0 with st := .mu bs :: List.replicate pre.length (.mu []) }) ?_ (by simp; omega) ?_ ?_
      · refine q_ItW ?_
        simp [pIx, itemsOf, cf0]
        exact fun g hg _ => hg _
      · intro pre v post acc c e h
        obtain ⟨rfl, rfl⟩ := h
        simp [Cf.app, List.range_succ, List.replicate_succ']
      · intro acc c h
        obtain ⟨rfl, rfl⟩ := h
        have ec : Cf.app { cf0 with st := .mu bs :: List.replicate (kids.map fun i => Vv.da (.int i)).length (.mu []) } ((List.range (kids.map fun i => Vv.da (.int i)).length).map fun i => .ref (i + 1)) = toC bs kids.length [] := by
          simp [Cf.app, toC]
          rw [List.map_const', List.length_range]
        rw [ec]
        simp only [List.length_cons, List.length_replicate, List.length_map]
        refine q_ForL ps .da (fun pre s c => c = toC bs kids.length (pairsOf ks (pre.flatMap partsD)) ∧ (∃ u3 u5 u6 u7, s = [some (.da (.tuple [.int r0, .tuple (kids.map .int)])), some (.da (.tuple (wl.map .int))), some (.da (.tuple ps)), u3, some (.ref (kids.length + 1)), u5, u6, u7]) ∧ (pre.flatMap partsD).all (goodI ks) = true) ?_ ?_ ?_
        · refine q_ItW ?_
          simp [itemsOf, pairsOf]
          exact fun g hg _ _ _ _ _ _ _ _ => hg _
        · intro pre x post s c e h
          obtain ⟨rfl, ⟨u3, u5, u6, u7, rfl⟩, hg0⟩ := h
          obtain ⟨xs, rfl⟩ : ∃ xs, x = .tuple xs := by
            have := List.all_eq_true.mp hp x (by rw [e]; simp)
            cases x <;> simp [isTupB] at this
            exact ⟨_, rfl⟩
          have hx : ∀ y ∈ xs, Fit y := fun y hy => (hs (.tuple xs) (by rw [e]; simp)).item hy
          simp
          refine q_ForL xs .da (fun pre2 s c => c = toC bs kids.length (pairsOf ks (pre.flatMap partsD ++ pre2)) ∧ (∃ u5 u6 u7, s = [some (.da (.tuple [.int r0, .tuple (kids.map .int)])), some (.da (.tuple (wl.map .int))), some (.da (.tuple ps)), some (.da (.tuple xs)), some (.ref (kids.length + 1)), u5, u6, u7]) ∧ (pre.flatMap partsD ++ pre2).all (goodI ks) = true) ?_ ?_ ?_
          · refine q_ItW ?_
            simp [itemsOf]
            exact fun g hg => ⟨fun _ _ _ _ _ _ _ _ => hg _, by simpa using hg0⟩
          · intro pre2 y post2 s c e2 h
            obtain ⟨rfl, ⟨u5, u6, u7, rfl⟩, hg⟩ := h
            have hy := (hx y (by rw [e2]; simp))
            have hL : ps.flatMap partsD = (pre.flatMap partsD ++ pre2) ++ y :: (post2 ++ post.flatMap partsD) := by rw [e, e2]; simp [partsD]
            have hlen : (pairsOf ks (pre.flatMap partsD ++ pre2)).length < 100000 := by
              have h1 := pairs_len (ks := ks) (l := pre.flatMap partsD ++ pre2)
              have h2 := congrArg List.length hL
              rw [List.length_append] at h2
              have h3 : (ps.flatMap partsD).length ≤ 99999 := T.items
              omega
            have hI : goodI ks y = false → rowW ks (wAt wl r0) (.tuple ps) = "item" := fun h => by
              refine (if_neg fun h3 => h3 ⟨hw, hp⟩).trans (if_pos fun h2 => ?_)
              rw [List.all_eq_true.mp h2 y (by rw [hL]; simp)] at h
              cases h
            have hbad : slotB ks y = false → isWordB y = false → rowW ks (wAt wl r0) (.tuple ps) = "item" := fun h h' => hI (by simp [goodI, h, h'])
            have hsmy := hy.sm
            simp
            cases y with
            | dict _ => simp [smD] at hsmy
            | str z =>
              have hww := lword_ok hsmy
              simp [kindOf, pTru, truth, isStr, fzL, hww]
              by_cases hz : isWordB (.str z) = true
              · have hsf : slotB ks (.str z) = false := rfl
                simp [hz, goodI, hsf, pairsOf]
                simpa [goodI] using hg
              · have hz' : isWordB (.str z) = false := by simpa using hz
                simp [hz', hbad rfl hz']
            | tuple ds =>
              rcases ds with _ | ⟨a, _ | ⟨b, _ | ⟨cc, r⟩⟩⟩
              · simp [kindOf, pTru, truth, isStr, isTup, pLen, pEq, eqv_ii, boolOf, hbad (by simp [slotB]) rfl]
              · simp [kindOf, pTru, truth, isStr, isTup, pLen, pEq, eqv_ii, boolOf, hbad (by simp [slotB]) rfl]
              · have ha := noD_of (smD_nd _ (hy.item (d := a) (by simp)).sm)
                have hb := noD_of (smD_nd _ (hy.item (d := b) (by simp)).sm)
                simp [kindOf, pTru, truth, isStr, isTup, pLen, pEq, eqv_ii, boolOf, pIx, fzL, whole_ok' ha, whole_ok' hb]
                cases a with
                | int i =>
                  cases b with
                  | int j =>
                    have hno : (¬ (0 ≤ i ∧ i < kids.length ∧ 0 ≤ j ∧ ∀ k, L2.atI ks i = some k → j < k)) → rowW ks (wAt wl r0) (.tuple ps) = "item" := fun h => hbad (by
                      cases hsb : slotB ks (.tuple [.int i, .int j]) with
                      | false => rfl
                      | true =>
                        obtain ⟨a, j', k, e5, h6, h7, h8⟩ := slot_inv hsb
                        simp only [PyData.tuple.injEq, List.cons.injEq, PyData.int.injEq, and_true] at e5
                        obtain ⟨rfl, rfl⟩ := e5
                        have := (List.getElem?_eq_some_iff.mp h6).1
                        refine absurd ⟨by omega, by omega, h7, fun k' hk' => ?_⟩ h
                        rw [atI_natG h6] at hk'
                        cases hk'
                        exact h8) rfl
                    simp [isWhole, isInt, isBool, pB2, toC_ls]
                    by_cases hi0 : 0 ≤ i
                    case neg => simp [hi0, hno fun h => hi0 h.1]
                    by_cases hil : i < kids.length
                    case neg => simp [hi0, hil, hno fun h => hil h.2.1]
                    obtain ⟨i, rfl⟩ := Int.eq_ofNat_of_zero_le hi0
                    have hin : i < kids.length := by omega
                    obtain ⟨h5, k, h6, h7⟩ := hki i hin
                    by_cases hj0 : 0 ≤ j
                    case neg => simp [hil, hj0, hno fun h => hj0 h.2.2.1]
                    simp [hil, hj0, h5, h7]
                    by_cases hjk : j < k
                    case neg => simp [pB2, hjk, hno fun h => hjk (h.2.2.2 k (atI_natG h6))]
                    have hixr : L2.atI ((List.range kids.length).map fun i => Vv.ref (i + 1)) (i : Int) = some (.ref (i + 1)) := atI_natG (by simp [hin])
                    have hsb : slotB ks (.tuple [.int (i : Nat), .int j]) = true := by
                      simp only [slotB, atI_natG h6, hksl]
                      simp [hin, hj0, hjk]
                    have hisl : isL (.ref (i + 1)) (toC bs kids.length (pairsOf ks (pre.flatMap partsD ++ pre2))) = true := by
                      unfold isL
                      rw [toC_li hin]
                      rfl
                    have hpa : pairsOf ks (pre.flatMap partsD ++ (pre2 ++ [.tuple [.int (i : Nat), .int j]])) = pairsOf ks (pre.flatMap partsD ++ pre2) ++ [(i, j)] := by
                      rw [← List.append_assoc, pairs_app (b := [_])]
                      congr 1
                      simp [pairsOf, hsb, pairOf]
                    simp [pB2, hjk, toC_ls, hixr, hisl, toC_app hin hlen, hpa, goodI, hsb]
                    simpa [goodI] using hg
                  | _ => simp [isWhole, isInt, isBool, hbad rfl rfl]
                | _ => simp [isWhole, isInt, isBool, hbad rfl rfl]
              · have e3 : ¬ ((r.length : Int) + 1 + 1 + 1 = 2) := by omega
                simp [kindOf, pTru, truth, isStr, isTup, pLen, pEq, eqv_ii, boolOf, e3, hbad (by simp [slotB]) rfl]
            | _ => simp [kindOf, pTru, truth, isStr, isTup, hbad rfl rfl]
          · intro s c h
            obtain ⟨rfl, ⟨u5, u6, u7, rfl⟩, hg⟩ := h
            simp
            simpa using hg
        · intro s c h
          obtain ⟨rfl, ⟨u3, u5, u6, u7, rfl⟩, hg⟩ := h
          have hS : ∀ x ∈ (ps.flatMap partsD).filter (slotB ks), slotB ks x = true := fun x hx => (List.mem_filter.mp hx).2
          have hon := once_row hkp hS
          have hRy : (∀ i k, ks[i]? = some k → ((told i (pairsOf ks (ps.flatMap partsD))).length : Int) = k ∧ (told i (pairsOf ks (ps.flatMap partsD))).Nodup) → rowW ks (wAt wl r0) (.tuple ps) = Str.ofString "" := fun h4 =>
            (if_neg fun h3 => h3 ⟨hw, hp⟩).trans ((if_neg fun h3 => h3 hg).trans (if_pos (hon.mpr h4)))
          have hRn : (¬ ∀ i k, ks[i]? = some k → ((told i (pairsOf ks (ps.flatMap partsD))).length : Int) = k ∧ (told i (pairsOf ks (ps.flatMap partsD))).Nodup) → rowW ks (wAt wl r0) (.tuple ps) = Str.ofString "once" := fun h4 =>
            (if_neg fun h3 => h3 ⟨hw, hp⟩).trans ((if_neg fun h3 => h3 hg).trans (if_neg fun h5 => h4 (hon.mp h5)))
          have hPl : (pairsOf ks (ps.flatMap partsD)).length ≤ 99999 := Nat.le_trans pairs_len T.items
          generalize pairsOf ks (ps.flatMap partsD) = P at hPl hRy hRn
          clear hon hS
          simp
          refine q_ForL (List.range kids.length) (fun i => .da (.int (i : Nat))) (fun pre s c => c = toC bs kids.length P ∧ (∃ u3 u5 u6 u7, s = [some (.da (.tuple [.int r0, .tuple (kids.map .int)])), some (.da (.tuple (wl.map .int))), some (.da (.tuple ps)), u3, some (.ref (kids.length + 1)), u5, u6, u7]) ∧ ∀ i k, i < pre.length → ks[i]? = some k → ((told i P).length : Int) = k ∧ (told i P).Nodup) ?_ ?_ ?_
          · simp [toC_len, rngV_map]
            omega
          · intro pre x post s c e h
            obtain ⟨rfl, ⟨u3, u5, u6, u7, rfl⟩, hg⟩ := h
            obtain ⟨rfl, hlt⟩ := range_cut e
            obtain ⟨h5, k, h6, h7⟩ := hki _ hlt
            have hkr : k ≤ 15 ∨ k = 10 ^ 40 := by
              have := List.mem_of_getElem? h6
              rw [← hks] at this
              obtain ⟨i, hi, rfl⟩ := List.mem_map.mp this
              exact (hpos _ (wAt_ix (hk i hi).1 (hk i hi).2).2).2
            have htl : (told pre.length P).length ≤ P.length := by
              unfold told
              rw [List.length_map]
              exact List.length_filter_le _ _
            simp [toC_ix hlt, toC_lenI hlt, h5, h7]
            by_cases hlk : ((told pre.length P).length : Int) = k
            case neg =>
              have : ¬ ∀ i k, ks[i]? = some k → ((told i P).length : Int) = k ∧ (told i P).Nodup := fun h => hlk (h _ _ h6).1
              simp [hlk, hRn this]
            have h64 : (told pre.length P).length < 64 := by
              have h10 : (100000 : Int) < 10 ^ 40 := by decide
              omega
            have hls : pLenSet ((told pre.length P).map fun j => Vv.da (.int j)) = some (ddl (told pre.length P)).length := by
              have e9 : intsOf ((told pre.length P).map fun j => Vv.da (.int j)) = some (told pre.length P) := by
                have := ints_map (told pre.length P)
                rwa [List.map_map] at this
              unfold pLenSet
              rw [e9]
              simp only [if_pos h64]
            simp [hlk, toC_li hlt, hls]
            by_cases hd : ((ddl (told pre.length P)).length : Int) = k
            · rw [if_pos hd]
              intro i k' hi hk'
              by_cases hi2 : i < pre.length
              · exact hg i k' hi2 hk'
              · have : i = pre.length := by omega
                subst this
                rw [h6] at hk'
                cases hk'
                exact ⟨hlk, ddl_iff.mp (by omega)⟩
            · rw [if_neg hd]
              refine (hRn fun h => hd ?_).symm
              have := ddl_iff.mpr (h _ _ h6).2
              omega
          · intro s c h
            obtain ⟨rfl, ⟨u3, u5, u6, u7, rfl⟩, hg⟩ := h
            rw [List.length_range] at hg
            have : ∀ i k, ks[i]? = some k → ((told i P).length : Int) = k ∧ (told i P).Nodup := fun i k h => hg i k (by have := (List.getElem?_eq_some_iff.mp h).1; omega) h
            simp [hRy this]
  | _ => simp [mb__law_row_word, conD, kindOf, pTru, truth, isTup, boolOf, endF, rowW]
end PM.K06
end
section
/-! K06M11: mathematics of k06: what is due. -/
namespace PM.K06
open PySem DL PM
def goodW (st : List Int) (i : Nat) : PyData → Bool
  | .int v => decide (0 < v) && (!decide ((i : Int) ∈ st) || decide (v = 1))
  | _ => false
theorem wid_iff {n : Int} {st : List Int} (hst : ∀ s ∈ st, 0 ≤ s ∧ s < n) {ws : List PyData} : widthsB n st (.tuple ws) = true ↔ (ws.length : Int) = n ∧ ∀ i d, ws[i]? = some d → goodW st i d = true := by
  simp only [widthsB, Bool.and_eq_true, decide_eq_true_eq, List.all_eq_true]
  constructor
  · rintro ⟨⟨h1, h2⟩, h3⟩
    refine ⟨h1, fun i d hd => ?_⟩
    obtain ⟨v, rfl, hv⟩ := pos_of (h2 d (List.mem_of_getElem? hd))
    by_cases hi : (i : Int) ∈ st
    · have := h3 _ hi
      simp only [oneB, atI_G hd] at this
      simp only [goodW, this, hv]
      simp
    · simp [goodW, hv, hi]
  · rintro ⟨h1, h2⟩
    refine ⟨⟨h1, fun x hx => ?_⟩, fun s hs => ?_⟩
    · obtain ⟨i, hi⟩ := List.getElem?_of_mem hx
      have := h2 i x hi
      cases x <;> simp [goodW] at this
      simp [posB, this.1]
    · obtain ⟨h3, h4⟩ := hst s hs
      obtain ⟨i, rfl⟩ := Int.eq_ofNat_of_zero_le h3
      have hi : i < ws.length := by omega
      have hd : ws[i]? = some ws[i] := by simp [hi]
      have := h2 i _ hd
      simp only [oneB, atI_G hd]
      revert this
      cases ws[i] with
      | int v => simp [goodW, hs]
      | _ => simp [goodW]
def dueT : (Str × Int) ⊕ Int → PyData
  | .inl (w, k) => .tuple [.str "raised", .str w, .int k]
  | .inr m => .tuple [.str "told", .int m]
theorem flats_ints : ∀ l : List Int, flats ((l.map PyData.int).map Vv.da) = some (l.map .int)
  | [] => rfl
  | a :: l => by
    simp only [List.map_cons, flats, flats_ints l]
    rfl
theorem in_ints {i : Int} {l : List Int} {c : Cf} : pIn false (.da (.int i)) (.da (.tuple (l.map .int))) c = some (.da (.bool (decide (i ∈ l))), c) := by
  show (flatVv (.da (.int i))).bind (fun d => ((tuOf (.da (.tuple (l.map .int)))).or (lsOf c (.da (.tuple (l.map .int))))).bind fun l => (flats l).map fun ds => (Vv.da (.bool (if false then !ds.any (fun e => PyData.eqv e d) else ds.any (fun e => PyData.eqv e d))), c)) = _
  have e1 : flatVv (.da (.int i)) = some (.int i) := rfl
  have e2 : (tuOf (.da (.tuple (l.map .int)))).or (lsOf c (.da (.tuple (l.map .int)))) = some ((l.map PyData.int).map Vv.da) := rfl
  rw [e1, Option.bind_some, e2, Option.bind_some, flats_ints]
  have e3 : (l.map PyData.int).any (fun e => PyData.eqv e (.int i)) = decide (i ∈ l) := by
    rw [Bool.eq_iff_iff, List.any_map]
    simp [eqvII]
  rw [Option.map_some, e3]
  rfl
theorem max0 {wl : List Int} (h : ∀ w ∈ wl, 0 < w) : maxI (0 :: wl) = some ((maxI wl).getD 0) := by
  cases wl with
  | nil => rfl
  | cons w r =>
    have hw := h w (by simp)
    have : max 0 w = w := by omega
    show some ((w :: r).foldl max 0) = some (r.foldl max w)
    rw [List.foldl_cons, this]
theorem due_ok {b : Bk} (hb : b.Ok) {d : PyData} (T : Fit d) : m__law_due [b.d, d] = .ok (dueT (dueB b d)) := by
  refine Res.eq (fQ_post rfl ?_)
  have hd := T.sm
  simp [mb__law_due, truth]
  cases d with
  | dict _ => simp [smD] at hd
  | tuple xs =>
    rcases xs with _ | ⟨a, _ | ⟨w, _ | ⟨r, _ | ⟨e, xs⟩⟩⟩⟩
    · simp [isTup, dueB, dueT]
    · simp [isTup, dueB, dueT]
    · simp [isTup, dueB, dueT]
    · have ha := T.item (d := a) (by simp)
      have hw := T.item (d := w) (by simp)
      have hr := T.item (d := r) (by simp)
      have hnd := smD_nd w hw.sm
      have hsp : SeqAt.shaped (.str "pieces") = true := shaped_ok (d := .str "pieces") (ok_of "pieces") (by simp [PyData.depth])
      have hpcs : isPieces a = false → dueB b (.tuple [a, w, r]) = .inl ("shape", -1) := fun h => by simp [dueB, h]
      simp [isTup]
      cases a with
      | str z =>
        simp [isStr, pNe_dd ha.shaped hsp, eqv_pieces]
        by_cases hpc : isPieces (.str z) = true
        case neg => simp [hpc, hpcs, dueT]
        simp [hpc]
        have hwid : widthsB b.n b.st w = false → dueB b (.tuple [.str z, w, r]) = .inl ("widths", -1) := fun h => by simp [dueB, h, hpc]
        cases w with
        | dict _ => simp [PyData.hasDict] at hnd
        | tuple ws =>
          simp [Bk.d]
          by_cases hwl : (ws.length : Int) = b.n
          case neg => simp [hwl, hwid, dueT, widthsB]
          simp [hwl]
          have hwlen : ws.length ≤ 50000 := by
            have h1 := wtA_len (ds := ws)
            have h2 := hw.wt
            rw [wtD_tup] at h2
            omega
          have hbn : b.n = ((ws.length : Nat) : Int) := hwl.symm
          have hbad : ∀ i d, ws[i]? = some d → goodW b.st i d = false → dueB b (.tuple [.str z, .tuple ws, r]) = .inl ("widths", -1) := fun i d h1 h2 => hwid (by
            cases e : widthsB b.n b.st (.tuple ws) with
            | false => rfl
            | true =>
              have := ((wid_iff (starts_rng hb.st)).mp e).2 i d h1
              rw [h2] at this
              cases this)
          refine q_ForL (List.range ws.length) (fun i => .da (.int (i : Nat))) (fun pre s c => (∃ u3 u4 u5 u6, s = [some (.da b.d), some (.da (.tuple [.str z, .tuple ws, r])), some (.da (.tuple ws)), u3, u4, u5, u6]) ∧ ∀ i d, i < pre.length → ws[i]? = some d → goodW b.st i d = true) ?_ ?_ ?_
          · simp [hbn, rngV_map, Bk.d]
            omega
          · intro pre x post s c e h
            obtain ⟨⟨u3, u4, u5, u6, rfl⟩, hg⟩ := h
            obtain ⟨rfl, hlt⟩ := range_cut e
            have hd : ws[pre.length]? = some ws[pre.length] := by simp [hlt]
            have hx := hw.item (List.getElem_mem hlt)
            have hnx := noD_of (smD_nd _ hx.sm)
            have hbx := hbad _ _ hd
            have nxt : goodW b.st pre.length ws[pre.length] = true → ∀ i d, i < pre.length + 1 → ws[i]? = some d → goodW b.st i d = true := fun h i d hi hd' => by
              by_cases hi2 : i < pre.length
              · exact hg i d hi2 hd'
              · have : i = pre.length := by omega
                subst this
                rw [hd] at hd'
                cases hd'
                exact h
            simp [Bk.d, atI_G hd, whole_ok' hnx, in_ints]
            generalize ws[pre.length] = x at hbx nxt hx
            cases x with
            | int v =>
              simp [isWhole, isInt, isBool]
              by_cases hv : v < 1
              · have : ¬ 0 < v := by omega
                simp [hv, hbx (by simp [goodW, this]), dueT]
              · have hv0 : 0 < v := by omega
                simp [hv]
                by_cases hm : (pre.length : Int) ∈ b.st
                · by_cases h1 : v = 1
                  · subst h1
                    simp [hm]
                    exact nxt (by simp [goodW])
                  · simp [hm, h1, hbx (by simp [goodW, hm, h1]), dueT]
                · simp [hm]
                  exact nxt (by simp [goodW, hm, hv0])
            | _ => simp [isWhole, isInt, isBool, hbx rfl, dueT]
          · intro s c h
            obtain ⟨⟨u3, u4, u5, u6, rfl⟩, hg⟩ := h
            rw [List.length_range] at hg
            have hwd : widthsB b.n b.st (.tuple ws) = true := (wid_iff (starts_rng hb.st)).mpr ⟨hwl, fun i d hd => hg i d (List.getElem?_eq_some_iff.mp hd).1 hd⟩
            obtain ⟨wl, ew, hwl2, hpos⟩ := wid_inv hwd
            cases ew
            simp
            cases r with
            | dict _ => exact absurd (smD_nd _ hr.sm) (by simp [PyData.hasDict])
            | tuple rs =>
              simp [isTup, Bk.d]
              by_cases hrl : rs.length = b.cs.length
              case neg =>
                have : ¬ ((rs.length : Int) = b.cs.length) := by omega
                simp [this, dueB, hpc, hwd, hrl, dueT]
              simp [hrl]
              have hdue : dueB b (.tuple [.str z, .tuple (wl.map .int), .tuple rs]) = match rowsW wl 0 b.cs rs with
                | some p => .inl (p.1, p.2)
                | none => .inr ((maxI wl).getD 0) := by
                simp [dueB, hpc, hwd, hrl]
                try rfl
              rw [hdue]
              clear hdue hbad hwid hpcs
              have hrlen : rs.length ≤ 50000 := by
                have h1 := wtA_len (ds := rs)
                have h2 := hr.wt
                rw [wtD_tup] at h2
                omega
              have hposw : ∀ w ∈ wl, 0 < w ∧ (w ≤ 15 ∨ w = 10 ^ 40) := fun x hm => by
                have h0 := hpos _ hm
                have h9 := smA_all.mp (by simpa [smD] using hw.sm) _ (List.mem_map.mpr ⟨_, hm, rfl⟩)
                simp [smD] at h9
                omega
              generalize hmi : mRg1 _ = mi
              refine q_ForL (List.range b.cs.length) (fun i => .da (.int (i : Nat))) (fun pre s c => (∃ u3 u5 u6, s = [some (.da b.d), some (.da (.tuple [.str z, .tuple (wl.map .int), .tuple rs])), some (.da (.tuple (wl.map .int))), u3, some (.da (.tuple rs)), u5, u6]) ∧ rowsW wl 0 b.cs rs = rowsW wl pre.length (b.cs.drop pre.length) (rs.drop pre.length)) ?_ ?_ ?_
              · rw [← hmi]
                simp [hrl, rngV_map, Bk.d]
                omega
              · intro pre x post s c e h
                obtain ⟨⟨u3, u5, u6, rfl⟩, hi⟩ := h
                obtain ⟨rfl, hlt⟩ := range_cut e
                have hkl : pre.length < rs.length := by omega
                rcases hcn : b.cs[pre.length] with ⟨r0, kids⟩
                have h1 : b.cs[pre.length]? = some (r0, kids) := by rw [← hcn]; simp [hlt]
                obtain ⟨hc1, hc2, hc3⟩ := hb.cs _ (List.mem_of_getElem? h1)
                simp only at hc1 hc2 hc3
                have hcd : L2.atI (b.cs.map conD) (pre.length : Int) = some (conD (r0, kids)) := atI_G (by simp [h1])
                have hrw : L2.atI rs (pre.length : Int) = some rs[pre.length] := atI_G (by simp [hkl])
                have hro := lrow_ok (wl := wl) (r0 := r0) (kids := kids) (hwl2 ▸ hc1) (fun i hi => hwl2 ▸ hc3 i hi) hc2 hposw (hr.item (List.getElem_mem hkl))
                have hdr : rs.drop pre.length = rs[pre.length] :: rs.drop (pre.length + 1) := List.drop_eq_getElem_cons hkl
                have hdc : b.cs.drop pre.length = (r0, kids) :: b.cs.drop (pre.length + 1) := by rw [List.drop_eq_getElem_cons hlt, hcn]
                rw [hdr, hdc] at hi
                simp only [rowsW] at hi
                simp [Bk.d, hcd, hrw, hro]
                have hsh : ∀ z : String, SeqAt.shaped (.str (Str.ofString z)) = true := fun z => shaped_ok (d := .str z) (ok_of z) (by simp [PyData.depth])
                rcases rowW_mem (ks := kids.map (wAt wl)) (w := wAt wl r0) (d := rs[pre.length]) with h | h | h | h
                all_goals rw [h] at hi
                all_goals simp [h, pNe_dd, hsh, eqvSS]
                · rw [hi]
                  simp
                all_goals
                  rw [if_neg (by decide +kernel)] at hi
                  rw [if_neg (by decide +kernel), hi]
                  simp [dueT]
              · intro s c h
                obtain ⟨⟨u3, u5, u6, rfl⟩, hi⟩ := h
                have : rowsW wl (List.range b.cs.length).length (b.cs.drop (List.range b.cs.length).length) (rs.drop (List.range b.cs.length).length) = none := by simp [rowsW]
                rw [hi, this]
                have h1 : lsOf ((c.app [Vv.da (.int 0)]).app ((wl.map PyData.int).map .da)) (.ref c.st.length) = some [.da (.int 0)] := by rw [ls_old (by simp)]; exact ls_top
                have h2 : lsOf ((c.app [Vv.da (.int 0)]).app ((wl.map PyData.int).map .da)) (.ref (c.st.length + 1)) = some ((wl.map PyData.int).map .da) := by
                  have := ls_top (c := c.app [Vv.da (.int 0)]) (l := (wl.map PyData.int).map .da)
                  rwa [app_len] at this
                have hz : [Vv.da (.int 0)].length + ((wl.map PyData.int).map Vv.da).length ≤ 100000 := by
                  have h1 := wtA_len (ds := wl.map PyData.int)
                  have h2 := hw.wt
                  rw [wtD_tup] at h2
                  simp only [List.length_map, List.length_cons, List.length_nil] at h1 ⊢
                  omega
                have hm := max0 hpos
                have h3 : ([Vv.da (.int 0)] ++ (wl.map PyData.int).map Vv.da) = ((0 :: wl).map PyData.int).map .da := rfl
                have h4 := pMax_mu (ls_top (c := (c.app [Vv.da (.int 0)]).app ((wl.map PyData.int).map .da)) (l := [Vv.da (.int 0)] ++ (wl.map PyData.int).map Vv.da)) hm
                have h5 := pAdd_rr h1 h2 hz
                simp only [app_len] at h4 h5
                simp only [then_nx, q_Ret, q_Tup, q_A1, q_A0, q_CB, q_Op, q_C, q_Lst, q_V, List.getElem?_cons_zero, List.getElem?_cons_succ, opt_s, pList_tup, app_len, h5, h4]
                simp [dueT]
            | _ => simp [isTup, dueB, hpc, hwd, dueT]
        | _ => simp [isTup, hwid rfl, dueT]
      | dict _ => exact absurd ha.sm (by simp [smD])
      | _ => simp [isStr, hpcs rfl, dueT]
    · have e3 : ¬ ((xs.length : Int) + 1 + 1 + 1 + 1 = 3) := by omega
      simp [isTup, e3, dueB, dueT]
  | _ => simp [isTup, dueB, dueT]
end PM.K06
end
section
/-! PM18: the calculus from the top down (a walk's length, not its tree). -/
namespace PM
open PySem DL
section
variable {c : Cf} {d e : PyData}
@[simp] theorem fz_app0 : fz fzN (.ref c.st.length) (c.app []) = some (.list [], frzC c []) := fz_app (ds := [])
@[simp] theorem fz_app1 : fz fzN (.ref c.st.length) (c.app [.da d]) = some (.list [d], frzC c [d]) := fz_app (ds := [d])
@[simp] theorem fz_app2 : fz fzN (.ref c.st.length) (c.app [.da d, .da e]) = some (.list [d, e], frzC c [d, e]) := fz_app (ds := [d, e])
@[simp] theorem frz_len {ds : List PyData} : (frzC c ds).st.length = c.st.length + 1 := by simp [frzC]
@[simp] theorem frz_tp {ds : List PyData} : (frzC c ds).tp = c.tp := rfl
theorem fzL_app {f : Vv → Cf → Option (PyData × Cf)} : ∀ {a b : List Vv} {c : Cf}, fzL f (a ++ b) c = (fzL f a c).bind fun r => (fzL f b r.2).map fun r' => (r.1 ++ r'.1, r'.2)
  | [], b, c => by
    simp only [List.nil_append, fzL_nil, Option.bind_some]
    cases fzL f b c <;> rfl
  | v :: a, b, c => by
    simp only [List.cons_append, fzL_cons]
    cases f v c with
    | none => rfl
    | some r =>
      simp only [Option.bind_some]
      rw [fzL_app (a := a)]
      cases fzL f a r.2 with
      | none => rfl
      | some r2 =>
        simp only [Option.bind_some, Option.map_some]
        cases fzL f b r2.2 <;> rfl
theorem fz_nest {n k : Nat} {l l' : List Vv} {ds : List PyData} {c' : Cf} (h : c.st[n]? = some (.mu l)) (h1 : fzL (fz k) l c = some (ds, c')) (h2 : c'.st[n]? = some (.mu l')) : fz (k + 1) (.ref n) c = some (.list ds, { c' with st := c'.st.set n (.frz ds) }) := by
  unfold fz
  simp only [h, h1, Option.bind_some, h2]
/-- a list of data, frozen or not -/
def FzAt (c : Cf) (n : Nat) (ds : List PyData) : Prop := c.st[n]? = some (.mu (ds.map .da)) ∨ c.st[n]? = some (.frz ds)
theorem FzAt.ls {n : Nat} {ds : List PyData} (h : FzAt c n ds) : lsOf c (.ref n) = some (ds.map .da) := by
  rcases h with h | h
  · exact ls_mu h
  · exact ls_frz h
theorem FzAt.lt {n : Nat} {ds : List PyData} (h : FzAt c n ds) : n < c.st.length := by
  rcases h with h | h <;> exact lt_mu h
theorem FzAt.old {n : Nat} {ds : List PyData} {l : List Vv} (h : FzAt c n ds) : FzAt (c.app l) n ds := by
  have := h.lt
  rcases h with h | h
  · exact .inl (by rw [st_old this]; exact h)
  · exact .inr (by rw [st_old this]; exact h)
theorem FzAt.frz {n : Nat} {ds : List PyData} (h : FzAt c n ds) : ∃ c', fz fzN (.ref n) c = some (.list ds, c') ∧ c'.st[n]? = some (.frz ds) ∧ c'.tp = c.tp ∧ c'.sc = c.sc ∧ c'.st.length = c.st.length ∧ ∀ m, m ≠ n → c'.st[m]? = c.st[m]? := by
  have hl := h.lt
  rcases h with h | h
  · refine ⟨_, fz_mu h, by simp [hl], rfl, rfl, by simp, fun m hm => by simp [List.getElem?_set, Ne.symm hm]⟩
  · refine ⟨c, ?_, h, rfl, rfl, rfl, fun _ _ => rfl⟩
    show fz (5 + 1) _ _ = _
    unfold fz
    simp only [h]
end
end PM
end
section
/-! K06M12: mathematics of k06: the checker answers as is due. -/
namespace PM.K06
open PySem DL PM
mutual
theorem smD_show : ∀ d : PyData, smD d = true → d.showable = true
  | .none, _ => rfl
  | .bool _, _ => rfl
  | .int i, h => by
    simp only [smD, Bool.or_eq_true, Bool.and_eq_true, decide_eq_true_eq] at h
    simp only [PyData.showable, decide_eq_true_eq]
    rcases h with h | rfl
    · have h1 : i.natAbs ≤ 15 := by omega
      by_cases h0 : i.natAbs = 0
      · rw [h0]; decide
      · exact (Nat.log2_lt h0).mpr (Nat.lt_of_le_of_lt h1 (Nat.lt_of_lt_of_le (show 15 < 2 ^ 4 by decide) (Nat.pow_le_pow_right (by decide) (by decide))))
    · decide +kernel
  | .str s, h => rfl
  | .list ds, h => smA_show ds h
  | .tuple ds, h => smA_show ds h
  | .dict _, h => by cases h
theorem smA_show : ∀ ds : List PyData, smA ds = true → PyData.showableAll ds = true
  | [], _ => rfl
  | d :: ds, h => by
    have h : (smD d && smA ds) = true := h
    rw [Bool.and_eq_true] at h
    simp [PyData.showableAll, smD_show d h.1, smA_show ds h.2]
end
/-- a book that can be shown -/
structure BFit (b : Bk) : Prop where
  sm : smD b.d = true
  dp : b.d.depth ≤ 10
  wt : wtD b.d ≤ 9000
theorem due_word {b : Bk} {d : PyData} {w : Str} {k : Int} (h : dueB b d = .inl (w, k)) : PyData.strOk w = true := by
  unfold dueB at h
  split at h
  · split at h
    · cases h; exact ok_of _
    split at h
    · cases h; exact ok_of _
    split at h
    · split at h
      · cases h; exact ok_of _
      · split at h
        · rename_i p hp
          cases h
          have : ∀ (wl : List Int) (k : Nat) (cs : List (Int × List Int)) (rs : List PyData) (p : Str × Nat), rowsW wl k cs rs = some p → PyData.strOk p.1 = true := by
            intro wl k cs
            induction cs generalizing k with
            | nil => intro rs p h; simp [rowsW] at h
            | cons con cs ih =>
              intro rs p h
              cases rs with
              | nil => simp [rowsW] at h
              | cons r rs =>
                simp only [rowsW] at h
                split at h
                · exact ih _ _ _ h
                · cases h
                  rcases rowW_mem (ks := con.2.map (wAt wl)) (w := wAt wl con.1) (d := r) with h | h | h | h <;> rw [h] <;> exact ok_of _
          exact this _ _ _ _ _ hp
        · cases h
    · cases h; exact ok_of _
  · cases h; exact ok_of _
theorem repr_ok {b : Bk} (hB : BFit b) {d : PyData} (T : Fit d) {c : Cf} : pRepr [.da (.tuple [b.d, d])] c = some (.da (.str (PyData.tuple [b.d, d]).shown), c) ∧ SeqAt.shaped (.str (PyData.tuple [b.d, d]).shown) = true := by
  have hok : sgD (.tuple [b.d, d]) = true := by
    show (sgD b.d && (sgD d && true)) = true
    rw [smD_ok _ hB.sm, smD_ok _ T.sm]
    rfl
  have hsh : (PyData.tuple [b.d, d]).showable = true := by simp [PyData.showable, PyData.showableAll, smD_show _ hB.sm, smD_show _ T.sm]
  have hnd : (PyData.tuple [b.d, d]).hasDict = false := by simp [PyData.hasDict, PyData.hasDictAll, smD_nd _ hB.sm, smD_nd _ T.sm]
  have hdp : (PyData.tuple [b.d, d]).depth ≤ 60 := by
    have h1 := hB.dp
    have h2 := T.dp
    simp only [PyData.depth, PyData.depthAll]
    omega
  have hln : (PyData.tuple [b.d, d]).shown.length ≤ 100000 := by
    refine Nat.le_trans (shown_len _ hnd) ?_
    have h1 := hB.wt
    have h2 := T.wt
    simp only [wtD_tup, wtA_cons, wtA_nil]
    omega
  refine ⟨?_, shaped_shown hok⟩
  show ((fz fzN (.da (.tuple [b.d, d])) c).bind fun r => _) = _
  rw [fz_da, Option.bind_some]
  have h1 : isRefD (.tuple [b.d, d]) = true := rfl
  simp only [Option.bind_some, h1, hsh, hnd, hdp, hln]
  rfl
theorem sub_IP : sub_InvalidPaper (Str.ofString "InvalidPaper") = true := by decide +kernel
theorem sub_IN : sub_InvalidPaper (Str.ofString "NotUsable") = false := by decide +kernel
theorem sub_NN : sub_NotUsable (Str.ofString "NotUsable") = true := by decide +kernel
theorem pe_IP : is_PaperError (Str.ofString "InvalidPaper") = some true := by decide +kernel
theorem te_IP : is_TongueError (Str.ofString "InvalidPaper") = some true := by decide +kernel
theorem ve_IP : is_ValueError (Str.ofString "InvalidPaper") = some true := by decide +kernel
theorem ue_IP : is_UseError (Str.ofString "InvalidPaper") = some false := by decide +kernel
theorem pe_NU : is_PaperError (Str.ofString "NotUsable") = some false := by decide +kernel
theorem te_NU : is_TongueError (Str.ofString "NotUsable") = some true := by decide +kernel
theorem ue_NU : is_UseError (Str.ofString "NotUsable") = some true := by decide +kernel
theorem agrees_ok {b : Bk} (hb : b.Ok) (hB : BFit b) {d : PyData} (T : Fit d) : m__law_agrees [b.d, d] = .ok (.bool true) := by
  refine Res.eq (fQ_post rfl ?_)
  obtain ⟨hr, hrs⟩ := repr_ok hB T (c := cf0)
  simp [mb__law_agrees, due_ok hb T, pieces_ok hb T, hr]
  cases hdu : dueB b d with
  | inl p =>
    obtain ⟨w, k⟩ := p
    have hs3 : SeqAt.shaped (.tuple [.str "raised", .str w, .int k]) = true := shaped_ok (d := .tuple [.str "raised", .str w, .int k]) (by
      show (PyData.strOk _ && (PyData.strOk w && (true && true))) = true
      rw [ok_of, due_word hdu]
      rfl) (by simp [PyData.depth, PyData.depthAll])
    have he3 := SeqAt.eqv_refl _ (SeqAt.canLay_of_shaped hs3)
    have hw : m__law_whole [.int k] = .ok (.bool true) := whole_ok' rfl
    simp [outP, sub_IP, pe_IP, te_IP, ve_IP, ue_IP, isStr, hw, dueT, pEq_dd hs3 hs3, he3, hr, pEq_dd hrs hrs, eqvSS, OutF, unset, plainF, plainS, plainC, Vv.plain]
    simp [cf0]
  | inr m =>
    have hs3 : SeqAt.shaped (.str "told") = true := shaped_ok (d := .str "told") (ok_of _) (by simp [PyData.depth])
    have hw : m__law_whole [.int m] = .ok (.bool true) := whole_ok' rfl
    simp [outP, dueT, pEq_dd hs3 hs3, eqvSS, hw, hr, pEq_dd hrs hrs]
theorem pieces_bad {b d : PyData} {w : Str} {k : Int} (hb : b.hasDict = false) (hd : d.hasDict = false) (h : bookF b = ft w k) : m_lets_pieces [b, d] = .ex ⟨"NotUsable", [.int (-1), .str "book"]⟩ := by
  refine Res.eqx (fQ_post rfl ?_)
  simp [mb_lets_pieces, lbook_bad hb h, sub_IP]
  simp [plainS, plainC, Vv.plain, cf0]
theorem refused_ok {b d : PyData} {w : Str} {k : Int} (hb : b.hasDict = false) (hd : d.hasDict = false) (h : bookF b = ft w k) (t : Bool) : m__law_refused [b, d, .bool t] = .ok (.bool true) := by
  refine Res.eq (fQ_post rfl ?_)
  have hpb := pieces_bad hb hd h
  have hw : m__law_whole [.int (-1)] = .ok (.bool true) := whole_ok' rfl
  have hs3 : SeqAt.shaped (.str "book") = true := shaped_ok (d := .str "book") (ok_of _) (by simp [PyData.depth])
  cases t
  all_goals simp [mb__law_refused, hpb, pm_lets_pieces_thing_book, sub_NN, sub_IN, ue_NU, te_NU, pe_NU, hw, pEq_dd hs3 hs3, eqvSS, OutF, unset, plainF, plainS, plainC, Vv.plain, cf0]
/-! ### no books -/
theorem consF_app {n : Int} {e : PyData} {w : Str} {f : Int} : ∀ {l : List (Int × List Int)} {k : Nat}, (∀ p ∈ l, (0 ≤ p.1 ∧ p.1 < n) ∧ p.2.length ≤ 4 ∧ ∀ k ∈ p.2, 0 ≤ k ∧ k < n) → (∀ k : Nat, ∃ j, conF n k e = some (ft w j)) → ∃ j, consF n k (l.map conD ++ [e]) = ft w j
  | [], k, _, h => by
    obtain ⟨j, hj⟩ := h k
    exact ⟨j, by simp [consF, hj]⟩
  | p :: l, k, h, he => by
    have h1 : conF n k (conD p) = none := by
      have h2 := cons_ok (l := [p]) (k := k) (n := n) fun q hq => by
        rcases List.mem_cons.mp hq with rfl | hq
        · exact h q (by simp)
        · cases hq
      cases e2 : conF n k (conD p) with
      | none => rfl
      | some f =>
        simp only [List.map_cons, List.map_nil, consF, e2] at h2
        obtain ⟨x1, x2⟩ := p
        simp only [conD, conF] at e2
        split at e2
        · cases e2; cases h2
        · split at e2
          · cases e2; cases h2
          · cases e2
    obtain ⟨j, hj⟩ := consF_app (l := l) (k := k + 1) (fun q hq => h q (List.mem_cons_of_mem _ hq)) he (f := f)
    exact ⟨j, by simp only [List.map_cons, List.cons_append, consF, h1]; exact hj⟩
/-- what is no book -/
structure Bad (d : PyData) : Prop where
  nd : d.hasDict = false
  bf : ∃ w k, bookF d = ft w k
def endsD (n : Int) : List PyData := [.tuple [.int n, .tuple []], .tuple [.bool true, .tuple []], .tuple [.int (-1), .tuple []], .tuple [.int 0], .tuple [.int 0, .list [.int 0]], .tuple [.int 0, .tuple [.int n]], .tuple [.int 0, .tuple [.bool false]], .tuple [.int 0, .tuple [.int 0, .int 0, .int 0, .int 0, .int 0]], .list [.int 0, .tuple []]]
theorem bad_end {b : Bk} (hb : b.Ok) : ∀ e ∈ endsD b.n, Bad (.tuple [.int b.n, .tuple (b.st.map .int), .tuple (b.cs.map conD ++ [e])]) := by
  have h0 := hb.n0
  have e1 : decide (b.n < 0) = false := by simp; omega
  have e2 : startsD b.n (.tuple (b.st.map .int)) = true := hb.st
  have key : ∀ e : PyData, e.hasDict = false → (∃ w, ∀ k : Nat, ∃ j, conF b.n k e = some (ft w j)) → Bad (.tuple [.int b.n, .tuple (b.st.map .int), .tuple (b.cs.map conD ++ [e])]) := by
    intro e he ⟨w, hw⟩
    have ha : ∀ (l m : List PyData), PyData.hasDictAll (l ++ m) = (PyData.hasDictAll l || PyData.hasDictAll m) := by
      intro l m
      induction l with
      | nil => simp [PyData.hasDictAll]
      | cons a l ih => simp [PyData.hasDictAll, ih, Bool.or_assoc]
    refine ⟨by simp [PyData.hasDict, PyData.hasDictAll, noDs, ha, noDc, he], ?_⟩
    obtain ⟨j, hj⟩ := consF_app (n := b.n) (e := e) (w := w) (f := 0) (l := b.cs) (k := 0) hb.cs hw
    exact ⟨w, j, by simp only [bookF, e1, e2]; exact hj⟩
  have hn : sortB b.n (.int b.n) = false := by simp [sortB]
  intro e he
  simp only [endsD, List.mem_cons, List.not_mem_nil, or_false] at he
  have hs0 : sortB b.n (.int 0) = true ∨ sortB b.n (.int 0) = false := by cases sortB b.n (.int 0) <;> simp
  rcases he with rfl | rfl | rfl | rfl | rfl | rfl | rfl | rfl | rfl
  · exact key _ rfl ⟨"con", fun k => ⟨k, by simp [conF, hn]⟩⟩
  · exact key _ rfl ⟨"con", fun k => ⟨k, by simp [conF, sortB]⟩⟩
  · exact key _ rfl ⟨"con", fun k => ⟨k, by simp [conF, sortB]⟩⟩
  · exact key _ rfl ⟨"con", fun k => ⟨k, by simp [conF]⟩⟩
  · exact key _ rfl ⟨"con", fun k => ⟨k, by simp [conF]⟩⟩
  · rcases hs0 with h | h
    · exact key _ rfl ⟨"kids", fun k => ⟨k, by simp [conF, h, hn]⟩⟩
    · exact key _ rfl ⟨"con", fun k => ⟨k, by simp [conF, h]⟩⟩
  · have hf : sortB b.n (.bool false) = false := rfl
    rcases hs0 with h | h
    · exact key _ rfl ⟨"kids", fun k => ⟨k, by simp [conF, h, hf]⟩⟩
    · exact key _ rfl ⟨"con", fun k => ⟨k, by simp [conF, h]⟩⟩
  · rcases hs0 with h | h
    · exact key _ rfl ⟨"kids", fun k => ⟨k, by simp [conF, h]⟩⟩
    · exact key _ rfl ⟨"con", fun k => ⟨k, by simp [conF, h]⟩⟩
  · exact key _ rfl ⟨"con", fun k => ⟨k, by simp [conF]⟩⟩
def badsD (b : Bk) : List PyData := (endsD b.n).map (fun e => .tuple [.int b.n, .tuple (b.st.map .int), .tuple (b.cs.map conD ++ [e])]) ++
  [.none, .list [.int b.n, .tuple (b.st.map .int), .tuple (b.cs.map conD)], .tuple [.int b.n, .tuple (b.st.map .int)], .tuple [.int b.n, .tuple (b.st.map .int), .tuple (b.cs.map conD), .tuple []], .tuple [.bool true, .tuple [], .tuple []], .tuple [.int (-1), .tuple [], .tuple []],
   .tuple [.int b.n, .list (b.st.map .int), .tuple (b.cs.map conD)], .tuple [.int b.n, .tuple (b.st.map .int ++ [.int b.n]), .tuple (b.cs.map conD)], .tuple [.int b.n, .tuple [.int 0, .int 0], .tuple (b.cs.map conD)], .tuple [.int b.n, .tuple [.int 1, .int 0], .tuple (b.cs.map conD)], .tuple [.int b.n, .tuple (b.st.map .int), .list (b.cs.map conD)]]
theorem starts_end {n : Int} : ∀ {l : List Int} {p : Option Int}, startsB n p (l.map .int ++ [.int n]) = false
  | [], p => by simp [startsB, sortB]
  | i :: l, p => by simp [startsB, starts_end (l := l)]
theorem bads_bad {b : Bk} (hb : b.Ok) : ∀ d ∈ badsD b, Bad d := by
  have h0 := hb.n0
  have e1 : decide (b.n < 0) = false := by simp; omega
  have e2 : startsD b.n (.tuple (b.st.map .int)) = true := hb.st
  have nst : PyData.hasDictAll (b.st.map .int) = false := noDs _
  have ncs : PyData.hasDictAll (b.cs.map conD) = false := noDc _
  have ha : ∀ (l m : List PyData), PyData.hasDictAll (l ++ m) = (PyData.hasDictAll l || PyData.hasDictAll m) := by
    intro l m
    induction l with
    | nil => simp [PyData.hasDictAll]
    | cons a l ih => simp [PyData.hasDictAll, ih, Bool.or_assoc]
  intro d hd
  rcases List.mem_append.mp hd with hd | hd
  · obtain ⟨e, he, rfl⟩ := List.mem_map.mp hd
    exact bad_end hb e he
  · simp only [List.mem_cons, List.not_mem_nil, or_false] at hd
    rcases hd with rfl | rfl | rfl | rfl | rfl | rfl | rfl | rfl | rfl | rfl | rfl
    · exact ⟨rfl, "shape", -1, rfl⟩
    · exact ⟨by simp [PyData.hasDict, PyData.hasDictAll, nst, ncs], "shape", -1, rfl⟩
    · exact ⟨by simp [PyData.hasDict, PyData.hasDictAll, nst, ncs], "shape", -1, rfl⟩
    · exact ⟨by simp [PyData.hasDict, PyData.hasDictAll, nst, ncs], "shape", -1, rfl⟩
    · exact ⟨rfl, "size", -1, rfl⟩
    · exact ⟨rfl, "size", -1, by simp [bookF]⟩
    · exact ⟨by simp [PyData.hasDict, PyData.hasDictAll, nst, ncs], "starts", -1, by simp only [bookF, e1]; rfl⟩
    · refine ⟨by simp [PyData.hasDict, PyData.hasDictAll, nst, ncs, ha], "starts", -1, ?_⟩
      have : startsD b.n (.tuple (b.st.map .int ++ [.int b.n])) = false := starts_end
      simp only [bookF, e1, this]
      rfl
    · refine ⟨by simp [PyData.hasDict, PyData.hasDictAll, nst, ncs], "starts", -1, ?_⟩
      have : startsD b.n (.tuple [.int 0, .int 0]) = false := by simp [startsD, startsB]
      simp only [bookF, e1, this]
      rfl
    · refine ⟨by simp [PyData.hasDict, PyData.hasDictAll, nst, ncs], "starts", -1, ?_⟩
      have : startsD b.n (.tuple [.int 1, .int 0]) = false := by simp [startsD, startsB]
      simp only [bookF, e1, this]
      rfl
    · exact ⟨by simp [PyData.hasDict, PyData.hasDictAll, nst, ncs], "cons", -1, by simp only [bookF, e1, e2]; rfl⟩
theorem nobooks_ok {b : Bk} (hb : b.Ok) : m__law_no_books [b.d] = .ok (.list (badsD b)) := by
  refine Res.eq (fQ_post rfl ?_)
  have h1 := hb.cl
  have h2 := hb.sl
  have hz1 : (b.cs.map conD).length + [PyData.list [.int 0, .tuple []]].length ≤ 100000 := by simp; omega
  have hz2 : (b.st.map PyData.int).length + [PyData.int b.n].length ≤ 100000 := by simp; omega
  simp [mb__law_no_books, Bk.d, -List.map_map, -List.length_map]
  generalize hA : frzC cf0 [.int 0] = cA
  have hAl : cA.st.length = 1 := by rw [← hA]; rfl
  obtain ⟨es, hes⟩ : ∃ es : List PyData, es = [.tuple [.int b.n, .tuple []], .tuple [.bool true, .tuple []], .tuple [.int (-1), .tuple []], .tuple [.int 0], .tuple [.int 0, .list [.int 0]], .tuple [.int 0, .tuple [.int b.n]], .tuple [.int 0, .tuple [.bool false]], .tuple [.int 0, .tuple [.int 0, .int 0, .int 0, .int 0, .int 0]]] := ⟨_, rfl⟩
  have hel : es.length = 8 := by rw [hes]; rfl
  have hends : endsD b.n = es ++ [.list [.int 0, .tuple []]] := by rw [hes]; rfl
  generalize hc1 : (cA.app [Vv.da (.int 0), Vv.da (.tuple [])]).app _ = c1
  have hvs : c1 = (cA.app [Vv.da (.int 0), Vv.da (.tuple [])]).app (es.map .da ++ [.ref 1]) := by rw [← hc1, hes]; rfl
  clear hc1 hes
  have hst : c1.st = cA.st ++ [.mu [Vv.da (.int 0), Vv.da (.tuple [])], .mu (es.map .da ++ [.ref 1])] := by rw [hvs]; simp [Cf.app]
  have hls : lsOf c1 (.ref 2) = some (es.map .da ++ [.ref 1]) := ls_mu (by rw [hst, List.getElem?_append_right (by omega), hAl]; rfl)
  have hl1 : c1.st[1]? = some (.mu ([PyData.int 0, .tuple []].map .da)) := by rw [hst, List.getElem?_append_right (by omega), hAl]; rfl
  obtain ⟨c2, hc2⟩ : ∃ c2 : Cf, c2 = { c1 with st := c1.st.set 1 (.frz [.int 0, .tuple []]) } := ⟨_, rfl⟩
  have hls2 : lsOf c2 (.ref 2) = some (es.map .da ++ [.ref 1]) := by
    refine ls_mu ?_
    rw [hc2]
    show (c1.st.set 1 _)[2]? = _
    rw [List.getElem?_set_ne (by decide), hst, List.getElem?_append_right (by omega), hAl]
    rfl
  have hfz : fz fzN (.ref 1) c1 = some (.list [.int 0, .tuple []], c2) := by rw [fz_mu hl1, hc2]
  obtain ⟨g, hg⟩ : ∃ g : PyData → PyData, g = fun e => .tuple [.int b.n, .tuple (b.st.map .int), .tuple (b.cs.map conD ++ [e])] := ⟨_, rfl⟩
  have hz3 : ∀ e : PyData, (b.cs.map conD).length + [e].length ≤ 100000 := fun e => by simp; omega
  refine q_LcW (es.map .da ++ [.ref 1]) (fun pre acc c => (pre.length ≤ 8 ∧ c = c1 ∧ acc = (es.take pre.length).map (fun e => .da (g e))) ∨ (pre.length = 9 ∧ c = c2 ∧ acc = (endsD b.n).map (fun e => .da (g e)))) ?_ (by simp; omega) ?_ ?_
  · refine q_ItW ?_
    have h0 : cf0.st.length = 0 := rfl
    simp [itemsOf, h0, hls]
    intro w hw pre acc c h
    have hw' := fun c' h => hw c' h
    rcases h with ⟨_, rfl, _⟩ | ⟨_, rfl, _⟩
    · exact hw _ hls
    · exact hw _ hls2
  · intro pre v post acc c e h
    have hlen := congrArg List.length e
    simp [hel] at hlen
    have hv : (es.map Vv.da ++ [.ref 1])[pre.length]? = some v := by rw [e, List.getElem?_append_right (Nat.le_refl _), Nat.sub_self]; rfl
    rcases h with ⟨h1, rfl, rfl⟩ | ⟨h1, rfl, rfl⟩
    · by_cases h8 : pre.length < 8
      · have hx : pre.length < es.length := by omega
        rw [List.getElem?_append_left (by simpa using hx)] at hv
        simp [hx] at hv
        subst hv
        simp [wipeS, pAdd_tt (hz3 _), -List.map_map]
        refine .inl ⟨by omega, ?_⟩
        have : es.take (pre.length + 1) = es.take pre.length ++ [es[pre.length]] := by rw [List.take_succ]; simp [hx]
        rw [← List.map_take, ← List.map_take, this, hg, List.map_append]
        rfl
      · have h9 : pre.length = 8 := by omega
        rw [List.getElem?_append_right (by simp; omega)] at hv
        simp [hel, h9] at hv
        subst hv
        simp [wipeS, hfz, pAdd_tt (hz3 _), -List.map_map]
        refine .inr ⟨by omega, ?_⟩
        rw [h9, hends, List.take_of_length_le (by simp [hel]), hg]
        simp
    · omega
  · intro acc c h
    have hbl : (es.map Vv.da ++ [Vv.ref 1]).length = 9 := by simp [hel]
    rw [hbl] at h
    obtain ⟨_, rfl, rfl⟩ : 9 = 9 ∧ c = c2 ∧ acc = (endsD b.n).map (fun e => .da (g e)) := by
      rcases h with ⟨h1, _⟩ | h
      · omega
      · exact h
    have hz4 : ([PyData.int b.n, .tuple (b.st.map .int), .tuple (b.cs.map conD)]).length + [PyData.tuple []].length ≤ 100000 := by simp
    simp [pAdd_tt hz1, pAdd_tt hz2, pAdd_tt hz4, fz_app, -List.map_map, -List.length_map]
    clear hls hl1 hst hvs hfz hc2 hls2
    generalize hX : [Vv.da PyData.none, Vv.ref (c.st.length + 1), _, _, _, _, _, _, _, _, _] = Xs
    have hA1 : ((endsD b.n).map fun e => Vv.da (g e)) = ((endsD b.n).map g).map .da := by simp
    rw [hA1]
    have hAl : ((endsD b.n).map g).length = 9 := by rw [List.length_map]; rfl
    generalize hAs : ((endsD b.n).map g) = As at hAl ⊢
    have hXl : Xs.length = 11 := by rw [← hX]; rfl
    generalize hK : (Cf.app _ Xs) = K
    have hKs : K.st = c.st ++ [.mu (As.map .da), .mu ([PyData.int b.n, .tuple (b.st.map .int), .tuple (b.cs.map conD)].map .da), .frz (b.st.map .int), .frz (b.cs.map conD), .mu Xs] := by rw [← hK]; simp [Cf.app, frzC]
    have h0 : lsOf K (.ref c.st.length) = some (As.map .da) := ls_mu (by rw [hKs, List.getElem?_append_right (Nat.le_refl _), Nat.sub_self]; rfl)
    have h4 : lsOf K (.ref (c.st.length + 1 + 1 + 1 + 1)) = some Xs := ls_mu (by rw [hKs, List.getElem?_append_right (by omega), show c.st.length + 1 + 1 + 1 + 1 - c.st.length = 4 by omega]; rfl)
    rw [pAdd_rr h0 h4 (by simp [hAl, hXl])]
    simp only [opt_s, endF]
    have hn1 : (K.app (As.map .da ++ Xs)).st[c.st.length + 1]? = some (.mu ([PyData.int b.n, .tuple (b.st.map .int), .tuple (b.cs.map conD)].map .da)) := by
      rw [st_old (by rw [hKs]; simp), hKs, List.getElem?_append_right (by omega)]
      simp
    have hz : fz 5 (.ref (c.st.length + 1)) (K.app (As.map .da ++ Xs)) = some (.list [.int b.n, .tuple (b.st.map .int), .tuple (b.cs.map conD)], { K.app (As.map .da ++ Xs) with st := (K.app (As.map .da ++ Xs)).st.set (c.st.length + 1) (.frz [.int b.n, .tuple (b.st.map .int), .tuple (b.cs.map conD)]) }) := by
      show fz (4 + 1) _ _ = _
      unfold fz
      simp only [hn1, fzL_da, Option.bind_some]
    have hL : fzL (fz 5) (As.map .da ++ Xs) (K.app (As.map .da ++ Xs)) = some (badsD b, { K.app (As.map .da ++ Xs) with st := (K.app (As.map .da ++ Xs)).st.set (c.st.length + 1) (.frz [.int b.n, .tuple (b.st.map .int), .tuple (b.cs.map conD)]) }) := by
      rw [fzL_app, fzL_da, Option.bind_some]
      have : fzL (fz 5) Xs (K.app (As.map .da ++ Xs)) = some ((badsD b).drop 9, { K.app (As.map .da ++ Xs) with st := (K.app (As.map .da ++ Xs)).st.set (c.st.length + 1) (.frz [.int b.n, .tuple (b.st.map .int), .tuple (b.cs.map conD)]) }) := by
        generalize K.app (As.map .da ++ Xs) = K2 at hz ⊢
        rw [← hX]
        simp only [fzL_cons, fzL_nil, fz_da, Option.bind_some, Option.map_some, hz]
        rfl
      rw [this, Option.map_some]
      have : badsD b = As ++ (badsD b).drop 9 := by
        rw [← hAs, hg]
        rfl
      rw [← this]
    rw [fz_nest (k := 5) st_top hL (l' := As.map .da ++ Xs) (by
      show ((K.app (As.map .da ++ Xs)).st.set _ _)[K.st.length]? = _
      rw [List.getElem?_set_ne (by rw [hKs]; simp)]
      exact st_top)]
    rfl
end PM.K06
end
section
/-! PM19: reasoning about pure code: o[i] = v, joins, ranges downwards, the tape. -/
namespace PM
open PySem DL
section
variable {sl sl' : Sl} {c c' : Cf} {Q : Vv → Cf → Prop} {QG : Sl → Cf → Prop} {QI : Itv → Cf → Prop} {X : Exc → Cf → Prop}
@[simp ↓] theorem q_mgS {p : Vv → Vv → Vv → Cf → Option Cf} {mo mi : ME} {v : Vv} : Post (mgS p mo mi v sl c) QG X ↔ Post (mo sl c) (fun o c1 => Post (mi sl c1) (fun i c2 => Opt (p o i v c2) fun c3 => QG sl c3) X) X := by
  unfold mgS
  rw [post_bind]
  refine post_iff fun o c1 => ?_
  rw [post_bind]
  refine post_iff fun i c2 => ?_
  show Post (match p o i v c2 with | some c' => Rs.ok (sl, c') | none => .bad) QG X ↔ _
  cases p o i v c2 <;> exact Iff.rfl
@[simp ↓] theorem q_calmG {mg : MG} {v : Vv} : Post (calmG mg v sl c) QG X ↔ Post (mg v sl c) QG fun _ _ => False := by
  unfold calmG
  cases mg v sl c <;> exact Iff.rfl
def strOf : Vv → Option Str
  | .da (.str b) => some b
  | _ => none
@[simp] theorem strOf_s {s : Str} : strOf (.da (.str s)) = some s := rfl
def joinOf (a : Str) (w : Vv) (c : Cf) : Option Vv := ((tuOf w).or (lsOf c w)).bind fun l => (strsOf l).bind fun ys => if (ys.map (·.length)).sum + ys.length * a.length ≤ 16777216 then some (.da (.str (Txt.join a ys))) else none
@[simp ↓] theorem q_Join {mo me : ME} : Post (mJoin mo me sl c) Q X ↔ Post (mo sl c) (fun v c1 => Opt (strOf v) fun a => Post (me sl c1) (fun w c2 => Opt (joinOf a w c2) fun u => Q u c2) X) X := by
  unfold mJoin
  rw [post_bind]
  refine post_iff fun v c1 => ?_
  cases v with
  | da d =>
    cases d with
    | str a =>
      show Post ((me sl c1).bind fun r' => .opt (((tuOf r'.1).or (lsOf r'.2 r'.1)).bind fun l => (strsOf l).bind fun ys => if (ys.map (·.length)).sum + ys.length * a.length ≤ 16777216 then some (.da (.str (Txt.join a ys)), r'.2) else none)) Q X ↔ Post (me sl c1) _ X
      rw [post_bind]
      refine post_iff fun w c2 => ?_
      rw [post_opt']
      unfold joinOf
      cases (tuOf w).or (lsOf c2 w) with
      | none => exact Iff.rfl
      | some l =>
        simp only [Option.bind_some]
        cases strsOf l with
        | none => exact Iff.rfl
        | some ys =>
          simp only [Option.bind_some]
          split <;> exact Iff.rfl
    | _ => exact Iff.rfl
  | _ => exact Iff.rfl
@[simp ↓] theorem q_Tape {g : List Int → Option Tp} {ma : MA} : Post (mTape g ma sl c) Q X ↔ Post (ma sl c) (fun vs c1 => vs = [.scr] ∧ c1.tp.on = false ∧ Opt (g c1.sc) fun tp => Q .tape { c1 with tp := tp }) X := by
  unfold mTape
  rw [post_bind]
  refine post_iff fun vs c1 => ?_
  show Post (match vs with | [.scr] => if c1.tp.on then .bad else (match g c1.sc with | some tp => Rs.ok (Vv.tape, { c1 with tp := tp }) | none => .bad) | _ => .bad) Q X ↔ _
  split
  · cases h : c1.tp.on with
    | true => exact ⟨fun q => q.elim, fun q => by simp at q⟩
    | false =>
      simp only [Bool.false_eq_true, if_false, true_and]
      cases g c1.sc <;> exact Iff.rfl
  · rename_i h
    exact ⟨fun q => q.elim, fun q => (h q.1).elim⟩
theorem rngDn_map {m : Int} {n : Nat} : rngDn m n = (List.range n).map fun i => .da (.int (m - (i : Nat))) := by
  unfold rngDn
  exact List.map_congr_left fun i _ => by congr 2; omega
theorem q_RgD {ma mb mc : ME} (h : Post (ma sl c) (fun u c1 => Post (mb sl c1) (fun v c2 => Post (mc sl c2) (fun w c3 => ∃ m n : Int, u = .da (.int m) ∧ v = .da (.int n) ∧ w = .da (.int (-1)) ∧ -1000000 ≤ m ∧ m ≤ 1000000 ∧ -1000000 ≤ n ∧ n ≤ 1000000 ∧ QI (captured (rngDn m (m - n).toNat)) c3) X) X) X) : Post (mRgD ma mb mc sl c) QI X := by
  unfold mRgD
  rw [post_bind]
  refine h.imp (fun u c1 h1 => ?_) fun _ _ z => z
  rw [post_bind]
  refine h1.imp (fun v c2 h2 => ?_) fun _ _ z => z
  rw [post_bind]
  refine h2.imp (fun w c3 h3 => ?_) fun _ _ z => z
  obtain ⟨m, n, rfl, rfl, rfl, h4, h5, h6, h7, h8⟩ := h3
  have e62 : (2 : Int) ^ 62 = 4611686018427387904 := by decide +kernel
  have hh : r62b m = true ∧ r62b n = true ∧ (-1 : Int) = -1 := by
    rw [r62b_iff, r62b_iff, e62]
    refine ⟨⟨?_, ?_⟩, ⟨?_, ?_⟩, rfl⟩ <;> omega
  show Post (if r62b m = true ∧ r62b n = true ∧ (-1 : Int) = -1 then .ok (captured (rngDn m (m - n).toNat), c3) else .bad) QI X
  rw [if_pos hh]
  exact h8
@[simp] theorem pAdd_ii {i j : Int} : pAdd (.da (.int i)) (.da (.int j)) c = some (.da (.int (i + j)), c) := rfl
@[simp] theorem pSub_ii {i j : Int} : pSub (.da (.int i)) (.da (.int j)) c = some (.da (.int (i - j)), c) := rfl
@[simp] theorem pInt_i {i : Int} : pInt [.da (.int i)] c = some (.da (.int i), c) := rfl
theorem pI2_ii {C : Int → Int → Bool} {f : Int → Int → Int} {i j : Int} (h : C i j = true) : pI2 C f (.da (.int i)) (.da (.int j)) c = some (.da (.int (f i j)), c) := if_pos h
theorem pMod_ii {i j : Int} (h : 0 < j) : pMod (.da (.int i)) (.da (.int j)) c = some (.da (.int (i % j)), c) := pI2_ii (by simpa using h)
theorem log_ok {x m : Int} (h : 0 < m) (h2 : m ≤ 10000000000) : cDiv x m = true := by
  have h0 : m.natAbs ≠ 0 := by omega
  have : m.natAbs.log2 < 9000 := by
    rw [Nat.log2_lt h0]
    exact Nat.lt_of_lt_of_le (show m.natAbs < 2 ^ 40 by omega) (Nat.pow_le_pow_right (by decide) (by decide))
  unfold cDiv
  simp [h, this]
theorem pDiv_ii {i j : Int} (h : 0 < j) (h2 : j ≤ 10000000000) : pDiv (.da (.int i)) (.da (.int j)) c = some (.da (.int (i / j)), c) := pI2_ii (log_ok h h2)
theorem pMul_ii {i j : Int} (h : j.natAbs ≤ 10000000000) : pMul (.da (.int i)) (.da (.int j)) c = some (.da (.int (i * j)), c) := pI2_ii (by
  have : j.natAbs < 2 ^ 63 := Nat.lt_of_le_of_lt h (by decide)
  unfold cMul
  simp [this])
theorem pMul_ci {i j : Int} (h : i.natAbs ≤ 10000000000) : pMul (.da (.int i)) (.da (.int j)) c = some (.da (.int (i * j)), c) := pI2_ii (by
  have : i.natAbs < 2 ^ 63 := Nat.lt_of_le_of_lt h (by decide)
  unfold cMul
  simp [this])
@[simp] theorem pPow_10 : pPow (.da (.int 10)) (.da (.int 18)) c = some (.da (.int 1000000000000000000), c) := pI2_ii (f := fun i j => i ^ j.toNat) (by decide)
theorem strs_map : ∀ l : List Str, strsOf (l.map fun s => .da (.str s)) = some l
  | [] => rfl
  | a :: l => by simp only [List.map_cons, strsOf, strs_map l]; rfl
theorem r62 {n : Nat} (h : n ≤ 1000000) : -(2 ^ 62) ≤ (n : Int) ∧ (n : Int) < 2 ^ 62 := by
  have e62 : (2 : Int) ^ 62 = 4611686018427387904 := by decide +kernel
  rw [e62]
  constructor <;> omega
def Rg62 (i : Int) : Prop := -(2 ^ 62) ≤ i ∧ i < 2 ^ 62
theorem q_Rg62 {m : ME} {QI : Itv → Cf → Prop} : Post (mRg1 m sl c) QI X ↔ Post (m sl c) (fun v c1 => Opt (intOf v) fun n => Rg62 n ∧ QI (captured (rngV 0 n.toNat)) c1) X := q_Rg1
theorem rng_post {ma : ME} {n : Nat} {QI : Itv → Cf → Prop} (h : Post (ma sl c) (fun v c1 => v = .da (.int n) ∧ n ≤ 1000000 ∧ QI (captured (rngV 0 n)) c1) X) : Post (mRg1 ma sl c) QI X := by
  rw [q_Rg62]
  refine h.imp (fun v c1 h1 => ?_) fun _ _ z => z
  obtain ⟨rfl, hn, h1⟩ := h1
  exact ⟨r62 hn, h1⟩
theorem rng_post' {ma : ME} {QI : Itv → Cf → Prop} (h : Post (ma sl c) (fun v c1 => ∃ n : Nat, v = .da (.int n) ∧ n ≤ 1000000 ∧ QI (captured (rngV 0 n)) c1) X) : Post (mRg1 ma sl c) QI X := by
  rw [q_Rg62]
  refine h.imp (fun v c1 h1 => ?_) fun _ _ z => z
  obtain ⟨n, rfl, hn, h1⟩ := h1
  exact ⟨r62 hn, h1⟩
theorem q_ForRg {ma : ME} {mi : MI} {mg : MG} {mb : MS} {QS : Fl → Sl → Cf → Prop} {XS : Exc → Sl → Cf → Prop} (hmi : mRg1 ma = mi) (n : Nat) (I : Nat → Sl → Cf → Prop)
    (h0 : Post (ma sl c) (fun v c1 => v = .da (.int n) ∧ n ≤ 1000000 ∧ I 0 sl c1) (fun x c1 => XS x sl c1))
    (hs : ∀ i s c, i < n → I i s c → Post (mg (.da (.int (i : Nat))) s c) (fun s1 c1 => PostS (mb s1 c1) (Turn1 (I (i + 1)) QS) XS) (fun x c1 => XS x s c1))
    (hd : ∀ s c, I n s c → QS .nx s c) : PostS (mFor mi mg mb sl c) QS XS := by
  refine q_ForL (List.range n) (fun i => .da (.int (i : Nat))) (fun pre s c => I pre.length s c) ?_ (fun pre x post s c e h => ?_) fun s c h => ?_
  · rw [← hmi]
    refine rng_post (h0.imp (fun v c1 h => ⟨h.1, h.2.1, fun _ _ _ _ => ?_, h.2.2⟩) fun _ _ z => z)
    rw [walks_cap]
    exact rngV_map
  · obtain ⟨rfl, hl⟩ := range_cut e
    refine (hs _ s c hl h).imp (fun s1 c1 h1 => h1.imp (fun f s2 c2 h2 => ?_) fun _ _ _ z => z) fun _ _ z => z
    cases f <;> simpa [Turn1] using h2
  · rw [List.length_range] at h
    exact hd s c h
theorem q_ForRgX {ma : ME} {mi : MI} {mg : MG} {mb : MS} {QS : Fl → Sl → Cf → Prop} {XS : Exc → Sl → Cf → Prop} (hmi : mRg1 ma = mi)
    (h : Post (ma sl c) (fun v c1 => ∃ n : Nat, v = .da (.int n) ∧ n ≤ 1000000 ∧ ∃ I : Nat → Sl → Cf → Prop, I 0 sl c1 ∧
      (∀ i s c, i < n → I i s c → Post (mg (.da (.int (i : Nat))) s c) (fun s1 c1 => PostS (mb s1 c1) (Turn1 (I (i + 1)) QS) XS) (fun x c1 => XS x s c1)) ∧ ∀ s c, I n s c → QS .nx s c) (fun x c1 => XS x sl c1)) : PostS (mFor mi mg mb sl c) QS XS := by
  show PostS (bindE (mi sl c) sl fun g c1 => loopF g.get mg mb g.n 0 sl c1) QS XS
  rw [postS_bindE, ← hmi]
  refine rng_post' (h.imp (fun v c1 h1 => ?_) fun _ _ z => z)
  obtain ⟨n, rfl, hn, I, h0, hs, hd⟩ := h1
  refine ⟨n, rfl, hn, ?_⟩
  have := q_ForL (mi := fun _ c => .ok (captured (rngV 0 n), c)) (mg := mg) (mb := mb) (QS := QS) (XS := XS) (sl := sl) (c := c1) (List.range n) (fun i => .da (.int (i : Nat))) (fun pre s c => I pre.length s c) ⟨fun _ _ _ _ => walks_cap.mpr rngV_map, h0⟩ (fun pre x post s c e h => by
    obtain ⟨rfl, hl⟩ := range_cut e
    refine (hs _ s c hl h).imp (fun s1 c1 h1 => h1.imp (fun f s2 c2 h2 => ?_) fun _ _ _ z => z) fun _ _ z => z
    cases f <;> simpa [Turn1] using h2) (fun s c h => by
    rw [List.length_range] at h
    exact hd s c h)
  exact this
theorem q_LcRg {ma : ME} {mi : MI} {mg : MG} {mt : MT} {me : ME} {ws : List Nat} (hmi : mRg1 ma = mi) (n : Nat) (I : Nat → List Vv → Cf → Prop)
    (h0 : Post (ma sl c) (fun v c1 => v = .da (.int n) ∧ n ≤ 100000 ∧ I 0 [] c1) X)
    (hs : ∀ i acc c, i < n → I i acc c → Post (mg (.da (.int (i : Nat))) (wipeS sl ws) c) (fun s1 c1 => Post (mt s1 c1) (fun b c2 => if b = true then Post (me s1 c2) (fun u c3 => I (i + 1) (acc ++ [u]) c3) (fun _ _ => False) else I (i + 1) acc c2) (fun _ _ => False)) (fun _ _ => False))
    (hd : ∀ acc c, I n acc c → Q (.ref c.st.length) (c.app acc)) (hn : n ≤ 100000) : Post (mLc mi mg mt me ws sl c) Q X := by
  refine q_LcW ((List.range n).map fun i => .da (.int (i : Nat))) (fun pre acc c => I pre.length acc c) ?_ (by simpa using hn) (fun pre v post acc c e h => ?_) fun acc c h => ?_
  · rw [← hmi]
    refine rng_post (h0.imp (fun v c1 h => ⟨h.1, by omega, fun _ _ _ _ => ?_, h.2.2⟩) fun _ _ z => z)
    rw [walks_cap]
    exact rngV_map
  · have hv : ((List.range n).map fun i => Vv.da (.int (i : Nat)))[pre.length]? = some v := by rw [e, List.getElem?_append_right (Nat.le_refl _), Nat.sub_self]; rfl
    have hl : pre.length < n := by
      have := (List.getElem?_eq_some_iff.mp hv).1
      simpa using this
    simp [hl] at hv
    subst hv
    simpa using hs _ acc c hl h
  · simp at h
    exact hd acc c h
theorem pAdd_ss {i j : Str} (h : i.length + j.length ≤ 100000) : pAdd (.da (.str i)) (.da (.str j)) c = some (.da (.str (i ++ j)), c) := if_pos h
theorem pIx_str {x : Str} {k k' : Nat} (h : x.length ≤ 100000) (hk : x.cps.toList[k]? = some k') : pIx (.da (.str x)) (.da (.int (k : Nat))) c = some (.da (.str ⟨#[k']⟩), c) := by
  show (if x.length ≤ 100000 then (L2.atI x.cps.toList (k : Int)).map fun n => (Vv.da (.str ⟨#[n]⟩), c) else none) = _
  rw [if_pos h, atI_G hk]
  rfl
theorem fK_post {k : Nat} {mb : MS} {l : List Int} {K : Tp → Prop} (h : PostS (mb (slots k [.scr]) ⟨[], tp0, l⟩) (fun f _ c => ∃ n tp, f = .ret (.ref n) ∧ tapeOf c n = some tp ∧ K tp) fun _ _ _ => False) : ∃ tp, fK k mb l = some tp ∧ K tp := by
  unfold fK
  cases e : mb (slots k [.scr]) ⟨[], tp0, l⟩ with
  | bad => rw [e] at h; exact h.elim
  | ex p => rw [e] at h; exact h.elim
  | ok p =>
    obtain ⟨f, s, c⟩ := p
    rw [e] at h
    obtain ⟨n, tp, rfl, h1, h2⟩ := h
    exact ⟨tp, h1, h2⟩
theorem fL_post {k : Nat} {mb : MS} {l : List Int} {b : Bool} (h : PostS (mb (slots k [.scr]) ⟨[], tp0, l⟩) (fun f _ _ => f = .ret (.da (.bool b))) fun _ _ _ => False) : fL k mb l = some b := by
  unfold fL
  cases e : mb (slots k [.scr]) ⟨[], tp0, l⟩ with
  | bad => rw [e] at h; exact h.elim
  | ex p => rw [e] at h; exact h.elim
  | ok p =>
    obtain ⟨f, s, c⟩ := p
    rw [e] at h
    replace h : f = _ := h
    subst h
    rfl
theorem join_all {p : Nat → Prop} {s : Str} (hs : ∀ k ∈ s.cps.toList, p k) : ∀ {ts : List Str}, (∀ t ∈ ts, ∀ k ∈ t.cps.toList, p k) → ∀ k ∈ (Txt.join s ts).cps.toList, p k := by
  have ap : ∀ {a b : Str}, (∀ k ∈ a.cps.toList, p k) → (∀ k ∈ b.cps.toList, p k) → ∀ k ∈ (a ++ b).cps.toList, p k := by
    intro a b ha hb k hk
    have e : (a ++ b).cps.toList = a.cps.toList ++ b.cps.toList := by
      show (a.cps ++ b.cps).toList = _
      simp
    rw [e] at hk
    rcases List.mem_append.mp hk with hk | hk
    · exact ha k hk
    · exact hb k hk
  have go : ∀ {ts : List Str}, (∀ t ∈ ts, ∀ k ∈ t.cps.toList, p k) → ∀ k ∈ (Str.join s ts).cps.toList, p k := by
    intro ts
    induction ts with
    | nil => intro _ k hk; simp [Str.join, Str.empty] at hk
    | cons t r ih =>
      intro h
      cases r with
      | nil => exact h t (by simp)
      | cons u r => exact ap (ap (h t (by simp)) hs) (ih fun x hx => h x (List.mem_cons_of_mem _ hx))
  intro ts h
  unfold Txt.join
  rw [StrLaws.glued_eq_join]
  exact go h
theorem join_len {s : Str} {ts : List Str} (hs : s.length = 0) : (Txt.join s ts).length = (ts.map (·.length)).sum := by
  unfold Txt.join
  rw [size_glued, hs]
  omega
end
end PM
end
section
/-! K06M13: mathematics of k06: the tape. -/
namespace PM.K06
open PySem DL PM
def tC (w : List Int) (a b : Int) : Cf := ⟨[], ⟨[none, some a, some b], w, true⟩, []⟩
def TpOk (tp : Tp) : Prop := ∃ w a b, tp = ⟨[none, some a, some b], w, true⟩ ∧ w.length ≤ 63
section
variable {w : List Int} {a b x y : Int}
@[simp] theorem tC_0 : pIx .tape (.da (.int 0)) (tC w a b) = some (.wide, tC w a b) := rfl
@[simp] theorem tC_1 : pIx .tape (.da (.int 1)) (tC w a b) = some (.da (.int a), tC w a b) := rfl
@[simp] theorem tC_2 : pIx .tape (.da (.int 2)) (tC w a b) = some (.da (.int b), tC w a b) := rfl
@[simp] theorem tC_s1 : pSetL .tape (.da (.int 1)) (.da (.int x)) (tC w a b) = some (tC w x b) := rfl
@[simp] theorem tC_s2 : pSetL .tape (.da (.int 2)) (.da (.int x)) (tC w a b) = some (tC w a x) := rfl
@[simp] theorem tC_t0 : pTru .wide (tC [] a b) = some false := rfl
@[simp] theorem tC_t1 : pTru .wide (tC (x :: w) a b) = some true := rfl
@[simp] theorem tC_w0 : pIx .wide (.da (.int 0)) (tC (x :: w) a b) = some (.da (.int x), tC (x :: w) a b) := by
  show ((lsOf (tC (x :: w) a b) .wide).bind fun l => (L2.atI l 0).map fun d => (d, tC (x :: w) a b)) = _
  show ((L2.atI (Vv.da (.int x) :: w.map fun i => Vv.da (.int i)) ((0 : Nat) : Int)).map fun d => (d, tC (x :: w) a b)) = _
  rw [atI_G (k := 0) (d := Vv.da (.int x)) rfl]
  rfl
@[simp] theorem tC_l : isL .wide (tC w a b) = true := rfl
theorem ints_vv : ∀ l : List Int, intsOf (l.map fun i => Vv.da (.int i)) = some l
  | [] => rfl
  | a :: l => by simp only [List.map_cons, intsOf, ints_vv l]; rfl
theorem mu_wide : muOf (tC w a b) .wide = some (w.map (fun i => .da (.int i)), fun l' => (intsOf l').map fun ns => tC ns a b) := rfl
theorem rng0 : -(2 ^ 63) ≤ (0 : Int) ∧ (0 : Int) < 2 ^ 63 := by
  have := rng63 (k := 0) (by decide)
  exact this
theorem seq0 {n : Nat} (h : 0 < n) : seqIndex? (0 : Int) n = some 0 := by
  have : L2.ixN n (0 : Int) = some 0 := by
    unfold L2.ixN
    rw [if_pos (by omega), if_pos (by omega)]
    rfl
  exact (L2.ixN_seq this).1
@[simp] theorem tC_pop : pPopAt .wide [.da (.int 0)] (tC (x :: w) a b) = some (.da (.int x), tC w a b) := by
  rw [pop_eq, mu_wide, Option.bind_some, if_pos rng0, seq0 (by simp)]
  show ((intsOf (w.map fun i => Vv.da (.int i))).map fun ns => tC ns a b).map (fun c' => (Vv.da (.int x), c')) = _
  rw [ints_vv]
  rfl
theorem tC_ins (hw : w.length ≤ 63) : pInsert .wide [.da (.int 0), .da (.int x)] (tC w a b) = some (.da .none, tC (x :: w) a b) := by
  have e : pInsert .wide [.da (.int 0), .da (.int x)] (tC w a b) = (muOf (tC w a b) .wide).bind fun p => if p.1.length < 100000 ∧ (0 : Int) ≤ 0 ∧ (0 : Int) < 2 ^ 63 then (p.2 (p.1.take (0 : Int).toNat ++ Vv.da (.int x) :: p.1.drop (0 : Int).toNat)).map fun c' => (.da .none, c') else none := rfl
  rw [e, mu_wide, Option.bind_some, if_pos ⟨by simp; omega, Int.le_refl 0, rng0.2⟩]
  show ((intsOf (Vv.da (.int x) :: w.map fun i => Vv.da (.int i))).map fun ns => tC ns a b).map (fun c' => (Vv.da .none, c')) = _
  simp only [intsOf, ints_vv, Option.map_some]
end
theorem pick_ok {tp : Tp} (h : TpOk tp) {m : Int} (hm : 0 < m) (hm2 : m ≤ 100000) : ResT (m__law_pick [.int m] tp) (fun d t => TpOk t ∧ ∃ r : Nat, d = .int (r : Nat) ∧ (r : Int) < m) (fun _ _ => False) := by
  obtain ⟨w, a, b, rfl, hw⟩ := h
  refine fT_post rfl ?_
  have hc : (⟨[], ⟨[none, some a, some b], w, true⟩, []⟩ : Cf) = tC w a b := rfl
  rw [hc]
  simp [mb__law_pick]
  refine q_While (fun n s c => ∃ w, w.length = n ∧ n ≤ 63 ∧ s = [some .tape, some (.da (.int m)), none, none] ∧ c = tC w a b) ?_ wF w.length _ _ ?_ ⟨w, rfl, hw, rfl, rfl⟩
  · rintro n s c ⟨w, rfl, hw, rfl, rfl⟩
    have hT : ∀ (w : List Int) (a b : Int), w.length ≤ 63 → TpOk (tC w a b).tp := fun w a b h => ⟨w, a, b, rfl, h⟩
    have hmod : ∀ x : Int, ∃ r : Nat, x % m = (r : Int) ∧ (r : Int) < m := fun x => by
      have h1 := Int.emod_nonneg x (show m ≠ 0 by omega)
      have h2 := Int.emod_lt_of_pos x hm
      exact ⟨(x % m).toNat, by omega, by omega⟩
    cases w with
    | nil =>
      simp [pMul_ii, pMod_ii, pDiv_ii, hm]
      exact ⟨hT _ _ _ (by simp), hmod _⟩
    | cons x w =>
      simp at hw
      simp
      by_cases hx : x = 0
      · simp [hx]
        exact ⟨w.length, by omega, w, rfl, by omega, rfl⟩
      · simp [hx, pMod_ii, pDiv_ii hm (show m ≤ 10000000000 by omega), tC_ins (show w.length ≤ 63 by omega), hm]
        exact ⟨hT _ _ _ (by simp; omega), hmod _⟩
  · unfold wF; omega
def tpC (l ws : List Int) : Cf := ⟨[.mu (ws.map fun i => .da (.int i))], tp0, l⟩
theorem tape_ok {l : List Int} (h : l.length ≤ 63) : ∃ tp, m__law_tape l = some tp ∧ TpOk tp := by
  refine fK_post ?_
  simp [mb__law_tape]
  refine q_ForL l (fun i => .da (.int i)) (fun pre s c => ∃ (ws : List Int) (x : Int) (u3 u4 : Option Vv), s = [some .scr, some (.ref 0), some (.da (.int x)), u3, u4] ∧ c = tpC l ws ∧ ws.length ≤ pre.length) ?_ ?_ ?_
  · refine q_ItW ?_
    simp [itemsOf, Cf.app]
    exact fun g hg => ⟨fun pre s c _ _ _ _ ws e _ => hg c (by rw [e]; rfl) (by rw [e]; rfl), rfl⟩
  · intro pre x post s c e h1
    obtain ⟨ws, st, u3, u4, rfl, rfl, hl⟩ := h1
    have hpl : pre.length < 63 := by
      have := congrArg List.length e
      simp at this
      omega
    have hi : isL (.ref 0) (tpC l ws) = true := rfl
    have ha : ∀ y, pAppend (.ref 0) [.da (.int y)] (tpC l ws) = some (.da .none, tpC l (ws ++ [y])) := fun y => by
      rw [pAppend_mu (l := ws.map fun i => .da (.int i)) rfl (by simp; omega)]
      simp [tpC, Cf.put]
    simp [pMul_ii, pMul_ci, pMod_ii]
    have key : ∀ y : Int, if 1000000000000000000 ≤ y then isL (.ref 0) (tpC l ws) = true ∧ Opt (pAppend (.ref 0) [.da (.int y)] (tpC l ws)) fun r => ∃ x, r.2 = tpC l x ∧ x.length ≤ pre.length + 1 else ∃ x, tpC l ws = tpC l x ∧ x.length ≤ pre.length + 1 := fun y => by
      split
      · rw [ha]
        exact ⟨hi, ws ++ [y], rfl, by simp; omega⟩
      · exact ⟨ws, rfl, by omega⟩
    split
    · simpa using key _
    · simpa using key _
  · intro s c h1
    obtain ⟨ws, st, u3, u4, rfl, rfl, hl⟩ := h1
    simp
    refine ⟨⟨[none, some st, some 0], ws, true⟩, ?_, ws, st, 0, rfl, ?_⟩
    · show tapeOf ⟨[.mu (ws.map fun i => .da (.int i)), .mu [.ref 0, .da (.int st), .da (.int 0)]], tp0, l⟩ 1 = _
      show (match some (ws.map fun i => Vv.da (.int i)) with | some lw => (intsOf lw).bind fun ws => some (⟨[none, some st, some 0], ws, true⟩ : Tp) | none => none) = _
      simp [ints_vv]
    · omega
theorem pick_to {tp : Tp} (h : TpOk tp) {m : Int} (hm : 0 < m) (hm2 : m ≤ 100000) {K : PyData → Tp → Prop} {X : Exc → Tp → Prop} (k : ∀ (t : Tp) (r : Nat), TpOk t → (r : Int) < m → K (.int (r : Nat)) t) : ResT (m__law_pick [.int m] tp) K X :=
  (pick_ok h hm hm2).imp (fun d t h => by obtain ⟨h1, r, rfl, h2⟩ := h; exact k t r h1 h2) fun _ _ z => z.elim
theorem tabI (ns : List Int) (lo hi : Int) (h : ns.all (fun n => decide (lo ≤ n) && decide (n ≤ hi)) = true) {r : Nat} (hr : r < ns.length) : ∃ n, L2.atI (ns.map PyData.int) (r : Int) = some (.int n) ∧ lo ≤ n ∧ n ≤ hi := by
  have := List.all_eq_true.mp h ns[r] (List.getElem_mem hr)
  simp at this
  exact ⟨ns[r], atI_G (by simp [hr]), this⟩
def sgS : Str := Str.ofString "abcxyzABZ0189.,:;!?+-*/=<>()[]#$&@^|~" ++ Str.ofString "\"" ++ Str.ofString "\\"
theorem sgS_len : sgS.length = 39 := by decide +kernel
theorem sgS_ok : sgS.cps.toList.all wordC = true := by decide +kernel
theorem wordC_sgn {k : Nat} (h : wordC k = true) : sgnC k = true := by
  simp [wordC] at h
  simp [sgnC]
  omega
/-- a word of the law -/
structure Wd (d : PyData) : Prop where
  st : ∃ s, d = .str s
  ok : isWordB d = true
  sm : smD d = true
  wt : wtD d ≤ 162
theorem wd_of {s : Str} (h1 : 1 ≤ s.length) (h2 : s.length ≤ 16) (h3 : s.cps.toList.all wordC = true) : Wd (.str s) := by
  have hs : s.cps.toList.all sgnC = true := List.all_eq_true.mpr fun k hk => wordC_sgn (List.all_eq_true.mp h3 k hk)
  refine ⟨⟨s, rfl⟩, ?_, ?_, ?_⟩
  · simp only [isWordB, h1, h2, h3]
    rfl
  · simp only [smD, hs, Bool.true_and, decide_eq_true_eq]
    omega
  · have := StrLaws.reprText_len s fun c hc => by
      have := List.all_eq_true.mp h3 c hc
      simp [wordC] at this
      have h9 : (16 : Nat) ^ 8 = 4294967296 := by decide
      omega
    show (reprText s).length ≤ 162
    omega
theorem word_to {tp : Tp} (h : TpOk tp) : ResT (m__law_word [] tp) (fun d t => TpOk t ∧ Wd d) (fun _ _ => False) := by
  refine fT_post rfl ?_
  have e1 : pAdd (.da (.str "abcxyzABZ0189.,:;!?+-*/=<>()[]#$&@^|~")) (.da (.str "\"")) ⟨[], tp, []⟩ = some (.da (.str (Str.ofString "abcxyzABZ0189.,:;!?+-*/=<>()[]#$&@^|~" ++ Str.ofString "\"")), ⟨[], tp, []⟩) := pAdd_ss (by decide +kernel)
  have e2 : pAdd (.da (.str (Str.ofString "abcxyzABZ0189.,:;!?+-*/=<>()[]#$&@^|~" ++ Str.ofString "\""))) (.da (.str "\\")) ⟨[], tp, []⟩ = some (.da (.str sgS), ⟨[], tp, []⟩) := pAdd_ss (by decide +kernel)
  simp [mb__law_word, e1, e2]
  refine pick_to h (by decide) (by decide) fun t r ht hr => ?_
  obtain ⟨n, hn, h1, h2⟩ := tabI [1, 1, 2, 3, 16, 15, 1, 4] 1 16 (by decide) (r := r) (by simp; omega)
  simp only [List.map_cons, List.map_nil] at hn
  obtain ⟨n, rfl⟩ := Int.eq_ofNat_of_zero_le (show 0 ≤ n by omega)
  simp [hn]
  generalize hmi : mRg1 _ = mi
  refine q_LcRg hmi n (fun i acc c => ∃ (t : Tp) (ks : List Nat), c = ⟨[], t, []⟩ ∧ TpOk t ∧ acc = ks.map (fun k => Vv.da (.str ⟨#[k]⟩)) ∧ ks.length = i ∧ ks.all wordC = true) ?_ ?_ ?_ (by omega)
  · simp
    refine ⟨by omega, ht⟩
  · intro i acc c hi h
    obtain ⟨t, ks, rfl, ht, rfl, hk, ha⟩ := h
    have hsl : sgS.length ≤ 100000 := by rw [sgS_len]; decide
    have hpl : pLen [.da (.str sgS)] ⟨[], t, []⟩ = some (.da (.int 39), ⟨[], t, []⟩) := by
      show (if sgS.length ≤ 100000 then some (Vv.da (.int sgS.length), (⟨[], t, []⟩ : Cf)) else none) = _
      rw [if_pos hsl, sgS_len]
      rfl
    simp [wipeS, hpl]
    refine pick_to ht (by decide) (by decide) fun t2 r ht2 hr => ?_
    have hr2 : r < sgS.cps.toList.length := by
      have : sgS.cps.toList.length = sgS.length := Array.length_toList
      rw [this, sgS_len]
      omega
    rw [pIx_str hsl (List.getElem?_eq_getElem hr2)]
    refine ⟨t2, rfl, ht2, ks ++ [sgS.cps.toList[r]], by simp, by simp [hk], ?_⟩
    intro x hx
    rcases List.mem_append.mp hx with hx | hx
    · exact List.all_eq_true.mp ha x hx
    · rw [List.mem_singleton.mp hx]
      exact List.all_eq_true.mp sgS_ok _ (List.getElem_mem hr2)
  · intro acc c h
    obtain ⟨t, ks, rfl, ht, rfl, hk, ha⟩ := h
    have hsm : ∀ l : List Nat, (l.map fun k => (⟨#[k]⟩ : Str).length).sum = l.length := by
      intro l
      induction l with
      | nil => rfl
      | cons a l ih =>
        rw [List.map_cons, List.sum_cons, ih, List.length_cons]
        show 1 + l.length = l.length + 1
        omega
    have hj : joinOf (Str.ofString "") (.ref 0) (Cf.app ⟨[], t, []⟩ (ks.map fun k => Vv.da (.str ⟨#[k]⟩))) = some (.da (.str (Txt.join (Str.ofString "") (ks.map fun k => ⟨#[k]⟩)))) := by
      unfold joinOf
      have e1 : (tuOf (.ref 0)).or (lsOf (Cf.app ⟨[], t, []⟩ (ks.map fun k => Vv.da (.str ⟨#[k]⟩))) (.ref 0)) = some ((ks.map fun k => (⟨#[k]⟩ : Str)).map fun s => Vv.da (.str s)) := by simp [tuOf, lsOf, Cf.app]
      rw [e1, Option.bind_some, strs_map, Option.bind_some, if_pos]
      have e0 : (Str.ofString "").length = 0 := rfl
      rw [e0]
      have := hsm ks
      simp only [List.map_map, Function.comp_def]
      omega
    simp [hj]
    refine ⟨ht, wd_of ?_ ?_ ?_⟩
    · rw [join_len rfl, List.map_map]
      have := hsm ks
      simp only [Function.comp_def]
      omega
    · rw [join_len rfl, List.map_map]
      have := hsm ks
      simp only [Function.comp_def]
      omega
    · refine List.all_eq_true.mpr (join_all (p := fun k => wordC k = true) ?_ ?_)
      · intro k hk
        have : (Str.ofString "").cps.toList = [] := by decide +kernel
        rw [this] at hk
        cases hk
      · intro x hx k hk
        obtain ⟨k', hk', rfl⟩ := List.mem_map.mp hx
        simp at hk
        subst hk
        exact List.all_eq_true.mp ha _ hk'
end PM.K06
end
section
/-! K06M14: mathematics of k06: books are made. -/
namespace PM.K06
open PySem DL PM
theorem asc_starts {n : Int} : ∀ {l : List Int} {p : Option Int}, l.Pairwise (· < ·) → (∀ x ∈ l, 0 ≤ x ∧ x < n) → (∀ q, p = some q → ∀ x ∈ l, q < x) → startsB n p (l.map .int) = true
  | [], _, _, _, _ => rfl
  | i :: l, p, h, hr, hp => by
    rw [List.pairwise_cons] at h
    have h1 := hr i (by simp)
    have h2 := asc_starts (n := n) (l := l) (p := some i) h.2 (fun x hx => hr x (List.mem_cons_of_mem _ hx)) fun q hq x hx => by
      cases hq
      exact h.1 x hx
    simp only [List.map_cons, startsB, h2, Bool.and_true]
    have h3 : sortB n (.int i) = true := by simp [sortB, h1]
    rw [h3, Bool.true_and]
    cases p with
    | none => rfl
    | some q => simpa using hp q rfl i (by simp)
/-- a book of the law -/
structure LBook (b : Bk) : Prop where
  ok : b.Ok
  n4 : b.n ≤ 4
  c6 : b.cs.length ≤ 6
  s4 : b.st.length ≤ 4
theorem book_ok {tp : Tp} (h : TpOk tp) : ResT (m__law_book [] tp) (fun d t => TpOk t ∧ ∃ b, d = b.d ∧ LBook b) (fun _ _ => False) := by
  refine fT_post rfl ?_
  simp [mb__law_book]
  refine pick_to h (by decide) (by decide) fun t r ht hr => ?_
  obtain ⟨n, hn, h1, h2⟩ := tabI [2, 1, 3, 2, 4, 1, 2, 0, 3] 0 4 (by decide) (r := r) (by simp; omega)
  simp only [List.map_cons, List.map_nil] at hn
  obtain ⟨n, rfl⟩ := Int.eq_ofNat_of_zero_le h1
  simp [hn]
  generalize hmi : mRg1 (mV 1) = mi
  refine q_LcRg hmi n (fun i acc c => ∃ (t : Tp) (l : List Int), c = ⟨[], t, []⟩ ∧ TpOk t ∧ acc = (l.map PyData.int).map .da ∧ l.length ≤ i ∧ l.Pairwise (· < ·) ∧ ∀ x ∈ l, 0 ≤ x ∧ x < i) ?_ ?_ ?_ (by omega)
  · simp
    exact ⟨by omega, ht⟩
  · intro i acc c hi h
    obtain ⟨t, l, rfl, ht, rfl, hl, hp, hx⟩ := h
    simp [wipeS]
    refine pick_to ht (by decide) (by decide) fun t2 r ht2 hr => ?_
    by_cases hr1 : (r : Int) < 1
    · simp [hr1]
      refine ⟨ht2, l ++ [(i : Int)], by simp, by simpa using hl, ?_, ?_⟩
      · rw [List.pairwise_append]
        refine ⟨hp, List.pairwise_singleton _ _, fun x hx' y hy => ?_⟩
        rw [List.mem_singleton.mp hy]
        exact (hx x hx').2
      · intro x hx'
        rcases List.mem_append.mp hx' with hx' | hx'
        · have := hx x hx'; omega
        · rw [List.mem_singleton.mp hx']; omega
    · simp [hr1]
      exact ⟨ht2, l, rfl, by omega, hp, fun x hx' => by have := hx x hx'; omega⟩
  · intro acc c h
    obtain ⟨t, l, rfl, ht, rfl, hl, hp, hx⟩ := h
    have hT : pTuple [.ref 0] (Cf.app ⟨[], t, []⟩ ((l.map PyData.int).map .da)) = some (.da (.tuple (l.map .int)), Cf.app ⟨[], t, []⟩ ((l.map PyData.int).map .da)) := pTuple_mu (ls_mu rfl)
    simp [hT, -List.map_map]
    have hst := asc_starts (n := (n : Int)) (p := none) hp hx fun q hq => by cases hq
    have fin : ∀ (cs : List (Int × List Int)) (c : Cf), c.st[1]? = some (.mu ((cs.map conD).map .da)) → TpOk c.tp → cs.length ≤ 6 → (∀ p ∈ cs, (0 ≤ p.1 ∧ p.1 < (n : Int)) ∧ p.2.length ≤ 4 ∧ ∀ k ∈ p.2, 0 ≤ k ∧ k < (n : Int)) → Opt (pTuple [.ref 1] c) fun r => Opt (fz fzN r.1 r.2) fun a => TpOk a.2.tp ∧ ∃ b, PyData.tuple [.int n, .tuple (l.map .int), a.1] = b.d ∧ LBook b := by
      intro cs c h1 h2 h3 h4
      rw [pTuple_mu (ls_mu h1)]
      simp
      exact ⟨h2, ⟨n, l, cs⟩, rfl, ⟨⟨by simp, by simp; omega, by simp; omega, hst, h4⟩, by simp; omega, h3, by simp; omega⟩⟩
    have hst1 : ∀ (l1 : List Vv), ((Cf.app ⟨[], t, []⟩ l1).app []).st[1]? = some (.mu []) := fun _ => rfl
    generalize hc : (Cf.app (Cf.app ⟨[], t, []⟩ ((l.map PyData.int).map Vv.da)) []) = c
    have h1 : c.st[1]? = some (.mu (([] : List (Int × List Int)).map conD |>.map .da)) := by rw [← hc]; rfl
    have h2 : TpOk c.tp := by rw [← hc]; exact ht
    clear hc
    split
    · rename_i hn0
      generalize hmi2 : mRg1 (mCallT m__law_pick [] (mA1 (mV 0) (mA1 (mC (.int 7)) mA0))) = mi2
      refine q_ForRgX hmi2 ?_
      simp
      refine pick_to h2 (by decide) (by decide) fun t r ht hr => ?_
      refine ⟨r, rfl, by omega, fun i s c => ∃ (cs : List (Int × List Int)) (u4 u5 u6 u7 u8 : Option Vv), s = [some .tape, some (.da (.int (n : Nat))), some (.da (.tuple (l.map .int))), some (.ref 1), u4, u5, u6, u7, u8] ∧ c.st[1]? = some (.mu ((cs.map conD).map .da)) ∧ TpOk c.tp ∧ cs.length = i ∧ ∀ p ∈ cs, (0 ≤ p.1 ∧ p.1 < (n : Int)) ∧ p.2.length ≤ 4 ∧ ∀ k ∈ p.2, 0 ≤ k ∧ k < (n : Int), ?_, ?_, ?_⟩
      · exact ⟨[], _, _, _, _, _, rfl, h1, ht, rfl, by simp⟩
      · intro i s c hi h
        obtain ⟨cs, u4, u5, u6, u7, u8, rfl, hc1, hct, hcl, hcs⟩ := h
        simp
        refine pick_to hct (by decide) (by decide) fun t2 r2 ht2 hr2 => ?_
        obtain ⟨m, hm, hm1, hm2⟩ := tabI [0, 1, 2, 1, 0, 2, 3, 4] 0 4 (by decide) (r := r2) (by simp; omega)
        simp only [List.map_cons, List.map_nil] at hm
        obtain ⟨m, rfl⟩ := Int.eq_ofNat_of_zero_le hm1
        simp [hm]
        generalize hmi3 : mRg1 (mV 5) = mi3
        refine q_LcRg hmi3 m (fun j acc c' => ∃ ks : List Int, acc = (ks.map PyData.int).map .da ∧ ks.length = j ∧ (∀ k ∈ ks, 0 ≤ k ∧ k < (n : Int)) ∧ TpOk c'.tp ∧ c'.st = c.st) ?_ ?_ ?_ (by omega)
        · simp
          exact ⟨by omega, ht2⟩
        · intro j acc c' hj h
          obtain ⟨ks, rfl, hkl, hk, hkt, hks⟩ := h
          simp [wipeS]
          refine pick_to hkt (by omega) (by omega) fun t3 r3 ht3 hr3 => ?_
          refine ⟨ks ++ [(r3 : Int)], by simp, by simp [hkl], ?_, ht3, hks⟩
          intro k hk'
          rcases List.mem_append.mp hk' with hk' | hk'
          · exact hk k hk'
          · rw [List.mem_singleton.mp hk']; omega
        · intro acc c' h
          obtain ⟨ks, rfl, hkl, hk, hkt, hks⟩ := h
          have hT2 : pTuple [.ref c'.st.length] (c'.app ((ks.map PyData.int).map .da)) = some (.da (.tuple (ks.map .int)), c'.app ((ks.map PyData.int).map .da)) := pTuple_mu ls_top
          have h1lt := lt_mu hc1
          have hc3 : (c'.app ((ks.map PyData.int).map .da)).st[1]? = some (.mu ((cs.map conD).map .da)) := by rw [st_old (by rw [hks]; exact h1lt), hks]; exact hc1
          simp [hT2, -List.map_map]
          refine ⟨isL_mu hc3, ?_⟩
          refine pick_to hkt (by omega) (by omega) fun t4 r4 ht4 hr4 => ?_
          have hc4 : (⟨(c'.app ((ks.map PyData.int).map .da)).st, t4, c'.sc⟩ : Cf).st[1]? = some (.mu ((cs.map conD).map .da)) := hc3
          rw [pAppend_mu hc4 (by simp; omega)]
          refine ⟨cs ++ [((r4 : Int), ks)], ?_, ht4, by simp [hcl], fun a b hab => ?_⟩
          · rw [st_put (lt_mu hc4)]
            simp [conD]
          · rcases List.mem_append.mp hab with hab | hab
            · exact hcs (a, b) hab
            · have := List.mem_singleton.mp hab
              cases this
              exact ⟨⟨by omega, by omega⟩, by omega, hk⟩
      · intro s c h
        obtain ⟨cs, u4, u5, u6, u7, u8, rfl, hc1, hct, hcl, hcs⟩ := h
        simp
        exact fin cs c hc1 hct (by omega) hcs
    · exact fin [] c h1 h2 (by simp) (by simp)
end PM.K06
end
section
/-! K06M15: mathematics of k06: rows are made. -/
namespace PM.K06
open PySem DL PM
def slD (a j : Nat) : PyData := .tuple [.int (a : Nat), .int (j : Nat)]
def slK (ks : List Nat) (a : Nat) : List PyData := (List.range (ks.getD a 0)).map (slD a)
def slS (ks : List Nat) (i : Nat) : List PyData := (List.range i).flatMap (slK ks)
theorem slS_succ {ks : List Nat} {i : Nat} : slS ks (i + 1) = slS ks i ++ slK ks i := by simp [slS, List.range_succ]
theorem slS_len {ks : List Nat} (h : ∀ a, ks.getD a 0 ≤ 7) : ∀ i, (slS ks i).length ≤ 7 * i
  | 0 => by simp [slS]
  | i + 1 => by
    rw [slS_succ, List.length_append]
    have := slS_len h i
    have := h i
    simp only [slK, List.length_map, List.length_range]
    omega
/-- a row of the law: its lines hold all slots and some words -/
def GRow (ks : List Nat) (w : Nat) (d : PyData) : Prop := ∃ (Ls : List (List PyData)) (wds : List PyData), d = .tuple (Ls.map .tuple) ∧ Ls.length = w ∧ Ls.flatten.Perm (slS ks ks.length ++ wds) ∧ wds.length ≤ 3 ∧ ∀ x ∈ wds, Wd x
/-- the store while lines are filled -/
def rC (L : List Vv) (Ls : List (List PyData)) (tp : Tp) : Cf := ⟨.mu L :: ((Ls.map fun l => .mu (l.map .da)) ++ [.mu ((List.range Ls.length).map fun i => .ref (i + 1))]), tp, []⟩
theorem rC_0 {L : List Vv} {Ls : List (List PyData)} {tp : Tp} : (rC L Ls tp).st[0]? = some (.mu L) := rfl
theorem rC_at {L : List Vv} {Ls : List (List PyData)} {tp : Tp} {i : Nat} (h : i < Ls.length) : (rC L Ls tp).st[i + 1]? = some (.mu (Ls[i].map .da)) := by
  simp [rC, List.getElem?_append, h]
theorem rC_top {L : List Vv} {Ls : List (List PyData)} {tp : Tp} : (rC L Ls tp).st[Ls.length + 1]? = some (.mu ((List.range Ls.length).map fun i => .ref (i + 1))) := by
  simp [rC, List.getElem?_append]
theorem rC_put {L : List Vv} {Ls : List (List PyData)} {tp : Tp} {i : Nat} {x : List PyData} (h : i < Ls.length) : (rC L Ls tp).put (i + 1) (x.map .da) = rC L (Ls.set i x) tp := by
  unfold Cf.put rC
  simp only [List.set_cons_succ, List.length_set]
  congr 2
  rw [List.set_append_left _ _ (by simpa using h), List.map_set]
theorem ins_perm {L M : List PyData} {r : Nat} {x : PyData} (h : L.Perm M) : (L.take r ++ x :: L.drop r).Perm (M ++ [x]) := by
  refine List.perm_middle.trans ?_
  rw [List.take_append_drop]
  exact (List.Perm.cons x h).trans (List.perm_append_singleton x M).symm
theorem set_perm {x : PyData} : ∀ {Ls : List (List PyData)} {r : Nat} (h : r < Ls.length), (Ls.set r (Ls[r] ++ [x])).flatten.Perm (Ls.flatten ++ [x])
  | l :: Ls, 0, _ => by
    simp only [List.set_cons_zero, List.getElem_cons_zero, List.flatten_cons, List.append_assoc]
    exact List.Perm.append_left l List.perm_append_comm
  | l :: Ls, r + 1, h => by
    simp only [List.set_cons_succ, List.getElem_cons_succ, List.flatten_cons, List.append_assoc]
    exact List.Perm.append_left l (set_perm (by simpa using h))
theorem len_flat : ∀ {Ls : List (List PyData)} {r : Nat} (h : r < Ls.length), Ls[r].length ≤ Ls.flatten.length
  | l :: Ls, 0, _ => by simp
  | l :: Ls, r + 1, h => by
    have := len_flat (Ls := Ls) (r := r) (by simpa using h)
    simp only [List.getElem_cons_succ, List.flatten_cons, List.length_append]
    omega
theorem row_ok' {tp : Tp} (h : TpOk tp) {wl : List Int} {r0 : Int} {kids : List Int} (h0 : 0 ≤ r0 ∧ r0 < wl.length) (hk : ∀ i ∈ kids, 0 ≤ i ∧ i < wl.length) (hkl : kids.length ≤ 4) (hw : ∀ w ∈ wl, 1 ≤ w ∧ w ≤ 7) : ResT (m__law_row [conD (r0, kids), .list (wl.map .int)] tp) (fun d t => TpOk t ∧ GRow (kids.map fun i => (wAt wl i).toNat) (wAt wl r0).toNat d) (fun _ _ => False) := by
  generalize hR : m__law_row _ tp = R
  obtain ⟨hq1, hq2⟩ := wAt_ix h0.1 h0.2
  have hw0 := hw _ hq2
  generalize hks : (kids.map fun i => (wAt wl i).toNat) = ks
  have hksl : ks.length = kids.length := by rw [← hks, List.length_map]
  have hk7 : ∀ a, ks.getD a 0 ≤ 7 := by
    intro a
    rw [← hks]
    by_cases ha : a < kids.length
    · have := hw _ (wAt_ix (hk _ (List.getElem_mem ha)).1 (hk _ (List.getElem_mem ha)).2).2
      simp [ha]
      omega
    · simp [ha]
  have hki : ∀ i (h : i < kids.length), L2.atI (kids.map PyData.int) (i : Int) = some (.int kids[i]) ∧ L2.atI (wl.map PyData.int) kids[i] = some (.int (ks.getD i 0 : Nat)) := by
    intro i h
    obtain ⟨h5, h6⟩ := wAt_ix (hk _ (List.getElem_mem h)).1 (hk _ (List.getElem_mem h)).2
    have := hw _ h6
    refine ⟨atI_nat' (by simp [h]), ?_⟩
    rw [h5, ← hks]
    simp [h]
    omega
  obtain ⟨w, hww⟩ := Int.eq_ofNat_of_zero_le (show 0 ≤ wAt wl r0 by omega)
  have hw7 : 1 ≤ w ∧ w ≤ 7 := by omega
  rw [hww, Int.toNat_natCast]
  rw [hww] at hq1
  rw [← hR]
  refine fT_post rfl ?_
  simp [mb__law_row, conD, -List.map_map]
  generalize hmi : mRg1 (mCB pLen (mA1 (mOp pIx (mV 1) (mC (.int 1))) mA0)) = mi
  refine q_ForRg hmi kids.length (fun i s c => ∃ (L : List PyData) (t : Tp) (u4 u5 u6 u7 u8 u9 : Option Vv), s = [some .tape, some (.da (.tuple [.int r0, .tuple (kids.map .int)])), some (.da (.list (wl.map .int))), some (.ref 0), u4, u5, u6, u7, u8, u9] ∧ c = ⟨[.mu (L.map .da)], t, []⟩ ∧ TpOk t ∧ L.Perm (slS ks i)) ?_ ?_ ?_
  · simp
    refine ⟨by omega, [], tp, rfl, h, ?_⟩
    simp [slS]
  · intro i s c hi h1
    obtain ⟨L, t, u4, u5, u6, u7, u8, u9, rfl, rfl, ht, hp⟩ := h1
    obtain ⟨h5, h6⟩ := hki i hi
    simp [-List.map_map]
    generalize hmi2 : mRg1 (mOp pIx (mV 2) (mOp pIx (mOp pIx (mV 1) (mC (.int 1))) (mV 4))) = mi2
    refine q_ForRg hmi2 (ks.getD i 0) (fun j s c => ∃ (L : List PyData) (t : Tp) (u5 u6 u7 u8 u9 : Option Vv), s = [some .tape, some (.da (.tuple [.int r0, .tuple (kids.map .int)])), some (.da (.list (wl.map .int))), some (.ref 0), some (.da (.int (i : Nat))), u5, u6, u7, u8, u9] ∧ c = ⟨[.mu (L.map .da)], t, []⟩ ∧ TpOk t ∧ L.Perm (slS ks i ++ (List.range j).map (slD i))) ?_ ?_ ?_
    · simp only [q_Op, q_V, q_C, List.getElem?_cons_zero, List.getElem?_cons_succ, opt_s, pIx_tup, pIx_lst, h5, h6, atI2_1, Option.map_some]
      exact ⟨trivial, by have := hk7 i; omega, L, t, _, _, _, _, _, rfl, rfl, ht, by simpa using hp⟩
    · intro j s c hj h1
      obtain ⟨L, t, u5, u6, u7, u8, u9, rfl, rfl, ht, hp⟩ := h1
      have hL : L.length ≤ 40 := by
        rw [hp.length_eq]
        have := slS_len hk7 i
        have := hk7 i
        simp
        omega
      have hc0 : (⟨[.mu (L.map .da)], t, []⟩ : Cf).st[0]? = some (.mu (L.map .da)) := rfl
      simp [-List.map_map, isL_mu hc0, pLen_mu (ls_mu hc0)]
      refine pick_to ht (by omega) (by omega) fun t2 r ht2 hr => ?_
      have hc1 : (⟨[.mu (L.map .da)], t2, []⟩ : Cf).st[0]? = some (.mu (L.map .da)) := rfl
      rw [pInsert_mu hc1 (by simp; omega) (by omega)]
      refine ⟨L.take r ++ slD i j :: L.drop r, t2, ?_, ht2, ?_⟩
      · simp [Cf.put, slD]
      · rw [List.range_succ, List.map_append, ← List.append_assoc]
        exact ins_perm hp
    · intro s c h1
      obtain ⟨L, t, u5, u6, u7, u8, u9, rfl, rfl, ht, hp⟩ := h1
      simp [-List.map_map]
      exact ⟨L, t, ⟨rfl, rfl⟩, ht, by rw [slS_succ]; exact hp⟩
  · intro s c h1
    obtain ⟨L, t, u4, u5, u6, u7, u8, u9, rfl, rfl, ht, hp⟩ := h1
    rw [← hksl] at hp
    have hL : L.length ≤ 28 := by
      rw [hp.length_eq]
      have := slS_len hk7 ks.length
      omega
    simp [-List.map_map]
    refine q_ForRgX rfl ?_
    simp
    refine pick_to ht (by decide) (by decide) fun t2 r2 ht2 hr2 => ?_
    refine ⟨r2, rfl, by omega, fun i s c => ∃ (L wds : List PyData) (t : Tp) (u4 u5 u6 u7 u8 u9 : Option Vv), s = [some .tape, some (.da (.tuple [.int r0, .tuple (kids.map .int)])), some (.da (.list (wl.map .int))), some (.ref 0), u4, u5, u6, u7, u8, u9] ∧ c = ⟨[.mu (L.map .da)], t, []⟩ ∧ TpOk t ∧ L.Perm (slS ks ks.length ++ wds) ∧ wds.length = i ∧ ∀ x ∈ wds, Wd x, ?_, ?_, ?_⟩
    · exact ⟨L, [], t2, _, _, _, _, _, _, rfl, rfl, ht2, by simpa using hp, rfl, by simp⟩
    · intro i s c hi h1
      obtain ⟨L, wds, t, u4, u5, u6, u7, u8, u9, rfl, rfl, ht, hp, hwl, hwd⟩ := h1
      have hL : L.length ≤ 40 := by
        rw [hp.length_eq]
        have := slS_len hk7 ks.length
        simp
        omega
      have hc0 : (⟨[.mu (L.map .da)], t, []⟩ : Cf).st[0]? = some (.mu (L.map .da)) := rfl
      simp [-List.map_map, isL_mu hc0, pLen_mu (ls_mu hc0)]
      refine pick_to ht (by omega) (by omega) fun t2 r ht2 hr => ?_
      refine (word_to ht2).imp (fun d t3 ⟨ht3, hd⟩ => ?_) fun _ _ z => z.elim
      have hc1 : (⟨[.mu (L.map .da)], t3, []⟩ : Cf).st[0]? = some (.mu (L.map .da)) := rfl
      rw [pInsert_mu hc1 (by simp; omega) (by omega)]
      refine ⟨L.take r ++ d :: L.drop r, wds ++ [d], t3, ?_, ht3, ?_, by simp [hwl], ?_⟩
      · simp [Cf.put]
      · rw [← List.append_assoc]
        exact ins_perm hp
      · intro x hx
        rcases List.mem_append.mp hx with hx | hx
        · exact hwd x hx
        · rw [List.mem_singleton.mp hx]; exact hd
    · intro s c h1
      obtain ⟨L, wds, t, u4, u5, u6, u7, u8, u9, rfl, rfl, ht, hp, hwl, hwd⟩ := h1
      have hL : L.length ≤ 40 := by
        rw [hp.length_eq]
        have := slS_len hk7 ks.length
        simp
        omega
      simp [-List.map_map]
      refine q_LcRg rfl w (fun i acc c => acc = (List.range i).map (fun i => .ref (i + 1)) ∧ c = ⟨.mu (L.map .da) :: List.replicate i (.mu []), t, []⟩) ?_ ?_ ?_ (by omega)
      · simp [hq1]
        omega
      · intro i acc c hi h1
        obtain ⟨rfl, rfl⟩ := h1
        simp [Cf.app, List.range_succ, List.replicate_succ']
      · intro acc c h1
        obtain ⟨rfl, rfl⟩ := h1
        have hC : Cf.app ⟨.mu (L.map .da) :: List.replicate w (.mu []), t, []⟩ ((List.range w).map fun i => .ref (i + 1)) = rC (L.map .da) (List.replicate w []) t := by simp [Cf.app, rC]
        rw [hC]
        have hl1 : (⟨.mu (L.map .da) :: List.replicate w (.mu []), t, []⟩ : Cf).st.length = w + 1 := by simp
        rw [hl1]
        refine q_ForL L .da (fun pre s c => ∃ (Ls : List (List PyData)) (t : Tp) (u4 u5 u6 u8 u9 : Option Vv), s = [some .tape, some (.da (.tuple [.int r0, .tuple (kids.map .int)])), some (.da (.list (wl.map .int))), some (.ref 0), u4, u5, u6, some (.ref (w + 1)), u8, u9] ∧ c = rC (L.map .da) Ls t ∧ TpOk t ∧ Ls.length = w ∧ Ls.flatten.Perm pre) ?_ ?_ ?_
        · refine q_ItW ?_
          simp [itemsOf, ls_mu rC_0, -List.map_map]
          exact fun g hg => ⟨fun pre s c _ _ _ _ _ _ Ls t e _ _ _ => hg c (by rw [e]; exact ls_mu rC_0), List.replicate w [], t, rfl, ht, by simp, fun l hl => List.eq_of_mem_replicate hl⟩
        · intro pre x post s c e h1
          obtain ⟨Ls, t, u4, u5, u6, u8, u9, rfl, rfl, ht, hlw, hpp⟩ := h1
          have htop := rC_top (L := L.map .da) (Ls := Ls) (tp := t)
          rw [hlw] at htop
          simp [pLen_mu (ls_mu htop)]
          refine pick_to (tp := t) ht (by omega) (by omega) fun t2 r ht2 hr => ?_
          have et : (⟨(rC (L.map .da) Ls t).st, t2, (rC (L.map .da) Ls t).sc⟩ : Cf) = rC (L.map .da) Ls t2 := rfl
          rw [et]
          have htop2 := rC_top (L := L.map .da) (Ls := Ls) (tp := t2)
          rw [hlw] at htop2
          have hrw : r < Ls.length := by omega
          have hat := rC_at (L := L.map .da) (tp := t2) hrw
          have hlen : Ls[r].length ≤ 40 := by
            have h1 := hpp.length_eq
            have h2 : Ls[r].length ≤ Ls.flatten.length := len_flat hrw
            have h3 : pre.length ≤ L.length := by rw [e]; simp
            omega
          have hix : ((List.range w).map fun i => Vv.ref (i + 1))[r]? = some (.ref (r + 1)) := by
            have : r < w := by omega
            simp [this]
          rw [pIx_mu (ls_mu htop2) hix]
          simp only [opt_s]
          refine ⟨isL_mu hat, ?_⟩
          rw [pAppend_mu hat (by simp; omega)]
          have em : Ls[r].map Vv.da ++ [.da x] = (Ls[r] ++ [x]).map Vv.da := by simp
          rw [em, rC_put hrw]
          exact ⟨Ls.set r (Ls[r] ++ [x]), t2, rfl, ht2, by simp [hlw], (set_perm hrw).trans (List.Perm.append_right [x] hpp)⟩
        · intro s c h1
          obtain ⟨Ls, t, u4, u5, u6, u8, u9, rfl, rfl, ht, hlw, hpp⟩ := h1
          have htop := rC_top (L := L.map .da) (Ls := Ls) (tp := t)
          rw [hlw] at htop
          simp
          refine q_LcMapL (List.range w) (fun i => .ref (i + 1)) (fun i => .da (.tuple (Ls.getD i []))) (rC (L.map .da) Ls t) ?_ (by simp; omega) ?_ ?_
          · refine q_ItW ?_
            simp [itemsOf, ls_mu htop]
            exact fun g hg => hg _ (ls_mu htop)
          · intro i hi
            have hil : i < Ls.length := by rw [hlw]; simpa using hi
            have hat := rC_at (L := L.map .da) (tp := t) hil
            simp [wipeS, pTuple_mu (ls_mu hat), hil]
          · have em : ((List.range w).map fun i => Vv.da (.tuple (Ls.getD i []))) = (Ls.map .tuple).map .da := by
              refine List.ext_getElem? fun i => ?_
              by_cases hi : i < w
              · simp [hi, hlw]
              · rw [List.getElem?_eq_none (by simp; omega), List.getElem?_eq_none (by simp; omega)]
            rw [em, pTuple_mu ls_top]
            simp
            exact ⟨ht, Ls, wds, rfl, hlw, hpp.trans hp, by omega, hwd⟩
end PM.K06
end
section
/-! K06M16: mathematics of k06: how large things are; right things. -/
namespace PM.K06
open PySem DL PM
theorem smA_app {a b : List PyData} : smA (a ++ b) = (smA a && smA b) := by
  induction a with
  | nil => simp [smA]
  | cons x a ih => simp [smA, ih, Bool.and_assoc]
theorem dpA_app {a b : List PyData} : PyData.depthAll (a ++ b) = max (PyData.depthAll a) (PyData.depthAll b) := by
  induction a with
  | nil => simp [PyData.depthAll]
  | cons x a ih => simp only [List.cons_append, PyData.depthAll, ih]; omega
structure Lm (D n : Nat) (d : PyData) : Prop where
  sm : smD d = true
  dp : d.depth ≤ D
  wt : wtD d ≤ n
structure LmA (D n : Nat) (ds : List PyData) : Prop where
  sm : smA ds = true
  dp : PyData.depthAll ds ≤ D
  wt : wtA ds ≤ n
section
variable {D D' n m : Nat} {d : PyData} {a b ds : List PyData}
theorem Lm.mono (h : Lm D n d) (h1 : D ≤ D') (h2 : n ≤ m) : Lm D' m d := ⟨h.sm, Nat.le_trans h.dp h1, Nat.le_trans h.wt h2⟩
theorem LmA.mono (h : LmA D n ds) (h1 : D ≤ D') (h2 : n ≤ m) : LmA D' m ds := ⟨h.sm, Nat.le_trans h.dp h1, Nat.le_trans h.wt h2⟩
theorem LmA.nil : LmA D 0 [] := ⟨rfl, Nat.zero_le _, Nat.le_refl _⟩
theorem LmA.cons (h : Lm D n d) (h' : LmA D m ds) : LmA D (n + 2 + m) (d :: ds) := ⟨by simp [smA, h.sm, h'.sm], by have := h.dp; have := h'.dp; simp only [PyData.depthAll]; omega, by have := h.wt; have := h'.wt; rw [wtA_cons]; omega⟩
theorem LmA.app (h : LmA D n a) (h' : LmA D m b) : LmA D (n + m) (a ++ b) := ⟨by simp [smA_app, h.sm, h'.sm], by have := h.dp; have := h'.dp; rw [dpA_app]; omega, by have := h.wt; have := h'.wt; rw [wtA_app]; omega⟩
theorem LmA.tup (h : LmA D n ds) : Lm (D + 1) (n + 3) (.tuple ds) := ⟨h.sm, by have := h.dp; simp only [PyData.depth]; omega, by have := h.wt; rw [wtD_tup]; omega⟩
theorem LmA.lst (h : LmA D n ds) : Lm (D + 1) (n + 3) (.list ds) := ⟨h.sm, by have := h.dp; simp only [PyData.depth]; omega, by have := h.wt; rw [wtD_lst]; omega⟩
theorem LmA.fst (h : LmA D n (a ++ b)) : LmA D n a := ⟨by have := h.sm; rw [smA_app, Bool.and_eq_true] at this; exact this.1, by have := h.dp; rw [dpA_app] at this; omega, by have := h.wt; rw [wtA_app] at this; omega⟩
theorem LmA.snd (h : LmA D n (a ++ b)) : LmA D n b := ⟨by have := h.sm; rw [smA_app, Bool.and_eq_true] at this; exact this.2, by have := h.dp; rw [dpA_app] at this; omega, by have := h.wt; rw [wtA_app] at this; omega⟩
theorem LmA.take (h : LmA D n ds) (k : Nat) : LmA D n (ds.take k) := by
  rw [← List.take_append_drop k ds] at h
  exact h.fst
theorem LmA.drop (h : LmA D n ds) (k : Nat) : LmA D n (ds.drop k) := by
  rw [← List.take_append_drop k ds] at h
  exact h.snd
theorem LmA.mem (h : LmA D n ds) (hd : d ∈ ds) : Lm D n d := ⟨smA_all.mp h.sm d hd, Nat.le_trans (dep_mem hd) h.dp, by have := wtA_mem hd; have := h.wt; omega⟩
theorem Lm.tupI (h : Lm (D + 1) n (.tuple ds)) : LmA D n ds := ⟨h.sm, by have := h.dp; simp only [PyData.depth] at this; omega, by have := h.wt; rw [wtD_tup] at this; omega⟩
theorem Lm.lstI (h : Lm (D + 1) n (.list ds)) : LmA D n ds := ⟨h.sm, by have := h.dp; simp only [PyData.depth] at this; omega, by have := h.wt; rw [wtD_lst] at this; omega⟩
theorem Lm.fit (h : Lm D n d) (h1 : D ≤ 50) (h2 : n ≤ 90000) : Fit d := ⟨h.sm, Nat.le_trans h.dp h1, Nat.le_trans h.wt h2⟩
/-- an item changed -/
theorem LmA.swap (h : LmA D n ds) {x : PyData} (hx : Lm D m x) (k : Nat) : LmA D (n + (m + 2)) (ds.take k ++ x :: ds.drop (k + 1)) := by
  have h1 := (h.take k).sm
  have h2 := (h.drop (k + 1))
  refine ⟨by simp [smA_app, smA, h1, h2.sm, hx.sm], ?_, ?_⟩
  · have := (h.take k).dp
    have := h2.dp
    have := hx.dp
    rw [dpA_app]
    simp only [PyData.depthAll]
    omega
  · have e : wtA (ds.take k) + wtA (ds.drop (k + 1)) ≤ wtA ds := by
      have e1 : wtA ds = wtA (ds.take k) + wtA (ds.drop k) := by rw [← wtA_app, List.take_append_drop]
      have e2 : wtA (ds.drop (k + 1)) ≤ wtA (ds.drop k) := by
        have : ds.drop (k + 1) = (ds.drop k).drop 1 := by rw [List.drop_drop]
        rw [this]
        cases ds.drop k with
        | nil => simp
        | cons y l => simp
      omega
    have := h.wt
    have := hx.wt
    rw [wtA_app, wtA_cons]
    omega
end
theorem wint {i : Int} (h : -1 ≤ i ∧ i ≤ 15) : wtD (.int i) ≤ 2 := by
  have : ∀ k : Fin 17, wtD (.int ((k.val : Int) - 1)) ≤ 2 := by decide +kernel
  have h1 := this ⟨(i + 1).toNat, by omega⟩
  have e : (((i + 1).toNat : Nat) : Int) - 1 = i := by omega
  rw [← e]
  exact h1
theorem wint1 {i : Nat} (h : i ≤ 9) : wtD (.int (i : Nat)) ≤ 1 := by
  have : ∀ k : Fin 10, wtD (.int (k.val : Int)) ≤ 1 := by decide +kernel
  exact this ⟨i, by omega⟩
theorem lm_int {i : Int} (h : -1 ≤ i ∧ i ≤ 15) : Lm 0 2 (.int i) := ⟨by simp [smD, h], Nat.le_refl _, wint h⟩
theorem lm_int1 {i : Nat} (h : i ≤ 9) : Lm 0 1 (.int (i : Nat)) := ⟨by simp [smD]; omega, Nat.le_refl _, wint1 h⟩
theorem lm_big : Lm 0 41 (.int (10 ^ 40)) := ⟨by decide +kernel, Nat.le_refl _, by decide +kernel⟩
theorem lm_wd {d : PyData} (h : Wd d) : Lm 0 162 d := ⟨h.sm, by obtain ⟨s, rfl⟩ := h.st; exact Nat.le_refl _, h.wt⟩
theorem lm_slot {a j : Nat} (ha : a ≤ 9) (hj : j ≤ 9) : Lm 1 9 (slD a j) := by
  have := ((lm_int1 ha).mono (Nat.le_refl 0) (Nat.le_refl 1))
  exact (LmA.cons (lm_int1 ha) (LmA.cons (lm_int1 hj) LmA.nil)).tup
theorem wtA_perm {a b : List PyData} (h : a.Perm b) : wtA a = wtA b := by
  induction h with
  | nil => rfl
  | cons x _ ih => simp [ih]
  | swap x y l => simp; omega
  | trans _ _ h1 h2 => exact h1.trans h2
theorem lmA_all {D n : Nat} : ∀ {ds : List PyData}, (∀ d ∈ ds, Lm D n d) → LmA D ((n + 2) * ds.length) ds
  | [], _ => by simpa using LmA.nil
  | d :: ds, h => by
    have := LmA.cons (h d (by simp)) (lmA_all fun x hx => h x (List.mem_cons_of_mem _ hx))
    rw [List.length_cons, Nat.mul_add, Nat.mul_one, Nat.add_comm]
    exact this
theorem slS_mem {ks : List Nat} {x : PyData} : ∀ {i : Nat}, x ∈ slS ks i → ∃ a j, x = slD a j ∧ a < i ∧ j < ks.getD a 0
  | 0, h => by simp [slS] at h
  | i + 1, h => by
    rw [slS_succ] at h
    rcases List.mem_append.mp h with h | h
    · obtain ⟨a, j, h1, h2, h3⟩ := slS_mem h
      exact ⟨a, j, h1, by omega, h3⟩
    · simp only [slK, List.mem_map, List.mem_range] at h
      obtain ⟨j, h1, rfl⟩ := h
      exact ⟨i, j, rfl, by omega, h1⟩
theorem lines_lm {D n : Nat} {F : List PyData} (h : LmA D n F) : ∀ {Ls : List (List PyData)}, Ls.flatten = F → LmA (D + 1) (n + 5 * Ls.length) (Ls.map .tuple) := by
  intro Ls
  induction Ls generalizing F n with
  | nil => intro _; exact LmA.nil.mono (Nat.zero_le _) (Nat.zero_le _)
  | cons l Ls ih =>
    intro e
    rw [List.flatten_cons] at e
    subst e
    have h1 : LmA D (wtA l) l := ⟨h.fst.sm, h.fst.dp, Nat.le_refl _⟩
    have h2 : LmA D (wtA Ls.flatten) Ls.flatten := ⟨h.snd.sm, h.snd.dp, Nat.le_refl _⟩
    have h3 := LmA.cons h1.tup (ih h2 rfl)
    refine h3.mono (Nat.le_refl _) ?_
    have := h.wt
    rw [wtA_app] at this
    simp only [List.length_cons]
    omega
theorem row_lm {ks : List Nat} {w : Nat} {d : PyData} (h : GRow ks w d) (h4 : ks.length ≤ 4) (h7 : ∀ a, ks.getD a 0 ≤ 7) (hw : w ≤ 7) : Lm 3 838 d := by
  obtain ⟨Ls, wds, rfl, hl, hp, hwl, hwd⟩ := h
  have h1 : LmA 1 ((9 + 2) * (slS ks ks.length).length) (slS ks ks.length) := lmA_all fun x hx => by
    obtain ⟨a, j, rfl, ha, hj⟩ := slS_mem hx
    have := h7 a
    exact lm_slot (by omega) (by omega)
  have h2 : LmA 1 ((162 + 2) * wds.length) wds := lmA_all fun x hx => (lm_wd (hwd x hx)).mono (by omega) (Nat.le_refl _)
  have h3 := h1.app h2
  have h5 := slS_len h7 ks.length
  have hF : LmA 1 800 Ls.flatten := by
    refine ⟨smA_all.mpr fun x hx => smA_all.mp h3.sm x (hp.mem_iff.mp hx), ?_, ?_⟩
    · have key : ∀ l : List PyData, (∀ x ∈ l, x.depth ≤ 1) → PyData.depthAll l ≤ 1 := by
        intro l
        induction l with
        | nil => intro _; exact Nat.zero_le _
        | cons x l ih =>
          intro h
          have h1 := h x (by simp)
          have h2 := ih fun y hy => h y (List.mem_cons_of_mem _ hy)
          simp only [PyData.depthAll]
          omega
      exact key _ fun x hx => Nat.le_trans (dep_mem (hp.mem_iff.mp hx)) h3.dp
    · rw [wtA_perm hp]
      refine Nat.le_trans h3.wt ?_
      omega
  have h6 := (lines_lm hF rfl).tup
  exact h6.mono (Nat.le_refl _) (by omega)
theorem slS_sum {ks : List Nat} : ∀ {i : Nat}, i ≤ ks.length → (slS ks i).length = (ks.take i).sum
  | 0, _ => by simp [slS]
  | i + 1, h => by
    have hi : i < ks.length := by omega
    rw [slS_succ, List.length_append, slS_sum (by omega), ← List.take_append_getElem hi, List.sum_append]
    simp [slK, hi]
theorem slS_nodup {ks : List Nat} : ∀ {i : Nat}, ((slS ks i).map slotK).Nodup ∧ ∀ x ∈ (slS ks i).map slotK, ∃ a j : Nat, x = [(a : Int), (j : Int)] ∧ a < i
  | 0 => by simp [slS]
  | i + 1 => by
    obtain ⟨h1, h2⟩ := slS_nodup (ks := ks) (i := i)
    have hk : (slK ks i).map slotK = (List.range (ks.getD i 0)).map fun j => [((i : Nat) : Int), ((j : Nat) : Int)] := by
      simp [slK, slD, slotK]
    rw [slS_succ, List.map_append]
    constructor
    · rw [List.nodup_append]
      refine ⟨h1, ?_, ?_⟩
      · rw [hk, List.Nodup, List.pairwise_map]
        refine List.nodup_range.imp ?_
        intro a b hab e
        simp at e
        exact hab (by omega)
      · intro x hx y hy e
        obtain ⟨a, j, rfl, ha⟩ := h2 x hx
        rw [hk] at hy
        obtain ⟨j', _, rfl⟩ := List.mem_map.mp hy
        simp at e
        omega
    · intro x hx
      rcases List.mem_append.mp hx with hx | hx
      · obtain ⟨a, j, e, ha⟩ := h2 x hx
        exact ⟨a, j, e, by omega⟩
      · rw [hk] at hx
        obtain ⟨j', _, rfl⟩ := List.mem_map.mp hx
        exact ⟨i, j', rfl, by omega⟩
theorem sum_cast : ∀ ks : List Nat, (ks.map fun n : Nat => (n : Int)).sum = ((ks.sum : Nat) : Int)
  | [] => rfl
  | k :: ks => by simp [sum_cast ks]
theorem row_good {ks : List Nat} {w : Nat} {d : PyData} (h : GRow ks w d) : rowW (ks.map fun n : Nat => (n : Int)) w d = "" := by
  obtain ⟨Ls, wds, rfl, hl, hp, hwl, hwd⟩ := h
  have hfm : (Ls.map PyData.tuple).flatMap partsD = Ls.flatten := by
    induction Ls with
    | nil => rfl
    | cons l Ls ih => simp [List.flatMap_map] 
  have hslot : ∀ x ∈ slS ks ks.length, slotB (ks.map fun n : Nat => (n : Int)) x = true := by
    intro x hx
    obtain ⟨a, j, rfl, ha, hj⟩ := slS_mem hx
    have e : L2.atI (ks.map fun n : Nat => (n : Int)) ((a : Nat) : Int) = some ((ks.getD a 0 : Nat) : Int) := atI_G (by simp [ha])
    simp only [slD, slotB, e]
    simp [ha]
    simp [ha] at hj
    exact hj
  have hnsl : ∀ x ∈ wds, slotB (ks.map fun n : Nat => (n : Int)) x = false := by
    intro x hx
    obtain ⟨s, rfl⟩ := (hwd x hx).st
    rfl
  have hgood : Ls.flatten.all (goodI (ks.map fun n : Nat => (n : Int))) = true := by
    refine List.all_eq_true.mpr fun x hx => ?_
    rcases List.mem_append.mp (hp.mem_iff.mp hx) with hx | hx
    · simp [goodI, hslot x hx]
    · simp [goodI, (hwd x hx).ok]
  have hfil : (Ls.flatten.filter (slotB (ks.map fun n : Nat => (n : Int)))).Perm (slS ks ks.length) := by
    refine (hp.filter _).trans ?_
    rw [List.filter_append, List.filter_eq_self.mpr hslot, List.filter_eq_nil_iff.mpr fun x hx => by simp [hnsl x hx], List.append_nil]
  have hT : (Ls.map PyData.tuple).all isTupB = true := by
    refine List.all_eq_true.mpr fun x hx => ?_
    obtain ⟨l, _, rfl⟩ := List.mem_map.mp hx
    rfl
  refine (if_neg fun h3 => h3 ⟨by simp [hl], hT⟩).trans ?_
  rw [hfm]
  refine (if_neg fun h3 => h3 hgood).trans (if_pos ⟨?_, ?_⟩)
  · rw [hfil.length_eq, slS_sum (Nat.le_refl _), List.take_length, sum_cast]
  · have := (hfil.map slotK).nodup_iff.mpr (slS_nodup (ks := ks) (i := ks.length)).1
    rw [ddl_iff.mpr this, List.length_map]
end PM.K06
end
section
/-! K06M17: mathematics of k06: right things. -/
namespace PM.K06
open PySem DL PM
def ksOf (wl : List Int) (con : Int × List Int) : List Nat := con.2.map fun i => (wAt wl i).toNat
structure Good (b : Bk) (g : PyData) (wl : List Int) (rows : List PyData) : Prop where
  eq : g = .tuple [.str "pieces", .tuple (wl.map .int), .tuple rows]
  wn : (wl.length : Int) = b.n
  w7 : ∀ w ∈ wl, 1 ≤ w ∧ w ≤ 7
  w1 : ∀ s ∈ b.st, wAt wl s = 1
  rl : rows.length = b.cs.length
  rg : ∀ (k : Nat) (con : Int × List Int) (r : PyData), b.cs[k]? = some con → rows[k]? = some r → GRow (ksOf wl con) (wAt wl con.1).toNat r
theorem wAt_app {a c : List Int} {s : Int} (h0 : 0 ≤ s) (h : s < a.length) : wAt (a ++ c) s = wAt a s := by
  obtain ⟨k, rfl⟩ := Int.eq_ofNat_of_zero_le h0
  have hk : k < a.length := by omega
  unfold wAt
  rw [atI_G (d := a[k]) (List.getElem?_eq_getElem hk), atI_G (d := a[k]) (by rw [List.getElem?_append_left hk]; exact List.getElem?_eq_getElem hk)]
theorem wAt_last {a : List Int} {x : Int} : wAt (a ++ [x]) (a.length : Nat) = x := by
  unfold wAt
  rw [atI_G (d := x) (by simp)]
  rfl
theorem right_ok {b : Bk} (hb : LBook b) {tp : Tp} (h : TpOk tp) : ResT (m__law_right [b.d] tp) (fun d t => TpOk t ∧ ∃ wl rows, Good b d wl rows) (fun _ _ => False) := by
  refine fT_post rfl ?_
  obtain ⟨n, hn⟩ := Int.eq_ofNat_of_zero_le hb.ok.n0
  have hn4 := hb.n4
  simp [mb__law_right, Bk.d, -List.map_map]
  refine q_ForRg rfl n (fun i s c => ∃ (wl : List Int) (t : Tp) (u3 u4 u5 u6 : Option Vv), s = [some .tape, some (.da b.d), some (.ref 0), u3, u4, u5, u6] ∧ c = ⟨[.mu ((wl.map PyData.int).map .da)], t, []⟩ ∧ TpOk t ∧ wl.length = i ∧ (∀ w ∈ wl, 1 ≤ w ∧ w ≤ 7) ∧ ∀ s ∈ b.st, s < i → wAt wl s = 1) ?_ ?_ ?_
  · simp [Bk.d, hn]
    exact ⟨by omega, [], tp, rfl, h, rfl, by simp, fun s hs hlt => by have := starts_rng hb.ok.st s hs; omega⟩
  · intro i s c hi h1
    obtain ⟨wl, t, u3, u4, u5, u6, rfl, rfl, ht, hwl, hw, hs⟩ := h1
    simp [Bk.d, -List.map_map]
    refine pick_to ht (by decide) (by decide) fun t2 r ht2 hr => ?_
    obtain ⟨m, hm, h1, h2⟩ := tabI [1, 2, 3, 1, 2, 2, 4, 7] 1 7 (by decide) (r := r) (by simp; omega)
    simp only [List.map_cons, List.map_nil] at hm
    have hc0 : (⟨[.mu ((wl.map PyData.int).map .da)], t2, []⟩ : Cf).st[0]? = some (.mu ((wl.map PyData.int).map .da)) := rfl
    simp [hm, in_ints, isL_mu hc0, -List.map_map]
    have fin : ∀ x : Int, 1 ≤ x → x ≤ 7 → ((i : Int) ∈ b.st → x = 1) → Opt (pAppend (.ref 0) [.da (.int x)] ⟨[.mu ((wl.map PyData.int).map .da)], t2, []⟩) fun r => ∃ x t, r.2 = (⟨[.mu ((x.map PyData.int).map .da)], t, []⟩ : Cf) ∧ TpOk t ∧ x.length = i + 1 ∧ (∀ w ∈ x, 1 ≤ w ∧ w ≤ 7) ∧ ∀ s ∈ b.st, s < (i : Int) + 1 → wAt x s = 1 := by
      intro x hx1 hx2 hx3
      rw [pAppend_mu hc0 (by simp; omega)]
      refine ⟨wl ++ [x], t2, by simp [Cf.put], ht2, by simp [hwl], ?_, ?_⟩
      · intro w hw'
        rcases List.mem_append.mp hw' with hw' | hw'
        · exact hw w hw'
        · rw [List.mem_singleton.mp hw']; exact ⟨hx1, hx2⟩
      · intro s hs' hlt
        by_cases hsi : s < i
        · have := starts_rng hb.ok.st s hs'
          rw [wAt_app this.1 (by omega)]
          exact hs s hs' hsi
        · have : s = ((wl.length : Nat) : Int) := by omega
          rw [this, wAt_last]
          exact hx3 (by rw [← hwl, ← this]; exact hs')
    split
    · exact fin 1 (by decide) (by decide) fun _ => rfl
    · rename_i hni
      exact fin m h1 h2 fun h => absurd h hni
  · intro s c h1
    obtain ⟨wl, t, u3, u4, u5, u6, rfl, rfl, ht, hwl, hw, hs⟩ := h1
    simp [Bk.d, -List.map_map]
    refine q_LcW (b.cs.map fun con => .da (conD con)) (fun pre acc c => ∃ rows : List PyData, acc = rows.map .da ∧ rows.length = pre.length ∧ FzAt c 0 (wl.map .int) ∧ TpOk c.tp ∧ ∀ (k : Nat) (con : Int × List Int) (r : PyData), b.cs[k]? = some con → rows[k]? = some r → GRow (ksOf wl con) (wAt wl con.1).toNat r) ?_ (by have := hb.ok.cl; simp; omega) ?_ ?_
    · refine q_ItW ?_
      simp [itemsOf]
      exact fun g hg => ⟨fun _ _ _ _ _ _ _ _ _ => hg _, .inl (by simp), ht⟩
    · intro pre v post acc c e h
      obtain ⟨rows, rfl, hrl, hf, hct, hg⟩ := h
      have hv : (b.cs.map fun con => Vv.da (conD con))[pre.length]? = some v := by rw [e, List.getElem?_append_right (Nat.le_refl _), Nat.sub_self]; rfl
      have hlt : pre.length < b.cs.length := by
        have := (List.getElem?_eq_some_iff.mp hv).1
        simpa using this
      simp [hlt] at hv
      subst hv
      rcases hcn : b.cs[pre.length] with ⟨r0, kids⟩
      have h1 : b.cs[pre.length]? = some (r0, kids) := by rw [← hcn]; simp [hlt]
      obtain ⟨hc1, hc2, hc3⟩ := hb.ok.cs _ (List.mem_of_getElem? h1)
      simp only at hc1 hc2 hc3
      obtain ⟨c', hf1, hf2, hf3, hf4, hf5, hf6⟩ := hf.frz
      simp [wipeS, hf1]
      have hct' : TpOk c'.tp := by rw [hf3]; exact hct
      have hwn : (wl.length : Int) = b.n := by omega
      refine (row_ok' hct' (wl := wl) (r0 := r0) (kids := kids) (hwn ▸ hc1) (fun i hi => hwn ▸ hc3 i hi) hc2 hw).imp (fun d t2 ⟨ht2, hd⟩ => ?_) fun _ _ z => z.elim
      refine ⟨rows ++ [d], by simp, by simp [hrl], .inr hf2, ht2, fun k a kk r hk hr => ?_⟩
      by_cases hkl : k < rows.length
      · rw [List.getElem?_append_left hkl] at hr
        exact hg k (a, kk) r hk hr
      · have hkl2 := (List.getElem?_eq_some_iff.mp hr).1
        have hk2 : k = pre.length := by simp at hkl2; omega
        subst hk2
        rw [h1] at hk
        cases hk
        rw [List.getElem?_append_right (by omega)] at hr
        simp [hrl] at hr
        subst hr
        exact hd
    · intro acc c h
      obtain ⟨rows, rfl, hrl, hf, hct, hg⟩ := h
      have hT1 := pTuple_mu (hf.old (l := rows.map .da)).ls
      have hT2 := pTuple_mu (ls_top (c := c) (l := rows.map .da))
      simp [hT1, hT2, -List.map_map]
      exact ⟨hct, wl, rows, rfl, by omega, hw, fun s hs' => hs s hs' (by have := starts_rng hb.ok.st s hs'; omega), by simpa using hrl, hg⟩
end PM.K06
end
section
/-! K06M18: mathematics of k06: right things answer. -/
namespace PM.K06
open PySem DL PM
theorem lm_str {s : String} (h : (decide ((Str.ofString s).cps.toList.all sgnC = true) && decide ((Str.ofString s).length ≤ 100) && decide ((PyData.str (Str.ofString s)).shown.length ≤ 30)) = true) : Lm 0 30 (.str s) := by
  simp only [Bool.and_eq_true, decide_eq_true_eq] at h
  exact ⟨by simp only [smD, Bool.and_eq_true, decide_eq_true_eq]; exact h.1, Nat.le_refl _, h.2⟩
theorem lm_pieces : Lm 0 30 (.str "pieces") := lm_str (by decide +kernel)
theorem lm_ints {l : List Int} (h : ∀ i ∈ l, -1 ≤ i ∧ i ≤ 15) : LmA 0 (4 * l.length) (l.map .int) := by
  have := lmA_all (D := 0) (n := 2) (ds := l.map .int) fun d hd => by
    obtain ⟨i, hi, rfl⟩ := List.mem_map.mp hd
    exact lm_int (h i hi)
  rwa [List.length_map] at this
section
variable {b : Bk} {g : PyData} {wl : List Int} {rows : List PyData}
theorem Good.k7 (G : Good b g wl rows) (hb : LBook b) {con : Int × List Int} (hc : con ∈ b.cs) : (ksOf wl con).length ≤ 4 ∧ (∀ a, (ksOf wl con).getD a 0 ≤ 7) ∧ (wAt wl con.1).toNat ≤ 7 ∧ 1 ≤ (wAt wl con.1).toNat ∧ (ksOf wl con).map (fun n : Nat => (n : Int)) = con.2.map (wAt wl) ∧ (((wAt wl con.1).toNat : Nat) : Int) = wAt wl con.1 := by
  obtain ⟨h1, h2, h3⟩ := hb.ok.cs con hc
  have hwn := G.wn
  have hk : ∀ i ∈ con.2, 1 ≤ wAt wl i ∧ wAt wl i ≤ 7 := fun i hi => G.w7 _ (wAt_ix (h3 i hi).1 (hwn ▸ (h3 i hi).2)).2
  have h0 := G.w7 _ (wAt_ix h1.1 (hwn ▸ h1.2)).2
  refine ⟨by simpa [ksOf] using h2, fun a => ?_, by omega, by omega, ?_, by omega⟩
  · unfold ksOf
    by_cases ha : a < con.2.length
    · have := hk _ (List.getElem_mem ha)
      simp [ha]
      omega
    · simp [ha]
  · unfold ksOf
    rw [List.map_map]
    refine List.map_congr_left fun i hi => ?_
    have := hk i hi
    simp only [Function.comp_apply]
    omega
theorem Good.row (G : Good b g wl rows) (hb : LBook b) {r : PyData} (hr : r ∈ rows) : Lm 3 838 r := by
  obtain ⟨k, hk⟩ := List.getElem?_of_mem hr
  have hl := (List.getElem?_eq_some_iff.mp hk).1
  have hlc : k < b.cs.length := by rw [← G.rl]; exact hl
  have hc : b.cs[k]? = some b.cs[k] := by simp [hlc]
  have hm := List.mem_of_getElem? hc
  obtain ⟨h1, h2, h3, _⟩ := G.k7 hb hm
  exact row_lm (G.rg k _ r hc hk) h1 h2 h3
theorem Good.rws (G : Good b g wl rows) (hb : LBook b) : LmA 3 5040 rows := by
  have h1 := lmA_all (D := 3) (n := 838) (ds := rows) fun d hd => G.row hb hd
  have := G.rl
  have := hb.c6
  exact h1.mono (Nat.le_refl _) (by omega)
theorem Good.wid (G : Good b g wl rows) (hb : LBook b) : LmA 0 16 (wl.map .int) := by
  have h1 := lm_ints (l := wl) fun i hi => by have := G.w7 i hi; omega
  have := G.wn
  have := hb.n4
  exact h1.mono (Nat.le_refl _) (by omega)
theorem Good.lm (G : Good b g wl rows) (hb : LBook b) : Lm 5 5200 g := by
  rw [G.eq]
  have h1 := LmA.cons (D := 4) (lm_pieces.mono (Nat.zero_le _) (Nat.le_refl _)) (LmA.cons ((G.wid hb).tup.mono (by omega) (Nat.le_refl _)) (LmA.cons (G.rws hb).tup LmA.nil))
  exact h1.tup.mono (Nat.le_refl _) (by omega)
theorem Good.widB (G : Good b g wl rows) (hb : LBook b) : widthsB b.n b.st (.tuple (wl.map .int)) = true := by
  refine (wid_iff (starts_rng hb.ok.st)).mpr ⟨by simpa using G.wn, fun i d hd => ?_⟩
  simp at hd
  obtain ⟨w, hw, rfl⟩ := hd
  have h7 := G.w7 w (List.mem_of_getElem? hw)
  have h1 : (i : Int) ∈ b.st → w = 1 := fun h => by
    have := G.w1 _ h
    unfold wAt at this
    rw [atI_G hw] at this
    exact this
  by_cases h : (i : Int) ∈ b.st
  · simp [goodW, h, h1 h]
  · simp [goodW, h]
    omega
theorem rows_none {wl : List Int} : ∀ {cs : List (Int × List Int)} {rs : List PyData} {k : Nat}, (∀ (i : Nat) (con : Int × List Int) (r : PyData), cs[i]? = some con → rs[i]? = some r → rowW (con.2.map (wAt wl)) (wAt wl con.1) r = "") → rowsW wl k cs rs = none
  | [], _, _, _ => by simp [rowsW]
  | con :: cs, [], _, _ => by simp [rowsW]
  | con :: cs, r :: rs, k, h => by
    have h1 := h 0 con r rfl rfl
    simp only [rowsW, h1, if_true]
    exact rows_none fun i con r h2 h3 => h (i + 1) con r (by simpa using h2) (by simpa using h3)
theorem Good.none (G : Good b g wl rows) (hb : LBook b) : rowsW wl 0 b.cs rows = .none := rows_none fun i con r h1 h2 => by
  obtain ⟨_, _, _, _, h3, h4⟩ := G.k7 hb (List.mem_of_getElem? h1)
  have := row_good (G.rg i con r h1 h2)
  rwa [h3, h4] at this
theorem Good.due (G : Good b g wl rows) (hb : LBook b) : dueB b g = .inr ((maxI wl).getD 0) := by
  have h1 := G.widB hb
  have h2 := G.none hb
  have h3 : isPieces (.str "pieces") = true := by simp [isPieces]
  rw [G.eq]
  simp [dueB, h1, h3, G.rl, h2]
end
theorem bk_fit {b : Bk} (h : LBook b) (m : Int) (hm : 0 ≤ m ∧ m ≤ 5) : BFit ⟨m, b.st, b.cs⟩ := by
  have hn := h.n4
  have h0 := h.ok.n0
  have h1 : LmA 0 (4 * b.st.length) (b.st.map .int) := lm_ints fun i hi => by have := starts_rng h.ok.st i hi; omega
  have h2 : LmA 2 (33 * b.cs.length) (b.cs.map conD) := by
    have := lmA_all (D := 2) (n := 31) (ds := b.cs.map conD) fun d hd => by
      obtain ⟨con, hc, rfl⟩ := List.mem_map.mp hd
      obtain ⟨h3, h4, h5⟩ := h.ok.cs con hc
      have h6 : LmA 0 (4 * con.2.length) (con.2.map .int) := lm_ints fun i hi => by have := h5 i hi; omega
      exact (LmA.cons (D := 1) ((lm_int (i := con.1) (by omega)).mono (by omega) (Nat.le_refl _)) (LmA.cons h6.tup LmA.nil)).tup.mono (by omega) (by omega)
    rwa [List.length_map] at this
  have h3 := (LmA.cons (D := 3) ((lm_int (i := m) (by omega)).mono (by omega) (Nat.le_refl _)) (LmA.cons (h1.tup.mono (by omega) (Nat.le_refl _)) (LmA.cons h2.tup LmA.nil))).tup
  have := h.s4
  have := h.c6
  exact ⟨h3.sm, Nat.le_trans h3.dp (by omega), Nat.le_trans h3.wt (by omega)⟩
theorem starts_more {n m : Int} (h : n ≤ m) : ∀ {l : List Int} {p : Option Int}, startsB n p (l.map .int) = true → startsB m p (l.map .int) = true
  | [], _, _ => rfl
  | i :: l, p, e => by
    simp only [List.map_cons, startsB, Bool.and_eq_true] at e ⊢
    refine ⟨⟨?_, e.1.2⟩, starts_more h e.2⟩
    have := e.1.1
    simp [sortB] at this ⊢
    omega
theorem wide_ok {b : Bk} (h : LBook b) : Bk.Ok ⟨b.n + 1, b.st, b.cs⟩ := by
  have h0 := h.ok.n0
  exact ⟨by show 0 ≤ b.n + 1; omega, h.ok.sl, h.ok.cl, starts_more (by show b.n ≤ b.n + 1; omega) h.ok.st, fun p hp => by
    obtain ⟨h1, h2, h3⟩ := h.ok.cs p hp
    exact ⟨⟨h1.1, by show _ < b.n + 1; omega⟩, h2, fun k hk => ⟨(h3 k hk).1, by have := (h3 k hk).2; show _ < b.n + 1; omega⟩⟩⟩
end PM.K06
end
section
/-! PM20: reasoning about defs that hand back a list of their own. -/
namespace PM
open PySem DL
section
variable {sl sl' : Sl} {c c' : Cf} {Q : Vv → Cf → Prop} {X : Exc → Cf → Prop}
def ResM (r : Rs (Exc × Tp) (List PyData × Tp)) (k : List PyData → Tp → Prop) (x : Exc → Tp → Prop) : Prop := match r with
  | .ok (d, t) => k d t
  | .ex (e, t) => x e t
  | .bad => False
theorem ResM.imp {r : Rs (Exc × Tp) (List PyData × Tp)} {k k' : List PyData → Tp → Prop} {x x' : Exc → Tp → Prop} (h : ResM r k x) (hk : ∀ d t, k d t → k' d t) (hx : ∀ e t, x e t → x' e t) : ResM r k' x' := by
  cases r with
  | ok d => exact hk _ _ h
  | ex d => exact hx _ _ h
  | bad => exact h
@[simp ↓] theorem q_CallM {f : List PyData → Tp → Rs (Exc × Tp) (List PyData × Tp)} {dds : List PyData} {a : MA} : Post (mCallM f dds a sl c) Q X ↔ Post (a sl c) (fun vs c1 => ∃ us, vs = .tape :: us ∧ Opt (fzL (fz fzN) us c1) fun r => ResM (f (r.1 ++ dds) r.2.tp) (fun d t => Q (.ref r.2.st.length) (({ r.2 with tp := t } : Cf).app (d.map .da))) fun e t => X e { r.2 with tp := t }) X := by
  unfold mCallM
  rw [post_bind]
  refine post_iff fun vs c1 => ?_
  cases vs with
  | nil => exact ⟨fun h => h.elim, fun ⟨_, h, _⟩ => by cases h⟩
  | cons v us =>
    cases v with
    | tape =>
      have e2 : ∀ P : List Vv → Prop, (∃ us', Vv.tape :: us = Vv.tape :: us' ∧ P us') ↔ P us := fun P => ⟨fun ⟨_, h1, h⟩ => by cases h1; exact h, fun h => ⟨us, rfl, h⟩⟩
      rw [e2]
      show Post (match fzL (fz fzN) us c1 with | some (ds, c2) => (match f (ds ++ dds) c2.tp with | .ok (d, tp) => Rs.ok (Vv.ref c2.st.length, ({ c2 with tp := tp } : Cf).app (d.map .da)) | .ex (e, tp) => .ex (e, { c2 with tp := tp }) | .bad => .bad) | none => .bad) Q X ↔ _
      cases fzL (fz fzN) us c1 with
      | none => exact Iff.rfl
      | some r =>
        obtain ⟨ds, c2⟩ := r
        show Post (match f (ds ++ dds) c2.tp with | .ok (d, tp) => Rs.ok (Vv.ref c2.st.length, ({ c2 with tp := tp } : Cf).app (d.map .da)) | .ex (e, tp) => .ex (e, { c2 with tp := tp }) | .bad => .bad) Q X ↔ ResM (f (ds ++ dds) c2.tp) _ _
        cases f (ds ++ dds) c2.tp <;> exact Iff.rfl
    | _ => exact ⟨fun h => h.elim, fun ⟨_, h, _⟩ => by cases h⟩
theorem fM_post {n k : Nat} {mb : MS} {ds : List PyData} {tp : Tp} {K : List PyData → Tp → Prop} {XX : Exc → Tp → Prop} (hn : ds.length + 1 = n) (h : PostS (mb (slots k (.tape :: ds.map .da)) ⟨[], tp, []⟩) (fun f _ c => ∃ v, f = .ret v ∧ Opt (outM v c) fun p => K p.1 p.2) (fun x _ c => XX x c.tp)) : ResM (fM n k mb ds tp) K XX := by
  unfold fM
  rw [if_pos hn]
  cases e : mb (slots k (.tape :: ds.map .da)) ⟨[], tp, []⟩ with
  | bad => rw [e] at h; exact h.elim
  | ex p => rw [e] at h; exact h
  | ok p =>
    obtain ⟨f, s, c⟩ := p
    rw [e] at h
    obtain ⟨v, rfl, h⟩ := h
    show ResM (Rs.opt (outM v c)) K XX
    cases e2 : outM v c with
    | none => rw [e2] at h; exact h.elim
    | some p => rw [e2] at h; exact h
theorem outM_mu {n : Nat} {ds : List PyData} (h : c.st[n]? = some (.mu (ds.map .da))) : outM (.ref n) c = some (ds, c.tp) := by
  unfold outM
  simp only [h, fzL_da, Option.bind_some]
theorem end_fz {v : Vv} {d : PyData} (h : fz fzN v c = some (d, c')) : endFT (.ret v) c = some (d, c'.tp) := by
  simp [endFT, h]
end
end PM
end
section
/-! K06M19: mathematics of k06: odd values, one row changed, spots. -/
namespace PM.K06
open PySem DL PM
def okL (D n : Nat) (d : PyData) : Bool := smD d && decide (d.depth ≤ D) && decide (wtD d ≤ n)
theorem okL_lm {D n : Nat} {d : PyData} (h : okL D n d = true) : Lm D n d := by
  simp only [okL, Bool.and_eq_true, decide_eq_true_eq] at h
  exact ⟨h.1.1, h.1.2, h.2⟩
theorem cut_drop1 {α : Type} {l : List α} {k : Nat} : cutL l (some ((k : Int) + 1)) none = l.drop (k + 1) := cut_drop (k := k + 1)
theorem with_ok {a w r : PyData} {rs : List PyData} {k : Nat} (hl : rs.length ≤ 1000) : m__law_with [.tuple [a, w, .tuple rs], .int (k : Nat), r] = .ok (.tuple [.str "pieces", w, .tuple (rs.take k ++ r :: rs.drop (k + 1))]) := by
  refine Res.eq (fQ_post rfl ?_)
  have hz1 : (rs.take k).length + [r].length ≤ 100000 := by simp; omega
  have hz2 : (rs.take k ++ [r]).length + (rs.drop (k + 1)).length ≤ 100000 := by simp; omega
  simp [mb__law_with, pSl, cut_take, cut_drop1, pAdd_tt hz1, pAdd_tt hz2]
theorem notin_ref {c : Cf} {n : Nat} {i : Int} {l : List Int} (h : lsOf c (.ref n) = some ((l.map PyData.int).map .da)) : pIn true (.da (.int i)) (.ref n) c = some (.da (.bool (!decide (i ∈ l))), c) := by
  show (flatVv (.da (.int i))).bind (fun d => ((tuOf (.ref n)).or (lsOf c (.ref n))).bind fun l => (flats l).map fun ds => (Vv.da (.bool (if true then !ds.any (fun e => PyData.eqv e d) else ds.any (fun e => PyData.eqv e d))), c)) = _
  have e1 : flatVv (.da (.int i)) = some (.int i) := rfl
  have e2 : (tuOf (.ref n)).or (lsOf c (.ref n)) = some ((l.map PyData.int).map Vv.da) := by rw [h]; rfl
  rw [e1, Option.bind_some, e2, Option.bind_some, flats_ints]
  have e3 : (l.map PyData.int).any (fun e => PyData.eqv e (.int i)) = decide (i ∈ l) := by
    rw [Bool.eq_iff_iff, List.any_map]
    simp [eqvII]
  rw [Option.map_some, e3]
  rfl
theorem spots_ok {Ls : List (List PyData)} (hl : Ls.length ≤ 1000) (hn : ∀ l ∈ Ls, ∀ x ∈ l, noD x = true) : Res (m__law_spots [.tuple (Ls.map .tuple)]) (fun d => ∃ js : List Int, d = .list (js.map .int) ∧ js.length ≤ Ls.length ∧ ∀ j ∈ js, 0 ≤ j ∧ j < Ls.length) fun _ => False := by
  refine fQ_post rfl ?_
  simp [mb__law_spots, -List.map_map]
  have ini : (Cf.app cf0 []) = ⟨[.mu ((([] : List Int).map PyData.int).map .da)], tp0, []⟩ := rfl
  rw [ini]
  refine q_ForRg rfl Ls.length (fun i s c => ∃ (js : List Int) (u2 u3 : Option Vv), s = [some (.da (.tuple (Ls.map .tuple))), some (.ref 0), u2, u3] ∧ c = ⟨[.mu ((js.map PyData.int).map .da)], tp0, []⟩ ∧ js.Nodup ∧ ∀ j ∈ js, 0 ≤ j ∧ j < Ls.length) ?_ ?_ ?_
  · simp
    exact ⟨by omega, rfl⟩
  · intro i s c hi h1
    obtain ⟨js, u2, u3, rfl, rfl, hnd, hb⟩ := h1
    have hix : L2.atI (Ls.map PyData.tuple) (i : Int) = some (.tuple Ls[i]) := atI_G (by simp [hi])
    simp [-List.map_map]
    refine q_ForL Ls[i] .da (fun pre s c => ∃ (js : List Int) (u3 : Option Vv), s = [some (.da (.tuple (Ls.map .tuple))), some (.ref 0), some (.da (.int (i : Nat))), u3] ∧ c = ⟨[.mu ((js.map PyData.int).map .da)], tp0, []⟩ ∧ js.Nodup ∧ ∀ j ∈ js, 0 ≤ j ∧ j < Ls.length) ?_ ?_ ?_
    · refine q_ItW ?_
      simp [hix, itemsOf, -List.map_map]
      exact fun g hg => ⟨fun s c _ _ _ _ _ _ => hg c, js, rfl, hnd, hb⟩
    · intro pre x post s c e h1
      obtain ⟨js, u3, rfl, rfl, hnd, hb⟩ := h1
      have hx := hn Ls[i] (List.getElem_mem hi) x (by rw [e]; simp)
      have hc0 : (⟨[.mu ((js.map PyData.int).map .da)], tp0, []⟩ : Cf).st[0]? = some (.mu ((js.map PyData.int).map .da)) := rfl
      have hjl : js.length ≤ Ls.length := nodup_le Ls.length hnd hb
      simp [kind_da hx, notin_ref (ls_mu hc0), isL_mu hc0, -List.map_map]
      by_cases ht : isTup x = true
      case neg =>
        rw [if_neg ht]
        exact ⟨js, rfl, hnd, hb⟩
      rw [if_pos ht]
      by_cases hm : (i : Int) ∈ js
      · rw [if_pos hm]
        exact ⟨js, rfl, hnd, hb⟩
      · rw [if_neg hm, pAppend_mu hc0 (by simp; omega)]
        refine ⟨js ++ [(i : Int)], by simp [Cf.put], ?_, ?_⟩
        · rw [List.nodup_append]
          refine ⟨hnd, by simp, fun a ha b hb' e => ?_⟩
          rw [List.mem_singleton] at hb'
          exact hm (hb' ▸ e ▸ ha)
        · intro j hj
          rcases List.mem_append.mp hj with hj | hj
          · exact hb j hj
          · rw [List.mem_singleton.mp hj]
            omega
    · intro s c h1
      obtain ⟨js, u3, rfl, rfl, hnd, hb⟩ := h1
      simp [-List.map_map]
      exact ⟨js, rfl, hnd, hb⟩
  · intro s c h1
    obtain ⟨js, u2, u3, rfl, rfl, hnd, hb⟩ := h1
    have hc0 : (⟨[.mu ((js.map PyData.int).map .da)], tp0, []⟩ : Cf).st[0]? = some (.mu ((js.map PyData.int).map .da)) := rfl
    simp [endF, fz_mu hc0, -List.map_map]
    exact ⟨js, rfl, nodup_le _ hnd hb, hb⟩
theorem pPow40 {c : Cf} : pPow (.da (.int 10)) (.da (.int 40)) c = some (.da (.int (10 ^ 40)), c) := pI2_ii (f := fun i j => i ^ j.toNat) (by decide)
theorem odd_ok {tp : Tp} (h : TpOk tp) : ResT (m__law_odd [] tp) (fun d t => TpOk t ∧ Lm 22 130 d) (fun _ _ => False) := by
  refine fT_post rfl ?_
  simp [mb__law_odd]
  refine q_ForRg rfl 20 (fun i s c => ∃ (d : PyData) (u2 u3 : Option Vv), s = [some .tape, some (.da d), u2, u3] ∧ c = ⟨[], tp, []⟩ ∧ Lm (i + 1) (5 * i + 3) d) ?_ ?_ ?_
  · simp
    exact LmA.nil.tup
  · intro i s c hi h1
    obtain ⟨d, u2, u3, rfl, rfl, hd⟩ := h1
    simp
    exact (LmA.cons hd LmA.nil).tup.mono (by omega) (by omega)
  · intro s c h1
    obtain ⟨d, u2, u3, rfl, rfl, hd⟩ := h1
    simp [pPow40]
    generalize hL : (List.cons (Vv.da PyData.none) _) = L
    have hlen : L.length = 38 := by rw [← hL]; rfl
    generalize hC : Cf.app (Cf.app (Cf.app (Cf.app _ _) _) _) L = C
    have hs : C.st = [.mu ([PyData.int 0, .int 0].map .da), .mu ([PyData.str "a"].map .da), .mu (([] : List PyData).map .da), .mu L] := by rw [← hC]; rfl
    have htp : C.tp = tp := by rw [← hC]; rfl
    have h3 : C.st[3]? = some (.mu L) := by rw [hs]; rfl
    have hsp : L = ([PyData.none, .bool true, .bool false, .int 0, .int 1, .int 2, .int (-1), .int 7, .str "a", .str "", .str "a b", .str "it's", .str "seventeen-signs-x", .str "sixteen-signs-xx", .tuple [], .tuple [.int 0], .tuple [.int 0, .int 0], .tuple [.int 0, .int 1], .tuple [.int 1, .int 0], .tuple [.int 0, .bool true], .tuple [.bool false, .int 0], .tuple [.int 0, .int 0, .int 0]].map Vv.da ++ [.ref 0, .ref 1]) ++ ([PyData.tuple [.str "a"], .str "pieces", .tuple [.int 0, .str "a"], .tuple [.int (-1), .int 0], .tuple [.int 0, .int (-1)], .tuple [.int 0, .int 10000000000000000000000000000000000000000], .tuple [.int 10000000000000000000000000000000000000000, .int 0], .tuple [.tuple [.int 0, .int 0]], .tuple [.tuple [], .tuple []], .tuple [.int 1, .int 1], .tuple [.int 1], d, .tuple [.int 0, .none]].map Vv.da ++ [.ref 2]) := hL.symm
    have hda : ∀ x : PyData, Lm 22 130 x → ∀ t, ∃ y c', fz fzN (.da x) ⟨C.st, t, C.sc⟩ = some (y, c') ∧ c'.tp = t ∧ Lm 22 130 y := fun x hx t => ⟨x, _, fz_da, rfl, hx⟩
    have hrf : ∀ (n : Nat) (ds : List PyData), C.st[n]? = some (.mu (ds.map .da)) → okL 22 130 (.list ds) = true → ∀ t, ∃ y c', fz fzN (.ref n) ⟨C.st, t, C.sc⟩ = some (y, c') ∧ c'.tp = t ∧ Lm 22 130 y := fun n ds h1 h2 t => ⟨_, _, fz_mu (c := ⟨C.st, t, C.sc⟩) h1, rfl, okL_lm h2⟩
    have hall : ∀ v ∈ L, ∀ t, ∃ y c', fz fzN v ⟨C.st, t, C.sc⟩ = some (y, c') ∧ c'.tp = t ∧ Lm 22 130 y := by
      intro v hv
      rw [hsp] at hv
      rcases List.mem_append.mp hv with hv | hv
      · rcases List.mem_append.mp hv with hv | hv
        · obtain ⟨x, hx, rfl⟩ := List.mem_map.mp hv
          exact hda x (okL_lm (List.all_eq_true.mp (by decide +kernel) x hx))
        · simp only [List.mem_cons, List.not_mem_nil, or_false] at hv
          rcases hv with rfl | rfl
          · exact hrf 0 _ (by rw [hs]; rfl) (by decide +kernel)
          · exact hrf 1 _ (by rw [hs]; rfl) (by decide +kernel)
      · rcases List.mem_append.mp hv with hv | hv
        · obtain ⟨x, hx, rfl⟩ := List.mem_map.mp hv
          have : x = d ∨ x ∈ [PyData.tuple [.str "a"], .str "pieces", .tuple [.int 0, .str "a"], .tuple [.int (-1), .int 0], .tuple [.int 0, .int (-1)], .tuple [.int 0, .int 10000000000000000000000000000000000000000], .tuple [.int 10000000000000000000000000000000000000000, .int 0], .tuple [.tuple [.int 0, .int 0]], .tuple [.tuple [], .tuple []], .tuple [.int 1, .int 1], .tuple [.int 1], .tuple [.int 0, .none]] := by
            simp only [List.mem_cons, List.not_mem_nil, or_false] at hx ⊢
            rcases hx with h | h | h | h | h | h | h | h | h | h | h | h | h <;> simp [h]
          rcases this with rfl | hx
          · exact hda x (hd.mono (by omega) (by omega))
          · exact hda x (okL_lm (List.all_eq_true.mp (by decide +kernel) x hx))
        · rw [List.mem_singleton.mp hv]
          exact hrf 2 _ (by rw [hs]; rfl) (by decide +kernel)
    clear hL hC hsp
    simp [pLen_mu (ls_mu h3), hlen]
    refine pick_to (tp := C.tp) (by rw [htp]; exact h) (by decide) (by decide) fun t r ht hr => ?_
    have hr2 : r < L.length := by omega
    have hk : L[r]? = some L[r] := by simp [hr2]
    obtain ⟨y, c', h5, h6, h7⟩ := hall L[r] (List.getElem_mem hr2) t
    rw [pIx_mu (c := ⟨C.st, t, C.sc⟩) (ls_mu h3) hk]
    simp only [opt_s]
    rw [end_fz h5]
    exact ⟨by rw [h6]; exact ht, h7⟩
end PM.K06
end
section
/-! K06M20: mathematics of k06: widths turned, lines turned. -/
namespace PM.K06
open PySem DL PM
/-- a thing with its outer shape -/
def PTh (n r : Nat) (x : PyData) : Prop := ∃ (w : PyData) (rs : List PyData), x = .tuple [.str "pieces", w, .tuple rs] ∧ Lm 5 60 w ∧ LmA 5 n rs ∧ rs.length ≤ r
theorem PTh.lm {n r : Nat} {x : PyData} (h : PTh n r x) : Lm 7 (n + 110) x := by
  obtain ⟨w, rs, rfl, h1, h2, _⟩ := h
  have := (LmA.cons (D := 6) (lm_pieces.mono (by omega) (Nat.le_refl _)) (LmA.cons (h1.mono (by omega) (Nat.le_refl _)) (LmA.cons (h2.tup.mono (by omega) (Nat.le_refl _)) LmA.nil))).tup
  exact this.mono (by omega) (by omega)
section
variable {b : Bk} {g : PyData} {wl : List Int} {rows : List PyData}
theorem widths_ok' (G : Good b g wl rows) (hb : LBook b) {tp : Tp} (h : TpOk tp) : ResM (m__law_widths [g] tp) (fun ds t => TpOk t ∧ 1 ≤ ds.length ∧ ds.length ≤ 6 ∧ ∀ x ∈ ds, PTh 5040 6 x) (fun _ _ => False) := by
  have hrl : rows.length ≤ 6 := by rw [G.rl]; exact hb.c6
  have hwl : wl.length ≤ 4 := by have := G.wn; have := hb.n4; omega
  have hR := (G.rws hb).mono (show 3 ≤ 5 by omega) (Nat.le_refl _)
  have hW := G.wid hb
  rw [G.eq]
  refine fM_post rfl ?_
  simp [mb__law_widths, -List.map_map]
  by_cases h0 : wl.length = 0
  · have hz : wl = [] := List.length_eq_zero_iff.mp h0
    subst hz
    simp
    have ho : outM (.ref 0) (Cf.app ⟨[], tp, []⟩ [Vv.da (.tuple [.str "pieces", .tuple [.int 1], .tuple rows])]) = some ([.tuple [.str "pieces", .tuple [.int 1], .tuple rows]], tp) := outM_mu rfl
    rw [ho]
    refine ⟨h, by simp, by simp, fun x hx => ?_⟩
    rw [List.mem_singleton.mp hx]
    exact ⟨_, _, rfl, (LmA.cons (lm_int (i := 1) (by omega)) LmA.nil).tup.mono (by omega) (by omega), hR, hrl⟩
  · have hne : wl ≠ [] := fun e => h0 (by rw [e]; rfl)
    rw [if_neg hne]
    refine pick_to h (by omega) (by omega) fun t r ht hr => ?_
    have hrl2 : r < wl.length := by omega
    have hix : L2.atI (wl.map PyData.int) (r : Int) = some (.int wl[r]) := atI_G (by simp [hrl2])
    have hw7 := G.w7 _ (List.getElem_mem hrl2)
    simp [hix, -List.map_map]
    have hz1 : ∀ x : PyData, ((wl.map PyData.int).take r).length + [x].length ≤ 100000 := fun x => by simp; omega
    have hz2 : ∀ x : PyData, ((wl.map PyData.int).take r ++ [x]).length + ((wl.map PyData.int).drop (r + 1)).length ≤ 100000 := fun x => by simp; omega
    refine q_LcMapL [PyData.bool true, .int 0, .int 2, .none, .int (wl[r] + 1), .int (-1)] .da (fun x => .da (.tuple [.str "pieces", .tuple ((wl.map .int).take r ++ [x] ++ (wl.map .int).drop (r + 1)), .tuple rows])) ⟨[], t, []⟩ ?_ (by simp) ?_ ?_
    · refine q_ItW ?_
      simp [itemsOf]
      exact fun g hg => hg _
    · intro x hx
      simp [wipeS, pSl, cut_take, cut_drop1, pAdd_tt (hz1 _), pAdd_tt (hz2 _), -List.map_map]
    · have em : ([PyData.bool true, .int 0, .int 2, .none, .int (wl[r] + 1), .int (-1)].map fun x => Vv.da (.tuple [.str "pieces", .tuple ((wl.map .int).take r ++ [x] ++ (wl.map .int).drop (r + 1)), .tuple rows])) = ([PyData.bool true, .int 0, .int 2, .none, .int (wl[r] + 1), .int (-1)].map fun x => PyData.tuple [.str "pieces", .tuple ((wl.map .int).take r ++ [x] ++ (wl.map .int).drop (r + 1)), .tuple rows]).map .da := by simp
      rw [em, outM_mu st_top]
      refine ⟨ht, by simp, by simp, fun x hx => ?_⟩
      obtain ⟨y, hy, rfl⟩ := List.mem_map.mp hx
      have hy2 : Lm 0 5 y := by
        simp only [List.mem_cons, List.not_mem_nil, or_false] at hy
        rcases hy with rfl | rfl | rfl | rfl | rfl | rfl
        · exact ⟨rfl, Nat.le_refl _, Nat.le_refl _⟩
        · exact (lm_int (by omega)).mono (Nat.le_refl _) (by omega)
        · exact (lm_int (by omega)).mono (Nat.le_refl _) (by omega)
        · exact ⟨rfl, Nat.le_refl _, by decide⟩
        · exact (lm_int (by omega)).mono (Nat.le_refl _) (by omega)
        · exact (lm_int (by omega)).mono (Nat.le_refl _) (by omega)
      have h9 : LmA 0 (16 + (5 + 2)) ((wl.map .int).take r ++ [y] ++ (wl.map .int).drop (r + 1)) := by
        have := hW.swap hy2 r
        rwa [List.append_cons] at this
      exact ⟨_, _, rfl, h9.tup.mono (by omega) (by omega), hR, hrl⟩
end
end PM.K06
end
section
/-! K06M21: mathematics of k06: lines turned. -/
namespace PM.K06
open PySem DL PM
theorem cutS {sl : Sl} {c : Cf} {QS : Fl → Sl → Cf → Prop} {XS : Exc → Sl → Cf → Prop} {m n : MS} (I : Sl → Cf → Prop) (h1 : PostS (m sl c) (fun f s c => f = .nx ∧ I s c) (fun _ _ _ => False)) (h2 : ∀ s c, I s c → Then n QS XS .nx s c) : PostS (m sl c) (Then n QS XS) XS :=
  h1.imp (fun f s c h => by obtain ⟨rfl, h⟩ := h; exact h2 s c h) fun _ _ _ z => z.elim
def Itm (x : PyData) : Prop := (∃ a j, x = slD a j ∧ a ≤ 9 ∧ j ≤ 6) ∨ Wd x
theorem itm_noD {x : PyData} (h : Itm x) : noD x = true := by
  rcases h with ⟨a, j, rfl, _⟩ | h
  · rfl
  · obtain ⟨s, rfl⟩ := h.st
    rfl
theorem grow_items {ks : List Nat} {w : Nat} {d : PyData} (h : GRow ks w d) (h4 : ks.length ≤ 4) (h7 : ∀ a, ks.getD a 0 ≤ 7) : ∃ Ls : List (List PyData), d = .tuple (Ls.map .tuple) ∧ Ls.length = w ∧ ∀ l ∈ Ls, ∀ x ∈ l, Itm x := by
  obtain ⟨Ls, wds, rfl, hl, hp, hwl, hwd⟩ := h
  refine ⟨Ls, rfl, hl, fun l hl2 x hx => ?_⟩
  have hm : x ∈ Ls.flatten := List.mem_flatten.mpr ⟨l, hl2, hx⟩
  rcases List.mem_append.mp (hp.mem_iff.mp hm) with h | h
  · obtain ⟨a, j, rfl, ha, hj⟩ := slS_mem h
    have := h7 a
    exact .inl ⟨a, j, rfl, by omega, by omega⟩
  · exact .inr (hwd x h)
theorem lines_ok {g : PyData} {wl : List Int} {rows : List PyData} {k : Nat} {Ls : List (List PyData)} {j : Nat} {tp : Tp} (h : TpOk tp) (hg : g = .tuple [.str "pieces", .tuple (wl.map .int), .tuple rows]) (hW : LmA 0 16 (wl.map .int)) (hR : LmA 3 5040 rows) (hrl : rows.length ≤ 6)
    (hrow : Lm 3 838 (.tuple (Ls.map .tuple))) (hi : ∀ l ∈ Ls, ∀ x ∈ l, Itm x) (hj : j < Ls.length) :
    ResT (m__law_lines [g, .int (k : Nat), .tuple (Ls.map .tuple), .int (j : Nat)] tp) (fun d t => TpOk t ∧ ∃ ds, d = .list ds ∧ ds.length ≤ 20 ∧ ∀ x ∈ ds, PTh 13500 12 x) (fun _ _ => False) := by
  have hLs : LmA 2 838 (Ls.map .tuple) := hrow.tupI
  have hll := wtA_len (ds := Ls.map PyData.tuple)
  have hlw := hLs.wt
  rw [List.length_map] at hll
  have hix : L2.atI (Ls.map PyData.tuple) (j : Int) = some (.tuple Ls[j]) := atI_G (by simp [hj])
  have hline : LmA 1 838 Ls[j] := (hLs.mem (List.mem_map.mpr ⟨_, List.getElem_mem hj, rfl⟩)).tupI
  have hit : ∀ x ∈ Ls[j], Itm x := hi _ (List.getElem_mem hj)
  have hlen := wtA_len (ds := Ls[j])
  have hlw2 := hline.wt
  refine fT_post rfl ?_
  simp [mb__law_lines, hix, -q_IfS, -List.map_map]
  generalize Ls[j] = l at hline hit hlen hlw2
  refine q_LcRg rfl l.length (fun i acc c => ∃ ats : List Nat, acc = ats.map (fun (a : Nat) => Vv.da (.int a)) ∧ (∀ a ∈ ats, ∃ x y, l[a]? = some (slD x y) ∧ x ≤ 9 ∧ y ≤ 6) ∧ ats.length ≤ i ∧ c = ⟨[], tp, []⟩) ?_ ?_ ?_ (by omega)
  · simp
    omega
  · intro i acc c hi h1
    obtain ⟨ats, rfl, hat, hal, rfl⟩ := h1
    have hxi := hit _ (List.getElem_mem hi)
    have hx : L2.atI l (i : Int) = some l[i] := atI_G (by simp [hi])
    simp [wipeS, hx, kind_da (itm_noD hxi)]
    by_cases hs : isStr l[i] = true
    · rw [if_pos hs]
      exact ⟨ats, rfl, hat, by omega⟩
    · rw [if_neg hs]
      rcases hxi with ⟨x, y, e, hx9, hy6⟩ | hw
      · refine ⟨ats ++ [i], by simp, fun a ha => ?_, by simp; omega⟩
        rcases List.mem_append.mp ha with ha | ha
        · exact hat a ha
        · rw [List.mem_singleton.mp ha]
          exact ⟨x, y, by rw [← e]; simp [hi], hx9, hy6⟩
      · obtain ⟨z, e⟩ := hw.st
        rw [e] at hs
        exact (hs rfl).elim
  · intro acc c h1
    obtain ⟨ats, rfl, hat, hal, rfl⟩ := h1
    simp [-q_IfS]
    refine cutS (fun s c => ∃ (Ns : List PyData) (u6 u9 u10 u11 : Option Vv), s = [some .tape, some (.da g), some (.da (.int (k : Nat))), some (.da (.tuple (Ls.map .tuple))), some (.da (.int (j : Nat))), some (.da (.tuple l)), u6, some (.ref 0), some (.ref 1), u9, u10, u11] ∧ c.st[1]? = some (.mu (Ns.map .da)) ∧ TpOk c.tp ∧ Ns.length ≤ 7 ∧ ∀ d ∈ Ns, ∃ ys, d = .tuple ys ∧ LmA 2 1800 ys) ?_ ?_
    · generalize hC : Cf.app (Cf.app _ _) [] = C
      have hC0 : C.st[0]? = some (.mu (ats.map fun (a : Nat) => Vv.da (.int a))) := by rw [← hC]; rfl
      have hC1 : C.st[1]? = some (.mu (([] : List PyData).map .da)) := by rw [← hC]; rfl
      have hCt : TpOk C.tp := by rw [← hC]; exact h
      have hCl : C.st.length = 2 := by rw [← hC]; rfl
      clear hC
      simp [pLen_mu (ls_mu hC0)]
      by_cases h0 : ats = []
      · subst h0
        simp
        exact ⟨[], hC1, hCt, by simp, by simp⟩
      · have hp0 : 0 < ats.length := List.length_pos_iff.mpr h0
        simp [hp0]
        refine pick_to hCt (by omega) (by omega) fun t r ht hr => ?_
        have hr2 : r < ats.length := by omega
        obtain ⟨x, y, hla, hx9, hy6⟩ := hat _ (List.getElem_mem hr2)
        have hpi : pIx (.ref 0) (.da (.int (r : Nat))) ⟨C.st, t, C.sc⟩ = some (.da (.int (ats[r] : Nat)), ⟨C.st, t, C.sc⟩) := pIx_mu (c := ⟨C.st, t, C.sc⟩) (ls_mu hC0) (by simp [hr2])
        have hal2 := (List.getElem?_eq_some_iff.mp hla).1
        rw [hpi]
        generalize ats[r] = a at hla hal2
        have hnews : ∀ d ∈ [PyData.tuple [], .tuple [slD x y, slD x y], .tuple [.tuple [.int (x : Nat), .bool (decide ((y : Int) = 1))]], .tuple [.list [.int (x : Nat), .int (y : Nat)]], .tuple [.str "a"], .tuple [.tuple [.int (x : Nat), .int ((y : Int) + 7)]], .tuple [.tuple [.int ((x : Int) + 4), .int (y : Nat)]]], ∃ nw, d = .tuple nw ∧ LmA 2 60 nw := by
          intro d hd
          have hx : Lm 0 2 (.int (x : Nat)) := lm_int (by omega)
          have hy : Lm 0 2 (.int (y : Nat)) := lm_int (by omega)
          simp only [List.mem_cons, List.not_mem_nil, or_false] at hd
          rcases hd with rfl | rfl | rfl | rfl | rfl | rfl | rfl
          · exact ⟨_, rfl, (LmA.nil (D := 0)).mono (by omega) (by omega)⟩
          · exact ⟨_, rfl, (LmA.cons (lm_slot (by omega) (by omega)) (LmA.cons (lm_slot (by omega) (by omega)) LmA.nil)).mono (by omega) (by omega)⟩
          · exact ⟨_, rfl, (LmA.cons (LmA.cons hx (LmA.cons (n := 5) ⟨rfl, Nat.le_refl _, Nat.le_refl _⟩ LmA.nil)).tup LmA.nil).mono (by omega) (by omega)⟩
          · exact ⟨_, rfl, (LmA.cons (LmA.cons hx (LmA.cons hy LmA.nil)).lst LmA.nil).mono (by omega) (by omega)⟩
          · exact ⟨_, rfl, (LmA.cons (lm_str (s := "a") (by decide +kernel)) LmA.nil).mono (by omega) (by omega)⟩
          · exact ⟨_, rfl, (LmA.cons (LmA.cons hx (LmA.cons (lm_int (i := (y : Int) + 7) (by omega)) LmA.nil)).tup LmA.nil).mono (by omega) (by omega)⟩
          · exact ⟨_, rfl, (LmA.cons (LmA.cons (lm_int (i := (x : Int) + 4) (by omega)) (LmA.cons hy LmA.nil)).tup LmA.nil).mono (by omega) (by omega)⟩
        simp [atI_G hla, slD]
        refine q_ForL [PyData.tuple [], .tuple [slD x y, slD x y], .tuple [.tuple [.int (x : Nat), .bool (decide ((y : Int) = 1))]], .tuple [.list [.int (x : Nat), .int (y : Nat)]], .tuple [.str "a"], .tuple [.tuple [.int (x : Nat), .int ((y : Int) + 7)]], .tuple [.tuple [.int ((x : Int) + 4), .int (y : Nat)]]] .da (fun pre s c => ∃ (Ns : List PyData) (u11 : Option Vv), s = [some .tape, some (.da g), some (.da (.int (k : Nat))), some (.da (.tuple (Ls.map .tuple))), some (.da (.int (j : Nat))), some (.da (.tuple l)), some (.da (.int (a : Nat))), some (.ref 0), some (.ref 1), some (.da (.int (x : Nat))), some (.da (.int (y : Nat))), u11] ∧ c.st[1]? = some (.mu (Ns.map .da)) ∧ TpOk c.tp ∧ Ns.length = pre.length ∧ ∀ d ∈ Ns, ∃ ys, d = .tuple ys ∧ LmA 2 1800 ys) ?_ ?_ ?_
        · refine q_ItW ?_
          have hf2 : fz fzN (.ref C.st.length) (Cf.app ⟨C.st, t, C.sc⟩ [Vv.da (.int (x : Nat)), Vv.da (.int (y : Nat))]) = some (.list [.int (x : Nat), .int (y : Nat)], frzC ⟨C.st, t, C.sc⟩ [.int (x : Nat), .int (y : Nat)]) := fz_app2 (c := ⟨C.st, t, C.sc⟩)
          simp [itemsOf, hf2, slD]
          have hfr : (frzC ⟨C.st, t, C.sc⟩ [.int (x : Nat), .int (y : Nat)]).st[1]? = some (.mu (([] : List PyData).map .da)) := by
            show (C.st ++ _)[1]? = _
            rw [List.getElem?_append_left (by omega)]
            exact hC1
          exact fun g1 hg1 => ⟨fun _ _ c _ _ _ _ _ _ _ => hg1 c, [], hfr, ht, rfl, by simp⟩
        · intro pre d post s c e h1
          obtain ⟨Ns, u11, rfl, hc, hct, hNl, hN⟩ := h1
          have hd := hnews d (by rw [e]; simp)
          have hpl : pre.length < 7 := by
            have := congrArg List.length e
            simp at this
            omega
          obtain ⟨nw, rfl, hnw⟩ := hd
          have hnl := wtA_len (ds := nw)
          have hnw2 := hnw.wt
          have hz5 : (l.take a).length + nw.length ≤ 100000 := by rw [List.length_take]; omega
          have hz6 : (l.take a ++ nw).length + (l.drop (a + 1)).length ≤ 100000 := by rw [List.length_append, List.length_take, List.length_drop]; omega
          simp [isL_mu hc, pSl, cut_take, cut_drop1, pAdd_tt hz5, pAdd_tt hz6, -List.append_assoc]
          rw [pAppend_mu hc (by simp; omega)]
          refine ⟨Ns ++ [.tuple (l.take a ++ nw ++ l.drop (a + 1))], ?_, hct, by simp [hNl], fun z hz => ?_⟩
          · rw [st_put (lt_mu hc)]
            simp
          · rcases List.mem_append.mp hz with hz | hz
            · exact hN z hz
            · rw [List.mem_singleton.mp hz]
              exact ⟨_, rfl, ((((hline.take a).mono (show 1 ≤ 2 by omega) (Nat.le_refl _)).app hnw).app ((hline.drop (a + 1)).mono (show 1 ≤ 2 by omega) (Nat.le_refl _))).mono (Nat.le_refl _) (by omega)⟩
        · intro s c h1
          obtain ⟨Ns, u11, rfl, hc, hct, hNl, hN⟩ := h1
          simp at hNl
          simp
          exact ⟨Ns, hc, hct, by omega, hN⟩
    · intro s c h1
      obtain ⟨Ns, u6, u9, u10, u11, rfl, hc, hct, hNl, hN⟩ := h1
      simp
      refine pick_to hct (by omega) (by omega) fun t r ht hr => ?_
      refine q_ForL [PyData.str "", .str "a b", .str "it's", .str "seventeen-signs-x", .str "sixteen-signs-xx", .tuple [.int 0, .bool true], .none] .da (fun pre s c => ∃ (Ns : List PyData) (u11 : Option Vv), s = [some .tape, some (.da g), some (.da (.int (k : Nat))), some (.da (.tuple (Ls.map .tuple))), some (.da (.int (j : Nat))), some (.da (.tuple l)), some (.da (.int (r : Nat))), some (.ref 0), some (.ref 1), u9, u10, u11] ∧ c.st[1]? = some (.mu (Ns.map .da)) ∧ TpOk c.tp ∧ Ns.length ≤ 7 + pre.length ∧ ∀ d ∈ Ns, ∃ ys, d = .tuple ys ∧ LmA 2 1800 ys) ?_ ?_ ?_
      · refine q_ItW ?_
        simp [itemsOf]
        exact fun g1 hg1 => ⟨fun _ _ c _ _ _ _ _ _ _ => hg1 c, Ns, hc, ht, hNl, hN⟩
      · intro pre d post s c e h1
        obtain ⟨Ns, u11, rfl, hc, hct, hNl, hN⟩ := h1
        have hpl : pre.length < 7 := by
          have := congrArg List.length e
          simp at this
          omega
        have hd : Lm 2 40 d := okL_lm (List.all_eq_true.mp (show [PyData.str "", .str "a b", .str "it's", .str "seventeen-signs-x", .str "sixteen-signs-xx", .tuple [.int 0, .bool true], .none].all (okL 2 40) = true by decide +kernel) d (by rw [e]; simp))
        have hz5 : (l.take r).length + [d].length ≤ 100000 := by rw [List.length_take]; simp; omega
        have hz6 : (l.take r ++ [d]).length + (l.drop r).length ≤ 100000 := by rw [List.length_append, List.length_take, List.length_drop]; simp; omega
        simp [isL_mu hc, pSl, cut_take, cut_drop, pAdd_tt hz5, pAdd_tt hz6, -List.append_assoc]
        rw [pAppend_mu hc (by simp; omega)]
        refine ⟨Ns ++ [.tuple (l.take r ++ [d] ++ l.drop r)], ?_, hct, by simp; omega, fun z hz => ?_⟩
        · rw [st_put (lt_mu hc)]
          simp
        · rcases List.mem_append.mp hz with hz | hz
          · exact hN z hz
          · rw [List.mem_singleton.mp hz]
            exact ⟨_, rfl, ((((hline.take r).mono (show 1 ≤ 2 by omega) (Nat.le_refl _)).app (LmA.cons hd LmA.nil)).app ((hline.drop r).mono (show 1 ≤ 2 by omega) (Nat.le_refl _))).mono (Nat.le_refl _) (by omega)⟩
      · intro s c h1
        obtain ⟨Ns, u11, rfl, hc, hct, hNl, hN⟩ := h1
        have hNl2 : Ns.length ≤ 14 := by simpa using hNl
        simp
        have h1lt := lt_mu hc
        have hA1 : lsOf ((c.app (l.map .da)).app [.ref c.st.length]) (.ref 1) = some (Ns.map .da) := ls_mu (by rw [st_old (by simp; omega), st_old h1lt]; exact hc)
        have hA2 : lsOf ((c.app (l.map .da)).app [.ref c.st.length]) (.ref (c.st.length + 1)) = some [.ref c.st.length] := by
          have := ls_top (c := c.app (l.map .da)) (l := [Vv.ref c.st.length])
          rwa [app_len] at this
        have hA3 := pAdd_rr hA1 hA2 (by simp; omega)
        obtain ⟨C3, hC3⟩ : ∃ C3, C3 = Cf.app ((c.app (l.map .da)).app [.ref c.st.length]) (Ns.map .da ++ [.ref c.st.length]) := ⟨_, rfl⟩
        have e0 : C3.st[c.st.length]? = some (.mu (l.map .da)) := by
          rw [hC3, st_old (by simp; omega), st_old (by simp)]
          exact st_top
        have e2 : C3.st[c.st.length + 1 + 1]? = some (.mu (Ns.map .da ++ [.ref c.st.length])) := by
          have := st_top (c := (c.app (l.map .da)).app [.ref c.st.length]) (l := Ns.map .da ++ [.ref c.st.length])
          rw [app_len, app_len] at this
          rw [hC3]
          exact this
        have et : C3.tp = c.tp := by rw [hC3]; rfl
        rw [← hC3] at hA3
        clear hC3
        refine q_LcW (Ns.map .da ++ [.ref c.st.length]) (fun pre acc c' => ∃ ds : List PyData, acc = ds.map .da ∧ ds.length = pre.length ∧ (∀ x ∈ ds, PTh 13500 12 x) ∧ TpOk c'.tp ∧ c'.st[c.st.length + 1 + 1]? = some (.mu (Ns.map .da ++ [.ref c.st.length])) ∧ FzAt c' c.st.length l) ?_ (by simp; omega) ?_ ?_
        · refine q_ItW ?_
          simp [hA3, itemsOf, ls_mu e2]
          exact fun g1 hg1 => ⟨fun pre acc c' _ _ _ _ _ h2 _ => hg1 c' (ls_mu h2), by rw [et]; exact hct, e2, .inl e0⟩
        · intro pre v post acc c' e h1
          obtain ⟨ds, rfl, hdl, hds, hct', hc2, hfz⟩ := h1
          have hv : v ∈ Ns.map Vv.da ++ [.ref c.st.length] := by rw [e]; simp
          have hvz : ∃ y c'', fz fzN v c' = some (y, c'') ∧ Lm 3 1803 y ∧ c''.tp = c'.tp ∧ c''.st[c.st.length + 1 + 1]? = some (.mu (Ns.map .da ++ [.ref c.st.length])) ∧ FzAt c'' c.st.length l := by
            rcases List.mem_append.mp hv with hv | hv
            · obtain ⟨d, hd, rfl⟩ := List.mem_map.mp hv
              obtain ⟨ys, rfl, hys⟩ := hN d hd
              exact ⟨_, c', fz_da, hys.tup, rfl, hc2, hfz⟩
            · rw [List.mem_singleton.mp hv]
              obtain ⟨c'', h5, h6, h7, _, _, h8⟩ := hfz.frz
              exact ⟨_, c'', h5, hline.lst.mono (by omega) (by omega), h7, by rw [h8 _ (by omega)]; exact hc2, .inr h6⟩
          obtain ⟨y, c'', h5, h6, h7, h8, h9⟩ := hvz
          have hz1 : ((Ls.map PyData.tuple).take j).length + [y].length ≤ 100000 := by simp; omega
          have hz2 : ((Ls.map PyData.tuple).take j ++ [y]).length + ((Ls.map PyData.tuple).drop (j + 1)).length ≤ 100000 := by simp; omega
          simp [wipeS, pSl, cut_take, cut_drop1, h5, pAdd_tt hz1, pAdd_tt hz2, hg, with_ok (show rows.length ≤ 1000 by omega), -List.map_take, -List.map_drop]
          have hrow2 : Lm 4 2646 (.tuple ((Ls.map PyData.tuple).take j ++ y :: (Ls.map PyData.tuple).drop (j + 1))) := ((hLs.mono (show 2 ≤ 3 by omega) (Nat.le_refl _)).swap h6 j).tup
          have hth : PTh 13500 12 (.tuple [.str "pieces", .tuple (wl.map .int), .tuple (rows.take k ++ .tuple ((Ls.map PyData.tuple).take j ++ y :: (Ls.map PyData.tuple).drop (j + 1)) :: rows.drop (k + 1))]) := ⟨_, _, rfl, hW.tup.mono (by omega) (by omega), ((hR.mono (show 3 ≤ 4 by omega) (Nat.le_refl _)).swap hrow2 k).mono (by omega) (by omega), by simp; omega⟩
          refine ⟨ds ++ [_], by rw [List.map_append]; rfl, by simp [hdl], fun x hx => ?_, by rw [h7]; exact hct', h8, h9⟩
          rcases List.mem_append.mp hx with hx | hx
          · exact hds x hx
          · rw [List.mem_singleton.mp hx]
            exact hth
        · intro acc c' h1
          obtain ⟨ds, rfl, hdl, hds, hct', hc2, hfz⟩ := h1
          simp [endFT, fz_mu st_top]
          simp at hdl
          exact ⟨hct', by omega, hds⟩
end PM.K06
end
section
/-! K06M22: mathematics of k06: planted, merged. -/
namespace PM.K06
open PySem DL PM
theorem cutE {sl : Sl} {c : Cf} {m : ME} {Q : Vv → Cf → Prop} {X : Exc → Cf → Prop} (J : Vv → Cf → Prop) (h1 : Post (m sl c) J fun _ _ => False) (h2 : ∀ v c, J v c → Q v c) : Post (m sl c) Q X := h1.imp h2 fun _ _ z => z.elim
theorem planted_ok {b : Bk} {g : PyData} {wl : List Int} {rows : List PyData} (G : Good b g wl rows) (hb : LBook b) {tp : Tp} (h : TpOk tp) : ResT (m__law_planted [g] tp) (fun d t => TpOk t ∧ ∃ ds, d = .list ds ∧ 1 ≤ ds.length ∧ ds.length ≤ 40 ∧ ∀ x ∈ ds, PTh 13500 12 x) (fun _ _ => False) := by
  have hrl : rows.length ≤ 6 := by rw [G.rl]; exact hb.c6
  have hR := G.rws hb
  have hW := G.wid hb
  have hrow : ∀ k (hk : k < rows.length), ∃ Ls : List (List PyData), rows[k] = .tuple (Ls.map .tuple) ∧ 1 ≤ Ls.length ∧ Ls.length ≤ 7 ∧ (∀ l ∈ Ls, ∀ x ∈ l, Itm x) ∧ Lm 3 838 (.tuple (Ls.map .tuple)) := by
    intro k hk
    have hlc : k < b.cs.length := by rw [← G.rl]; exact hk
    have h1 : b.cs[k]? = some b.cs[k] := by simp [hlc]
    have h2 : rows[k]? = some rows[k] := by simp [hk]
    obtain ⟨h3, h4, h5, h6, _⟩ := G.k7 hb (List.mem_of_getElem? h1)
    obtain ⟨Ls, e, hl, hi⟩ := grow_items (G.rg k _ _ h1 h2) h3 h4
    refine ⟨Ls, e, by omega, by omega, hi, ?_⟩
    rw [← e]
    exact G.row hb (List.getElem_mem hk)
  have hsp : ∀ k (hk : k < rows.length), Res (m__law_spots [rows[k]]) (fun d => ∃ js : List Int, d = .list (js.map .int) ∧ js.length ≤ 7 ∧ ∀ j ∈ js, 0 ≤ j ∧ ∃ Ls : List (List PyData), rows[k] = .tuple (Ls.map .tuple) ∧ j < Ls.length) fun _ => False := by
    intro k hk
    obtain ⟨Ls, e, h1, h2, h3, h4⟩ := hrow k hk
    rw [e]
    refine (spots_ok (Ls := Ls) (by omega) fun l hl x hx => itm_noD (h3 l hl x hx)).imp (fun d h5 => ?_) fun _ z => z
    obtain ⟨js, rfl, hjl, h6⟩ := h5
    exact ⟨js, rfl, by omega, fun j hj => ⟨(h6 j hj).1, Ls, rfl, (h6 j hj).2⟩⟩
  have hix : ∀ k (hk : k < rows.length), L2.atI rows (k : Int) = some rows[k] := fun k hk => atI_G (by simp [hk])
  have hge := G.eq
  refine fT_post rfl ?_
  simp [mb__law_planted, hge, -q_IfS]
  rw [← hge]
  refine (widths_ok' G hb h).imp (fun ds t hd => ?_) fun _ _ z => z.elim
  obtain ⟨ht, hd1, hd6, hds⟩ := hd
  rw [hge]
  have hds2 : ∀ x ∈ ds, PTh 13500 12 x := fun x hx => by
    obtain ⟨w, rs, e, h1, h2, h3⟩ := hds x hx
    exact ⟨w, rs, e, h1, h2.mono (Nat.le_refl _) (by omega), by omega⟩
  generalize hC : Cf.app _ (ds.map Vv.da) = C
  have hC0 : C.st[0]? = some (.mu (ds.map .da)) := by rw [← hC]; rfl
  have hCt : TpOk C.tp := by rw [← hC]; exact ht
  clear hC
  by_cases h0 : rows = []
  · subst h0
    simp [endFT, fz_mu hC0]
    exact ⟨hCt, hd1, by omega, hds2⟩
  have hr0 : 0 < rows.length := List.length_pos_iff.mpr h0
  simp [h0, -q_If]
  refine q_LcRg rfl rows.length (fun i acc c => ∃ ks : List Nat, acc = ks.map (fun (a : Nat) => Vv.da (.int a)) ∧ (∀ a ∈ ks, a < rows.length) ∧ ks.length ≤ i ∧ c = C) ?_ ?_ ?_ (by omega)
  · simp
    omega
  · intro i acc c hi h1
    obtain ⟨ks, rfl, hk, hkl, rfl⟩ := h1
    simp [wipeS, hix i hi]
    refine (hsp i hi).imp (fun d h5 => ?_) fun _ z => z.elim
    obtain ⟨js, rfl, _, _⟩ := h5
    simp
    split
    · refine ⟨ks ++ [i], by simp, fun a ha => ?_, by simp; omega⟩
      rcases List.mem_append.mp ha with ha | ha
      · exact hk a ha
      · rw [List.mem_singleton.mp ha]
        exact hi
    · exact ⟨ks, rfl, hk, by omega⟩
  · intro acc c h1
    obtain ⟨ks, rfl, hk, hkl, rfl⟩ := h1
    generalize hC2 : Cf.app c (ks.map fun (a : Nat) => Vv.da (.int a)) = C2
    have hlt := lt_mu hC0
    have hD0 : C2.st[0]? = some (.mu (ds.map .da)) := by rw [← hC2, st_old hlt]; exact hC0
    have hD1 : C2.st[c.st.length]? = some (.mu (ks.map fun (a : Nat) => Vv.da (.int a))) := by rw [← hC2]; exact st_top
    have hDt : TpOk C2.tp := by rw [← hC2]; exact hCt
    clear hC2
    refine cutE (fun v c => ∃ k : Nat, v = .da (.int (k : Nat)) ∧ k < rows.length ∧ c.st[0]? = some (.mu (ds.map .da)) ∧ TpOk c.tp) ?_ ?_
    · simp [pLen_mu (ls_mu hD1)]
      by_cases hk0 : ks = []
      · subst hk0
        simp
        refine pick_to hDt (by omega) (by omega) fun t r ht hr => ?_
        exact ⟨r, rfl, by omega, hD0, ht⟩
      · have hp : 0 < ks.length := List.length_pos_iff.mpr hk0
        simp [hp]
        refine pick_to hDt (by omega) (by omega) fun t r ht hr => ?_
        have hr2 : r < ks.length := by omega
        rw [pIx_mu (c := ⟨C2.st, t, C2.sc⟩) (ls_mu hD1) (w := .da (.int (ks[r] : Nat))) (by simp [hr2])]
        exact ⟨ks[r], rfl, hk _ (List.getElem_mem hr2), hD0, ht⟩
    · intro v c h1
      obtain ⟨k, rfl, hk, hc0, hct⟩ := h1
      simp [hix k hk, -q_If]
      refine (hsp k hk).imp (fun d h5 => ?_) fun _ z => z.elim
      obtain ⟨js, rfl, hjl, hjs⟩ := h5
      obtain ⟨Ls, hLs, hL1, hL7, hLi, hLm⟩ := hrow k hk
      refine cutE (fun v c => ∃ j : Nat, v = .da (.int (j : Nat)) ∧ j < Ls.length ∧ c.st[0]? = some (.mu (ds.map .da)) ∧ TpOk c.tp) ?_ ?_
      · simp [hix k hk, hLs]
        by_cases hj0 : js = []
        · subst hj0
          simp
          refine pick_to hct (by omega) (by omega) fun t r ht hr => ?_
          exact ⟨r, rfl, by omega, hc0, ht⟩
        · have hp : 0 < js.length := List.length_pos_iff.mpr hj0
          simp [hp]
          refine pick_to hct (by omega) (by omega) fun t r ht hr => ?_
          have hr2 : r < js.length := by omega
          have hjx : L2.atI (js.map PyData.int) (r : Int) = some (.int js[r]) := atI_G (by simp [hr2])
          obtain ⟨hj1, Ls', e, hj2⟩ := hjs _ (List.getElem_mem hr2)
          have hll : Ls'.length = Ls.length := by
            rw [hLs] at e
            have := congrArg (fun d => match d with | PyData.tuple l => l.length | _ => 0) e
            simpa using this.symm
          obtain ⟨j, hj3⟩ := Int.eq_ofNat_of_zero_le hj1
          simp [hjx]
          exact ⟨j, hj3, by omega, hc0, ht⟩
      · intro v c h1
        obtain ⟨j, rfl, hj, hc0, hct⟩ := h1
        simp [hix k hk, hLs]
        refine ⟨isL_mu hc0, ?_⟩
        refine (lines_ok hct rfl hW hR hrl hLm hLi hj).imp (fun d t h6 => ?_) fun _ _ z => z.elim
        obtain ⟨ht, ds2, rfl, hd20, hd2⟩ := h6
        rw [pExtend_mu (c := ⟨c.st, t, c.sc⟩) hc0 (ls_list (ds := ds2)) (by simp; omega)]
        simp only [opt_s]
        generalize hE : Cf.put _ 0 _ = E
        have hE0 : E.st[0]? = some (.mu ((ds ++ ds2).map .da)) := by rw [← hE, st_put (lt_mu (c := ⟨c.st, t, c.sc⟩) hc0)]; simp
        have hEt : TpOk E.tp := by rw [← hE]; exact ht
        have hall : ∀ x ∈ ds ++ ds2, PTh 13500 12 x := fun x hx => by
          rcases List.mem_append.mp hx with hx | hx
          · exact hds2 x hx
          · exact hd2 x hx
        have hEl : (ds ++ ds2).length ≤ 26 := by simp; omega
        have hE1 : 1 ≤ (ds ++ ds2).length := by simp; omega
        clear hE
        generalize ds ++ ds2 = ds at hE0 hall hEl hE1
        have hz1 : (Ls.map PyData.tuple).length + [PyData.tuple []].length ≤ 100000 := by simp; omega
        refine q_ForL [PyData.list (Ls.map .tuple), .tuple (Ls.map .tuple ++ [.tuple []]), .tuple (Ls.map .tuple).dropLast] .da (fun pre s c => ∃ (es : List PyData) (u5 u6 u7 u8 : Option Vv), s = [some .tape, some (.da (.tuple [.str "pieces", .tuple (wl.map .int), .tuple rows])), some (.da (.tuple rows)), some (.ref 0), some (.da (.int (k : Nat))), u5, u6, u7, u8] ∧ c.st[0]? = some (.mu (es.map .da)) ∧ TpOk c.tp ∧ (∀ x ∈ es, PTh 13500 12 x) ∧ es.length ≤ 26 + pre.length ∧ 1 ≤ es.length) ?_ ?_ ?_
        · refine q_ItW ?_
          simp [hix k hk, hLs, itemsOf, fz_app, pAdd_tt hz1, pSl, cut_init, -List.map_map, -List.map_dropLast]
          have hE00 : (frzC E (Ls.map .tuple)).st[0]? = some (.mu (ds.map .da)) := by
            show (E.st ++ _)[0]? = _
            rw [List.getElem?_append_left (lt_mu hE0)]
            exact hE0
          exact fun g1 hg1 => ⟨by intros; exact hg1 _, ds, (List.getElem?_eq_some_iff.mp hE00).2, hEt, hall, hEl, hE1⟩
        · intro pre d post s c e h1
          obtain ⟨es, u5, u6, u7, u8, rfl, hc0, hct, hes, hel, he1⟩ := h1
          have hpl : pre.length < 3 := by
            have := congrArg List.length e
            simp at this
            omega
          simp [isL_mu hc0, with_ok (show rows.length ≤ 1000 by omega)]
          rw [pAppend_mu hc0 (by simp; omega)]
          have hLA := hLm.tupI
          have hd : Lm 4 900 d := by
            have hm : d ∈ [PyData.list (Ls.map .tuple), .tuple (Ls.map .tuple ++ [.tuple []]), .tuple (Ls.map .tuple).dropLast] := by rw [e]; simp
            simp only [List.mem_cons, List.not_mem_nil, or_false] at hm
            rcases hm with rfl | rfl | rfl
            · exact hLA.lst.mono (by omega) (by omega)
            · exact (hLA.app (LmA.cons ((LmA.nil (D := 0)).tup.mono (by omega) (Nat.le_refl _)) LmA.nil)).tup.mono (by omega) (by omega)
            · rw [List.dropLast_eq_take]
              exact (hLA.take _).tup.mono (by omega) (by omega)
          refine ⟨es ++ [_], by rw [st_put (lt_mu hc0), List.map_append]; rfl, hct, fun x hx => ?_, by simp; omega, by simp⟩
          rcases List.mem_append.mp hx with hx | hx
          · exact hes x hx
          · rw [List.mem_singleton.mp hx]
            exact ⟨_, _, rfl, hW.tup.mono (by omega) (by omega), ((hR.mono (show 3 ≤ 4 by omega) (Nat.le_refl _)).swap hd k).mono (by omega) (by omega), by simp; omega⟩
        · intro s c h1
          obtain ⟨es, u5, u6, u7, u8, rfl, hc0, hct, hes, hel, he1⟩ := h1
          simp [endFT, fz_mu hc0]
          simp at hel
          exact ⟨hct, he1, by omega, hes⟩
end PM.K06
end
section
/-! K06M23: mathematics of k06: merged. -/
namespace PM.K06
open PySem DL PM
theorem merged_ok {a w : PyData} {rows f1 f2 : List PyData} {tp : Tp} (h : TpOk tp) (hr : rows.length ≤ 6) (h1 : 1 ≤ f1.length ∧ f1.length ≤ 40) (h2 : 1 ≤ f2.length ∧ f2.length ≤ 40) (hf1 : ∀ x ∈ f1, PTh 13500 12 x) (hf2 : ∀ x ∈ f2, PTh 13500 12 x) :
    ResT (m__law_merged [.tuple [a, w, .tuple rows], .list f1, .list f2] tp) (fun d t => TpOk t ∧ ∃ ds, d = .list ds ∧ ds.length ≤ 10 ∧ ∀ x ∈ ds, PTh 27000 24 x) (fun _ _ => False) := by
  refine fT_post rfl ?_
  simp [mb__law_merged]
  refine q_ForRg rfl 10 (fun i s c => ∃ (ds : List PyData) (u5 u6 u7 u8 : Option Vv), s = [some .tape, some (.da (.tuple [a, w, .tuple rows])), some (.da (.list f1)), some (.da (.list f2)), some (.ref 0), u5, u6, u7, u8] ∧ c.st[0]? = some (.mu (ds.map .da)) ∧ TpOk c.tp ∧ ds.length = i ∧ ∀ x ∈ ds, PTh 27000 24 x) ?_ ?_ ?_
  · have hc0 : (Cf.app ⟨[], tp, []⟩ []).st[0]? = some (.mu (([] : List PyData).map .da)) := rfl
    simp only [q_C]
    exact ⟨rfl, by omega, [], _, _, _, _, rfl, hc0, h, rfl, by simp⟩
  · intro i s c hi hI
    obtain ⟨ds, u5, u6, u7, u8, rfl, hc0, hct, hdl, hds⟩ := hI
    simp
    refine pick_to hct (by omega) (by omega) fun t r ht hr2 => ?_
    have hi1 : r < f1.length := by omega
    obtain ⟨w1, rs1, e1, hw1, hr1, hl1⟩ := hf1 _ (List.getElem_mem hi1)
    have hx1 : L2.atI f1 (r : Int) = some (.tuple [.str "pieces", w1, .tuple rs1]) := by rw [← e1]; exact atI_G (by simp [hi1])
    simp [hx1]
    refine pick_to (tp := t) ht (by omega) (by omega) fun t2 r2 ht2 hr3 => ?_
    have hi2 : r2 < f2.length := by omega
    obtain ⟨w2, rs2, e2, hw2, hr22, hl2⟩ := hf2 _ (List.getElem_mem hi2)
    have hx2 : L2.atI f2 (r2 : Int) = some (.tuple [.str "pieces", w2, .tuple rs2]) := by rw [← e2]; exact atI_G (by simp [hi2])
    simp [hx2]
    refine pick_to (tp := t2) ht2 (by omega) (by omega) fun t3 k ht3 hr4 => ?_
    have hc1 : (⟨c.st, t3, c.sc⟩ : Cf).st[0]? = some (.mu (ds.map .da)) := hc0
    have hz : (rs2.take k).length + (rs1.drop k).length ≤ 100000 := by simp; omega
    simp [isL_mu hc1, pSl, cut_take, cut_drop, pAdd_tt hz]
    rw [pAppend_mu hc1 (by simp; omega)]
    refine ⟨ds ++ [.tuple [.str "pieces", w1, .tuple (rs2.take k ++ rs1.drop k)]], by rw [st_put (lt_mu hc1), List.map_append]; rfl, ht3, by simp [hdl], fun x hx => ?_⟩
    rcases List.mem_append.mp hx with hx | hx
    · exact hds x hx
    · rw [List.mem_singleton.mp hx]
      exact ⟨_, _, rfl, hw1, ((hr22.take k).app (hr1.drop k)).mono (Nat.le_refl _) (by omega), by simp; omega⟩
  · intro s c hI
    obtain ⟨ds, u5, u6, u7, u8, rfl, hc0, hct, hdl, hds⟩ := hI
    simp [endFT, fz_mu hc0]
    exact ⟨hct, by omega, hds⟩
end PM.K06
end
section
/-! PM21: what a value means as data, lists in lists; freezing keeps it. -/
namespace PM
open PySem DL
def denL (f : Vv → Option PyData) : List Vv → Option (List PyData)
  | [] => some []
  | v :: vs => (f v).bind fun d => (denL f vs).map fun ds => d :: ds
def den : Nat → Cf → Vv → Option PyData
  | 0, _, v => match v with
    | .da d => some d
    | _ => none
  | n + 1, c, v => match v with
    | .da d => some d
    | .ref k => match c.st[k]? with
      | some (.frz ds) => some (.list ds)
      | some (.mu l) => (denL (den n c) l).map .list
      | none => none
    | _ => none
@[simp] theorem den_da {n : Nat} {c : Cf} {d : PyData} : den n c (.da d) = some d := by cases n <;> rfl
theorem den_frz {n k : Nat} {c : Cf} {ds : List PyData} (h : c.st[k]? = some (.frz ds)) : den (n + 1) c (.ref k) = some (.list ds) := by
  simp only [den, h]
theorem den_mu {n k : Nat} {c : Cf} {l : List Vv} (h : c.st[k]? = some (.mu l)) : den (n + 1) c (.ref k) = (denL (den n c) l).map .list := by
  simp only [den, h]
theorem denL_imp {f g : Vv → Option PyData} : ∀ {l : List Vv} {ds : List PyData}, (∀ v ∈ l, ∀ d, f v = some d → g v = some d) → denL f l = some ds → denL g l = some ds
  | [], _, _, h => h
  | v :: l, ds, hi, h => by
    simp only [denL] at h ⊢
    cases e : f v with
    | none => rw [e] at h; cases h
    | some d =>
      rw [e, Option.bind_some] at h
      cases e2 : denL f l with
      | none => rw [e2] at h; cases h
      | some es =>
        rw [e2] at h
        cases h
        rw [hi v (by simp) d e, denL_imp (fun w hw => hi w (List.mem_cons_of_mem _ hw)) e2]
        rfl
theorem denL_da {f : Vv → Option PyData} (hf : ∀ d, f (.da d) = some d) : ∀ {ds : List PyData}, denL f (ds.map .da) = some ds
  | [] => rfl
  | d :: ds => by simp only [List.map_cons, denL, hf, Option.bind_some, denL_da hf (ds := ds), Option.map_some]
theorem denL_app {f : Vv → Option PyData} : ∀ {a b : List Vv} {x y : List PyData}, denL f a = some x → denL f b = some y → denL f (a ++ b) = some (x ++ y)
  | [], b, x, y, h1, h2 => by cases h1; exact h2
  | v :: a, b, x, y, h1, h2 => by
    simp only [denL, List.cons_append] at h1 ⊢
    cases e : f v with
    | none => rw [e] at h1; cases h1
    | some d =>
      rw [e, Option.bind_some] at h1
      cases e2 : denL f a with
      | none => rw [e2] at h1; cases h1
      | some es =>
        rw [e2] at h1
        cases h1
        rw [denL_app e2 h2]
        rfl
theorem denL_set {f : Vv → Option PyData} : ∀ {l : List Vv} {ds : List PyData} {k : Nat} {v : Vv} {d : PyData}, denL f l = some ds → f v = some d → denL f (l.set k v) = some (ds.set k d)
  | [], _, _, _, _, h, _ => by cases h; rfl
  | w :: l, ds, k, v, d, h, hv => by
    simp only [denL] at h
    cases e : f w with
    | none => rw [e] at h; cases h
    | some x =>
      rw [e, Option.bind_some] at h
      cases e2 : denL f l with
      | none => rw [e2] at h; cases h
      | some es =>
        rw [e2] at h
        cases h
        cases k with
        | zero => simp only [List.set_cons_zero, denL, hv, e2, Option.bind_some, Option.map_some]
        | succ k => simp only [List.set_cons_succ, denL, e, denL_set e2 hv, Option.bind_some, Option.map_some]
theorem den_mono {c : Cf} : ∀ {m n : Nat} {v : Vv} {d : PyData}, m ≤ n → den m c v = some d → den n c v = some d
  | 0, n, v, d, _, h => by
    cases v <;> simp [den] at h
    subst h
    exact den_da
  | m + 1, n, v, d, hn, h => by
    obtain ⟨n, rfl⟩ : ∃ k, n = k + 1 := ⟨n - 1, by omega⟩
    cases v with
    | da e => rw [den_da] at h ⊢; exact h
    | ref k =>
      cases q : c.st[k]? with
      | none => simp [den, q] at h
      | some u =>
        cases u with
        | frz ds => rw [den_frz q] at h ⊢; exact h
        | mu l =>
          rw [den_mu q] at h ⊢
          cases e : denL (den m c) l with
          | none => rw [e] at h; cases h
          | some es =>
            rw [e] at h
            rw [denL_imp (fun w _ x hx => den_mono (show m ≤ n by omega) hx) e]
            exact h
    | _ => simp [den] at h
theorem den_det {c : Cf} {m n : Nat} {v : Vv} {d e : PyData} (h : den m c v = some d) (h' : den n c v = some e) : d = e := by
  rcases Nat.le_total m n with hl | hl
  · have := den_mono hl h
    rw [h'] at this
    cases this
    rfl
  · have := den_mono hl h'
    rw [h] at this
    cases this
    rfl
theorem den_old {c : Cf} {l : List Vv} : ∀ {m : Nat} {v : Vv} {d : PyData}, den m c v = some d → den m (c.app l) v = some d
  | 0, v, d, h => by
    cases v <;> simp [den] at h
    subst h
    exact den_da
  | m + 1, v, d, h => by
    cases v with
    | da e => rw [den_da] at h ⊢; exact h
    | ref k =>
      cases q : c.st[k]? with
      | none => simp [den, q] at h
      | some u =>
        have q2 : (c.app l).st[k]? = some u := by rw [st_old (lt_mu q)]; exact q
        cases u with
        | frz ds => rw [den_frz q] at h; rw [den_frz q2]; exact h
        | mu l' =>
          rw [den_mu q] at h
          rw [den_mu q2]
          cases e : denL (den m c) l' with
          | none => rw [e] at h; cases h
          | some es =>
            rw [e] at h
            rw [denL_imp (fun w _ x hx => den_old hx) e]
            exact h
    | _ => simp [den] at h
theorem den_tp {c : Cf} {t : Tp} : ∀ {m : Nat} {v : Vv}, den m { c with tp := t } v = den m c v
  | 0, v => by cases v <;> rfl
  | m + 1, v => by
    cases v with
    | ref k =>
      have : den m { c with tp := t } = den m c := funext fun v => den_tp
      simp only [den, this]
    | _ => rfl
/-- lists frozen since c0 -/
def Inv (c0 c : Cf) : Prop := ∀ j, c.st[j]? = c0.st[j]? ∨ ∃ ds M, c.st[j]? = some (.frz ds) ∧ den M c0 (.ref j) = some (.list ds)
def Ch (m : Nat) (c0 c c' : Cf) : Prop := ∀ j, c'.st[j]? = c.st[j]? ∨ ∃ ds, c'.st[j]? = some (.frz ds) ∧ den m c0 (.ref j) = some (.list ds)
theorem Inv.ch {m : Nat} {c0 c c' : Cf} (h : Inv c0 c) (h' : Ch m c0 c c') : Inv c0 c' := fun j => by
  rcases h' j with e | ⟨ds, e1, e2⟩
  · rw [e]; exact h j
  · exact .inr ⟨ds, m, e1, e2⟩
theorem Ch.trans {m : Nat} {c0 c c' c'' : Cf} (h : Ch m c0 c c') (h' : Ch m c0 c' c'') : Ch m c0 c c'' := fun j => by
  rcases h' j with e | e
  · rw [e]; exact h j
  · exact .inr e
theorem Ch.mono {m n : Nat} {c0 c c' : Cf} (h : Ch m c0 c c') (hn : m ≤ n) : Ch n c0 c c' := fun j => (h j).imp id fun ⟨ds, e1, e2⟩ => ⟨ds, e1, den_mono hn e2⟩
theorem fzL_of {m n : Nat} {c0 : Cf} (ih : ∀ (c : Cf) (v : Vv) (d : PyData), Inv c0 c → den m c0 v = some d → ∃ c', fz n v c = some (d, c') ∧ Ch m c0 c c' ∧ c'.tp = c.tp ∧ c'.sc = c.sc ∧ c'.st.length = c.st.length) : ∀ (l : List Vv) (ds : List PyData) (c : Cf), Inv c0 c → denL (den m c0) l = some ds → ∃ c', fzL (fz n) l c = some (ds, c') ∧ Ch m c0 c c' ∧ c'.tp = c.tp ∧ c'.sc = c.sc ∧ c'.st.length = c.st.length
  | [], ds, c, _, h => by cases h; exact ⟨c, rfl, fun _ => .inl rfl, rfl, rfl, rfl⟩
  | v :: l, ds, c, hI, h => by
    simp only [denL] at h
    cases e : den m c0 v with
    | none => rw [e] at h; cases h
    | some d =>
      rw [e, Option.bind_some] at h
      cases e2 : denL (den m c0) l with
      | none => rw [e2] at h; cases h
      | some es =>
        rw [e2] at h
        cases h
        obtain ⟨c1, h1, h2, h3, h4, h5⟩ := ih c v d hI e
        obtain ⟨c2, g1, g2, g3, g4, g5⟩ := fzL_of ih l es c1 (hI.ch h2) e2
        refine ⟨c2, ?_, h2.trans g2, g3.trans h3, g4.trans h4, g5.trans h5⟩
        rw [fzL_cons, h1, Option.bind_some, g1]
        rfl
theorem fz_den {c0 : Cf} : ∀ (m n : Nat) (c : Cf) (v : Vv) (d : PyData), m ≤ n → Inv c0 c → den m c0 v = some d → ∃ c', fz n v c = some (d, c') ∧ Ch m c0 c c' ∧ c'.tp = c.tp ∧ c'.sc = c.sc ∧ c'.st.length = c.st.length
  | 0, n, c, v, d, _, _, h => by
    cases v <;> simp [den] at h
    subst h
    exact ⟨c, fz_da, fun _ => .inl rfl, rfl, rfl, rfl⟩
  | m + 1, n, c, v, d, hn, hI, h => by
    obtain ⟨n, rfl⟩ : ∃ k, n = k + 1 := ⟨n - 1, by omega⟩
    have triv : ∀ d, fz (n + 1) v c = some (d, c) → ∃ c', fz (n + 1) v c = some (d, c') ∧ Ch (m + 1) c0 c c' ∧ c'.tp = c.tp ∧ c'.sc = c.sc ∧ c'.st.length = c.st.length := fun d h => ⟨c, h, fun _ => .inl rfl, rfl, rfl, rfl⟩
    cases v with
    | da e => rw [den_da] at h; cases h; exact triv _ fz_da
    | ref k =>
      have fr : ∀ ds, c.st[k]? = some (.frz ds) → fz (n + 1) (.ref k) c = some (.list ds, c) := fun ds e => by
        unfold fz
        simp only [e]
      cases q : c0.st[k]? with
      | none => simp [den, q] at h
      | some u =>
        rcases hI k with e | ⟨ds2, M, e, e2⟩
        · cases u with
          | frz ds =>
            rw [den_frz q] at h
            cases h
            exact triv _ (fr ds (e.trans q))
          | mu l =>
            cases e3 : den m c0 (.ref k) with
            | some d2 =>
              have : d2 = d := den_det e3 h
              subst this
              obtain ⟨c', h1, h2, h3⟩ := fz_den m (n + 1) c (.ref k) d2 (by omega) hI e3
              exact ⟨c', h1, h2.mono (by omega), h3⟩
            | none =>
              rw [den_mu q] at h
              cases e4 : denL (den m c0) l with
              | none => rw [e4] at h; cases h
              | some ds =>
                rw [e4] at h
                cases h
                obtain ⟨c1, h1, h2, h3, h4, h5⟩ := fzL_of (fun c v d => fz_den m n c v d (by omega)) l ds c hI e4
                have hk : c1.st[k]? = some (.mu l) := by
                  rcases h2 k with e5 | ⟨es, _, e5⟩
                  · rw [e5, e, q]
                  · rw [e3] at e5; cases e5
                have hl := lt_mu hk
                refine ⟨{ c1 with st := c1.st.set k (.frz ds) }, fz_nest (e.trans q) h1 hk, fun j => ?_, h3, h4, by simp [h5]⟩
                by_cases hj : k = j
                · subst hj
                  exact .inr ⟨ds, by simp [hl], by rw [den_mu q, e4]; rfl⟩
                · rcases h2 j with e5 | ⟨es, e5, e6⟩
                  · exact .inl (by simp [List.getElem?_set, hj]; exact e5)
                  · exact .inr ⟨es, by simp [List.getElem?_set, hj]; exact e5, den_mono (by omega) e6⟩
        · have := den_det e2 h
          subst this
          exact triv _ (fr ds2 e)
    | _ => simp [den] at h
theorem Inv.rfl' {c : Cf} : Inv c c := fun _ => .inl rfl
/-- a list of data stays what it was -/
theorem FzAt.ch {m n : Nat} {c c' : Cf} {ds : List PyData} (h : FzAt c n ds) (h' : Ch m c c c') : FzAt c' n ds := by
  have hd : den 1 c (.ref n) = some (.list ds) := by
    rcases h with h | h
    · rw [den_mu h, denL_da fun d => den_da]; rfl
    · exact den_frz h
  rcases h' n with e | ⟨es, e1, e2⟩
  · rcases h with h | h
    · exact .inl (e.trans h)
    · exact .inr (e.trans h)
  · have := den_det hd e2
    cases this
    exact .inr e1
theorem put_top {c : Cf} {l l2 : List Vv} : (c.app l).put c.st.length l2 = c.app l2 := by
  simp [Cf.app, Cf.put]
theorem pTuple_den {c : Cf} {n m : Nat} {l : List Vv} {ds : List PyData} (hm : m ≤ 6) (h : lsOf c (.ref n) = some l) (hd : denL (den m c) l = some ds) : ∃ c', pTuple [.ref n] c = some (.da (.tuple ds), c') ∧ Ch m c c c' ∧ c'.tp = c.tp ∧ c'.sc = c.sc ∧ c'.st.length = c.st.length := by
  obtain ⟨c', h1, h2⟩ := fzL_of (n := fzN) (fun c v d => fz_den m 6 c v d hm) l ds c Inv.rfl' hd
  refine ⟨c', ?_, h2⟩
  show ((lsOf c (.ref n)).bind fun l => (fzL (fz fzN) l c).map fun r => (Vv.da (.tuple r.1), r.2)) = _
  rw [h, Option.bind_some, h1]
  rfl
end PM
end
section
/-! K06M24: mathematics of k06: paths. -/
namespace PM.K06
open PySem DL PM
def kidsD : PyData → List PyData
  | .list xs => xs
  | .tuple xs => xs
  | _ => []
def goP : PyData → List Nat → Option PyData
  | v, [] => some v
  | v, s :: r => (kidsD v)[s]?.bind fun x => goP x r
theorem goP_app {s : Nat} : ∀ {p : List Nat} {v : PyData}, goP v (p ++ [s]) = (goP v p).bind fun x => (kidsD x)[s]?
  | [], v => by
    simp only [List.nil_append, goP, Option.bind_some]
    cases (kidsD v)[s]? <;> rfl
  | q :: p, v => by
    simp only [List.cons_append, goP]
    cases (kidsD v)[q]? with
    | none => rfl
    | some x => simp only [Option.bind_some]; exact goP_app
theorem kids_lm {D n : Nat} {v : PyData} (h : Lm D n v) : LmA D n (kidsD v) := by
  cases v with
  | list xs => exact ⟨h.sm, by have := h.dp; simp only [PyData.depth] at this; show PyData.depthAll xs ≤ D; omega, by have := h.wt; rw [wtD_lst] at this; show wtA xs ≤ n; omega⟩
  | tuple xs => exact ⟨h.sm, by have := h.dp; simp only [PyData.depth] at this; show PyData.depthAll xs ≤ D; omega, by have := h.wt; rw [wtD_tup] at this; show wtA xs ≤ n; omega⟩
  | _ => exact LmA.nil.mono (Nat.zero_le _) (Nat.zero_le _)
theorem goP_lm {D n : Nat} : ∀ {p : List Nat} {v x : PyData}, Lm D n v → goP v p = some x → Lm D n x
  | [], v, x, h, e => by cases e; exact h
  | s :: p, v, x, h, e => by
    simp only [goP] at e
    cases e2 : (kidsD v)[s]? with
    | none => rw [e2] at e; cases e
    | some y =>
      rw [e2] at e
      exact goP_lm ((kids_lm h).mem (List.mem_of_getElem? e2)) e
theorem kid_len {v : PyData} (h : isTup v = true ∨ isLst v = true) {c : Cf} : pLen [.da v] c = some (.da (.int (kidsD v).length), c) := by
  cases v <;> first | rfl | simp [isTup, isLst] at h
theorem kid_ix {v : PyData} (h : isTup v = true ∨ isLst v = true) {c : Cf} {i : Int} : pIx (.da v) (.da (.int i)) c = (L2.atI (kidsD v) i).map fun d => (.da d, c) := by
  cases v <;> first | rfl | simp [isTup, isLst] at h
theorem path_ok {D n : Nat} {thing : PyData} (hT : Lm D n thing) (hn : n ≤ 90000) {tp : Tp} (h : TpOk tp) : ResT (m__law_path [thing] tp) (fun d t => TpOk t ∧ ∃ (st : List Nat) (v : PyData), d = .tuple (st.map fun s => .int (s : Nat)) ∧ st.length ≤ 4 ∧ goP thing st = some v) (fun _ _ => False) := by
  refine fT_post rfl ?_
  simp [mb__law_path]
  refine q_ForRgX rfl ?_
  simp
  refine pick_to h (by decide) (by decide) fun t r ht hr => ?_
  obtain ⟨m, hm, h1, h2⟩ := tabI [4, 4, 2, 4, 3, 4, 1, 4] 1 4 (by decide) (r := r) (by simp; omega)
  simp only [List.map_cons, List.map_nil] at hm
  obtain ⟨m, rfl⟩ := Int.eq_ofNat_of_zero_le (show 0 ≤ m by omega)
  simp only [pIx_tup, hm, Option.map_some, opt_s]
  refine ⟨m, rfl, by omega, fun i s c => ∃ (st : List Nat) (v : PyData) (u4 u5 : Option Vv), s = [some .tape, some (.da thing), some (.da (.tuple (st.map fun s => .int (s : Nat)))), some (.da v), u4, u5] ∧ TpOk c.tp ∧ st.length ≤ i ∧ goP thing st = some v, ?_, ?_, ?_⟩
  · exact ⟨[], thing, _, _, rfl, ht, by simp, rfl⟩
  · intro i s c hi hI
    obtain ⟨st, v, u4, u5, rfl, hct, hsl, hgo⟩ := hI
    have hv := goP_lm hT hgo
    have hvn := noD_of (smD_nd v hv.sm)
    have hkl := (kids_lm hv).wt
    have hkl2 := wtA_len (ds := kidsD v)
    simp [kind_da hvn]
    by_cases hc : isTup v = true ∨ isLst v = true
    case neg =>
      rw [if_neg hc]
      exact ⟨hct, st, rfl, by omega, v, hgo⟩
    rw [if_pos hc]
    by_cases h0 : kidsD v = []
    · simp [kid_len hc, h0]
      exact ⟨hct, st, rfl, by omega, v, hgo⟩
    have hp : 0 < (kidsD v).length := List.length_pos_iff.mpr h0
    have nxt : ∀ (c' : Cf) (s0 : Nat), s0 < (kidsD v).length → TpOk c'.tp → Opt (pAdd (.da (.tuple (st.map fun s => .int (s : Nat)))) (.da (.tuple [.int (s0 : Nat)])) c') fun r => Opt (pIx (.da v) (.da (.int (s0 : Nat))) r.2) fun r_1 => ∃ (st : List Nat) (v : PyData), (r.1 = Vv.da (.tuple (st.map fun s => .int (s : Nat))) ∧ r_1.1 = Vv.da v) ∧ TpOk r_1.2.tp ∧ st.length ≤ i + 1 ∧ goP thing st = some v := by
      intro c' s0 hs0 ht'
      rw [pAdd_tt (by simp; omega)]
      simp only [opt_s]
      rw [kid_ix hc, atI_G (d := (kidsD v)[s0]) (by simp [hs0])]
      refine ⟨st ++ [s0], (kidsD v)[s0], ⟨by simp, rfl⟩, ht', by simp; omega, ?_⟩
      rw [goP_app, hgo, Option.bind_some]
      simp [hs0]
    simp [kid_len hc, h0]
    refine pick_to hct (by omega) (by omega) fun t r ht hr => ?_
    have hr2 : r < (kidsD v).length := by omega
    by_cases hi0 : i = 0
    · simp [hi0]
      by_cases h3 : ((kidsD v).length : Int) = 3
      · simp [h3]
        refine pick_to (tp := t) ht (by decide) (by decide) fun t2 r2 ht2 hr2 => ?_
        obtain ⟨q, hq, hq1, hq2⟩ := tabI [2, 2, 1, 2, 2, 0, 2, 2] 0 2 (by decide) (r := r2) (by simp; omega)
        simp only [List.map_cons, List.map_nil] at hq
        obtain ⟨q, rfl⟩ := Int.eq_ofNat_of_zero_le hq1
        have := nxt ⟨c.st, t2, c.sc⟩ q (by omega) ht2
        rw [hi0] at this
        simpa [hq] using this
      · simp [h3]
        have := nxt ⟨c.st, t, c.sc⟩ r hr2 ht
        rw [hi0] at this
        simpa using this
    · simp [hi0]
      exact nxt ⟨c.st, t, c.sc⟩ r hr2 ht
  · intro s c hI
    obtain ⟨st, v, u4, u5, rfl, hct, hsl, hgo⟩ := hI
    simp
    exact ⟨hct, st, rfl, by omega, v, hgo⟩
end PM.K06
end
section
/-! K06M25: mathematics of k06: bends. -/
namespace PM.K06
open PySem DL PM
theorem kid_c {x y : PyData} {s : Nat} (h : (kidsD x)[s]? = some y) : isTup x = true ∨ isLst x = true := by
  cases x <;> simp [kidsD, isTup, isLst] at h ⊢
theorem kid_list {v : PyData} (h : isTup v = true ∨ isLst v = true) {c : Cf} : pList [.da v] c = some (.ref c.st.length, c.app ((kidsD v).map .da)) := by
  cases v <;> first | rfl | simp [isTup, isLst] at h
theorem atI_last {α : Type} {l : List α} {w : α} (hk : l.getLast? = some w) : L2.atI l (-1) = some w := by
  have hl : l ≠ [] := fun e => by rw [e] at hk; cases hk
  have hp : 0 < l.length := List.length_pos_iff.mpr hl
  unfold L2.atI L2.ixN
  rw [if_neg (by omega), if_pos (by omega)]
  have e1 : (-1 + (l.length : Int)).toNat = l.length - 1 := by omega
  rw [e1, Option.bind_some, ← List.getLast?_eq_getElem?]
  exact hk
theorem atI_pred {α : Type} {l : List α} {a : Nat} (h : a < l.length) : ∃ x ∈ l, L2.atI l ((a : Int) - 1) = some x := by
  cases a with
  | zero =>
    have hl : l ≠ [] := List.length_pos_iff.mp h
    exact ⟨l.getLast hl, List.getLast_mem hl, atI_last (List.getLast?_eq_some_getLast hl)⟩
  | succ a =>
    refine ⟨l[a], List.getElem_mem (by omega), ?_⟩
    have e : (((a + 1 : Nat) : Int) - 1) = (a : Nat) := by omega
    rw [e]
    exact atI_G (List.getElem?_eq_getElem (by omega))
theorem wtA_set {x d : PyData} : ∀ {l : List PyData} {k : Nat}, l[k]? = some x → wtA (l.set k d) + wtD x = wtA l + wtD d
  | [], k, h => by simp at h
  | y :: l, 0, h => by
    simp at h
    subst h
    simp
    omega
  | y :: l, k + 1, h => by
    have := wtA_set (l := l) (k := k) (d := d) (by simpa using h)
    simp
    omega
theorem dpA_set {d : PyData} {N : Nat} : ∀ {l : List PyData} {k : Nat}, PyData.depthAll l ≤ N → d.depth ≤ N → PyData.depthAll (l.set k d) ≤ N
  | [], k, h, _ => h
  | y :: l, 0, h, hd => by
    simp only [PyData.depthAll, List.set_cons_zero] at h ⊢
    omega
  | y :: l, k + 1, h, hd => by
    simp only [PyData.depthAll] at h
    have := dpA_set (l := l) (k := k) (show PyData.depthAll l ≤ N by omega) hd
    simp only [PyData.depthAll, List.set_cons_succ]
    omega
theorem smA_set {d : PyData} {l : List PyData} {k : Nat} (h : smA l = true) (hd : smD d = true) : smA (l.set k d) = true := by
  rw [smA_all] at h ⊢
  intro x hx
  rcases List.mem_or_eq_of_mem_set hx with hx | rfl
  · exact h x hx
  · exact hd
/-- a row turned -/
structure YO (row : List PyData) (W : Nat) (ys : List PyData) : Prop where
  sm : smA ys = true
  dp : PyData.depthAll ys ≤ max (PyData.depthAll row) 22
  wt : wtA ys ≤ wtA row + (W + 200)
theorem YO.set {row : List PyData} {W k : Nat} {d : PyData} (h : smA row = true) (hd : smD d = true) (h1 : d.depth ≤ max (PyData.depthAll row) 22) (h2 : wtD d ≤ W + 200) (hk : k < row.length) : YO row W (row.set k d) := by
  refine ⟨smA_set h hd, dpA_set (by omega) h1, ?_⟩
  have := wtA_set (d := d) (List.getElem?_eq_getElem hk)
  omega
theorem YO.ins {row : List PyData} {W k : Nat} {d : PyData} (h : smA row = true) (hd : smD d = true) (h1 : d.depth ≤ max (PyData.depthAll row) 22) (h2 : wtD d + 2 ≤ W + 200) : YO row W (row.take k ++ d :: row.drop k) := by
  have e := List.take_append_drop k row
  refine ⟨?_, ?_, ?_⟩
  · rw [← e, smA_app, Bool.and_eq_true] at h
    simp [smA_app, smA, h.1, h.2, hd]
  · have h3 : PyData.depthAll row = max (PyData.depthAll (row.take k)) (PyData.depthAll (row.drop k)) := by rw [← dpA_app, e]
    rw [dpA_app]
    simp only [PyData.depthAll]
    omega
  · have h3 : wtA row = wtA (row.take k) + wtA (row.drop k) := by rw [← wtA_app, e]
    rw [wtA_app, wtA_cons]
    omega
theorem YO.era {row : List PyData} {W k : Nat} (h : smA row = true) : YO row W (row.eraseIdx k) := by
  rw [List.eraseIdx_eq_take_drop_succ]
  have e := List.take_append_drop k row
  have e2 : row.drop (k + 1) = (row.drop k).drop 1 := by rw [List.drop_drop]
  have h3 : wtA row = wtA (row.take k) + wtA (row.drop k) := by rw [← wtA_app, e]
  have h4 : PyData.depthAll row = max (PyData.depthAll (row.take k)) (PyData.depthAll (row.drop k)) := by rw [← dpA_app, e]
  rw [← e, smA_app, Bool.and_eq_true] at h
  refine ⟨?_, ?_, ?_⟩
  · rw [smA_app, h.1, e2]
    refine smA_all.mpr fun x hx => smA_all.mp h.2 x (List.mem_of_mem_drop hx)
  · rw [dpA_app, e2]
    have : PyData.depthAll ((row.drop k).drop 1) ≤ PyData.depthAll (row.drop k) := by
      cases row.drop k with
      | nil => simp
      | cons y l => simp only [List.drop_succ_cons, List.drop_zero, PyData.depthAll]; omega
    omega
  · rw [wtA_app, e2]
    have : wtA ((row.drop k).drop 1) ≤ wtA (row.drop k) := by
      cases row.drop k with
      | nil => simp
      | cons y l => simp
    omega
/-- a value turned: in place of X -/
structure VO (X : PyData) (W L : Nat) (d : PyData) : Prop where
  sm : smD d = true
  dp : d.depth ≤ max X.depth L
  wt : wtD d ≤ wtD X + (W + 200)
theorem wt_kids {v : PyData} (h : isTup v = true ∨ isLst v = true) : wtD v = 3 + wtA (kidsD v) := by
  cases v <;> first | rfl | simp [isTup, isLst] at h
theorem dp_kids {v : PyData} (h : isTup v = true ∨ isLst v = true) : v.depth = PyData.depthAll (kidsD v) + 1 := by
  cases v <;> first | rfl | simp [isTup, isLst] at h
theorem bent_ok {n : Nat} {thing : PyData} (hT : Lm 26 n thing) (hn : n ≤ 45000) {tp : Tp} (h : TpOk tp) : ResT (m__law_bent [thing] tp) (fun d t => TpOk t ∧ Lm 26 (2 * n + 200) d) (fun _ _ => False) := by
  refine fT_post rfl ?_
  simp [mb__law_bent, -q_IfS]
  refine (path_ok hT (by omega) h).imp (fun d t hp => ?_) fun _ _ z => z.elim
  obtain ⟨ht, st, v0, rfl, hsl, hgo⟩ := hp
  rw [q_IfS]
  by_cases h0 : st = []
  · subst h0
    simp
    exact (odd_ok ht).imp (fun d t ⟨h1, h2⟩ => ⟨h1, h2.mono (by omega) (by omega)⟩) fun _ _ z => z
  simp [h0, -q_IfS]
  have hst0 : 0 < st.length := List.length_pos_iff.mpr h0
  have hW := hT.wt
  -- the chain
  have hpre : ∀ k, k ≤ st.length → ∃ x, goP thing (st.take k) = some x := by
    intro k hk
    have e : st = st.take k ++ st.drop k := (List.take_append_drop k st).symm
    have key : ∀ (p q : List Nat) (v w : PyData), goP v (p ++ q) = some w → ∃ x, goP v p = some x := by
      intro p
      induction p with
      | nil => intro q v w _; exact ⟨v, rfl⟩
      | cons s p ih =>
        intro q v w h
        simp only [List.cons_append, goP] at h ⊢
        cases e : (kidsD v)[s]? with
        | none => rw [e] at h; cases h
        | some y =>
          rw [e, Option.bind_some] at h
          exact ih q y w h
    rw [e] at hgo
    exact key _ _ _ _ hgo
  have hstep : ∀ k (hk : k < st.length) x, goP thing (st.take k) = some x → ∃ y, (kidsD x)[st[k]]? = some y ∧ goP thing (st.take (k + 1)) = some y := by
    intro k hk x hx
    obtain ⟨y, hy⟩ := hpre (k + 1) hk
    have e : st.take (k + 1) = st.take k ++ [st[k]] := (List.take_append_getElem hk).symm
    rw [e, goP_app, hx, Option.bind_some] at hy
    exact ⟨y, hy, by rw [e, goP_app, hx, Option.bind_some]; exact hy⟩
  refine q_ForL st.dropLast (fun s => .da (.int (s : Nat))) (fun pre s c => ∃ (cs : List PyData) (u4 : Option Vv), s = [some .tape, some (.da thing), some (.da (.tuple (st.map fun s => .int (s : Nat)))), some (.ref 0), u4, none, none, none, none, none, none, none] ∧ c = ⟨[.mu (cs.map .da)], t, []⟩ ∧ cs.length = pre.length + 1 ∧ ∀ i, i ≤ pre.length → cs[i]? = goP thing (st.take i)) ?_ ?_ ?_
  · refine q_ItW ?_
    simp [pSl, cut_init, itemsOf, -List.map_dropLast]
    have em : List.map Vv.da (List.map (fun s : Nat => PyData.int (s : Nat)) st).dropLast = List.map (fun s : Nat => Vv.da (.int (s : Nat))) st.dropLast := by
      rw [← List.map_dropLast, List.map_map]
      rfl
    rw [em]
    exact fun g hg => ⟨by intros; exact hg _, [thing], rfl, rfl, rfl⟩
  · intro pre x post s c e hI
    obtain ⟨cs, u4, rfl, rfl, hcl, hcs⟩ := hI
    have hpl : pre.length < st.length := by
      have := congrArg List.length e
      simp at this
      omega
    have hx : st[pre.length] = x := by
      have h1 : st.dropLast[pre.length]? = some x := by rw [e, List.getElem?_append_right (Nat.le_refl _), Nat.sub_self]; rfl
      rw [List.getElem?_dropLast] at h1
      split at h1
      · rw [List.getElem?_eq_getElem hpl] at h1
        exact Option.some.inj h1
      · cases h1
    obtain ⟨X, hX⟩ := hpre pre.length (by omega)
    obtain ⟨Y, hY1, hY2⟩ := hstep pre.length hpl X hX
    rw [hx] at hY1
    have hc0 : (⟨[.mu (cs.map .da)], t, []⟩ : Cf).st[0]? = some (.mu (cs.map .da)) := rfl
    have hlast : (cs.map Vv.da).getLast? = some (.da X) := by
      rw [List.getLast?_eq_getElem?, List.length_map, hcl, List.getElem?_map, Nat.add_sub_cancel, hcs pre.length (Nat.le_refl _), hX]
      rfl
    simp [isL_mu hc0, pIxLast_mu (ls_mu hc0) hlast, kid_ix (kid_c hY1), atI_G hY1]
    rw [pAppend_mu hc0 (by simp; omega)]
    refine ⟨cs ++ [Y], by simp [Cf.put], by simp [hcl], fun i hi => ?_⟩
    by_cases hi2 : i ≤ pre.length
    · rw [List.getElem?_append_left (by omega)]
      exact hcs i hi2
    · have : i = pre.length + 1 := by omega
      subst this
      rw [hY2, List.getElem?_append_right (by omega)]
      simp [hcl]
  · intro s c hI
    obtain ⟨cs, u4, rfl, rfl, hcl, hcs⟩ := hI
    simp at hcl hcs
    have hcl : cs.length = st.length := by omega
    obtain ⟨Cc, hCc⟩ := hpre (st.length - 1) (by omega)
    obtain ⟨v1, hv1, _⟩ := hstep (st.length - 1) (by omega) Cc hCc
    generalize ha : st[st.length - 1] = a at hv1
    have hcon := kid_c hv1
    have hc0 : (⟨[.mu (cs.map .da)], t, []⟩ : Cf).st[0]? = some (.mu (cs.map .da)) := rfl
    have hlast : (cs.map Vv.da).getLast? = some (.da Cc) := by
      rw [List.getLast?_eq_getElem?, List.length_map, hcl, List.getElem?_map, hcs (st.length - 1) (Nat.le_refl _), hCc]
      rfl
    have hlst : L2.atI (st.map fun s => PyData.int (s : Nat)) (-1) = some (.int (a : Nat)) := atI_last (by rw [List.getLast?_eq_getElem?, List.length_map, List.getElem?_map, List.getElem?_eq_getElem (by omega), ha]; rfl)
    have hCl := goP_lm hT hCc
    have hkA := kids_lm hCl
    have hal := (List.getElem?_eq_some_iff.mp hv1).1
    have hkl := wtA_len (ds := kidsD Cc)
    have hkw := hkA.wt
    have hwk := wt_kids hcon
    have hdk := dp_kids hcon
    have hwC := hCl.wt
    simp [pIxLast_mu (ls_mu hc0) hlast, kid_list hcon, hlst, -q_IfS]
    refine pick_to (tp := t) ht (by decide) (by decide) fun t2 r ht2 hr => ?_
    generalize hC1 : (⟨(Cf.app ⟨[.mu (cs.map .da)], t, []⟩ ((kidsD Cc).map .da)).st, t2, []⟩ : Cf) = C1
    have h10 : C1.st[0]? = some (.mu (cs.map .da)) := by rw [← hC1]; rfl
    have h11 : C1.st[1]? = some (.mu ((kidsD Cc).map .da)) := by rw [← hC1]; rfl
    have h1l : C1.st.length = 2 := by rw [← hC1]; rfl
    have h1t : TpOk C1.tp := by rw [← hC1]; exact ht2
    clear hC1
    refine cutS (fun s c => ∃ (vs : List Vv) (ys : List PyData) (u4 u7 u8 : Option Vv), s = [some .tape, some (.da thing), some (.da (.tuple (st.map fun s => .int (s : Nat)))), some (.ref 0), u4, some (.ref 1), some (.da (.int (a : Nat))), u7, u8, none, none, none] ∧ c.st[1]? = some (.mu vs) ∧ denL (den 1 c) vs = some ys ∧ FzAt c 0 cs ∧ TpOk c.tp ∧ YO (kidsD Cc) (wtD thing) ys) ?_ ?_
    · have dn : ∀ (c : Cf) (ys : List PyData), c.st[1]? = some (.mu (ys.map .da)) → FzAt c 0 cs → TpOk c.tp → YO (kidsD Cc) (wtD thing) ys → ∃ (vs : List Vv), c.st[1]? = some (.mu vs) ∧ ∃ ys, denL (den 1 c) vs = some ys ∧ FzAt c 0 cs ∧ TpOk c.tp ∧ YO (kidsD Cc) (wtD thing) ys := fun c ys e1 e2 e3 e4 => ⟨_, e1, ys, denL_da fun _ => den_da, e2, e3, e4⟩
      have hka : (kidsD Cc)[a]? = some (kidsD Cc)[a] := by simp [hal]
      have hsmk := hkA.sm
      have hval : ∀ x ∈ kidsD Cc, smD x = true ∧ x.depth ≤ PyData.depthAll (kidsD Cc) ∧ wtD x + 2 ≤ wtA (kidsD Cc) := fun x hx => ⟨smA_all.mp hsmk x hx, dep_mem hx, wtA_mem hx⟩
      have hCW : wtD Cc ≤ wtD thing := by
        have key : ∀ (p : List Nat) (v w : PyData), goP v p = some w → wtD w ≤ wtD v := by
          intro p
          induction p with
          | nil => intro v w h; cases h; exact Nat.le_refl _
          | cons s p ih =>
            intro v w h
            simp only [goP] at h
            cases e : (kidsD v)[s]? with
            | none => rw [e] at h; cases h
            | some y =>
              rw [e] at h
              have h1 := ih y w h
              have h2 := wtA_mem (List.mem_of_getElem? e)
              have h3 := wt_kids (kid_c e)
              omega
        exact key _ _ _ hCc
      have hpa : ∀ c : Cf, c.st[1]? = some (.mu ((kidsD Cc).map .da)) → pIx (.ref 1) (.da (.int (a : Nat))) c = some (.da (kidsD Cc)[a], c) := fun c e => pIx_mu (ls_mu e) (by simp [hal])
      have hset : ∀ (c : Cf) (d : PyData), c.st[1]? = some (.mu ((kidsD Cc).map .da)) → FzAt c 0 cs → TpOk c.tp → smD d = true → d.depth ≤ max (PyData.depthAll (kidsD Cc)) 22 → wtD d ≤ wtD thing + 200 → Opt (pSetL (.ref 1) (.da (.int (a : Nat))) (.da d) c) fun c3 => ∃ (vs : List Vv), c3.st[1]? = some (.mu vs) ∧ ∃ ys, denL (den 1 c3) vs = some ys ∧ FzAt c3 0 cs ∧ TpOk c3.tp ∧ YO (kidsD Cc) (wtD thing) ys := by
        intro c d e1 e2 e3 e4 e5 e6
        rw [pSetL_mu e1 (by simpa using hal)]
        refine dn _ ((kidsD Cc).set a d) ?_ ?_ e3 (YO.set hsmk e4 e5 e6 hal)
        · rw [st_put (lt_mu e1), List.map_set]
        · rcases e2 with e2 | e2
          · exact .inl (by rw [st_put' (by decide)]; exact e2)
          · exact .inr (by rw [st_put' (by decide)]; exact e2)
      have hfp : ∀ (c : Cf) (l : List Vv), c.st[0]? = some (.mu (cs.map .da)) → FzAt (c.put 1 l) 0 cs := fun c l e => .inl (by rw [st_put' (by decide)]; exact e)
      have hodd : ∀ d, Lm 22 130 d → smD d = true ∧ d.depth ≤ max (PyData.depthAll (kidsD Cc)) 22 ∧ wtD d + 2 ≤ wtD thing + 200 := fun d hd => ⟨hd.sm, by have := hd.dp; omega, by have := hd.wt; omega⟩
      simp [isL_mu h11, hpa _ h11]
      by_cases hr0 : r = 0
      · rw [if_pos hr0, pPopAt_mu h11 (k := a) (w := .da (kidsD Cc)[a]) (by simp [hal]) (by omega)]
        refine dn _ ((kidsD Cc).eraseIdx a) ?_ (hfp _ _ h10) h1t (YO.era hsmk)
        rw [st_put (lt_mu h11), List.eraseIdx_eq_take_drop_succ, List.eraseIdx_eq_take_drop_succ, List.map_append, List.map_take, List.map_drop]
      rw [if_neg hr0]
      by_cases hr1 : (r : Int) = 1
      · rw [if_pos hr1]
        refine (odd_ok h1t).imp (fun d t ⟨h2, h3⟩ => ?_) fun _ _ z => z.elim
        rw [pInsert_mu (c := ⟨C1.st, t, C1.sc⟩) h11 (by simp; omega) (by omega)]
        obtain ⟨g1, g2, g3⟩ := hodd d h3
        refine dn _ ((kidsD Cc).take a ++ d :: (kidsD Cc).drop a) ?_ (hfp ⟨C1.st, t, C1.sc⟩ _ h10) h2 (YO.ins hsmk g1 g2 g3)
        rw [st_put (lt_mu (c := ⟨C1.st, t, C1.sc⟩) h11)]
        simp
      rw [if_neg hr1]
      by_cases hr2 : (r : Int) = 2
      · rw [if_pos hr2, pInsert_mu h11 (by simp; omega) (by omega)]
        obtain ⟨g1, g2, g3⟩ := hval _ (List.getElem_mem hal)
        refine dn _ ((kidsD Cc).take a ++ (kidsD Cc)[a] :: (kidsD Cc).drop a) ?_ (hfp _ _ h10) h1t (YO.ins hsmk g1 (by omega) (by omega))
        rw [st_put (lt_mu h11)]
        simp
      rw [if_neg hr2]
      by_cases hr3 : (r : Int) = 3
      · rw [if_pos hr3]
        simp [pLen_mu (ls_mu h11)]
        refine pick_to (tp := C1.tp) h1t (by omega) (by omega) fun t3 o ht3 ho => ?_
        have hol : o < (kidsD Cc).length := by omega
        have h11' : (⟨C1.st, t3, C1.sc⟩ : Cf).st[1]? = some (.mu ((kidsD Cc).map .da)) := h11
        rw [pIx_mu (ls_mu h11') (w := .da (kidsD Cc)[o]) (by simp [hol])]
        simp [hpa _ h11']
        rw [pSetL_mu h11' (by simpa using hal)]
        simp only [opt_s]
        have h12 : (Cf.put ⟨C1.st, t3, C1.sc⟩ 1 (((kidsD Cc).map Vv.da).set a (.da (kidsD Cc)[o]))).st[1]? = some (.mu (((kidsD Cc).map Vv.da).set a (.da (kidsD Cc)[o]))) := st_put (lt_mu h11')
        rw [pSetL_mu h12 (by simpa using hol)]
        obtain ⟨g1, g2, g3⟩ := hval _ (List.getElem_mem hal)
        obtain ⟨f1, f2, f3⟩ := hval _ (List.getElem_mem hol)
        refine dn _ (((kidsD Cc).set a (kidsD Cc)[o]).set o (kidsD Cc)[a]) ?_ ?_ ht3 ⟨smA_set (smA_set hsmk f1) g1, dpA_set (dpA_set (by omega) (by omega)) (by omega), ?_⟩
        · rw [st_put (lt_mu h12)]
          simp
        · exact .inl (by rw [st_put' (by decide), st_put' (by decide)]; exact h10)
        · have e1 := wtA_set (d := (kidsD Cc)[o]) hka
          have e2 : ((kidsD Cc).set a (kidsD Cc)[o])[o]? = some (kidsD Cc)[o] := by
            rw [List.getElem?_set]
            by_cases hao : a = o
            · subst hao
              simp [hal]
            · simp [hao, hol]
          have e3 := wtA_set (d := (kidsD Cc)[a]) e2
          omega
      rw [if_neg hr3]
      have h5 : Opt (pIx (.ref 1) (.da (.int ((a : Int) - 1))) C1) fun r => Opt (pSetL (.ref 1) (.da (.int (a : Nat))) r.1 r.2) fun c3 => ∃ (vs : List Vv), c3.st[1]? = some (.mu vs) ∧ ∃ ys, denL (den 1 c3) vs = some ys ∧ FzAt c3 0 cs ∧ TpOk c3.tp ∧ YO (kidsD Cc) (wtD thing) ys := by
        obtain ⟨x, hx, hx2⟩ := atI_pred (l := (kidsD Cc).map Vv.da) (a := a) (by simpa using hal)
        obtain ⟨d, hd, rfl⟩ := List.mem_map.mp hx
        have e : pIx (.ref 1) (.da (.int ((a : Int) - 1))) C1 = some (.da d, C1) := by
          show ((lsOf C1 (.ref 1)).bind fun l => (L2.atI l ((a : Int) - 1)).map fun d => (d, C1)) = _
          rw [ls_mu h11, Option.bind_some, hx2]
          rfl
        rw [e]
        obtain ⟨g1, g2, g3⟩ := hval d hd
        exact hset C1 d h11 (.inl h10) h1t g1 (by omega) (by omega)
      have h6 : ResT (m__law_odd [] C1.tp) (fun d t => Opt (pSetL (.ref 1) (.da (.int (a : Nat))) (.da d) ⟨C1.st, t, C1.sc⟩) fun c3 => ∃ (vs : List Vv), c3.st[1]? = some (.mu vs) ∧ ∃ ys, denL (den 1 c3) vs = some ys ∧ FzAt c3 0 cs ∧ TpOk c3.tp ∧ YO (kidsD Cc) (wtD thing) ys) fun _ _ => False := by
        refine (odd_ok h1t).imp (fun d t ⟨h2, h3⟩ => ?_) fun _ _ z => z.elim
        obtain ⟨g1, g2, g3⟩ := hodd d h3
        exact hset ⟨C1.st, t, C1.sc⟩ d h11 (.inl h10) h2 g1 g2 (by omega)
      have h56 : if (r : Int) = 5 then Opt (pIx (.ref 1) (.da (.int ((a : Int) - 1))) C1) fun r => Opt (pSetL (.ref 1) (.da (.int (a : Nat))) r.1 r.2) fun c3 => ∃ (vs : List Vv), c3.st[1]? = some (.mu vs) ∧ ∃ ys, denL (den 1 c3) vs = some ys ∧ FzAt c3 0 cs ∧ TpOk c3.tp ∧ YO (kidsD Cc) (wtD thing) ys else ResT (m__law_odd [] C1.tp) (fun d t => Opt (pSetL (.ref 1) (.da (.int (a : Nat))) (.da d) ⟨C1.st, t, C1.sc⟩) fun c3 => ∃ (vs : List Vv), c3.st[1]? = some (.mu vs) ∧ ∃ ys, denL (den 1 c3) vs = some ys ∧ FzAt c3 0 cs ∧ TpOk c3.tp ∧ YO (kidsD Cc) (wtD thing) ys) fun _ _ => False := by
        split
        · exact h5
        · exact h6
      by_cases hr4 : (r : Int) = 4
      · rw [if_pos hr4, kind_da (noD_of (smD_nd _ (hval _ (List.getElem_mem hal)).1))]
        simp only [opt_s]
        by_cases htp : isTup (kidsD Cc)[a] = true
        · rw [if_pos htp, kid_list (.inl htp)]
          simp only [opt_s]
          have e1 : (C1.app ((kidsD (kidsD Cc)[a]).map .da)).st[1]? = some (.mu ((kidsD Cc).map .da)) := by rw [st_old (lt_mu h11)]; exact h11
          rw [pSetL_mu e1 (by simpa using hal)]
          obtain ⟨g1, g2, g3⟩ := hval _ (List.getElem_mem hal)
          generalize hY : (kidsD Cc)[a] = Y at htp g1 g2 g3 e1 ⊢
          cases Y with
          | tuple xs =>
            have e2 : (Cf.put (C1.app ((kidsD (.tuple xs)).map .da)) 1 (((kidsD Cc).map Vv.da).set a (.ref C1.st.length))).st[C1.st.length]? = some (.mu (xs.map .da)) := by
              rw [st_put' (by omega)]
              exact st_top
            refine ⟨_, st_put (lt_mu e1), (kidsD Cc).set a (.list xs), denL_set (denL_da fun _ => den_da) ?_, ?_, h1t, YO.set hsmk g1 ?_ ?_ hal⟩
            · rw [den_mu e2, denL_da fun _ => den_da]
              rfl
            · exact .inl (by rw [st_put' (by decide), st_old (by omega)]; exact h10)
            · simp only [PyData.depth] at g2 ⊢
              omega
            · rw [wtD_lst]
              rw [wtD_tup] at g3
              omega
          | _ => simp [isTup] at htp
        · rw [if_neg htp]
          exact h56
      · rw [if_neg hr4]
        exact h56
    · intro s c hI
      obtain ⟨vs, ys, u4, u7, u8, rfl, hc1, hden, hfz, hct, hyo⟩ := hI
      simp [-q_If]
      refine cutE (fun v c => ∃ d, den 2 c v = some d ∧ FzAt c 0 cs ∧ TpOk c.tp ∧ VO Cc (wtD thing) 23 d) ?_ ?_
      · simp [pIxLast_mu hfz.ls hlast, kind_da (noD_of (smD_nd _ hCl.sm))]
        split
        · rename_i hl
          refine ⟨.list ys, by rw [den_mu hc1, hden]; rfl, hfz, hct, hyo.sm, ?_, ?_⟩
          · have := hyo.dp
            simp only [PyData.depth]
            omega
          · have := hyo.wt
            rw [wtD_lst]
            omega
        · obtain ⟨c', e1, e2, e3, e4, e5⟩ := pTuple_den (m := 1) (by decide) (ls_mu hc1) hden
          rw [e1]
          refine ⟨.tuple ys, den_da, hfz.ch e2, by rw [e3]; exact hct, hyo.sm, ?_, ?_⟩
          · have := hyo.dp
            simp only [PyData.depth]
            omega
          · have := hyo.wt
            rw [wtD_tup]
            omega
      · intro v c hJ
        obtain ⟨d, hdv, hfz, hct, hvo⟩ := hJ
        refine q_ForL (List.range (st.length - 1)) (fun i => .da (.int ((st.length : Int) - 2 - (i : Nat)))) (fun pre s c => ∃ (d : PyData) (v : Vv) (u10 u11 : Option Vv), s = [some .tape, some (.da thing), some (.da (.tuple (st.map fun s => .int (s : Nat)))), some (.ref 0), u4, some (.ref 1), some (.da (.int (a : Nat))), u7, u8, some v, u10, u11] ∧ den (2 + pre.length) c v = some d ∧ FzAt c 0 cs ∧ TpOk c.tp ∧ ∃ X, cs[st.length - 1 - pre.length]? = some X ∧ VO X (wtD thing) (23 + pre.length) d) ?_ ?_ ?_
        · refine q_RgD ?_
          simp
          refine ⟨by omega, by omega, ?_, d, hdv, hfz, hct, Cc, by rw [hcs _ (Nat.le_refl _)]; exact hCc, hvo⟩
          intros
          have e1 : ((st.length : Int) - 2 + 1).toNat = st.length - 1 := by omega
          rw [e1, rngDn_map]
        · intro pre i post s c e hI
          obtain ⟨d, v, u10, u11, rfl, hdv, hfz, hct, X, hX, hvo⟩ := hI
          obtain ⟨rfl, hlt⟩ := range_cut e
          obtain ⟨kk, hkk⟩ : ∃ kk : Nat, kk = st.length - 2 - pre.length := ⟨_, rfl⟩
          have hkki : (st.length : Int) - 2 - (pre.length : Nat) = (kk : Nat) := by omega
          have hkl : kk < st.length := by omega
          obtain ⟨Y, hY⟩ := hpre kk (by omega)
          obtain ⟨X', hX1, hX2⟩ := hstep kk hkl Y hY
          have hXX : X' = X := by
            have h1 : cs[kk + 1]? = some X' := by rw [hcs (kk + 1) (by omega)]; exact hX2
            have h2 : st.length - 1 - pre.length = kk + 1 := by omega
            rw [h2, h1] at hX
            exact Option.some.inj hX
          subst hXX
          have hYc := kid_c hX1
          have hYl := goP_lm hT hY
          have hcsY : cs[kk]? = some Y := by rw [hcs kk (by omega)]; exact hY
          have hix0 : pIx (.ref 0) (.da (.int (kk : Nat))) c = some (.da Y, c) := pIx_mu hfz.ls (by simp [hcsY])
          have hsk : L2.atI (st.map fun s => PyData.int (s : Nat)) (kk : Int) = some (.int (st[kk] : Nat)) := atI_G (by simp [hkl])
          have hkY := (List.getElem?_eq_some_iff.mp hX1).1
          rw [hkki]
          simp [hix0, kid_list hYc, hsk, -q_If]
          rw [pSetL_mu st_top (by simpa using hkY), put_top]
          simp only [opt_s]
          have hT5 : (c.app (((kidsD Y).map Vv.da).set st[kk] v)).st[c.st.length]? = some (.mu (((kidsD Y).map Vv.da).set st[kk] v)) := st_top
          have hD5 : denL (den (2 + pre.length) (c.app (((kidsD Y).map Vv.da).set st[kk] v))) (((kidsD Y).map Vv.da).set st[kk] v) = some ((kidsD Y).set st[kk] d) := denL_set (denL_da fun _ => den_da) (den_old hdv)
          have hF5 : FzAt (c.app (((kidsD Y).map Vv.da).set st[kk] v)) 0 cs := hfz.old
          have hix5 : pIx (.ref 0) (.da (.int (kk : Nat))) (c.app (((kidsD Y).map Vv.da).set st[kk] v)) = some (.da Y, c.app (((kidsD Y).map Vv.da).set st[kk] v)) := pIx_mu hF5.ls (by simp [hcsY])
          have hct5 : TpOk (c.app (((kidsD Y).map Vv.da).set st[kk] v)).tp := hct
          generalize c.app (((kidsD Y).map Vv.da).set st[kk] v) = c5 at hT5 hD5 hF5 hix5 hct5 ⊢
          have hw := wtA_set (d := d) hX1
          have hwY := wt_kids hYc
          have hdY := dp_kids hYc
          have hvw := hvo.wt
          have hvd := hvo.dp
          have hXd := dep_mem (List.mem_of_getElem? hX1)
          have hsm5 : smA ((kidsD Y).set st[kk] d) = true := smA_set (kids_lm hYl).sm hvo.sm
          have hdp5 : PyData.depthAll ((kidsD Y).set st[kk] d) + 1 ≤ max Y.depth (23 + (pre.length + 1)) := by
            have := dpA_set (N := max (PyData.depthAll (kidsD Y)) (23 + pre.length)) (l := kidsD Y) (k := st[kk]) (d := d) (by omega) (by omega)
            omega
          have hin : cs[st.length - 1 - (pre.length + 1)]? = some Y := by
            have h2 : st.length - 1 - (pre.length + 1) = kk := by omega
            rw [h2]
            exact hcsY
          simp [hix5, kind_da (noD_of (smD_nd _ hYl.sm))]
          split
          · exact ⟨.list ((kidsD Y).set st[kk] d), by rw [show 2 + (pre.length + 1) = (2 + pre.length) + 1 by omega, den_mu hT5, hD5]; rfl, hF5, hct5, Y, hin, hsm5, by simp only [PyData.depth]; omega, by rw [wtD_lst]; omega⟩
          · obtain ⟨c', e1, e2, e3, e4, e5⟩ := pTuple_den (m := 2 + pre.length) (by omega) (ls_mu hT5) hD5
            rw [e1]
            exact ⟨.tuple ((kidsD Y).set st[kk] d), den_da, hF5.ch e2, by rw [e3]; exact hct5, Y, hin, hsm5, by simp only [PyData.depth]; omega, by rw [wtD_tup]; omega⟩
        · intro s c hI
          obtain ⟨d, v, u10, u11, rfl, hdv, hfz, hct, X, hX, hvo⟩ := hI
          rw [List.length_range] at hdv hX hvo
          have hX0 : X = thing := by
            have h2 : st.length - 1 - (st.length - 1) = 0 := by omega
            rw [h2, hcs 0 (by omega)] at hX
            exact (Option.some.inj hX).symm
          subst hX0
          obtain ⟨c', e1, e2, e3, e4, e5⟩ := fz_den (2 + (st.length - 1)) 6 c v d (by omega) Inv.rfl' hdv
          simp
          rw [end_fz e1]
          refine ⟨by rw [e3]; exact hct, hvo.sm, ?_, ?_⟩
          · have := hvo.dp
            have := hT.dp
            show d.depth ≤ 26
            omega
          · have := hvo.wt
            show wtD d ≤ _
            omega
end PM.K06
end
section
/-! K06M26: mathematics of k06: the law. -/
namespace PM.K06
open PySem DL PM
theorem law_ok (l : List Int) (hl : l.length ≤ 63) : m_law l = some true := by
  obtain ⟨tp, htp, ht⟩ := tape_ok hl
  refine fL_post ?_
  simp [mb_law, htp, -q_IfS]
  refine ⟨rfl, ?_⟩
  refine (book_ok ht).imp (fun d t hb => ?_) fun _ _ z => z.elim
  obtain ⟨ht, b, rfl, hb⟩ := hb
  refine (right_ok hb ht).imp (fun g t hG => ?_) fun _ _ z => z.elim
  obtain ⟨ht, wl, rows, G⟩ := hG
  have hB : BFit b := bk_fit hb b.n ⟨hb.ok.n0, by have := hb.n4; omega⟩
  have hgl := G.lm hb
  have hgf : Fit g := hgl.fit (by omega) (by omega)
  have hdue := G.due hb
  have hdo := due_ok hb.ok hgf
  have hago := agrees_ok hb.ok hB hgf
  have hlet := pieces_ok hb.ok hgf
  rw [hdue] at hdo hlet
  have hW := G.wid hb
  have hR := G.rws hb
  have hwp : ∀ w ∈ wl, 0 < w := fun w hw => by have := G.w7 w hw; omega
  have hwl4 : wl.length ≤ 4 := by have := G.wn; have := hb.n4; omega
  have hrl : rows.length ≤ 6 := by rw [G.rl]; exact hb.c6
  have hge := G.eq
  have hst : SeqAt.shaped (.str "told") = true := shaped_ok (d := .str "told") (ok_of "told") (by simp [PyData.depth])
  simp [hdo, dueT, pNe_dd hst hst, eqvSS, hago]
  have hg1 : ∀ c : Cf, pIx (.da g) (.da (.int 1)) c = some (.da (.tuple (wl.map .int)), c) := fun c => by rw [hge]; rfl
  have hg2 : ∀ c : Cf, pIx (.da g) (.da (.int 2)) c = some (.da (.tuple rows), c) := fun c => by rw [hge]; rfl
  have hz1 : (wl.map PyData.int).length + [PyData.int (10 ^ 40)].length ≤ 100000 := by simp; omega
  have hfw : Fit (.tuple [.str "pieces", .tuple (wl.map .int ++ [.int (10 ^ 40)]), .tuple rows]) := by
    have h1 : LmA 0 (16 + (41 + 2 + 0)) (wl.map .int ++ [.int (10 ^ 40)]) := hW.app (LmA.cons lm_big LmA.nil)
    have h2 := (LmA.cons (D := 5) (lm_pieces.mono (by omega) (Nat.le_refl _)) (LmA.cons (h1.tup.mono (by omega) (Nat.le_refl _)) (LmA.cons (hR.tup.mono (by omega) (Nat.le_refl _)) LmA.nil))).tup
    exact h2.fit (by omega) (by omega)
  have hwag := agrees_ok (b := ⟨b.n + 1, b.st, b.cs⟩) (wide_ok hb) (bk_fit hb (b.n + 1) ⟨by have := hb.ok.n0; omega, by have := hb.n4; omega⟩) hfw
  have hb0 : ∀ c : Cf, pIx (.da b.d) (.da (.int 0)) c = some (.da (.int b.n), c) := fun c => rfl
  have hb1 : ∀ c : Cf, pIx (.da b.d) (.da (.int 1)) c = some (.da (.tuple (b.st.map .int)), c) := fun c => rfl
  have hb2 : ∀ c : Cf, pIx (.da b.d) (.da (.int 2)) c = some (.da (.tuple (b.cs.map conD)), c) := fun c => rfl
  rw [hg1]
  simp only [opt_s]
  rw [pPow40]
  simp only [opt_s, fz_da]
  rw [pAdd_tt hz1]
  simp only [opt_s]
  rw [hg2]
  simp only [opt_s, fz_da]
  rw [hb0]
  simp only [opt_s, pAdd_ii]
  rw [hb1]
  simp only [opt_s]
  rw [hb2]
  simp only [opt_s, fz_da]
  have hwag2 : m__law_agrees [.tuple [.int (b.n + 1), .tuple (b.st.map .int), .tuple (b.cs.map conD)], .tuple [.str "pieces", .tuple (wl.map .int ++ [.int (10 ^ 40)]), .tuple rows]] = .ok (.bool true) := hwag
  rw [hwag2]
  simp only [res_ok, pTru_b, opt_s, true_and]
  have hpl := fun (tp : Tp) (h : TpOk tp) => planted_ok G hb h
  refine (hpl _ ht).imp (fun d t1 h1 => ?_) fun _ _ z => z.elim
  obtain ⟨ht, ds1, rfl, hd1, hd40, hds1⟩ := h1
  have hp1 := pAdd_rd (c := Cf.app ⟨[], t1, l⟩ [Vv.da g]) (n := 0) (i := [Vv.da g]) (ds := ds1) rfl (by simp; omega)
  rw [show (Vv.ref ([] : List Cel).length) = .ref 0 from rfl, hp1]
  simp only [opt_s]
  refine (hpl _ ht).imp (fun d t2 h1 => ?_) fun _ _ z => z.elim
  obtain ⟨ht, ds2, rfl, he1, he40, hds2⟩ := h1
  have hmer : ResT (m__law_merged [g, .list ds1, .list ds2] t2) (fun d t => TpOk t ∧ ∃ ds, d = .list ds ∧ ds.length ≤ 10 ∧ ∀ x ∈ ds, PTh 27000 24 x) (fun _ _ => False) := by
    rw [hge]
    exact merged_ok ht hrl ⟨hd1, hd40⟩ ⟨he1, he40⟩ hds1 hds2
  refine hmer.imp (fun d t3 h1 => ?_) fun _ _ z => z.elim
  obtain ⟨ht, ds3, rfl, hd10, hds3⟩ := h1
  show Opt (pAdd (.ref 1) (.da (.list ds3)) ⟨(Cf.app (Cf.app ⟨[], t1, l⟩ [Vv.da g]) ([Vv.da g] ++ ds1.map .da)).st, t3, l⟩) _
  rw [pAdd_rd (n := 1) (i := [Vv.da g] ++ ds1.map .da) (ds := ds3) rfl (by simp; omega)]
  simp only [opt_s]
  have eT : ([Vv.da g] ++ ds1.map .da ++ ds3.map .da) = (g :: (ds1 ++ ds3)).map Vv.da := by simp
  rw [eT]
  show PostS (mFor _ _ _ [_, _, _, _, _, _, some (.ref 2), _, _, _, _, _, _] _) _ _
  generalize hE : Cf.app _ ((g :: (ds1 ++ ds3)).map Vv.da) = E
  have hE2 : E.st[2]? = some (.mu ((g :: (ds1 ++ ds3)).map .da)) := by rw [← hE]; rfl
  have hEt : TpOk E.tp := by rw [← hE]; exact ht
  clear hE
  have hT0 : ∀ x ∈ g :: (ds1 ++ ds3), Lm 26 44000 x := by
    intro x hx
    rcases List.mem_cons.mp hx with rfl | hx
    · exact hgl.mono (by omega) (by omega)
    · rcases List.mem_append.mp hx with hx | hx
      · exact (hds1 x hx).lm.mono (by omega) (by omega)
      · exact (hds3 x hx).lm.mono (by omega) (by omega)
  have hTl : (g :: (ds1 ++ ds3)).length ≤ 60 := by simp; omega
  generalize hTh : g :: (ds1 ++ ds3) = T0 at hE2 hT0 hTl
  have hT1 : 1 ≤ T0.length := by rw [← hTh]; simp
  clear hTh
  generalize hwd : PyData.tuple [PyData.str (Str.ofString "pieces"), PyData.tuple (wl.map .int ++ [.int (10 ^ 40)]), .tuple rows] = wd
  refine q_ForRg rfl 10 (fun i s c => ∃ (T : List PyData) (u7 u8 u9 u10 u11 u12 : Option Vv), s = [some .scr, some .tape, some (.da b.d), some (.da g), some (.da wd), some (.da (.list ds1)), some (.ref 2), u7, u8, u9, u10, u11, u12] ∧ c.st[2]? = some (.mu (T.map .da)) ∧ TpOk c.tp ∧ 1 ≤ T.length ∧ T.length ≤ 60 + i ∧ ∀ x ∈ T, Lm 26 44000 x) ?_ ?_ ?_
  · simp only [q_C]
    exact ⟨rfl, by omega, T0, _, _, _, _, _, _, rfl, hE2, hEt, hT1, by omega, hT0⟩
  · intro i s c hi hI
    obtain ⟨T, u7, u8, u9, u10, u11, u12, rfl, hc2, hct, hT1, hTl, hT⟩ := hI
    simp
    refine q_ForRgX rfl ?_
    simp
    refine pick_to hct (by decide) (by decide) fun t r ht hr => ?_
    obtain ⟨m, hm, hm1, hm2⟩ := tabI [1, 1, 2, 1, 3] 1 3 (by decide) (r := r) (by simp; omega)
    simp only [List.map_cons, List.map_nil] at hm
    obtain ⟨m, rfl⟩ := Int.eq_ofNat_of_zero_le (show 0 ≤ m by omega)
    simp only [pIx_tup, hm, Option.map_some, opt_s]
    refine ⟨m, rfl, by omega, fun j s c => ∃ (d : PyData) (u9 : Option Vv), s = [some .scr, some .tape, some (.da b.d), some (.da g), some (.da wd), some (.da (.list ds1)), some (.ref 2), some (.da (.int (i : Nat))), some (.da d), u9, u10, u11, u12] ∧ c.st[2]? = some (.mu (T.map .da)) ∧ TpOk c.tp ∧ Lm 26 (5400 * 2 ^ j - 200) d, ?_, ?_, ?_⟩
    · exact ⟨g, _, rfl, hc2, ht, hgl.mono (by omega) (by omega)⟩
    · intro j s c hj hI
      obtain ⟨d, u9, rfl, hc2, hct, hd⟩ := hI
      have hj2 : 5400 * 2 ^ j - 200 ≤ 45000 := by
        have h1 : j = 0 ∨ j = 1 ∨ j = 2 := by omega
        rcases h1 with rfl | rfl | rfl <;> decide
      have hj3 : 2 * (5400 * 2 ^ j - 200) + 200 ≤ 5400 * 2 ^ (j + 1) - 200 := by
        have h1 : j = 0 ∨ j = 1 ∨ j = 2 := by omega
        rcases h1 with rfl | rfl | rfl <;> decide
      simp
      refine (bent_ok hd hj2 hct).imp (fun d2 t2 ⟨h1, h2⟩ => ?_) fun _ _ z => z.elim
      exact ⟨hc2, h1, h2.mono (Nat.le_refl _) hj3⟩
    · intro s c hI
      obtain ⟨d, u9, rfl, hc2, hct, hd⟩ := hI
      have hm3 : 5400 * 2 ^ m - 200 ≤ 44000 := by
        have h1 : m = 0 ∨ m = 1 ∨ m = 2 ∨ m = 3 := by omega
        rcases h1 with rfl | rfl | rfl | rfl <;> decide
      simp [isL_mu hc2]
      rw [pAppend_mu hc2 (by simp; omega)]
      refine ⟨T ++ [d], by rw [st_put (lt_mu hc2)]; simp, hct, by simp, by simp; omega, fun x hx => ?_⟩
      rcases List.mem_append.mp hx with hx | hx
      · exact hT x hx
      · rw [List.mem_singleton.mp hx]
        exact hd.mono (Nat.le_refl _) hm3
  · intro s c hI
    obtain ⟨T, u7, u8, u9, u10, u11, u12, rfl, hc2, hct, hT1, hTl, hT⟩ := hI
    simp
    refine q_ForRg rfl 2 (fun i s c => ∃ (T : List PyData) (u7 : Option Vv), s = [some .scr, some .tape, some (.da b.d), some (.da g), some (.da wd), some (.da (.list ds1)), some (.ref 2), u7, u8, u9, u10, u11, u12] ∧ c.st[2]? = some (.mu (T.map .da)) ∧ TpOk c.tp ∧ 1 ≤ T.length ∧ T.length ≤ 70 + i ∧ ∀ x ∈ T, Lm 26 44000 x) ?_ ?_ ?_
    · simp only [q_C]
      exact ⟨rfl, by omega, T, _, rfl, hc2, hct, hT1, by omega, hT⟩
    · intro i s c hi hI
      obtain ⟨T, u7, rfl, hc2, hct, hT1, hTl, hT⟩ := hI
      simp [isL_mu hc2]
      refine (odd_ok hct).imp (fun d t2 ⟨h1, h2⟩ => ?_) fun _ _ z => z.elim
      rw [pAppend_mu (c := ⟨c.st, t2, c.sc⟩) hc2 (by simp; omega)]
      refine ⟨T ++ [d], by rw [st_put (lt_mu (c := ⟨c.st, t2, c.sc⟩) hc2)]; simp, h1, by simp, by simp; omega, fun x hx => ?_⟩
      rcases List.mem_append.mp hx with hx | hx
      · exact hT x hx
      · rw [List.mem_singleton.mp hx]
        exact h2.mono (by omega) (by omega)
    · intro s c hI
      obtain ⟨T, u7, rfl, hc2, hct, hT1, hTl, hT⟩ := hI
      have hag : ∀ x ∈ T, m__law_agrees [b.d, x] = .ok (.bool true) := fun x hx => agrees_ok hb.ok hB ((hT x hx).fit (by omega) (by omega))
      simp
      refine q_ForL T .da (fun pre s c => ∃ (u8 : Option Vv), s = [some .scr, some .tape, some (.da b.d), some (.da g), some (.da wd), some (.da (.list ds1)), some (.ref 2), u7, u8, u9, u10, u11, u12] ∧ c.st[2]? = some (.mu (T.map .da)) ∧ TpOk c.tp) ?_ ?_ ?_
      · refine q_ItW ?_
        simp [itemsOf, ls_mu hc2]
        exact fun g1 hg1 => ⟨fun _ c _ _ h _ => hg1 c (ls_mu h), hc2, hct⟩
      · intro pre x post s c e hI
        obtain ⟨u8, rfl, hc2, hct⟩ := hI
        simp [hag x (by rw [e]; simp)]
        exact ⟨hc2, hct⟩
      · intro s c hI
        obtain ⟨u8, rfl, hc2, hct⟩ := hI
        simp [pLen_mu (ls_mu hc2)]
        refine pick_to hct (by omega) (by omega) fun t r ht hr => ?_
        have hrl : r < T.length := by omega
        rw [pIx_mu (c := ⟨c.st, t, c.sc⟩) (ls_mu hc2) (w := .da T[r]) (by simp [hrl])]
        have hlag := hag _ (List.getElem_mem hrl)
        have hlsm := hT _ (List.getElem_mem hrl)
        generalize T[r] = last at hlag hlsm
        have hbl : (badsD b).length = 20 := by simp [badsD, endsD]
        simp [nobooks_ok hb.ok, hbl]
        refine pick_to (tp := t) ht (by decide) (by decide) fun t2 nm ht2 hnm => ?_
        refine q_ForRg rfl 20 (fun i s c => ∃ (u7 : Option Vv), s = [some .scr, some .tape, some (.da b.d), some (.da g), some (.da wd), some (.da (.list ds1)), some (.ref 2), u7, u8, u9, some (.da last), some (.da (.list (badsD b))), some (.da (.int (nm : Nat)))] ∧ TpOk c.tp) ?_ ?_ ?_
        · simp [hbl]
          exact ht2
        · intro i s c hi hI
          obtain ⟨u7, rfl, hct⟩ := hI
          have hil : i < (badsD b).length := by omega
          have hix : L2.atI (badsD b) (i : Int) = some (badsD b)[i] := atI_G (by simp [hil])
          have hbad := bads_bad hb.ok _ (List.getElem_mem hil)
          obtain ⟨w, k, hbf⟩ := hbad.bf
          simp [hix]
          rw [refused_ok hbad.nd (smD_nd _ hlsm.sm) hbf _]
          simp
          exact hct
        · intro s c hI
          obtain ⟨u7, rfl, hct⟩ := hI
          simp
          show Res (m_lets_pieces [b.d, g]) _ _
          rw [hlet]
          simp only [outP, res_ok]
          have h1 : lsOf ((c.app [Vv.da (.int 0)]).app ((wl.map PyData.int).map .da)) (.ref c.st.length) = some [.da (.int 0)] := by rw [ls_old (by simp)]; exact ls_top
          have h2 : lsOf ((c.app [Vv.da (.int 0)]).app ((wl.map PyData.int).map .da)) (.ref (c.st.length + 1)) = some ((wl.map PyData.int).map .da) := by
            have := ls_top (c := c.app [Vv.da (.int 0)]) (l := (wl.map PyData.int).map .da)
            rwa [app_len] at this
          have hz : [Vv.da (.int 0)].length + ((wl.map PyData.int).map Vv.da).length ≤ 100000 := by simp; omega
          have h4 := pMax_mu (ls_top (c := (c.app [Vv.da (.int 0)]).app ((wl.map PyData.int).map .da)) (l := [Vv.da (.int 0)] ++ (wl.map PyData.int).map Vv.da)) (max0 hwp)
          have h5 := pAdd_rr h1 h2 hz
          simp only [app_len] at h4 h5
          rw [hg1]
          simp only [opt_s, pList_tup, app_len, h5, h4, pNe_ii]
          simp [hlag, hago]
end PM.K06
end
section
/-! K06E: the end, printed by dg.py. -/
open PySem PySem.W PyProof.Rows
set_option maxHeartbeats 0 in
theorem PySem.Challenge.cw_everytongue_k06_piece_checker_holds : PySem.Challenge.rw_everytongue_k06_piece_checker.Holds := by
  w_on; o_law; k_head; (case hw => w_witness2)
  k_fill
  refine PM.walk_ofL (l := PySem.Challenge.rw_everytongue_k06_piece_checker) (n := 63) (k := 9) (G := DL.gRep) (x := "script") (sp := PM.sp_law PM.K06.m_law) (by decide +kernel) (by decide +kernel) rfl ⟨by decide, by decide⟩ ⟨rfl, rfl⟩ (fun w h Y => PySem.W.kIn_of Y) ?F ?S
  case S =>
    intro K H a ns hl hO hq
    exact PM.spL_of hO hq (PM.K06.law_ok ns hl)
  case F =>
    intro w mg fa h KX G hmg
    refine' PM.K06.en_mk KX G hmg ?a0 ?l0 ?c0 ?k0 ?a1 ?l1 ?c1 ?k1 ?a2 ?l2 ?c2 ?k2 ?a3 ?l3 ?c3 ?k3 ?a4 ?l4 ?c4 ?k4 ?a5 ?l5 ?c5 ?k5 ?a6 ?l6 ?c6 ?k6 ?a7 ?l7 ?c7 ?k7 ?a8 ?l8 ?c8 ?k8 ?a9 ?l9 ?c9 ?k9 ?a10 ?l10 ?c10 ?k10 ?a11 ?l11 ?c11 ?k11 ?a12 ?l12 ?c12 ?k12 ?a13 ?l13 ?c13 ?k13 ?a14 ?l14 ?c14 ?k14 ?a15 ?l15 ?c15 ?k15 ?a16 ?l16 ?c16 ?k16 ?a17 ?l17 ?c17 ?k17 ?a18 ?l18 ?c18 ?k18 ?a19 ?l19 ?c19 ?k19 ?a20 ?l20 ?c20 ?k20 ?a21 ?l21 ?c21 ?k21 ?a22 ?l22 ?c22 ?k22 ?a23 ?l23 ?c23 ?k23 ?a24 ?l24 ?c24 ?k24 ?a25 ?l25 ?c25 ?k25 ?a26 ?l26 ?c26 ?k26 ?a27 ?l27 ?c27 ?k27 ?a28 ?l28 ?c28 ?k28 ?a29 ?l29 ?c29 ?k29 ?a30 ?l30 ?c30 ?k30 ?a31 ?l31 ?c31 ?k31 ?a32 ?l32 ?c32 ?k32 ?a33 ?l33 ?c33 ?k33 ?g_InvalidPaper ?hc_InvalidPaper ?ht_InvalidPaper ?hb_InvalidPaper ?g_NotUsable ?hc_NotUsable ?ht_NotUsable ?hb_NotUsable ?g_PaperError ?hc_PaperError ?ht_PaperError ?g_TongueError ?hc_TongueError ?ht_TongueError ?g_UseError ?hc_UseError ?ht_UseError ?xl_InvalidPaper ?xr_InvalidPaper ?sa_InvalidPaper ?ex_InvalidPaper ?ty_InvalidPaper ?kc_InvalidPaper ?ga_InvalidPaper ?gg_InvalidPaper ?hd_InvalidPaper ?ca_InvalidPaper ?mo_InvalidPaper ?ic_InvalidPaper ?ti_InvalidPaper ?no_InvalidPaper_word ?no_InvalidPaper_at ?li_InvalidPaper ?ci_InvalidPaper ?ki_InvalidPaper ?e_InvalidPaper_InvalidPaper ?e_InvalidPaper_NotUsable ?k_InvalidPaper_PaperError ?d_InvalidPaper_PaperError ?k_InvalidPaper_TongueError ?d_InvalidPaper_TongueError ?k_InvalidPaper_UseError ?d_InvalidPaper_UseError ?k_InvalidPaper_ValueError ?xl_NotUsable ?xr_NotUsable ?sa_NotUsable ?ex_NotUsable ?ty_NotUsable ?kc_NotUsable ?ga_NotUsable ?gg_NotUsable ?hd_NotUsable ?ca_NotUsable ?mo_NotUsable ?ic_NotUsable ?ti_NotUsable ?no_NotUsable_word ?no_NotUsable_at ?li_NotUsable ?ci_NotUsable ?ki_NotUsable ?e_NotUsable_InvalidPaper ?e_NotUsable_NotUsable ?k_NotUsable_PaperError ?d_NotUsable_PaperError ?k_NotUsable_TongueError ?d_NotUsable_TongueError ?k_NotUsable_UseError ?d_NotUsable_UseError ?k_NotUsable_ValueError ?sp0 ?tk0 ?n_ValueError ?n_all ?n_bool ?n_enumerate ?n_int ?n_isinstance ?n_len ?n_list ?n_max ?n_ord ?n_range ?n_repr ?n_set ?n_str ?n_sum ?n_tuple ?v_PERCENT ?v_QUOTE
    (case a0 => first | k_is | decide +kernel)
    (case l0 => first | k_is | decide +kernel)
    (case c0 => first | k_is | decide +kernel)
    (case k0 => first | k_is | decide +kernel)
    (case a1 => first | k_is | decide +kernel)
    (case l1 => first | k_is | decide +kernel)
    (case c1 => first | k_is | decide +kernel)
    (case k1 => first | k_is | decide +kernel)
    (case a2 => first | k_is | decide +kernel)
    (case l2 => first | k_is | decide +kernel)
    (case c2 => first | k_is | decide +kernel)
    (case k2 => first | k_is | decide +kernel)
    (case a3 => first | k_is | decide +kernel)
    (case l3 => first | k_is | decide +kernel)
    (case c3 => first | k_is | decide +kernel)
    (case k3 => first | k_is | decide +kernel)
    (case a4 => first | k_is | decide +kernel)
    (case l4 => first | k_is | decide +kernel)
    (case c4 => first | k_is | decide +kernel)
    (case k4 => first | k_is | decide +kernel)
    (case a5 => first | k_is | decide +kernel)
    (case l5 => first | k_is | decide +kernel)
    (case c5 => first | k_is | decide +kernel)
    (case k5 => first | k_is | decide +kernel)
    (case a6 => first | k_is | decide +kernel)
    (case l6 => first | k_is | decide +kernel)
    (case c6 => first | k_is | decide +kernel)
    (case k6 => first | k_is | decide +kernel)
    (case a7 => first | k_is | decide +kernel)
    (case l7 => first | k_is | decide +kernel)
    (case c7 => first | k_is | decide +kernel)
    (case k7 => first | k_is | decide +kernel)
    (case a8 => first | k_is | decide +kernel)
    (case l8 => first | k_is | decide +kernel)
    (case c8 => first | k_is | decide +kernel)
    (case k8 => first | k_is | decide +kernel)
    (case a9 => first | k_is | decide +kernel)
    (case l9 => first | k_is | decide +kernel)
    (case c9 => first | k_is | decide +kernel)
    (case k9 => first | k_is | decide +kernel)
    (case a10 => first | k_is | decide +kernel)
    (case l10 => first | k_is | decide +kernel)
    (case c10 => first | k_is | decide +kernel)
    (case k10 => first | k_is | decide +kernel)
    (case a11 => first | k_is | decide +kernel)
    (case l11 => first | k_is | decide +kernel)
    (case c11 => first | k_is | decide +kernel)
    (case k11 => first | k_is | decide +kernel)
    (case a12 => first | k_is | decide +kernel)
    (case l12 => first | k_is | decide +kernel)
    (case c12 => first | k_is | decide +kernel)
    (case k12 => first | k_is | decide +kernel)
    (case a13 => first | k_is | decide +kernel)
    (case l13 => first | k_is | decide +kernel)
    (case c13 => first | k_is | decide +kernel)
    (case k13 => first | k_is | decide +kernel)
    (case a14 => first | k_is | decide +kernel)
    (case l14 => first | k_is | decide +kernel)
    (case c14 => first | k_is | decide +kernel)
    (case k14 => first | k_is | decide +kernel)
    (case a15 => first | k_is | decide +kernel)
    (case l15 => first | k_is | decide +kernel)
    (case c15 => first | k_is | decide +kernel)
    (case k15 => first | k_is | decide +kernel)
    (case a16 => first | k_is | decide +kernel)
    (case l16 => first | k_is | decide +kernel)
    (case c16 => first | k_is | decide +kernel)
    (case k16 => first | k_is | decide +kernel)
    (case a17 => first | k_is | decide +kernel)
    (case l17 => first | k_is | decide +kernel)
    (case c17 => first | k_is | decide +kernel)
    (case k17 => first | k_is | decide +kernel)
    (case a18 => first | k_is | decide +kernel)
    (case l18 => first | k_is | decide +kernel)
    (case c18 => first | k_is | decide +kernel)
    (case k18 => first | k_is | decide +kernel)
    (case a19 => first | k_is | decide +kernel)
    (case l19 => first | k_is | decide +kernel)
    (case c19 => first | k_is | decide +kernel)
    (case k19 => first | k_is | decide +kernel)
    (case a20 => first | k_is | decide +kernel)
    (case l20 => first | k_is | decide +kernel)
    (case c20 => first | k_is | decide +kernel)
    (case k20 => first | k_is | decide +kernel)
    (case a21 => first | k_is | decide +kernel)
    (case l21 => first | k_is | decide +kernel)
    (case c21 => first | k_is | decide +kernel)
    (case k21 => first | k_is | decide +kernel)
    (case a22 => first | k_is | decide +kernel)
    (case l22 => first | k_is | decide +kernel)
    (case c22 => first | k_is | decide +kernel)
    (case k22 => first | k_is | decide +kernel)
    (case a23 => first | k_is | decide +kernel)
    (case l23 => first | k_is | decide +kernel)
    (case c23 => first | k_is | decide +kernel)
    (case k23 => first | k_is | decide +kernel)
    (case a24 => first | k_is | decide +kernel)
    (case l24 => first | k_is | decide +kernel)
    (case c24 => first | k_is | decide +kernel)
    (case k24 => first | k_is | decide +kernel)
    (case a25 => first | k_is | decide +kernel)
    (case l25 => first | k_is | decide +kernel)
    (case c25 => first | k_is | decide +kernel)
    (case k25 => first | k_is | decide +kernel)
    (case a26 => first | k_is | decide +kernel)
    (case l26 => first | k_is | decide +kernel)
    (case c26 => first | k_is | decide +kernel)
    (case k26 => first | k_is | decide +kernel)
    (case a27 => first | k_is | decide +kernel)
    (case l27 => first | k_is | decide +kernel)
    (case c27 => first | k_is | decide +kernel)
    (case k27 => first | k_is | decide +kernel)
    (case a28 => first | k_is | decide +kernel)
    (case l28 => first | k_is | decide +kernel)
    (case c28 => first | k_is | decide +kernel)
    (case k28 => first | k_is | decide +kernel)
    (case a29 => first | k_is | decide +kernel)
    (case l29 => first | k_is | decide +kernel)
    (case c29 => first | k_is | decide +kernel)
    (case k29 => first | k_is | decide +kernel)
    (case a30 => first | k_is | decide +kernel)
    (case l30 => first | k_is | decide +kernel)
    (case c30 => first | k_is | decide +kernel)
    (case k30 => first | k_is | decide +kernel)
    (case a31 => first | k_is | decide +kernel)
    (case l31 => first | k_is | decide +kernel)
    (case c31 => first | k_is | decide +kernel)
    (case k31 => first | k_is | decide +kernel)
    (case a32 => first | k_is | decide +kernel)
    (case l32 => first | k_is | decide +kernel)
    (case c32 => first | k_is | decide +kernel)
    (case k32 => first | k_is | decide +kernel)
    (case a33 => first | k_is | decide +kernel)
    (case l33 => first | k_is | decide +kernel)
    (case c33 => first | k_is | decide +kernel)
    (case k33 => first | k_is | decide +kernel)
    (case g_InvalidPaper => first | k_is | decide +kernel)
    (case hc_InvalidPaper => first | k_is | decide +kernel)
    (case ht_InvalidPaper => first | k_is | decide +kernel)
    (case hb_InvalidPaper => first | k_is | decide +kernel)
    (case g_NotUsable => first | k_is | decide +kernel)
    (case hc_NotUsable => first | k_is | decide +kernel)
    (case ht_NotUsable => first | k_is | decide +kernel)
    (case hb_NotUsable => first | k_is | decide +kernel)
    (case g_PaperError => first | k_is | decide +kernel)
    (case hc_PaperError => first | k_is | decide +kernel)
    (case ht_PaperError => first | k_is | decide +kernel)
    (case g_TongueError => first | k_is | decide +kernel)
    (case hc_TongueError => first | k_is | decide +kernel)
    (case ht_TongueError => first | k_is | decide +kernel)
    (case g_UseError => first | k_is | decide +kernel)
    (case hc_UseError => first | k_is | decide +kernel)
    (case ht_UseError => first | k_is | decide +kernel)
    (case xl_InvalidPaper => first | k_is | decide +kernel)
    (case xr_InvalidPaper => first | k_is | decide +kernel)
    (case sa_InvalidPaper => first | k_is | decide +kernel)
    (case ex_InvalidPaper => first | k_is | decide +kernel)
    (case ty_InvalidPaper => first | k_is | decide +kernel)
    (case kc_InvalidPaper => first | k_is | decide +kernel)
    (case ga_InvalidPaper => first | k_is | decide +kernel)
    (case gg_InvalidPaper => first | k_is | decide +kernel)
    (case hd_InvalidPaper => first | k_is | decide +kernel)
    (case ca_InvalidPaper => first | k_is | decide +kernel)
    (case mo_InvalidPaper => first | k_is | decide +kernel)
    (case ic_InvalidPaper => first | k_is | decide +kernel)
    (case ti_InvalidPaper => first | k_is | decide +kernel)
    (case no_InvalidPaper_word => first | k_is | decide +kernel)
    (case no_InvalidPaper_at => first | k_is | decide +kernel)
    (case li_InvalidPaper => first | k_is | decide +kernel)
    (case ci_InvalidPaper => first | k_is | decide +kernel)
    (case ki_InvalidPaper => first | k_is | decide +kernel)
    (case e_InvalidPaper_InvalidPaper => first | k_is | decide +kernel)
    (case e_InvalidPaper_NotUsable => first | k_is | decide +kernel)
    (case k_InvalidPaper_PaperError => first | k_is | decide +kernel)
    (case d_InvalidPaper_PaperError => first | k_is | decide +kernel)
    (case k_InvalidPaper_TongueError => first | k_is | decide +kernel)
    (case d_InvalidPaper_TongueError => first | k_is | decide +kernel)
    (case k_InvalidPaper_UseError => first | k_is | decide +kernel)
    (case d_InvalidPaper_UseError => first | k_is | decide +kernel)
    (case k_InvalidPaper_ValueError => first | k_is | decide +kernel)
    (case xl_NotUsable => first | k_is | decide +kernel)
    (case xr_NotUsable => first | k_is | decide +kernel)
    (case sa_NotUsable => first | k_is | decide +kernel)
    (case ex_NotUsable => first | k_is | decide +kernel)
    (case ty_NotUsable => first | k_is | decide +kernel)
    (case kc_NotUsable => first | k_is | decide +kernel)
    (case ga_NotUsable => first | k_is | decide +kernel)
    (case gg_NotUsable => first | k_is | decide +kernel)
    (case hd_NotUsable => first | k_is | decide +kernel)
    (case ca_NotUsable => first | k_is | decide +kernel)
    (case mo_NotUsable => first | k_is | decide +kernel)
    (case ic_NotUsable => first | k_is | decide +kernel)
    (case ti_NotUsable => first | k_is | decide +kernel)
    (case no_NotUsable_word => first | k_is | decide +kernel)
    (case no_NotUsable_at => first | k_is | decide +kernel)
    (case li_NotUsable => first | k_is | decide +kernel)
    (case ci_NotUsable => first | k_is | decide +kernel)
    (case ki_NotUsable => first | k_is | decide +kernel)
    (case e_NotUsable_InvalidPaper => first | k_is | decide +kernel)
    (case e_NotUsable_NotUsable => first | k_is | decide +kernel)
    (case k_NotUsable_PaperError => first | k_is | decide +kernel)
    (case d_NotUsable_PaperError => first | k_is | decide +kernel)
    (case k_NotUsable_TongueError => first | k_is | decide +kernel)
    (case d_NotUsable_TongueError => first | k_is | decide +kernel)
    (case k_NotUsable_UseError => first | k_is | decide +kernel)
    (case d_NotUsable_UseError => first | k_is | decide +kernel)
    (case k_NotUsable_ValueError => first | k_is | decide +kernel)
    (case sp0 => first | k_is | decide +kernel)
    (case tk0 => first | k_is | decide +kernel)
    (case n_ValueError => first | k_is | decide +kernel)
    (case n_all => first | k_is | decide +kernel)
    (case n_bool => first | k_is | decide +kernel)
    (case n_enumerate => first | k_is | decide +kernel)
    (case n_int => first | k_is | decide +kernel)
    (case n_isinstance => first | k_is | decide +kernel)
    (case n_len => first | k_is | decide +kernel)
    (case n_list => first | k_is | decide +kernel)
    (case n_max => first | k_is | decide +kernel)
    (case n_ord => first | k_is | decide +kernel)
    (case n_range => first | k_is | decide +kernel)
    (case n_repr => first | k_is | decide +kernel)
    (case n_set => first | k_is | decide +kernel)
    (case n_str => first | k_is | decide +kernel)
    (case n_sum => first | k_is | decide +kernel)
    (case n_tuple => first | k_is | decide +kernel)
    (case v_PERCENT => first | k_is | decide +kernel)
    (case v_QUOTE => first | k_is | decide +kernel)
end
