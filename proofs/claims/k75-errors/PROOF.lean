import PyProof.Rows.All
import Wide.All
import OpenK.AllK
import Wide.FinOn
import KE.GoesEnum
import HandS.Iter
import HandS.Zip
import HandS.ForMost
import HandS.Codes
import HandS.Lambda
import HandS.ForSpec
import HandS.Conv
import HandS.Deep
import HandS.TupAny
import KE.DataEq
import KE.DataCmp
import KE.DataAny
import KE.DataMinMax
import KE.SortData
import KE.DataFind
import KE.KDictKeyed
import KE.KeyNested
import KE.KDictWalk
import HandS.Wide
import HandS.TupMul
import HandS.Style
import HandS.TupLe
import KE.DataIsa
import HandS.SetFor
import HandS.Strs
import HandS.DictComp
import KE.SortKeyHeap
import KE.KDictCopyH
import KE.KDictDisplayH
import HandS.ExcInit
import HandS.ExcField
import KE.KExcSuper
import HandS.ExcCtx
import HandS.Hot
import HandS.HotCalls
import HandS.ExcInitHot
import HandS.ExcIs
import HandS.EndTab
import KE.KStateDown
import HandS.Base
import HandS.Head0
import HandS.Head1
import HandS.Head2
import HandS.HeadHook4
import HandS.HeadWalk
import PyProof.ExcBaseAll.ValueError
import PySem.Challenge.RW_voicestold_k75_errors_of_orders
set_option Elab.async false
set_option linter.all false
set_option maxRecDepth 100000

set_option maxHeartbeats 4000000
namespace Ev
open PySem PySem.Spec PyProof.Rows
abbrev enO (h : Heap) : Obj := { cls := .type "enumerate", data := .fields #[.none, .bool false, .ref h.objs.size, rawInt 0, .none, .none] }
abbrev tiO (l : Addr) : Obj := { cls := .type "tuple_iterator", data := .fields #[.ref l, .int 0 0] }
theorem meets_enT (l : Addr) (items : Array Value) :
    Meets (Builtin.«enumerate.__new__» ⟨[.type "enumerate", .ref l], []⟩) (fun _ R s => s.heap.IsTuple l items ∧ R (.ok (.ret (.ref (s.heap.push (tiO l)).objs.size))) { s with heap := (s.heap.push (tiO l)).push (enO s.heap) }) := by
  refine .of_wp fun prog w A R s h => ?_
  obtain ⟨hp, g, d, tk, os⟩ := s
  obtain ⟨hl, h⟩ := h
  have hsub := sub_enumerate
  have B := begins_tuple l items
  have q1 : ∀ {A2 : Around} {E2 : Value → Shared → Prop} {Q2 : Value → Shared → Prop},
      Q2 (.ref hp.objs.size) ⟨hp.push (tiO l), g, d, tk, os⟩ →
      wpAny (model prog w) A2 (pyIter (.ref l)) Q2 E2 ⟨hp, g, d, tk, os⟩ := fun q => B.iter prog w _ _ ⟨hp, g, d, tk, os⟩ _ hl q
  obtain ⟨oo, ho, hc, n, hd⟩ := hl
  wp_walk using AutoSeq1.wpAny_loadPart' ho
  refine wpAny_stack_any fun st => wpAny_pure ?_
  split
  · rename_i c _ _ _ _ _
    cases (c == Value.type "enumerate")
    all_goals
      wp_walk using AutoSeq1.wpAny_loadPart' ho, q1
      exact ⟨_, rfl, h⟩
  · wp_walk using AutoSeq1.wpAny_loadPart' ho, q1
    exact ⟨_, rfl, h⟩
theorem call_enT {prog : Program} {w : World} {A : Around} {E : Value → Shared → Prop} {s : Shared} {l : Addr} {items : Array Value} {Q : Value → Shared → Prop} (hL : s.heap.IsTuple l items)
    (h : ∀ h', IsEnum h' (s.heap.objs.size + 1) s.heap.objs.size 0 .none → h'.get? s.heap.objs.size = some (tiO l) → (∀ b o, s.heap.get? b = some o → h'.get? b = some o) → Q (.ref (s.heap.objs.size + 1)) { s with heap := h' }) :
    wpAny (model prog w) A (call (.type "enumerate") [.ref l]) Q E s := by
  have e1 : (s.heap.push (tiO l)).objs.size = s.heap.objs.size + 1 := Heap.size_push ..
  have e2 := Heap.get?_push_size (s.heap.push (tiO l)) (o := enO s.heap) rfl
  rw [e1] at e2
  refine callType_new F.called_enumerate (by decide) (F.typeCall_enumerate_1 _) (F.newCall_enumerate_1 _)
    (fun obj => F.args_object_init_2 obj _) F.entry_enumerate_new (meets_enT l items) ⟨hL, ?_⟩
  show _ ∧ _
  rw [e1]
  exact ⟨⟨_, e2, rfl⟩, h _ e2 (Heap.get?_push_of_some _ (Heap.get?_push_size _ rfl)) fun b o z => Heap.get?_push_of_some _ (Heap.get?_push_of_some _ z)⟩
section
open L2
def IteT (K : PySem.W.Frag) (a : Addr) : It where
  go i H := ∃ (xs : List V) (x : V), SqT K H a xs ∧ xs[i]? = some x
  yld i H v H' := ∃ T x, v = .ref T ∧ H T = none ∧ H' = upd H T (.tup [.int (i : Nat), x]) ∧ ∀ xs, SqT K H a xs → xs[i]? = some x
  stop i H := ∃ xs : List V, SqT K H a xs ∧ xs.length ≤ i
theorem turn_enT {P : Program} {w : World} {K : PySem.W.Frag} {elts : List Expr} {kk : Nat} {tpos : Pos} (a e it : Addr) :
    Turn P w K (.Tuple elts kk tpos) (IteT K a) [e, it] e (fun i h => (∃ old, IsEnum h e it ((i : Nat) : Int) old) ∧ h.IsTupleIter it a i ∧ e ≠ it) where
  mem := by simp
  obj := by
    intro i h st b hb
    obtain ⟨⟨old, he⟩, ⟨o, ho, hc, hd⟩, _⟩ := st
    rcases (by simpa using hb : b = e ∨ b = it) with z | z <;> subst z
    · exact ⟨_, he, fun v q => by cases q⟩
    · exact ⟨o, ho, fun v q => by rw [hd] at q; cases q⟩
  keep := by
    intro i h h' st k
    obtain ⟨⟨old, he⟩, hi, hne⟩ := st
    exact ⟨⟨old, k e (by simp) _ he⟩, hi.at fun o q => k it (by simp) o q, hne⟩
  item := by
    intro X hP hw hK hc i pins s σ H E I hf st hg
    subst hP hw hK
    obtain ⟨⟨old, he⟩, hit, hne⟩ := st
    obtain ⟨xs, x, hq, hx⟩ := hg
    obtain ⟨its, rv, p, hz⟩ := I.tuple hq
    obtain ⟨u, hu, ru⟩ := rv.get hx
    have hel : e < s.heap.objs.size := Heap.lt_size he
    have hil : it < s.heap.objs.size := by obtain ⟨_, q, _⟩ := hit; exact Heap.lt_size q
    have hai : a ≠ it := fun z => by
      obtain ⟨o1, q1, q2, _⟩ := hit
      obtain ⟨o2, q3, q4, _⟩ := p
      rw [z, q1] at q3; cases q3
      rw [q2] at q4
      injection q4 with q4
      exact absurd q4 (by decide)
    have hae : e ≠ a := fun z => by
      obtain ⟨o2, q3, q4, _⟩ := p
      have q1 : s.heap.get? e = _ := he
      rw [← z, q1] at q3; cases q3
      injection q4 with q4
      exact absurd q4 (by decide)
    have hlt : i < its.length := (List.getElem?_eq_some_iff.mp hu).1
    have D := Draws.tuple (prog := X.prog) (w := X.w) (A := X.A.in1) (I.ok.hd hc) it a hai its.toArray
    refine wpAny_pyNext_enum_itemD D he ⟨hit, p⟩ (by simpa using hlt) hne (by simp [hne, hae]) fun x' h' tk hx' ho st' hT hsz hk => ?_
    have ex : x' = u := by
      have h1 : its[i]? = some x' := by simpa using hx'
      rw [hu] at h1; exact (Option.some.inj h1).symm
    subst ex
    refine ⟨_, rfl, wpAny_letOwnedTupleGo_enum (s := { s with heap := h', toks := tk + 1 }) ho fun h'' he' sb => ?_⟩
    have hT2 : h''.get? s.heap.objs.size = some { cls := .type "tuple", data := .seq #[.int i tk, x'] } := (sb.2 _ (Nat.ne_of_gt hel)).trans hT
    have new : ObjOk X.prog X.w (upd H s.heap.objs.size (.tup [.int (i : Nat), x])) h'' s.heap.objs.size (.tup [.int (i : Nat), x]) := by
      refine ⟨?_, [.int i tk, x'], .cons ⟨_, rfl⟩ (.cons ru .nil), ⟨_, hT2, rfl, _, rfl⟩⟩
      show 2 ≤ sizeLine
      decide
    have I1 : Inv X pins σ (upd H s.heap.objs.size (.tup [.int (i : Nat), x])) { s with heap := h'', toks := tk + 1 } := by
      refine I.turnedNew (ch := [e, it]) (fun b ob hb q => ?_) hf (Nat.le_refl _) new
      have b1 : b ≠ e := fun z => hb (by simp [z])
      have b2 : b ≠ it := fun z => hb (by simp [z])
      exact (sb.2 b b1).trans (hk b ob b1 b2 q)
    refine ⟨.ref s.heap.objs.size, _, I1, rfl, ⟨_, x, rfl, I.hok.fresh (Nat.le_refl _), rfl, fun ys hy => by rw [I.tuple_inj hy hq]; exact hx⟩, ⟨⟨x', ?_⟩, st'.1.at fun o q => (sb.2 it (Ne.symm hne)).trans q, hne⟩, fun b hb => ?_⟩
    · have e1 : ((i + 1 : Nat) : Int) = (i : Int) + 1 := by omega
      rw [e1]; exact he'
    · have hb' : b < s.heap.objs.size := by rcases (by simpa using hb : b = e ∨ b = it) with z | z <;> subst z <;> assumption
      rw [upd_ne (Nat.ne_of_lt hb')]
      exact (hf b hb).1
  done := by
    intro X hP hw hK hc i pins s σ H E I hf st hg
    subst hP hw hK
    obtain ⟨⟨old, he⟩, hit, hne⟩ := st
    obtain ⟨xs, hq, hx⟩ := hg
    obtain ⟨its, rv, p, hz⟩ := I.tuple hq
    obtain ⟨f0, f1, f2, f3, f4, f5⟩ := hf it (by simp)
    have hl := rv.length
    have hai : a ≠ it := fun z => by
      obtain ⟨o1, q1, q2, _⟩ := hit
      obtain ⟨o2, q3, q4, _⟩ := p
      rw [z, q1] at q3; cases q3
      rw [q2] at q4
      injection q4 with q4
      exact absurd q4 (by decide)
    have D : Draws X.prog X.w X.A.in1 it [it, a] i (fun _ _ => True) (fun j h => j = i ∧ h.IsTupleIter it a j ∧ h.IsTuple a its.toArray) := {
      live := fun _ _ st => by
        obtain ⟨_, ⟨o, ho, _⟩, _⟩ := st
        exact ⟨o, ho⟩
      frame := fun _ _ _ st hk => ⟨st.1, st.2.1.at fun o e => hk it (by simp) o e, st.2.2.at fun o e => hk a (by simp) o e⟩
      item := fun j s Q E hj st _ => absurd st.1 (Nat.ne_of_lt hj)
      done := fun s Q E st hE => wpAny_nextOf_tuple_end (I.ok.hd hc) st.2.1 st.2.2 (by simp; omega) hE }
    exact wpAny_pyNext_enum_endD D he ⟨rfl, hit, p⟩ fun h' eb => ⟨rfl, I.turned (t' := s.toks) (fun b o hb q => eb b o hb q) f0 f1 f3 f4 f5⟩
  self := by
    intro A i s Q E st h
    obtain ⟨⟨_, he⟩, _⟩ := st
    exact wpAny_pyIter_enum he h
def iEnT (K : PySem.W.Frag) (ta : TA) : TI := fun σ H R => ta σ H fun vs H1 => ∃ a xs, vs = [.ref a] ∧ ((SqL K H1 a xs ∧ R (Ite K a) H1) ∨ (SqT K H1 a xs ∧ R (IteT K a) H1))
theorem pi_enT {X : Cx} {e : Expr} {ta : TA} {p pos tpos : Pos} {elts : List Expr} {kk : Nat} (hg : Gl X "enumerate") (hm : X.mg "enumerate" = none) (ha : PA X [e] ta) (hs : starEach [e] X.env = [(false, eval e X.env)] := by rfl) :
    PI X (.Tuple elts kk tpos) (.Call (.Name "enumerate" p) [e] [] pos) (iEnT X.K ta) := by
  refine ⟨fun pins s σ H R I h => Call_ (ld_blt I hg hm boot_enumerate (PyProof.Rows.callWith_type1 (thn (ha.run pos pins s σ H _ I h) fun us s1 ⟨vs, H1, I1, r1, q1⟩ => ?_) hs rfl))⟩
  obtain ⟨a, xs, ex, q1⟩ := q1
  subst ex
  cases r1 with
  | cons r rr =>
    cases rr
    cases r
    have fps : ∀ b ∈ [s1.heap.objs.size + 1, s1.heap.objs.size], FpOk X pins H1 b := by
      intro b hb
      have hle : s1.heap.objs.size ≤ b := by
        rcases (by simpa using hb : b = s1.heap.objs.size + 1 ∨ b = s1.heap.objs.size) with z | z <;> omega
      exact I1.fpOk hle (I1.hok.fresh hle)
    rcases q1 with ⟨hq, q⟩ | ⟨hq, q⟩
    · obtain ⟨its, rv, p', hz⟩ := I1.list hq
      refine call_enumerate_list p'.isList fun h' he hit hsz hk => wpAny_pyIter_enum he ?_
      exact ⟨s1.heap.objs.size + 1, [s1.heap.objs.size + 1, s1.heap.objs.size], _, _, H1, rfl, I1.kept (t' := s1.toks) hk, turn_enum a (s1.heap.objs.size + 1) s1.heap.objs.size, ⟨⟨.none, he⟩, hit, Nat.succ_ne_self _⟩, fps, q⟩
    · obtain ⟨its, rv, p', hz⟩ := I1.tuple hq
      refine call_enT p' fun h' he hit hk => wpAny_pyIter_enum he ?_
      exact ⟨s1.heap.objs.size + 1, [s1.heap.objs.size + 1, s1.heap.objs.size], _, _, H1, rfl, I1.kept (t' := s1.toks) hk, turn_enT a (s1.heap.objs.size + 1) s1.heap.objs.size, ⟨⟨.none, he⟩, ⟨_, hit, rfl, rfl⟩, Nat.succ_ne_self _⟩, fps, q⟩
end
end Ev


set_option maxHeartbeats 4000000
namespace Ev
open PySem PySem.Spec PyProof.Rows L2
/-- the list (k) or the tuple at a -/
def sqV (k : Bool) (K : PySem.W.Frag) (H : Hp) (a : Addr) (xs : List V) : Prop := match k with
  | true => SqL K H a xs
  | false => SqT K H a xs
def sqH (k : Bool) (h : Heap) (a : Addr) (items : Array Value) : Prop := match k with
  | true => h.IsList a items
  | false => h.IsTuple a items
def sqI (k : Bool) (h : Heap) (it a : Addr) (i : Nat) : Prop := match k with
  | true => h.IsListIter it a i
  | false => h.IsTupleIter it a i
section
variable {X : Cx} {pins : List (Addr × Obj)} {σ : L2.St} {H : Hp} {s : Shared} {k : Bool} {a it : Addr} {xs ys : List V} {i : Nat} {h h' : Heap}
theorem sqV.at_ (I : Inv X pins σ H s) (q : sqV k X.K H a xs) : ∃ its : List Value, Vals xs its ∧ sqH k s.heap a its.toArray := by
  cases k with
  | true => obtain ⟨its, rv, p, _⟩ := I.list q; exact ⟨its, rv, p.isList⟩
  | false => obtain ⟨its, rv, p, _⟩ := I.tuple q; exact ⟨its, rv, p⟩
theorem sqV.inj (I : Inv X pins σ H s) (q : sqV k X.K H a xs) (r : sqV k X.K H a ys) : xs = ys := by
  cases k with
  | true => exact I.list_inj q r
  | false => exact I.tuple_inj q r
theorem sqI.at_ (q : sqI k h it a i) (e : ∀ o, h.get? it = some o → h'.get? it = some o) : sqI k h' it a i := by
  cases k with
  | true => exact Heap.IsListIter.at q e
  | false => exact Heap.IsTupleIter.at q e
theorem sqH.at_ {items : Array Value} (q : sqH k h a items) (e : ∀ o, h.get? a = some o → h'.get? a = some o) : sqH k h' a items := by
  cases k with
  | true => exact Heap.IsList.at q e
  | false => exact Heap.IsTuple.at q e
theorem sqI.obj (q : sqI k h it a i) : ∃ o, h.get? it = some o ∧ (∀ v, o.data ≠ .cell v) ∧ (o.cls = .type "list_iterator" ∨ o.cls = .type "tuple_iterator") := by
  cases k with
  | true => obtain ⟨o, e, c, d⟩ := q; exact ⟨o, e, (fun v z => by rw [d] at z; cases z), .inl c⟩
  | false => obtain ⟨o, e, c, d⟩ := q; exact ⟨o, e, (fun v z => by rw [d] at z; cases z), .inr c⟩
theorem sqH.obj {items : Array Value} (q : sqH k h a items) : ∃ o, h.get? a = some o ∧ (o.cls = .type "list" ∨ o.cls = .type "tuple") := by
  cases k with
  | true => obtain ⟨o, e, c, _⟩ := q; exact ⟨o, e, .inl c⟩
  | false => obtain ⟨o, e, c, _⟩ := q; exact ⟨o, e, .inr c⟩
theorem sqH.apart {b : Addr} {items : Array Value} {h0 : Heap} (q : sqH k h a items) {o : Obj} (e : h.get? b = some o) (c : o.cls ≠ .type "list") (d : o.cls ≠ .type "tuple") : a ≠ b := fun z => by
  obtain ⟨o2, e2, c2⟩ := q.obj
  rw [z, e] at e2; cases e2
  rcases c2 with r | r
  · exact c r
  · exact d r
end
theorem sqDraws {prog : Program} {w : World} {A : Around} (hh : A.handled = none) (k : Bool) (it a : Addr) (hne : a ≠ it) (items : Array Value) :
    Draws prog w A it [it, a] items.size (fun i v => items[i]? = some v) (fun i h => sqI k h it a i ∧ sqH k h a items) := by
  cases k with
  | true => exact Draws.list hh it a hne items
  | false => exact Draws.tuple hh it a hne items
/-- at its end, the index told beyond it -/
theorem sqDone {prog : Program} {w : World} {A : Around} (hh : A.handled = none) (k : Bool) (it a : Addr) (items : Array Value) (i : Nat) (hi : items.size ≤ i) :
    Draws prog w A it [it, a] i (fun _ _ => True) (fun j h => j = i ∧ sqI k h it a j ∧ sqH k h a items) where
  live := fun _ _ st => let ⟨o, ho, _⟩ := st.2.1.obj; ⟨o, ho⟩
  frame := fun _ _ _ st hk => ⟨st.1, st.2.1.at_ fun o e => hk it (by simp) o e, st.2.2.at_ fun o e => hk a (by simp) o e⟩
  item := fun j s Q E hj st _ => absurd st.1 (Nat.ne_of_lt hj)
  done := fun s Q E st hE => by
    cases k with
    | true => exact wpAny_nextOf_list_end hh st.2.1 st.2.2 (by simp; omega) hE
    | false => exact wpAny_nextOf_tuple_end hh st.2.1 st.2.2 (by simp; omega) hE
def ItzM (K : PySem.W.Frag) (k1 k2 : Bool) (a b : Addr) : It :=
  ⟨fun i H => ∃ (xs ys : List V) (x y : V), sqV k1 K H a xs ∧ sqV k2 K H b ys ∧ xs[i]? = some x ∧ ys[i]? = some y,
    fun i H v H' => ∃ T x y, v = .ref T ∧ H T = none ∧ H' = upd H T (.tup [x, y]) ∧ (∀ xs, sqV k1 K H a xs → xs[i]? = some x) ∧ ∀ ys, sqV k2 K H b ys → ys[i]? = some y,
    fun i H => ∃ xs ys : List V, sqV k1 K H a xs ∧ sqV k2 K H b ys ∧ (xs.length ≤ i ∨ ys.length ≤ i)⟩
theorem turn_zipM {P : Program} {w : World} {K : PySem.W.Frag} {elts : List Expr} {kk : Nat} {tpos : Pos} {k1 k2 : Bool} {a b z TI TO i1 i2 : Addr} (D : ZipSep2 z TI TO i1 i2 [i1, a] [i2, b]) (ha1 : a ≠ i1) (hb2 : b ≠ i2) :
    Turn P w K (.Tuple elts kk tpos) (ItzM K k1 k2 a b) [z, TI, TO, i1, i2] z (fun i h => IsZip h z TI TO .none ∧ IsTupOf2 h TI (.ref i1) (.ref i2) ∧ (∃ x y, IsTupOf2 h TO x y) ∧ sqI k1 h i1 a i ∧ sqI k2 h i2 b i) where
  mem := by simp
  obj := fun i h st c hc => by
    obtain ⟨hz, hTI, ⟨x, y, hTO⟩, q1, q2⟩ := st
    obtain ⟨o1, e1, d1, _⟩ := q1.obj
    obtain ⟨o2, e2, d2, _⟩ := q2.obj
    rcases (by simpa using hc : c = z ∨ c = TI ∨ c = TO ∨ c = i1 ∨ c = i2) with q | q | q | q | q <;> subst q
    · exact ⟨_, hz, fun v q => nomatch q⟩
    · exact ⟨_, hTI, fun v q => nomatch q⟩
    · exact ⟨_, hTO, fun v q => nomatch q⟩
    · exact ⟨o1, e1, d1⟩
    · exact ⟨o2, e2, d2⟩
  keep := fun i h h' st k => by
    obtain ⟨hz, hTI, ⟨x, y, hTO⟩, q1, q2⟩ := st
    exact ⟨k z (by simp) _ hz, k TI (by simp) _ hTI, ⟨x, y, k TO (by simp) _ hTO⟩, q1.at_ fun o q => k i1 (by simp) o q, q2.at_ fun o q => k i2 (by simp) o q⟩
  item := by
    intro X hP hw hK hc i pins s σ H E I hf st hg
    subst hP hw hK
    obtain ⟨hz, hTI, ⟨x0, y0, hTO⟩, h1, h2⟩ := st
    obtain ⟨xs, ys, x, y, hqx, hqy, hx, hy⟩ := hg
    obtain ⟨its, rv, p⟩ := hqx.at_ I
    obtain ⟨its2, rv2, p2⟩ := hqy.at_ I
    obtain ⟨u, hu, ru⟩ := rv.get hx
    obtain ⟨u2, hu2, ru2⟩ := rv2.get hy
    have hzl : z < s.heap.objs.size := Heap.lt_size hz
    have D1 := sqDraws (prog := X.prog) (w := X.w) (A := X.A.in1) (I.ok.hd hc) k1 i1 a ha1 its.toArray
    have D2 := sqDraws (prog := X.prog) (w := X.w) (A := X.A.in1) (I.ok.hd hc) k2 i2 b hb2 its2.toArray
    have l1 : i < its.length := (List.getElem?_eq_some_iff.mp hu).1
    have l2 : i < its2.length := (List.getElem?_eq_some_iff.mp hu2).1
    refine wpAny_pyNext_zipD2_item D D1 D2 hz hTI hTO ⟨h1, p⟩ ⟨h2, p2⟩ (by simpa using l1) (by simpa using l2) fun v1 v2 h' tk g1 g2 z' TO' s1' s2' hT hsz hk => ?_
    have w1 : v1 = u := by
      have q : its[i]? = some v1 := by simpa using g1
      rw [hu] at q; exact (Option.some.inj q).symm
    have w2 : v2 = u2 := by
      have q : its2[i]? = some v2 := by simpa using g2
      rw [hu2] at q; exact (Option.some.inj q).symm
    subst w1 w2
    refine ⟨_, rfl, wpAny_letOwnedTupleGo_zip (s := { s with heap := h', toks := tk }) z' fun h'' z'' sb => ?_⟩
    have hT2 : h''.get? s.heap.objs.size = some { cls := .type "tuple", data := .seq #[v1, v2] } := (sb.2 _ (Nat.ne_of_gt hzl)).trans hT
    have new : ObjOk X.prog X.w (upd H s.heap.objs.size (.tup [x, y])) h'' s.heap.objs.size (.tup [x, y]) :=
      ⟨by show 2 ≤ sizeLine; decide, [v1, v2], .cons ru (.cons ru2 .nil), ⟨_, hT2, rfl, _, rfl⟩⟩
    have off : ∀ {c : Addr}, c ∉ [z, TI, TO, i1, i2] → c ≠ z ∧ c ≠ TI ∧ c ≠ TO ∧ c ≠ i1 ∧ c ≠ i2 := fun {c} hb => by simpa using hb
    have I1 : Inv X pins σ (upd H s.heap.objs.size (.tup [x, y])) { s with heap := h'', toks := tk } :=
      I.turnedNew (ch := [z, TI, TO, i1, i2]) (fun c o hb q => by
        obtain ⟨n1, n2, n3, n4, n5⟩ := off hb
        exact (sb.2 c n1).trans (hk c o n1 n3 n4 n5 q)) hf (Nat.le_refl _) new
    refine ⟨.ref s.heap.objs.size, _, I1, rfl, ⟨_, x, y, rfl, I.hok.fresh (Nat.le_refl _), rfl, fun l hl => by rw [hl.inj I hqx]; exact hx, fun l hl => by rw [hl.inj I hqy]; exact hy⟩, ⟨z'', ?_, ⟨v1, v2, ?_⟩, ?_, ?_⟩, fun c hcm => ?_⟩
    · exact (sb.2 _ D.TIz).trans (hk _ _ D.TIz D.TITO D.TIi1 D.TIi2 hTI)
    · exact (sb.2 _ D.TOz).trans TO'
    · exact s1'.1.at_ fun o q => (sb.2 _ (Ne.symm D.zi1)).trans q
    · exact s2'.1.at_ fun o q => (sb.2 _ (Ne.symm D.zi2)).trans q
    · have hlt : c < s.heap.objs.size := by
        rcases (by simpa using hcm : c = z ∨ c = TI ∨ c = TO ∨ c = i1 ∨ c = i2) with q | q | q | q | q <;> subst q
        · exact hzl
        · exact Heap.lt_size hTI
        · exact Heap.lt_size hTO
        · obtain ⟨_, e1, _⟩ := h1.obj; exact Heap.lt_size e1
        · obtain ⟨_, e2, _⟩ := h2.obj; exact Heap.lt_size e2
      rw [upd_ne (Nat.ne_of_lt hlt)]
      exact (hf c hcm).1
  done := by
    intro X hP hw hK hc i pins s σ H E I hf st hg
    subst hP hw hK
    obtain ⟨hz, hTI, ⟨x0, y0, hTO⟩, h1, h2⟩ := st
    obtain ⟨xs, ys, hqx, hqy, hend⟩ := hg
    obtain ⟨its, rv, p⟩ := hqx.at_ I
    obtain ⟨its2, rv2, p2⟩ := hqy.at_ I
    have l1 := rv.length
    have l2 := rv2.length
    have hh : X.A.in1.handled = none := I.ok.hd hc
    have fin : ∀ h' tk, (∀ c o, c ≠ z → c ≠ TO → c ≠ i1 → c ≠ i2 → s.heap.get? c = some o → h'.get? c = some o) → (none : Option Value) = none ∧ Inv X pins σ H { s with heap := h', toks := tk } := fun h' tk hk =>
      ⟨rfl, I.turnedL (t' := tk) (ch := [z, TI, TO, i1, i2]) (fun c o hb q => by
        have n : c ≠ z ∧ c ≠ TI ∧ c ≠ TO ∧ c ≠ i1 ∧ c ≠ i2 := by simpa using hb
        exact hk c o n.1 n.2.2.1 n.2.2.2.1 n.2.2.2.2 q) hf⟩
    by_cases g1 : xs.length ≤ i
    · have D1 := sqDone (prog := X.prog) (w := X.w) hh k1 i1 a its.toArray i (by simp; omega)
      by_cases g2 : ys.length ≤ i
      · have D2 := sqDone (prog := X.prog) (w := X.w) hh k2 i2 b its2.toArray i (by simp; omega)
        exact wpAny_pyNext_zipD2_end D D1 D2 hz hTI hTO ⟨rfl, h1, p⟩ ⟨rfl, h2, p2⟩ (Nat.le_refl _) (Nat.le_refl _) (.inl rfl) fin
      · have D2 := sqDraws (prog := X.prog) (w := X.w) hh k2 i2 b hb2 its2.toArray
        exact wpAny_pyNext_zipD2_end D D1 D2 hz hTI hTO ⟨rfl, h1, p⟩ ⟨h2, p2⟩ (Nat.le_refl _) (by simp; omega) (.inl rfl) fin
    · have g2 : ys.length ≤ i := hend.resolve_left g1
      have D1 := sqDraws (prog := X.prog) (w := X.w) hh k1 i1 a ha1 its.toArray
      have D2 := sqDone (prog := X.prog) (w := X.w) hh k2 i2 b its2.toArray i (by simp; omega)
      exact wpAny_pyNext_zipD2_end D D1 D2 hz hTI hTO ⟨h1, p⟩ ⟨rfl, h2, p2⟩ (by simp; omega) (Nat.le_refl _) (.inr rfl) fin
  self := fun A i s Q E st h => wpAny_pyIter_zip st.1 h
def iZipM (K : PySem.W.Frag) (ta : TA) : TI := fun σ H R => ta σ H fun vs H1 => ∃ k1 k2 a b xs ys, vs = [.ref a, .ref b] ∧ sqV k1 K H1 a xs ∧ sqV k2 K H1 b ys ∧ R (ItzM K k1 k2 a b) H1
theorem pi_zipM {X : Cx} {e e2 : Expr} {ta : TA} {p pos tpos : Pos} {elts : List Expr} {kk : Nat} (hg : Gl X "zip") (hm : X.mg "zip" = none) (ha : PA X [e, e2] ta)
    (hs : starEach [e, e2] X.env = (false, eval e X.env) :: starEach [e2] X.env := by rfl) (hpl : (backTo pos (starEach [e2] X.env)).any (·.1) = false := by rfl) :
    PI X (.Tuple elts kk tpos) (.Call (.Name "zip" p) [e, e2] [] pos) (iZipM X.K ta) := by
  refine ⟨fun pins s σ H R I h => Call_ (ld_blt I hg hm PyProof.Rows.boot_zip (PyProof.Rows.callWith_type1 (thn (ha.run pos pins s σ H _ I h) fun us s1 ⟨vs, H1, I1, r1, q1⟩ => ?_) hs hpl))⟩
  obtain ⟨k1, k2, a, b, xs, ys, rfl, hqx, hqy, q⟩ := q1
  cases r1 with
  | cons r rr =>
  cases rr with
  | cons r' rr =>
  cases rr
  cases r
  cases r'
  obtain ⟨its, rv, p1⟩ := hqx.at_ I1
  obtain ⟨its2, rv2, p2⟩ := hqy.at_ I1
  have la : a < s1.heap.objs.size := by obtain ⟨o, e, _⟩ := p1.obj; exact Heap.lt_size e
  have lb : b < s1.heap.objs.size := by obtain ⟨o, e, _⟩ := p2.obj; exact Heap.lt_size e
  have sep : ZipSep2 (s1.heap.objs.size + 4) (s1.heap.objs.size + 2) (s1.heap.objs.size + 3) s1.heap.objs.size (s1.heap.objs.size + 1) [s1.heap.objs.size, a] [s1.heap.objs.size + 1, b] :=
    zip_sep2 (fp1 := [a]) (fp2 := [b]) (fun c hc => by rw [List.mem_singleton.mp hc]; exact la) (fun c hc => by rw [List.mem_singleton.mp hc]; exact lb)
  have fresh5 : ∀ c, c ∈ [s1.heap.objs.size + 4, s1.heap.objs.size + 2, s1.heap.objs.size + 3, s1.heap.objs.size, s1.heap.objs.size + 1] → FpOk X pins H1 c := fun c hcm => by
    have hle : s1.heap.objs.size ≤ c := by
      rcases (by simpa using hcm : c = s1.heap.objs.size + 4 ∨ c = s1.heap.objs.size + 2 ∨ c = s1.heap.objs.size + 3 ∨ c = s1.heap.objs.size ∨ c = s1.heap.objs.size + 1) with z | z | z | z | z <;> omega
    exact I1.fpOk hle (I1.hok.fresh hle)
  have begins : ∀ (k : Bool) (l : Addr) (items : Array Value), ∃ o, Begins (.ref l) o (fun h => sqH k h l items) ∧ ∀ (h : Heap) (it : Addr), h.get? it = some o → sqI k h it l 0 := fun k l items => by
    cases k with
    | true => exact ⟨_, begins_list l items, fun h it e => ⟨_, e, rfl, rfl⟩⟩
    | false => exact ⟨_, begins_tuple l items, fun h it e => ⟨_, e, rfl, rfl⟩⟩
  obtain ⟨o1, B1, g1⟩ := begins k1 a its.toArray
  obtain ⟨o2, B2, g2⟩ := begins k2 b its2.toArray
  refine zip_begins2 B1 B2 p1 p2 fun h' hz hTI hTO e1 e2 hsz hk => wpAny_pyIter_zip hz ?_
  have I2 : Inv X pins σ H1 { s1 with heap := h' } := I1.kept (t' := s1.toks) hk
  exact ⟨s1.heap.objs.size + 4, [s1.heap.objs.size + 4, s1.heap.objs.size + 2, s1.heap.objs.size + 3, s1.heap.objs.size, s1.heap.objs.size + 1], _, _, H1, rfl, I2, turn_zipM sep (Nat.ne_of_lt la) (Nat.ne_of_lt (Nat.lt_succ_of_lt lb)), ⟨hz, hTI, ⟨_, _, hTO⟩, g1 _ _ e1, g2 _ _ e2⟩, fresh5, q⟩
end Ev


set_option maxHeartbeats 4000000
namespace Ev
open PySem

inductive Ty where | tInt | tBool | tStr | tTup | tLst | tOwn (c : Nat)
  deriving DecidableEq, Repr

inductive D where
  | non | bl (b : Bool) | int (i : Int) | str (s : List Nat)
  | tup (xs : List D) | lst (xs : List D) | dic (kvs : List (D × D))
  | fn (j : Nat) | cls (c : Nat) | exc (c : Nat) (a : D)
  deriving Repr, Inhabited

mutual
def toP : D → PyData
  | .non => .none | .bl b => .bool b | .int i => .int i | .str s => .str ⟨s.toArray⟩
  | .tup xs => .tuple (toPs xs) | .lst xs => .list (toPs xs)
  | .dic _ => .none | .fn _ => .none | .cls _ => .none | .exc _ _ => .none
def toPs : List D → List PyData
  | [] => []
  | x :: xs => toP x :: toPs xs
end
mutual
def plain : D → Bool
  | .non => true | .bl _ => true | .int _ => true | .str _ => true
  | .tup xs => plains xs | .lst xs => plains xs
  | .dic _ => false | .fn _ => false | .cls _ => false | .exc _ _ => false
def plains : List D → Bool
  | [] => true
  | x :: xs => plain x && plains xs
end
mutual
def dep : D → Nat
  | .tup xs => deps xs + 1 | .lst xs => deps xs + 1
  | _ => 0
def deps : List D → Nat
  | [] => 0
  | x :: xs => max (dep x) (deps xs)
end
/- Python's == on plain data -/
mutual
def eqD : D → D → Bool
  | .non, .non => true
  | .bl a, .bl b => a == b
  | .bl a, .int j => (if a then 1 else 0) == j
  | .int i, .bl b => i == (if b then 1 else 0)
  | .int i, .int j => i == j
  | .str x, .str y => x == y
  | .tup xs, .tup ys => eqDs xs ys
  | .lst xs, .lst ys => eqDs xs ys
  | _, _ => false
def eqDs : List D → List D → Bool
  | [], [] => true
  | x :: xs, y :: ys => eqD x y && eqDs xs ys
  | _, _ => false
end
/- both are of kinds that the order serves: alike at each place -/
mutual
def alk : D → D → Bool
  | .bl _, .bl _ => true
  | .int _, .int _ => true
  | .str _, .str _ => true
  | .tup xs, .tup ys => alks xs ys
  | .lst xs, .lst ys => alks xs ys
  | _, _ => false
def alks : List D → List D → Bool
  | x :: xs, y :: ys => alk x y && alks xs ys
  | _, _ => true
end
def ltN : List Nat → List Nat → Bool
  | [], [] => false
  | [], _ :: _ => true
  | _ :: _, [] => false
  | x :: xs, y :: ys => if x == y then ltN xs ys else x < y
mutual
def ltD : D → D → Bool
  | .bl a, .bl b => !a && b
  | .int i, .int j => i < j
  | .str x, .str y => ltN x y
  | .tup xs, .tup ys => ltDs xs ys
  | .lst xs, .lst ys => ltDs xs ys
  | _, _ => false
def ltDs : List D → List D → Bool
  | [], [] => false
  | [], _ :: _ => true
  | _ :: _, [] => false
  | x :: xs, y :: ys => if eqD x y then ltDs xs ys else ltD x y
end
/-- a stable sort by insertion: x goes ahead of the first one that is not below it -/
def ins {α : Type} (lt : α → α → Bool) (x : α) : List α → List α
  | [] => [x]
  | y :: ys => if lt y x then y :: ins lt x ys else x :: y :: ys
def isort {α : Type} (lt : α → α → Bool) : List α → List α
  | [] => []
  | x :: xs => ins lt x (isort lt xs)
def allAlk1 : List D → Bool
  | [] => true
  | x :: xs => alk x x && xs.all (fun y => alk x y) && allAlk1 xs
def neTup : D → Bool | .tup [] => false | _ => true
/-- what can be put in order: plain, alike, no empty tuple -/
def allAlk (xs : List D) : Bool := plains xs && allAlk1 xs && xs.all neTup

inductive RV where | fz (d : D) | ow (d : D)
  deriving Repr, Inhabited
def RV.d : RV → D | .fz d => d | .ow d => d
/-- a name's place: nothing, a frozen thing, one's own thing, a thing that the caller lent -/
inductive Slot where | non | fz (d : D) | ow (d : D) | io (d : D)
  deriving Repr, Inhabited
abbrev Rho := List Slot
inductive Res (α : Type) where | ok (a : α) | exc (c : Nat) (d : D) | bad (why : Nat)
  deriving Repr, Inhabited
@[inline] def Res.bind {α β : Type} (x : Res α) (f : α → Res β) : Res β :=
  match x with | .ok a => f a | .exc c d => .exc c d | .bad n => .bad n
instance : Monad Res where
  pure := Res.ok
  bind := Res.bind
def Res.of {α : Type} (n : Nat) : Option α → Res α
  | some a => .ok a
  | none => .bad n

inductive Op where
  | add | sub | mul | fdiv | mod | pow | neg | not
  | eq | ne | lt | le | gt | ge | is | isnot | in_ | notin
  | ix | slc (lo hi : Bool) | rev
  | abs | all | any | dct | int | isi (t : Ty) | len | lst | max1 | max2 | min1 | min2 | srt | str | sum | tup
  | lrg | trg | lset | sset | lzip | sitm | sval
  | get | index | count | join | split | limit
  deriving DecidableEq, Repr

def szL : Nat := 16777216
def seqD : D → Option (List D)
  | .tup xs => some xs | .lst xs => some xs | _ => none
/-- what a for or a comprehension walks -/
def itemsD : D → Option (List D)
  | .tup xs => some xs | .lst xs => some xs
  | .str s => some (s.map fun c => .str [c])
  | .dic kvs => some (kvs.map (·.1))
  | _ => none
/-- what a loop walks here -/
def walkD : D → Option (List D)
  | .tup xs => some xs | .lst xs => some xs
  | .str s => some (s.map fun c => .str [c])
  | _ => none
def sIx (n d : Nat) : Option Int → Nat
  | none => d
  | some v => if v < 0 then (v + (n : Int)).toNat else min v.toNat n
def cutL {α : Type} (xs : List α) (lo hi : Option Int) : List α := (xs.drop (sIx xs.length 0 lo)).take (sIx xs.length xs.length hi - sIx xs.length 0 lo)
def ixL {α : Type} (xs : List α) (i : Int) : Option α :=
  if 0 ≤ i then xs[i.toNat]? else if -(xs.length : Int) ≤ i then xs[(i + xs.length).toNat]? else none
def cutD (d : D) (lo hi : Option Int) : Option RV :=
  match d with
  | .tup xs => some (.fz (.tup (cutL xs lo hi)))
  | .lst xs => some (.ow (.lst (cutL xs lo hi)))
  | .str s => some (.fz (.str (cutL s lo hi)))
  | _ => none
def boolsD : List D → Option (List Bool)
  | [] => some []
  | .bl b :: r => (boolsD r).map (b :: ·)
  | _ => none
def intsD : List D → Option (List Int)
  | [] => some []
  | .int i :: r => (intsD r).map (i :: ·)
  | _ => none
def strsD : List D → Option (List (List Nat))
  | [] => some []
  | .str s :: r => (strsD r).map (s :: ·)
  | _ => none
/- a dict's keys: numbers, texts, tuples of keys -/
mutual
def keyOk : D → Bool
  | .int _ => true | .str _ => true | .tup xs => keyOks xs | _ => false
def keyOks : List D → Bool
  | [] => true
  | x :: xs => keyOk x && keyOks xs
end
def dget : List (D × D) → D → Option D
  | [], _ => none
  | (k, v) :: r, x => if eqD k x then some v else dget r x
def dput : List (D × D) → D → D → List (D × D)
  | [], x, w => [(x, w)]
  | (k, v) :: r, x, w => if eqD k x then (k, w) :: r else (k, v) :: dput r x w
def isTup : D → Bool | .tup _ => true | _ => false
/-- the keys of one dict are all tuples, or none is -/
def keysAs (kvs : List (D × D)) (k : D) : Bool := keyOk k && dep k ≤ 6 && kvs.all fun p => isTup p.1 == isTup k
def dputs : List (D × D) → List D → Option (List (D × D))
  | acc, [] => some acc
  | acc, .tup [k, v] :: r => if keysAs acc k && acc.length < szL then dputs (dput acc k v) r else none
  | _, _ => none
def nodupD : List D → Bool
  | [] => true
  | x :: xs => xs.all (fun y => !eqD x y) && nodupD xs
/-- the members, each once, in order of the first one -/
def dedup : List D → List D → List D
  | _, [] => []
  | seen, x :: xs => if seen.any (fun y => eqD y x) then dedup seen xs else x :: dedup (x :: seen) xs
def strI (i : Int) : List Nat := (Str.ofString (toString i)).cps.toList
def splitN (c : Nat) : List Nat → List Nat → List (List Nat)
  | acc, [] => [acc.reverse]
  | acc, x :: r => if x == c then acc.reverse :: splitN c [] r else splitN c (x :: acc) r
def joinN (sep : List Nat) : List (List Nat) → List Nat
  | [] => []
  | [x] => x
  | x :: r => x ++ sep ++ joinN sep r
def findI : List D → D → Nat → Option Nat
  | [], _, _ => none
  | y :: ys, x, n => if eqD y x then some n else findI ys x (n + 1)
def mulOk (i j : Int) : Bool := i.natAbs.log2 < 63 || j.natAbs.log2 < 63 || (i.natAbs.log2 < 400000 && j.natAbs.log2 < 400000)
def minBy (lt : D → D → Bool) (x : D) (xs : List D) : D := xs.foldl (fun a y => if lt y a then y else a) x
def maxBy (lt : D → D → Bool) (x : D) (xs : List D) : D := xs.foldl (fun a y => if lt a y then y else a) x
def rngD (lo : Int) : Nat → List D
  | 0 => []
  | n + 1 => .int lo :: rngD (lo + 1) n
def tyIs : Ty → D → Option Bool
  | .tInt, .int _ => some true | .tInt, .bl _ => some true | .tInt, _ => some false
  | .tBool, .bl _ => some true | .tBool, _ => some false
  | .tStr, .str _ => some true | .tStr, _ => some false
  | .tTup, .tup _ => some true | .tTup, _ => some false
  | .tLst, .lst _ => some true | .tLst, _ => some false
  | .tOwn _, _ => none
def eqOk (a b : D) : Bool := plain a && plain b && min (dep a) (dep b) ≤ 60
def ltOk (a b : D) : Bool := plain a && plain b && alk a b && min (dep a) (dep b) ≤ 60
/-- a is c, c None or a truth value -/
def isK (a c : D) : Option Bool := match a with
  | .non => some (match c with | .non => true | _ => false)
  | .bl b => some (match c with | .bl k => b == k | _ => false)
  | .int _ => some false | .str _ => some false | .tup _ => some false | .lst _ => some false
  | _ => none
def b2d (b : Bool) : Option RV := some (.fz (.bl b))
def fAdd : List D → Option RV
  | [.int i, .int j] => some (.fz (.int (i + j)))
  | [.str x, .str y] => if x.length + y.length ≤ szL then some (.fz (.str (x ++ y))) else none
  | [.tup xs, .tup ys] => if xs.length + ys.length ≤ szL then some (.fz (.tup (xs ++ ys))) else none
  | [.lst xs, .lst ys] => if xs.length + ys.length ≤ szL then some (.ow (.lst (xs ++ ys))) else none
  | _ => none
def fSub : List D → Option RV
  | [.int i, .int j] => some (.fz (.int (i - j)))
  | _ => none
def fMul : List D → Option RV
  | [.int i, .int j] => if mulOk i j then some (.fz (.int (i * j))) else none
  | [.str l, .int k] => if !l.isEmpty && 2 ≤ k && k ≤ 1000 && l.length ≤ 1000 then some (.fz (.str (List.replicate k.toNat l).flatten)) else none
  | [.lst xs, .int k] => if k.natAbs < 10000000 && xs.length * k.toNat ≤ szL then some (.ow (.lst (List.replicate k.toNat xs).flatten)) else none
  | [.tup xs, .int k] => if !xs.isEmpty && 2 ≤ k && k ≤ 1000 && xs.length ≤ 1000 then some (.fz (.tup (List.replicate k.toNat xs).flatten)) else none
  | _ => none
def fFdiv : List D → Option RV
  | [.int i, .int j] => if 0 < j && j.natAbs.log2 < 8000 then some (.fz (.int (i / j))) else none
  | _ => none
def fMod : List D → Option RV
  | [.int i, .int j] => if 0 < j then some (.fz (.int (i % j))) else none
  | _ => none
def fPow : List D → Option RV
  | [.int i, .int j] => if 0 ≤ j && j ≤ 1000000 && i.natAbs.log2 < 63 then some (.fz (.int (i ^ j.toNat))) else none
  | _ => none
def fNeg : List D → Option RV
  | [.int i] => some (.fz (.int (-i)))
  | _ => none
def fNot : List D → Option RV
  | [.bl b] => b2d (!b)
  | _ => none
def fEq : List D → Option RV
  | [a, b] => if eqOk a b then b2d (eqD a b) else none
  | _ => none
def fNe : List D → Option RV
  | [a, b] => if eqOk a b then b2d (!eqD a b) else none
  | _ => none
def fLt : List D → Option RV
  | [a, b] => if ltOk a b then b2d (ltD a b) else none
  | _ => none
def fGt : List D → Option RV
  | [a, b] => if ltOk a b then b2d (ltD b a) else none
  | _ => none
def fLe : List D → Option RV
  | [a, b] => if ltOk a b then b2d (!ltD b a) else none
  | _ => none
def fGe : List D → Option RV
  | [a, b] => if ltOk a b then b2d (!ltD a b) else none
  | _ => none
def fIs : List D → Option RV
  | [a, .non] => (isK a .non).bind b2d
  | [a, .bl b] => (isK a (.bl b)).bind b2d
  | _ => none
def fIsnot : List D → Option RV
  | [a, .non] => (isK a .non).bind fun b => b2d (!b)
  | [a, .bl b] => (isK a (.bl b)).bind fun b => b2d (!b)
  | _ => none
/-- a number or a text -/
def keyS : D → Bool | .int _ => true | .str _ => true | _ => false
/-- a dict of numbers and texts, and such a key -/
def skOk (kvs : List (D × D)) (k : D) : Bool := keyS k && kvs.all fun p => keyS p.1
/-- a dict of tuples, and such a key -/
def tkOk (kvs : List (D × D)) (k : D) : Bool := isTup k && keyOk k && decide (dep k ≤ 6) && kvs.all fun p => isTup p.1
def dkOk (kvs : List (D × D)) (k : D) : Bool := skOk kvs k || tkOk kvs k
def fIn : List D → Option RV
  | [x, .lst ys] => if plain x && plains ys && dep x ≤ 50 then b2d (ys.any fun y => eqD y x) else none
  | [x, .tup ys] => if plain x && plains ys && dep x ≤ 50 then b2d (ys.any fun y => eqD y x) else none
  | [.str [c], .str s] => b2d (s.contains c)
  | [k, .dic kvs] => if dkOk kvs k then b2d (dget kvs k).isSome else none
  | _ => none
def fNotin : List D → Option RV
  | [x, .lst ys] => if plain x && plains ys && dep x ≤ 50 then b2d (!ys.any fun y => eqD y x) else none
  | [x, .tup ys] => if plain x && plains ys && dep x ≤ 50 then b2d (!ys.any fun y => eqD y x) else none
  | [.str [c], .str s] => b2d (!s.contains c)
  | [k, .dic kvs] => if dkOk kvs k then b2d (!(dget kvs k).isSome) else none
  | _ => none
def fIx : List D → Option RV
  | [.lst xs, .int i] => (ixL xs i).map .fz
  | [.tup xs, .int i] => (ixL xs i).map .fz
  | [.str s, .int i] => (ixL s i).map fun c => .fz (.str [c])
  | [.dic kvs, k] => if dkOk kvs k then (dget kvs k).map .fz else none
  | _ => none
def fSlc : Bool → Bool → List D → Option RV
  | false, false, [d] => cutD d none none
  | true, false, [d, .int i] => cutD d (some i) none
  | false, true, [d, .int j] => cutD d none (some j)
  | true, true, [d, .int i, .int j] => cutD d (some i) (some j)
  | _, _, _ => none
def fRev : List D → Option RV
  | [.tup xs] => some (.fz (.tup xs.reverse))
  | [.lst xs] => some (.ow (.lst xs.reverse))
  | _ => none
def fAbs : List D → Option RV
  | [.int i] => some (.fz (.int (if i < 0 then -i else i)))
  | _ => none
def fAll : List D → Option RV
  | [.lst xs] => (boolsD xs).map fun bs => .fz (.bl (bs.all id))
  | _ => none
def fAny : List D → Option RV
  | [.lst xs] => (boolsD xs).map fun bs => .fz (.bl (bs.any id))
  | _ => none
/-- pairs, put one by one; keys numbers or texts -/
def dprs : List (D × D) → List D → Option (List (D × D))
  | acc, [] => some acc
  | acc, .tup [k, v] :: r => if keyS k then dprs (dput acc k v) r else none
  | _, _ => none
def fDct : List D → Option RV
  | [.lst xs] => if xs.length ≤ 100000 then (dprs [] xs).map fun kvs => .ow (.dic kvs) else none
  | _ => none
def fInt : List D → Option RV
  | [.int i] => some (.fz (.int i))
  | _ => none
def fIsi (t : Ty) : List D → Option RV
  | [d] => if plain d then (tyIs t d).map fun b => .fz (.bl b) else none
  | _ => none
def fLen : List D → Option RV
  | [.lst xs] => some (.fz (.int xs.length))
  | [.tup xs] => some (.fz (.int xs.length))
  | [.str xs] => some (.fz (.int xs.length))
  | [.dic _] => none
  | _ => none
def fLst : List D → Option RV
  | [.lst xs] => some (.ow (.lst xs))
  | [.tup xs] => some (.ow (.lst xs))
  | _ => none
def fMax2 : List D → Option RV
  | [.int i, .int j] => some (.fz (.int (if j > i then j else i)))
  | _ => none
def fMin2 : List D → Option RV
  | [.int i, .int j] => some (.fz (.int (if j < i then j else i)))
  | _ => none
def fMax1 : List D → Option RV
  | [.lst xs] => match intsD xs with | some (i :: is) => some (.fz (.int (is.foldl (fun a y => if a < y then y else a) i))) | _ => none
  | _ => none
def fMin1 : List D → Option RV
  | [.lst xs] => match intsD xs with | some (i :: is) => some (.fz (.int (is.foldl (fun a y => if y < a then y else a) i))) | _ => none
  | _ => none
/-- a list, a tuple, or a dict's keys -/
def seqK : D → Option (List D)
  | .tup xs => some xs | .lst xs => some xs | .dic kvs => some (kvs.map (·.1)) | _ => none
def fSrt : List D → Option RV
  | [d] => match seqK d with | some xs => if allAlk xs && deps xs ≤ 50 then some (.ow (.lst (isort ltD xs))) else none | _ => none
  | _ => none
def fStr : List D → Option RV
  | [.int i] => if i.natAbs.log2 < 1920 && (strI i).length ≤ szL then some (.fz (.str (strI i))) else none
  | [.str l] => some (.fz (.str l))
  | _ => none
def fSum : List D → Option RV
  | [.lst xs] => (intsD xs).map fun is => .fz (.int is.sum)
  | [.tup _] => none
  | _ => none
def fTup : List D → Option RV
  | [.lst xs] => some (.fz (.tup xs))
  | [.tup xs] => some (.fz (.tup xs))
  | _ => none
def fLrg : List D → Option RV
  | [.int n] => if -10000000 ≤ n && n ≤ 10000000 then some (.ow (.lst (rngD 0 n.toNat))) else none
  | _ => none
def fTrg : List D → Option RV
  | [.int n] => if -10000000 ≤ n && n ≤ 10000000 then some (.fz (.tup (rngD 0 n.toNat))) else none
  | _ => none
def fLset : List D → Option RV
  | [.tup xs] => if xs.all keyS && xs.length ≤ 4000 then some (.fz (.int (dedup [] xs).length)) else none
  | _ => none
def fSset : List D → Option RV
  | [d] => match seqD d with | some xs => if keyOks xs && deps xs ≤ 6 && allAlk xs then some (.ow (.lst (isort ltD (dedup [] xs)))) else none | none => none
  | _ => none
def fLzip : List D → Option RV
  | [a, b] => match seqD a, seqD b with | some xs, some ys => some (.ow (.lst ((xs.zip ys).map fun p => .tup [p.1, p.2]))) | _, _ => none
  | _ => none
def fSitm : List D → Option RV
  | [.dic kvs] => if allAlk (kvs.map (·.1)) && plains (kvs.map (·.2)) then some (.ow (.lst (isort ltD (kvs.map fun p => .tup [p.1, p.2])))) else none
  | _ => none
def fSval : List D → Option RV
  | [.dic kvs] => (intsD (kvs.map (·.2))).map fun is => .fz (.int is.sum)
  | _ => none
def fGet : List D → Option RV
  | [.dic kvs, k, x] => if dkOk kvs k then some (.fz ((dget kvs k).getD x)) else none
  | _ => none
def fIndex : List D → Option RV
  | [d, x] => match seqD d with | some ys => if plain x && plains ys && dep x ≤ 50 then (findI ys x 0).map fun n => .fz (.int n) else none | none => none
  | _ => none
def fCount : List D → Option RV
  | [d, x] => match seqD d with | some ys => if plain x && plains ys && dep x ≤ 50 then some (.fz (.int (ys.filter fun y => eqD y x).length)) else none | none => none
  | _ => none
def fSplit : List D → Option RV
  | [.str s, .str [c]] => if s.length + 2 ≤ szL then some (.ow (.lst ((splitN c [] s).map .str))) else none
  | _ => none
def fJoin : List D → Option RV
  | [.str sep, .lst xs] => match strsD xs with | some ss => if (joinN sep ss).length + sep.length ≤ 1000000 then some (.fz (.str (joinN sep ss))) else none | none => none
  | _ => none
def fLimit : List D → Option RV
  | [.exc _ a] => some (.fz a)
  | _ => none
def opF : Op → List D → Option RV
  | .add => fAdd
  | .sub => fSub
  | .mul => fMul
  | .fdiv => fFdiv
  | .mod => fMod
  | .pow => fPow
  | .neg => fNeg
  | .not => fNot
  | .eq => fEq
  | .ne => fNe
  | .lt => fLt
  | .gt => fGt
  | .le => fLe
  | .ge => fGe
  | .is => fIs
  | .isnot => fIsnot
  | .in_ => fIn
  | .notin => fNotin
  | .ix => fIx
  | .slc a b => fSlc a b
  | .rev => fRev
  | .abs => fAbs
  | .all => fAll
  | .any => fAny
  | .dct => fDct
  | .int => fInt
  | .isi t => fIsi t
  | .len => fLen
  | .lst => fLst
  | .max2 => fMax2
  | .min2 => fMin2
  | .max1 => fMax1
  | .min1 => fMin1
  | .srt => fSrt
  | .str => fStr
  | .sum => fSum
  | .tup => fTup
  | .lrg => fLrg
  | .trg => fTrg
  | .lset => fLset
  | .sset => fSset
  | .lzip => fLzip
  | .sitm => fSitm
  | .sval => fSval
  | .get => fGet
  | .index => fIndex
  | .count => fCount
  | .split => fSplit
  | .join => fJoin
  | .limit => fLimit
end Ev


set_option maxHeartbeats 4000000
namespace Ev
mutual
inductive Tg where
  | nm (i : Nat) | tp (ts : Tgs)
inductive Tgs where
  | n | c (t : Tg) (ts : Tgs)
end
inductive FW where | word (w : List Nat) | many (w : List Nat)
inductive KOp where | srt | min
mutual
inductive Ex where
  | var (i : Nat) | con (d : D) | glo (g : Nat)
  | tup (es : Exs) | lst (es : Exs) | dic (es : Exs)
  | op (o : Op) (es : Exs)
  | slc (a : Ex) (lo hi : Exs)
  | chn (o p : Op) (a b c : Ex)
  | not (a : Ex) | and (a b : Ex) | or (a b : Ex) | ite (c a b : Ex)
  | call (j : Nat) (es : Exs) | cav (i : Nat) (es : Exs)
  | pop (i : Nat) (es : Exs)
  | get (i : Nat) (k x : Ex)
  | key (o : KOp) (a : Ex) (v : Nat) (fv : List Nat) (k : Ex)
  | lc (e : Ex) (gs : Gens) | dc (k v : Ex) (gs : Gens)
  | flt (fv : List Nat) (e : Ex)
  | nop
inductive Exs where
  | n | c (e : Ex) (es : Exs)
inductive It where
  | sq (e : Ex) | rg (es : Exs) | en (e : Ex) | zp (a b : Ex) | ez (a b : Ex) | im (e : Ex) | vl (e : Ex)
inductive Gens where
  | n | c (tg : Tg) (it : It) (f : Exs) (gs : Gens)
end
mutual
inductive St where
  | asg (tg : Tg) (e : Ex)
  | par (ts : Tgs) (es : Exs)
  | six (i : Nat) (k e : Ex)
  | six2 (i : Nat) (k l e : Ex)
  | aug (i : Nat) (e : Ex)
  | app (i : Nat) (e : Ex)
  | upd (i : Nat) (e : Ex)
  | exp (e : Ex)
  | iff (c : Ex) (a b : Sts)
  | whl (c : Ex) (b : Sts)
  | for (tg : Tg) (it : It) (b : Sts)
  | ret (e : Ex) | retN | cont | pass
  | raise (c : Nat) (es : Exs)
  | raiseM (c : Nat) (e : Ex)
  | nop
inductive Sts where
  | n | c (s : St) (ss : Sts)
end
structure FD where
  params : Nat
  slots : Nat
  refs : List Bool
  body : Sts
structure Tb where
  fns : List FD
  gls : List D
  wmax : Nat
  flt : List (Nat × FW)
abbrev CallF := Nat → List Slot → Res (RV × List Slot)
inductive Opd where | v (d : D) | s (i : Nat)
inductive Fl where | nx | ct | rt (r : RV)
  deriving Repr
def slotD (ρ : Rho) (i : Nat) : Res D := match ρ[i]? with
  | some (.fz d) => .ok d
  | some (.ow d) => .ok d
  | some (.io d) => .ok d
  | _ => .bad 1
def Opd.get (ρ : Rho) : Opd → Res D
  | .v d => .ok d
  | .s i => slotD ρ i
def getAll (ρ : Rho) : List Opd → Res (List D)
  | [] => .ok []
  | o :: os => (o.get ρ).bind fun d => (getAll ρ os).bind fun ds => .ok (d :: ds)
/-- what a name owns or was lent; it changes -/
def ownAt (ρ : Rho) (i : Nat) : Res D := match ρ[i]? with
  | some (.ow d) => .ok d
  | some (.io d) => .ok d
  | _ => .bad 60
def putAt (ρ : Rho) (i : Nat) (d : D) : Rho := match ρ[i]? with
  | some (.io _) => ρ.set i (.io d)
  | _ => ρ.set i (.ow d)
/-- a name read where its value may be kept -/
def escape (ρ : Rho) (i : Nat) : Res (RV × Rho) := match ρ[i]? with
  | some (.fz d) => .ok (.fz d, ρ)
  | some (.ow d) => .ok (.fz d, ρ.set i (.fz d))
  | _ => .bad 2
def RV.slot : RV → Slot | .fz d => .fz d | .ow d => .ow d
mutual
def setTg : Tg → RV → Rho → Res Rho
  | .nm i, r, ρ => match ρ[i]? with
    | none => .bad 3
    | some (.io _) => .bad 62
    | some _ => .ok (ρ.set i r.slot)
  | .tp ts, r, ρ => match r.d with
    | .tup xs => setTgs ts xs ρ
    | _ => .bad 4
def setTgs : Tgs → List D → Rho → Res Rho
  | .n, [], ρ => .ok ρ
  | .c t ts, x :: xs, ρ => (setTg t (.fz x) ρ).bind fun ρ1 => setTgs ts xs ρ1
  | _, _, _ => .bad 5
end
mutual
def Tg.vars : Tg → List Nat
  | .nm i => [i] | .tp ts => ts.vars
def Tgs.vars : Tgs → List Nat
  | .n => [] | .c t ts => t.vars ++ ts.vars
end
def Gens.vars : Gens → List Nat
  | .n => [] | .c t _ _ gs => t.vars ++ gs.vars
/-- a block's own names: none of them owns a thing outside -/
def noOwn (ρ : Rho) (is : List Nat) : Bool := is.all fun i => match ρ[i]? with
  | some .non => true
  | some (.fz _) => true
  | _ => false
/-- they begin without values -/
def hideL (ρ : Rho) : List Nat → Rho
  | [] => ρ
  | i :: is => (hideL ρ is).set i .non
/-- and the names outside come back -/
def unhide (ρ0 ρ : Rho) : List Nat → Rho
  | [] => ρ
  | i :: is => (unhide ρ0 ρ is).set i (ρ0[i]?.getD .non)
def Slot.frz : Slot → Slot | .ow d => .fz d | s => s
def Slot.seen : Slot → Slot | .ow d => .fz d | .io _ => .non | s => s
/-- what a lambda sees: the captured names; and what is left behind it -/
def captFrom (fv : List Nat) : Nat → Rho → Rho
  | _, [] => []
  | i, s :: r => (if fv.contains i then s.seen else .non) :: captFrom fv (i + 1) r
def capt (ρ : Rho) (fv : List Nat) : Rho := captFrom fv 0 ρ
def frzFrom (fv : List Nat) : Nat → Rho → Rho
  | _, [] => []
  | i, s :: r => (if fv.contains i then s.frz else s) :: frzFrom fv (i + 1) r
def frzIn (ρ : Rho) (fv : List Nat) : Rho := frzFrom fv 0 ρ
def foldR {σ α : Type} (f : σ → α → Res σ) : σ → List α → Res σ
  | s, [] => .ok s
  | s, x :: xs => (f s x).bind fun s1 => foldR f s1 xs
def enumD (n : Int) : List D → List D
  | [] => []
  | x :: xs => .tup [.int n, x] :: enumD (n + 1) xs
def zipD : List D → List D → List D
  | x :: xs, y :: ys => .tup [x, y] :: zipD xs ys
  | _, _ => []
def rangeD : List D → Option (List D)
  | [.int n] => if -10000000 ≤ n && n ≤ 10000000 then some (rngD 0 n.toNat) else none
  | [.int a, .int b] => if -10000000 ≤ a && a ≤ 10000000 && -10000000 ≤ b && b ≤ 10000000 then some (rngD a (b - a).toNat) else none
  | _ => none
/-- an operand: a name is read late -/
def opnd (e : Ex) (v : Rho → Res (RV × Rho)) (ρ : Rho) : Res (Opd × Rho) := match e with
  | .var i => (slotD ρ i).bind fun _ => .ok (.s i, ρ)
  | _ => (v ρ).bind fun (r, ρ1) => .ok (.v r.d, ρ1)
def pairUp : List D → List D
  | k :: v :: r => .tup [k, v] :: pairUp r
  | _ => []
def refVars : List Bool → Exs → List Nat
  | true :: bs, .c (.var i) es => i :: refVars bs es
  | _ :: bs, .c _ es => refVars bs es
  | _, _ => []
def nodupN : List Nat → Bool
  | [] => true
  | x :: xs => !xs.contains x && nodupN xs
/-- by-reference arguments: their slots are handed over, and taken back -/
def putBack : List Bool → Exs → List Slot → Rho → Res Rho
  | true :: rs, .c (.var i) es, s :: ss, ρ => match s with
    | .io d => putBack rs es ss (putAt ρ i d)
    | _ => .bad 9
  | false :: rs, .c _ es, _ :: ss, ρ => putBack rs es ss ρ
  | [], .n, [], ρ => .ok ρ
  | _, _, _, _ => .bad 10
def faultW (ws : List (Nat × FW)) (c : Nat) (d : D) : Res D := match ws.lookup c with
  | some (.word w) => .ok (.str w)
  | some (.many w) => match d with
    | .int i => if i.natAbs.log2 < 1000 && decide ((strI i).length ≤ 2000) then .ok (.str (w ++ strI i)) else .bad 11
    | _ => .bad 11
  | none => .bad 12
def asBl : RV → Res Bool
  | .fz (.bl b) => .ok b
  | _ => .bad 13
def asInt : RV → Res Int
  | .fz (.int i) => .ok i
  | _ => .bad 67
def Res.okOnly {α : Type} : Res α → Res α
  | .exc _ _ => .bad 14
  | r => r
/-- each one's key -/
def keysR (f : D → Res D) : List D → Res (List D)
  | [] => .ok []
  | x :: xs => (f x).bind fun k => (keysR f xs).bind fun ks => .ok (k :: ks)
section
variable (T : Tb) (F : CallF)
mutual
def ev : Ex → Rho → Res (RV × Rho)
  | .var i, ρ => escape ρ i
  | .con d, ρ => .ok (.fz d, ρ)
  | .glo g, ρ => match T.gls[g]? with | some d => .ok (.fz d, ρ) | none => .bad 15
  | .tup es, ρ => (evFs es ρ).bind fun (ds, ρ1) => if ds.length ≤ szL then .ok (.fz (.tup ds), ρ1) else .bad 64
  | .lst es, ρ => (evFs es ρ).bind fun (ds, ρ1) => if ds.length ≤ szL then .ok (.ow (.lst ds), ρ1) else .bad 64
  | .dic es, ρ => (evFs es ρ).bind fun (ds, ρ1) => match ds with
    | [] => .ok (.ow (.dic []), ρ1)
    | [k, x] => if isTup k && keyOk k && decide (dep k ≤ 6) then .ok (.ow (.dic [(k, x)]), ρ1) else .bad 16
    | _ => .bad 16
  | .op o es, ρ => (evOs es ρ).bind fun (os, ρ1) => (getAll ρ1 os).bind fun ds => match opF o ds with | some r => .ok (r, ρ1) | none => .bad 17
  | .slc a lo hi, ρ => (opnd a (ev a) ρ).bind fun (x, ρ1) => (evP lo ρ1).bind fun (l, ρ2) => (evP hi ρ2).bind fun (u, ρ3) => (x.get ρ3).bind fun d => match cutD d l u with | some r => .ok (r, ρ3) | none => .bad 66
  | .chn o p a b c, ρ => (opnd a (ev a) ρ).bind fun (x, ρ1) => (opnd b (ev b) ρ1).bind fun (y, ρ2) => (x.get ρ2).bind fun dx => (y.get ρ2).bind fun dy =>
      match opF o [dx, dy] with
      | some (.fz (.bl true)) => (opnd c (ev c) ρ2).bind fun (z, ρ3) => (z.get ρ3).bind fun dz => (y.get ρ3).bind fun dy2 => match opF p [dy2, dz] with | some (.fz (.bl k)) => .ok (.fz (.bl k), ρ3) | _ => .bad 18
      | some (.fz (.bl false)) => .ok (.fz (.bl false), ρ2)
      | _ => .bad 19
  | .not a, ρ => (ev a ρ).bind fun (r, ρ1) => (asBl r).bind fun k => .ok (.fz (.bl (!k)), ρ1)
  | .and a b, ρ => (ev a ρ).bind fun (r, ρ1) => (asBl r).bind fun k => if k then (ev b ρ1).bind fun (r2, ρ2) => (asBl r2).bind fun k2 => .ok (.fz (.bl k2), ρ2) else .ok (.fz (.bl false), ρ1)
  | .or a b, ρ => (ev a ρ).bind fun (r, ρ1) => (asBl r).bind fun k => if k then .ok (.fz (.bl true), ρ1) else (ev b ρ1).bind fun (r2, ρ2) => (asBl r2).bind fun k2 => .ok (.fz (.bl k2), ρ2)
  | .ite c a b, ρ => (ev c ρ).bind fun (r, ρ1) => (asBl r).bind fun k => if k then ev a ρ1 else ev b ρ1
  | .call j es, ρ => match T.fns[j]? with
    | some fd => if !(nodupN (refVars fd.refs es) && fd.refs.length == fd.params) then .bad 63 else (evAs fd.refs es ρ).bind fun (ss, ρ1) => (F j ss).bind fun (r, outs) => (putBack fd.refs es outs ρ1).bind fun ρ2 => .ok (r, ρ2)
    | none => .bad 20
  | .cav i es, ρ => (slotD ρ i).bind fun f => match f with
    | .fn j => match T.fns[j]? with
      | some fd => (evFs es ρ).bind fun (ds, ρ1) => if ds.length = fd.params then (F j (ds.map .fz)).bind fun (r, _) => .ok (r, ρ1) else .bad 21
      | none => .bad 22
    | _ => .bad 23
  | .get i k x, ρ => (slotD ρ i).bind fun o0 => match o0 with
    | .dic _ => (ev k ρ).bind fun (r, ρ1) => (ev x ρ1).bind fun (q, ρ2) => (slotD ρ2 i).bind fun o => match o with
      | .dic kvs => if dkOk kvs r.d then .ok (.fz ((dget kvs r.d).getD q.d), ρ2) else .bad 69
      | _ => .bad 69
    | _ => .bad 69
  | .pop i es, ρ => (evFs es ρ).bind fun (ds, ρ1) => (ownAt ρ1 i).bind fun o => match o with
    | .lst xs => match ds with
      | [] => match xs.getLast? with | some x => .ok (.fz x, putAt ρ1 i (.lst xs.dropLast)) | none => .bad 24
      | [.int k] => if k == 0 then match xs with | x :: r => .ok (.fz x, putAt ρ1 i (.lst r)) | [] => .bad 25 else .bad 26
      | _ => .bad 27
    | _ => .bad 28
  | .key o a v fv k, ρ => (ev a ρ).bind fun (r, ρ1) => match seqD r.d with
    | some xs => (keysR (fun x => (ev k ((capt ρ1 fv).set v (.fz x))).okOnly.bind fun (q, _) => .ok q.d) xs).bind fun ks =>
        if allAlk ks && decide (deps ks ≤ 50) && decide (v < ρ1.length) && decide (xs.length ≤ 100000) then
          match o with
          | .srt => .ok (.ow (.lst ((isort (fun (p q : D × D) => ltD p.1 q.1) (ks.zip xs)).map (·.2))), frzIn ρ1 fv)
          | .min => .bad 29
        else .bad 30
    | none => .bad 31
  | .lc e gs, ρ => match gs with
    | .n => .bad 65
    | .c tg it f gs' => (evIt it ρ).bind fun (xs, ρ1) => if !noOwn ρ1 (Gens.c tg it f gs').vars then .bad 7 else
      (foldR (fun (st : Rho × List D) x => (setTg tg (.fz x) (hideL st.1 (Gens.c tg it f gs').vars)).bind fun ρ2 => (evC f ρ2).bind fun (b, ρ3) => if b then evG gs' (fun st => (ev e st.1).bind fun (r, ρ2) => if st.2.length < szL then .ok (ρ2, st.2 ++ [r.d]) else .bad 32) (ρ3, st.2) else .ok (ρ3, st.2)) (ρ1, []) xs).okOnly.bind fun (ρ3, ds) =>
      .ok (.ow (.lst ds), unhide ρ1 ρ3 (Gens.c tg it f gs').vars)
  | .dc k v gs, ρ => match gs with
    | .n => .bad 65
    | .c tg it f gs' => (evIt it ρ).bind fun (xs, ρ1) => if !noOwn ρ1 (Gens.c tg it f gs').vars then .bad 7 else
      (foldR (fun (st : Rho × List (D × D)) x => (setTg tg (.fz x) (hideL st.1 (Gens.c tg it f gs').vars)).bind fun ρ2 => (evC f ρ2).bind fun (b, ρ3) => if b then (ev k ρ3).bind fun (rk, ρ4) => (ev v ρ4).bind fun (rv, ρ5) => if keyS rk.d && decide (st.2.length < szL) then .ok (ρ5, dput st.2 rk.d rv.d) else .bad 32 else .ok (ρ3, st.2)) (ρ1, []) xs).okOnly.bind fun (ρ4, kvs) =>
      .ok (.ow (.dic kvs), unhide ρ1 ρ4 (Gens.c tg it f gs').vars)
  | .flt fv e, ρ => match ev e (capt ρ fv) with
    | .ok _ => .ok (.fz (.str []), frzIn ρ fv)
    | .exc c d => (faultW T.flt c d).bind fun w => .ok (.fz w, frzIn ρ fv)
    | .bad n => .bad n
  | .nop, _ => .bad 99
def evOs : Exs → Rho → Res (List Opd × Rho)
  | .n, ρ => .ok ([], ρ)
  | .c e es, ρ => (opnd e (ev e) ρ).bind fun (o, ρ1) => (evOs es ρ1).bind fun (os, ρ2) => .ok (o :: os, ρ2)
def evFs : Exs → Rho → Res (List D × Rho)
  | .n, ρ => .ok ([], ρ)
  | .c e es, ρ => (ev e ρ).bind fun (r, ρ1) => (evFs es ρ1).bind fun (ds, ρ2) => .ok (r.d :: ds, ρ2)
/-- a slice's part -/
def evP : Exs → Rho → Res (Option Int × Rho)
  | .n, ρ => .ok (none, ρ)
  | .c e _, ρ => (ev e ρ).bind fun (r, ρ1) => (asInt r).bind fun i => .ok (some i, ρ1)
def evAs : List Bool → Exs → Rho → Res (List Slot × Rho)
  | [], .n, ρ => .ok ([], ρ)
  | b :: bs, .c e es, ρ =>
    if b then match e with
      | .var i => (slotD ρ i).bind fun _ => (evAs bs es ρ).bind fun (ss, ρ1) => (ownAt ρ1 i).bind fun d => .ok (.io d :: ss, ρ1)
      | _ => .bad 36
    else (ev e ρ).bind fun (r, ρ1) => (evAs bs es ρ1).bind fun (ss, ρ2) => .ok (.fz r.d :: ss, ρ2)
  | _, _, _ => .bad 37
def evIt : It → Rho → Res (List D × Rho)
  | .sq e, ρ => (ev e ρ).bind fun (r, ρ1) => match walkD r.d with | some xs => .ok (xs, ρ1) | none => .bad 38
  | .rg es, ρ => (evFs es ρ).bind fun (ds, ρ1) => match rangeD ds with | some xs => .ok (xs, ρ1) | none => .bad 39
  | .en e, ρ => (ev e ρ).bind fun (r, ρ1) => match r.d with | .lst xs => .ok (enumD 0 xs, ρ1) | .tup xs => .ok (enumD 0 xs, ρ1) | _ => .bad 40
  | .zp a b, ρ => (ev a ρ).bind fun (r, ρ1) => (ev b ρ1).bind fun (s, ρ2) => match seqD r.d, seqD s.d with | some xs, some ys => .ok (zipD xs ys, ρ2) | _, _ => .bad 41
  | .ez a b, ρ => (ev a ρ).bind fun (r, ρ1) => (ev b ρ1).bind fun (s, ρ2) => match seqD r.d, seqD s.d with | some xs, some ys => .ok (enumD 0 (zipD xs ys), ρ2) | _, _ => .bad 41
  | .im e, ρ => (ev e ρ).bind fun (r, ρ1) => match r.d with | .dic kvs => .ok (kvs.map fun p => .tup [p.1, p.2], ρ1) | _ => .bad 42
  | .vl e, ρ => (ev e ρ).bind fun (r, ρ1) => match r.d with | .dic kvs => .ok (kvs.map (·.2), ρ1) | _ => .bad 43
def evG : Gens → ((Rho × List D) → Res (Rho × List D)) → (Rho × List D) → Res (Rho × List D)
  | .n, k, st => k st
  | .c tg it f gs, k, st => (evIt it st.1).bind fun (xs, ρ1) =>
      foldR (fun (st : Rho × List D) x => (setTg tg (.fz x) (hideL st.1 (Gens.c tg it f gs).vars)).bind fun ρ2 => (evC f ρ2).bind fun (b, ρ3) => if b then evG gs k (ρ3, st.2) else .ok (ρ3, st.2)) (ρ1, st.2) xs
/-- a clause's test, or none -/
def evC : Exs → Rho → Res (Bool × Rho)
  | .n, ρ => .ok (true, ρ)
  | .c e _, ρ => (ev e ρ).bind fun (r, ρ1) => (asBl r).bind fun k => .ok (k, ρ1)
end
/-- several expressions; their results may be nobody's yet -/
def evRs (T : Tb) (F : CallF) : Exs → Rho → Res (List RV × Rho)
  | .n, ρ => .ok ([], ρ)
  | .c e es, ρ => (ev T F e ρ).bind fun (r, ρ1) => (evRs T F es ρ1).bind fun (rs, ρ2) => .ok (r :: rs, ρ2)
def setTgR : Tgs → List RV → Rho → Res Rho
  | .n, [], ρ => .ok ρ
  | .c (.nm i) ts, r :: rs, ρ => (setTg (.nm i) r ρ).bind fun ρ1 => setTgR ts rs ρ1
  | _, _, _ => .bad 5
def upds (d e : D) : Option D := match d, e with
  | .dic a, .dic b => (dputs a (b.map fun p => .tup [p.1, p.2])).map .dic
  | _, _ => none
def whileR (f : Rho → Res (Option Fl × Rho)) : Nat → Rho → Res (Fl × Rho)
  | 0, _ => .bad 44
  | n + 1, ρ => (f ρ).bind fun (o, ρ1) => match o with
    | none => .ok (.nx, ρ1)
    | some (.rt r) => .ok (.rt r, ρ1)
    | some _ => whileR f n ρ1
def forR (f : Rho → D → Res (Fl × Rho)) : Rho → List D → Res (Fl × Rho)
  | ρ, [] => .ok (.nx, ρ)
  | ρ, x :: xs => (f ρ x).bind fun (fl, ρ1) => match fl with
    | .rt r => .ok (.rt r, ρ1)
    | _ => forR f ρ1 xs
mutual
def evS : St → Rho → Res (Fl × Rho)
  | .asg tg e, ρ => (ev T F e ρ).bind fun (r, ρ1) => (setTg tg r ρ1).bind fun ρ2 => .ok (.nx, ρ2)
  | .par ts es, ρ => (evRs T F es ρ).bind fun (rs, ρ1) => (setTgR ts rs ρ1).bind fun ρ2 => .ok (.nx, ρ2)
  | .six i k e, ρ => (ev T F e ρ).bind fun (r, ρ1) => (slotD ρ1 i).bind fun _ => (ev T F k ρ1).bind fun (q, ρ2) => (ownAt ρ2 i).bind fun o => match o, q.d with
    | .lst xs, .int j => if (0 : Int) ≤ j && j < xs.length then .ok (.nx, putAt ρ2 i (.lst (xs.set j.toNat r.d))) else .bad 45
    | .dic kvs, k => if dkOk kvs k && decide (kvs.length < szL) then .ok (.nx, putAt ρ2 i (.dic (dput kvs k r.d))) else .bad 46
    | _, _ => .bad 47
  | .six2 _ _ _ _, _ => .bad 50
  | .aug i e, ρ => (slotD ρ i).bind fun _ => (ev T F e ρ).bind fun (r, ρ1) => match ρ1[i]?, r.d with
    | some (.fz (.int a)), .int b => .ok (.nx, ρ1.set i (.fz (.int (a + b))))
    | some (.ow (.lst xs)), .lst ys => if xs.length + ys.length ≤ szL then .ok (.nx, putAt ρ1 i (.lst (xs ++ ys))) else .bad 53
    | some (.io (.lst xs)), .lst ys => if xs.length + ys.length ≤ szL then .ok (.nx, putAt ρ1 i (.lst (xs ++ ys))) else .bad 53
    | _, _ => .bad 52
  | .app i e, ρ => (slotD ρ i).bind fun o0 => match o0 with
    | .lst _ => (ev T F e ρ).bind fun (r, ρ1) => (ownAt ρ1 i).bind fun o => match o with
      | .lst xs => if xs.length < szL then .ok (.nx, putAt ρ1 i (.lst (xs ++ [r.d]))) else .bad 53
      | _ => .bad 54
    | _ => .bad 54
  | .upd i e, ρ => (ev T F e ρ).bind fun (r, ρ1) => (ownAt ρ1 i).bind fun o => match upds o r.d with | some d2 => .ok (.nx, putAt ρ1 i d2) | none => .bad 55
  | .exp e, ρ => (ev T F e ρ).bind fun (_, ρ1) => .ok (.nx, ρ1)
  | .iff c a b, ρ => (ev T F c ρ).bind fun (r, ρ1) => (asBl r).bind fun k => if k then evSs a ρ1 else evSs b ρ1
  | .whl c b, ρ => whileR (fun ρ => (ev T F c ρ).bind fun (r, ρ1) => (asBl r).bind fun k => if k then (evSs b ρ1).bind fun (fl, ρ2) => .ok (some fl, ρ2) else .ok (none, ρ1)) T.wmax ρ
  | .for tg it b, ρ => (evIt T F it ρ).bind fun (xs, ρ1) => forR (fun ρ x => (setTg tg (.fz x) ρ).bind fun ρ2 => evSs b ρ2) ρ1 xs
  | .ret e, ρ => match e with
    | .var i => match ρ[i]? with
      | some (.fz d) => .ok (.rt (.fz d), ρ)
      | some (.ow d) => .ok (.rt (.ow d), ρ.set i .non)
      | _ => .bad 57
    | e => (ev T F e ρ).bind fun (r, ρ1) => .ok (.rt r, ρ1)
  | .retN, ρ => .ok (.rt (.fz .non), ρ)
  | .cont, ρ => .ok (.ct, ρ)
  | .pass, ρ => .ok (.nx, ρ)
  | .raise c es, ρ => (evFs T F es ρ).bind fun (ds, ρ1) => match ds with | [] => .exc c .non | d :: _ => .exc c d
  | .raiseM c e, ρ => (ev T F e ρ).bind fun (r, _) => match r.d with | .int i => if i.natAbs.log2 < 1000 && decide ((strI i).length ≤ 2000) then .exc c (.int i) else .bad 68 | _ => .bad 68
  | .nop, _ => .bad 99
def evSs : Sts → Rho → Res (Fl × Rho)
  | .n, ρ => .ok (.nx, ρ)
  | .c s ss, ρ => (evS s ρ).bind fun (fl, ρ1) => match fl with
    | .nx => evSs ss ρ1
    | fl => .ok (fl, ρ1)
end
end
/-- what was lent goes back -/
def outsOf : List Bool → Rho → List Slot
  | true :: bs, .io d :: ss => .io d :: outsOf bs ss
  | _ :: bs, _ :: ss => .non :: outsOf bs ss
  | _, _ => []
def callN (T : Tb) : Nat → CallF
  | 0, _, _ => .bad 58
  | n + 1, j, ss => match T.fns[j]? with
    | none => .bad 59
    | some fd => if ss.length = fd.params then
        (evSs T (callN T n) fd.body (ss ++ List.replicate (fd.slots - fd.params) .non)).bind fun (fl, ρ) => match fl with
          | .rt r => .ok (r, outsOf fd.refs ρ)
          | .nx => .ok (.fz .non, outsOf fd.refs ρ)
          | .ct => .bad 60
      else .bad 61
end Ev


set_option maxHeartbeats 4000000
namespace Ev
open PySem L2

def Sx (l : List Nat) : Str := ⟨l.toArray⟩
theorem Sx_len (l : List Nat) : (Sx l).length = l.length := by simp [Sx, Str.length]
theorem Sx_cps (l : List Nat) : (Sx l).cps.toList = l := by simp [Sx]
theorem Sx_inj {a b : List Nat} (h : Sx a = Sx b) : a = b := by
  have := congrArg (fun x : Str => x.cps.toList) h
  simpa [Sx] using this
mutual
/-- a dict's key, as the library tells it -/
def toNK : D → NestedKey
  | .int i => .num i
  | .str l => .text (Sx l)
  | .tup xs => .tup (toNKs xs)
  | _ => .none
def toNKs : List D → List NestedKey
  | [] => []
  | x :: xs => toNK x :: toNKs xs
end
/-- the object at a is just o -/
def rawO (a : Addr) (o : Obj) : HO := .ext fun h => h.get? a = some o
/-- the keys of a dict: each fit to be one, all tuples or none, no two alike -/
structure DKeys (kvs : List (D × D)) : Prop where
  ok : ∀ p ∈ kvs, keyOk p.1 = true ∧ dep p.1 ≤ 6
  same : ∀ p ∈ kvs, ∀ q ∈ kvs, isTup p.1 = isTup q.1
  nd : (kvs.map fun p => toNK p.1).Nodup
structure Cst where
  w : World
  K : PySem.W.Frag
  fnA : Nat → Option Addr
  clA : Nat → Option Addr
abbrev Le (H H' : Hp) : Prop := ∀ a o, H a = some o → H' a = some o
mutual
/-- the value v stands for d in the part Hf that nobody changes -/
inductive Rep (C : Cst) (Hf : Hp) : V → D → Prop
  | non : Rep C Hf .non .non
  | bl (b : Bool) : Rep C Hf (.bl b) (.bl b)
  | int (i : Int) : Rep C Hf (.int i) (.int i)
  | str {l : List Nat} : l.length ≤ szL → Rep C Hf (.str (Sx l)) (.str l)
  | tup {a : Addr} {xs : List V} {ds : List D} : SqT C.K Hf a xs → Reps C Hf xs ds → Rep C Hf (.ref a) (.tup ds)
  | lst {a : Addr} {xs : List V} {ds : List D} : Rd Hf a (.lst xs) → Reps C Hf xs ds → Rep C Hf (.ref a) (.lst ds)
  | dic {a : Addr} {o : Obj} {es : List DictEntry} {ep : Nat} {kvs : List (D × D)} : Hf a = some (rawO a o) → o.ExactDict → o.data = .dict es.toArray ep → (a == sysModules) = false → kvs.length ≤ szL → DKeys kvs → Ents C Hf es kvs → Rep C Hf (.ref a) (.dic kvs)
  | fn {j : Nat} {f : Addr} : C.fnA j = some f → Rep C Hf (.ref f) (.fn j)
  | cls {c : Nat} {a : Addr} : C.clA c = some a → Rep C Hf (.ref a) (.cls c)
inductive Reps (C : Cst) (Hf : Hp) : List V → List D → Prop
  | nil : Reps C Hf [] []
  | cons {v : V} {vs : List V} {d : D} {ds : List D} : Rep C Hf v d → Reps C Hf vs ds → Reps C Hf (v :: vs) (d :: ds)
inductive Ents (C : Cst) (Hf : Hp) : List DictEntry → List (D × D) → Prop
  | nil : Ents C Hf [] []
  | cons {e : DictEntry} {k d : D} {x y : V} {es : List DictEntry} {kvs : List (D × D)} : e.hash = NestedKey.hash C.w (toNK k) → RelV x e.key → Rep C Hf x k → RelV y e.val → Rep C Hf y d → Ents C Hf es kvs → Ents C Hf (e :: es) ((k, d) :: kvs)
end
theorem SqL.le {K : PySem.W.Frag} {H H' : Hp} {a : Addr} {xs : List V} (le : Le H H') (h : SqL K H a xs) : SqL K H' a xs := by
  rcases h with h | h
  · rcases h with h | ⟨o, h⟩
    · exact .inl (.inl (le _ _ h))
    · exact .inl (.inr ⟨o, le _ _ h⟩)
  · exact .inr h
theorem Rd.le {H H' : Hp} {a : Addr} {u : HO} (le : Le H H') (h : Rd H a u) : Rd H' a u := by
  rcases h with h | ⟨o, h⟩
  · exact .inl (le _ _ h)
  · exact .inr ⟨o, le _ _ h⟩
theorem SqT.le {K : PySem.W.Frag} {H H' : Hp} {a : Addr} {xs : List V} (le : Le H H') (h : SqT K H a xs) : SqT K H' a xs := by
  rcases h with h | h
  · rcases h with h | ⟨o, h⟩
    · exact .inl (.inl (le _ _ h))
    · exact .inl (.inr ⟨o, le _ _ h⟩)
  · exact .inr h
mutual
theorem Rep.le {C : Cst} {H H' : Hp} (le : Le H H') : ∀ {v : V} {d : D}, Rep C H v d → Rep C H' v d
  | _, _, .non => .non
  | _, _, .bl b => .bl b
  | _, _, .int i => .int i
  | _, _, .str h => .str h
  | _, _, .tup s r => .tup (SqT.le le s) (Reps.le le r)
  | _, _, .lst s r => .lst (Rd.le le s) (Reps.le le r)
  | _, _, .dic s c d m z k r => .dic (le _ _ s) c d m z k (Ents.le le r)
  | _, _, .fn h => .fn h
  | _, _, .cls h => .cls h
theorem Reps.le {C : Cst} {H H' : Hp} (le : Le H H') : ∀ {vs : List V} {ds : List D}, Reps C H vs ds → Reps C H' vs ds
  | _, _, .nil => .nil
  | _, _, .cons h r => .cons (Rep.le le h) (Reps.le le r)
theorem Ents.le {C : Cst} {H H' : Hp} (le : Le H H') : ∀ {es : List DictEntry} {kvs : List (D × D)}, Ents C H es kvs → Ents C H' es kvs
  | _, _, .nil => .nil
  | _, _, .cons h1 h2 h3 h4 h5 r => .cons h1 h2 (Rep.le le h3) h4 (Rep.le le h5) (Ents.le le r)
end
theorem Reps.length {C : Cst} {H : Hp} : ∀ {vs : List V} {ds : List D}, Reps C H vs ds → vs.length = ds.length
  | _, _, .nil => rfl
  | _, _, .cons _ r => congrArg (· + 1) (Reps.length r)
theorem Reps.get {C : Cst} {H : Hp} : ∀ {vs : List V} {ds : List D} {i : Nat} {d : D}, Reps C H vs ds → ds[i]? = some d → ∃ v, vs[i]? = some v ∧ Rep C H v d
  | _, _, _, _, .nil, e => by simp at e
  | _, _, 0, _, .cons h _, e => by simp at e; subst e; exact ⟨_, rfl, h⟩
  | _, _, i + 1, d, .cons _ r, e => by
    obtain ⟨v, h1, h2⟩ := Reps.get (i := i) (d := d) r (by simpa using e)
    exact ⟨v, by simpa using h1, h2⟩
theorem Reps.get' {C : Cst} {H : Hp} : ∀ {vs : List V} {ds : List D} {i : Nat} {v : V}, Reps C H vs ds → vs[i]? = some v → ∃ d, ds[i]? = some d ∧ Rep C H v d
  | _, _, _, _, .nil, e => by simp at e
  | _, _, 0, _, .cons h _, e => by simp at e; subst e; exact ⟨_, rfl, h⟩
  | _, _, i + 1, d, .cons _ r, e => by
    obtain ⟨v, h1, h2⟩ := Reps.get' (i := i) (v := d) r (by simpa using e)
    exact ⟨v, by simpa using h1, h2⟩
theorem Reps.append {C : Cst} {H : Hp} : ∀ {vs ws : List V} {ds es : List D}, Reps C H vs ds → Reps C H ws es → Reps C H (vs ++ ws) (ds ++ es)
  | _, _, _, _, .nil, s => s
  | _, _, _, _, .cons h r, s => .cons h (Reps.append r s)
theorem Reps.take {C : Cst} {H : Hp} : ∀ {vs : List V} {ds : List D} (n : Nat), Reps C H vs ds → Reps C H (vs.take n) (ds.take n)
  | _, _, 0, _ => .nil
  | _, _, _ + 1, .nil => .nil
  | _, _, n + 1, .cons h r => .cons h (Reps.take n r)
theorem Reps.drop {C : Cst} {H : Hp} : ∀ {vs : List V} {ds : List D} (n : Nat), Reps C H vs ds → Reps C H (vs.drop n) (ds.drop n)
  | _, _, 0, r => r
  | _, _, _ + 1, .nil => .nil
  | _, _, n + 1, .cons _ r => Reps.drop n r
theorem Reps.set {C : Cst} {H : Hp} {v : V} {d : D} (h : Rep C H v d) : ∀ {vs : List V} {ds : List D} (i : Nat), Reps C H vs ds → Reps C H (vs.set i v) (ds.set i d)
  | _, _, _, .nil => .nil
  | _, _, 0, .cons _ r => .cons h r
  | _, _, i + 1, .cons q r => .cons q (Reps.set h i r)
theorem Reps.reverse {C : Cst} {H : Hp} : ∀ {vs : List V} {ds : List D}, Reps C H vs ds → Reps C H vs.reverse ds.reverse
  | _, _, .nil => .nil
  | _, _, .cons h r => by
    rw [List.reverse_cons, List.reverse_cons]
    exact Reps.append (Reps.reverse r) (.cons h .nil)
theorem Reps.mem {C : Cst} {H : Hp} : ∀ {vs : List V} {ds : List D} {d : D}, Reps C H vs ds → d ∈ ds → ∃ v ∈ vs, Rep C H v d
  | _, _, _, .nil, m => by simp at m
  | _, _, d, .cons h r, m => by
    rcases List.mem_cons.mp m with e | m
    · subst e; exact ⟨_, List.mem_cons_self, h⟩
    · obtain ⟨v, hv, q⟩ := Reps.mem r m
      exact ⟨v, List.mem_cons_of_mem _ hv, q⟩
mutual
theorem Rep.dp {C : Cst} {H : Hp} : ∀ {v : V} {d : D}, Rep C H v d → plain d = true → Dp C.K H v (toP d)
  | _, _, .non, _ => .non
  | _, _, .bl b, _ => .bl b
  | _, _, .int i, _ => .int i
  | _, _, .str h, _ => .str _
  | _, .tup ds, .tup s r, p => .tup s (Reps.dp r (by simpa [plain] using p))
  | _, .lst ds, .lst s r, p => .lst (.inl s) (Reps.dp r (by simpa [plain] using p))
  | _, _, .dic _ _ _ _ _ _ _, p => by simp [plain] at p
  | _, _, .fn _, p => by simp [plain] at p
  | _, _, .cls _, p => by simp [plain] at p
theorem Reps.dp {C : Cst} {H : Hp} : ∀ {vs : List V} {ds : List D}, Reps C H vs ds → plains ds = true → DpAll C.K H vs (toPs ds)
  | _, _, .nil, _ => .nil
  | _, d :: ds, .cons h r, p => by
    have p' : plain d = true ∧ plains ds = true := by simpa [plains] using p
    exact .cons (Rep.dp h p'.1) (Reps.dp r p'.2)
end
mutual
theorem plain_toP : ∀ d : D, plain d = true → (toP d).plain = true
  | .non, _ => rfl
  | .bl _, _ => rfl
  | .int _, _ => rfl
  | .str _, _ => rfl
  | .tup xs, h => by
    have h' : plains xs = true := by simpa [plain] using h
    simpa [toP, PyData.plain] using plains_toP xs h'
  | .lst xs, h => by
    have h' : plains xs = true := by simpa [plain] using h
    simpa [toP, PyData.plain] using plains_toP xs h'
  | .dic _, h => by simp [plain] at h
  | .fn _, h => by simp [plain] at h
  | .cls _, h => by simp [plain] at h
  | .exc _ _, h => by simp [plain] at h
theorem plains_toP : ∀ ds : List D, plains ds = true → PyData.plainAll (toPs ds) = true
  | [], _ => rfl
  | d :: ds, h => by
    have h' : plain d = true ∧ plains ds = true := by simpa [plains] using h
    simp [toPs, PyData.plainAll, plain_toP d h'.1, plains_toP ds h'.2]
end
mutual
theorem dep_toP : ∀ d : D, (toP d).depth ≤ dep d
  | .non => by simp [toP, PyData.depth]
  | .bl _ => by simp [toP, PyData.depth]
  | .int _ => by simp [toP, PyData.depth]
  | .str _ => by simp [toP, PyData.depth]
  | .tup xs => by simp only [toP, PyData.depth, dep]; exact Nat.succ_le_succ (deps_toP xs)
  | .lst xs => by simp only [toP, PyData.depth, dep]; exact Nat.succ_le_succ (deps_toP xs)
  | .dic _ => by simp [toP, PyData.depth]
  | .fn _ => by simp [toP, PyData.depth]
  | .cls _ => by simp [toP, PyData.depth]
  | .exc _ _ => by simp [toP, PyData.depth]
theorem deps_toP : ∀ ds : List D, PyData.depthAll (toPs ds) ≤ deps ds
  | [] => by simp [toPs, PyData.depthAll]
  | d :: ds => by
    have := dep_toP d
    have := deps_toP ds
    simp only [toPs, PyData.depthAll, deps]
    omega
end
theorem Sx_beq (a b : List Nat) : ((Sx a) == (Sx b)) = (a == b) := by
  by_cases h : a = b
  · subst h; simp
  · have : ¬ Sx a = Sx b := fun q => h (Sx_inj q)
    rw [beq_eq_false_iff_ne.mpr this, beq_eq_false_iff_ne.mpr h]
mutual
theorem eqD_toP : ∀ a b : D, plain a = true → plain b = true → PyData.eqv (toP a) (toP b) = eqD a b
  | .non, b, _, hb => by cases b <;> simp_all [toP, PyData.eqv, eqD, plain]
  | .bl _, b, _, hb => by cases b <;> simp_all [toP, PyData.eqv, eqD, plain]
  | .int _, b, _, hb => by cases b <;> simp_all [toP, PyData.eqv, eqD, plain]
  | .str x, b, _, hb => by
    cases b with
    | str y => simp only [toP, PyData.eqv, eqD]; exact Sx_beq x y
    | _ => simp_all [toP, PyData.eqv, eqD, plain]
  | .tup xs, b, ha, hb => by
    cases b with
    | tup ys => simp only [toP, PyData.eqv, eqD]; exact eqDs_toP xs ys (by simpa [plain] using ha) (by simpa [plain] using hb)
    | _ => simp_all [toP, PyData.eqv, eqD, plain]
  | .lst xs, b, ha, hb => by
    cases b with
    | lst ys => simp only [toP, PyData.eqv, eqD]; exact eqDs_toP xs ys (by simpa [plain] using ha) (by simpa [plain] using hb)
    | _ => simp_all [toP, PyData.eqv, eqD, plain]
  | .dic _, _, h, _ => by simp [plain] at h
  | .fn _, _, h, _ => by simp [plain] at h
  | .cls _, _, h, _ => by simp [plain] at h
  | .exc _ _, _, h, _ => by simp [plain] at h
theorem eqDs_toP : ∀ a b : List D, plains a = true → plains b = true → PyData.eqvAll (toPs a) (toPs b) = eqDs a b
  | [], [], _, _ => by simp [toPs, PyData.eqvAll, eqDs]
  | [], _ :: _, _, _ => by simp [toPs, PyData.eqvAll, eqDs]
  | _ :: _, [], _, _ => by simp [toPs, PyData.eqvAll, eqDs]
  | a :: as, b :: bs, ha, hb => by
    have ha' : plain a = true ∧ plains as = true := by simpa [plains] using ha
    have hb' : plain b = true ∧ plains bs = true := by simpa [plains] using hb
    simp only [toPs, PyData.eqvAll, eqDs]
    rw [eqD_toP a b ha'.1 hb'.1, eqDs_toP as bs ha'.2 hb'.2]
end
end Ev


set_option maxHeartbeats 4000000
namespace Ev
open PySem L2

structure G where
  H0 : Hp
  IO : List (Nat × Addr)
  Hf0 : Hp
  T : List (Addr × Str)
def NoTab (o : HO) : Prop := ∀ ps, o ≠ .tbl ps
/-- an object that one name alone holds -/
def Own (C : Cst) (H Hf : Hp) (a : Addr) (d : D) : Prop := Hf a = none ∧
  match d with
  | .lst ds => ∃ xs, H a = some (.lst xs) ∧ Reps C Hf xs ds
  | .dic kvs => ∃ (o : Obj) (es : List DictEntry) (ep : Nat), H a = some (rawO a o) ∧ o.ExactDict ∧ o.data = .dict es.toArray ep ∧ (a == sysModules) = false ∧ kvs.length ≤ szL ∧ DKeys kvs ∧ Ents C Hf es kvs
  | _ => False
theorem Own.there {C : Cst} {H Hf : Hp} {a : Addr} {d : D} (h : Own C H Hf a d) : ∃ o, H a = some o ∧ NoTab o := by
  obtain ⟨_, h⟩ := h
  cases d with
  | lst ds => obtain ⟨xs, e, _⟩ := h; exact ⟨_, e, fun _ z => by cases z⟩
  | dic kvs => obtain ⟨o, es, ep, e, _⟩ := h; exact ⟨_, e, fun _ z => by cases z⟩
  | _ => exact h.elim
/-- the object stays, what is frozen grows elsewhere -/
theorem Own.le {C : Cst} {H H' Hf Hf' : Hp} {a : Addr} {d : D} (h : Own C H Hf a d) (le : Le Hf Hf') (hn : Hf' a = none) (k : ∀ o, H a = some o → NoTab o → H' a = some o) : Own C H' Hf' a d := by
  obtain ⟨_, h⟩ := h
  refine ⟨hn, ?_⟩
  cases d with
  | lst ds => obtain ⟨xs, e, r⟩ := h; exact ⟨xs, k _ e (fun _ z => by cases z), Reps.le le r⟩
  | dic kvs => obtain ⟨o, es, ep, e, q1, q2, q3, q4, q5, r⟩ := h; exact ⟨o, es, ep, k _ e (fun _ z => by cases z), q1, q2, q3, q4, q5, Ents.le le r⟩
  | _ => exact h.elim
structure SR (C : Cst) (g : G) (σ : L2.St) (H Hf : Hp) (ρ : Rho) : Prop where
  len : σ.length = ρ.length
  sub : Le Hf H
  base : ∀ a o, g.H0 a = some o → NoTab o → (∀ p ∈ g.IO, p.2 ≠ a) → H a = some o
  dom : ∀ a, g.H0 a ≠ none → H a ≠ none
  fz0 : Le g.Hf0 Hf
  tabs : LamX.Tabs g.T H
  nft : ∀ p ∈ g.T, Hf p.1 = none
  fz : ∀ (i : Nat) (d : D), ρ[i]? = some (Slot.fz d) → ∃ v, σ[i]? = some (some v) ∧ Rep C Hf v d
  ow : ∀ (i : Nat) (d : D), ρ[i]? = some (Slot.ow d) → ∃ a, σ[i]? = some (some (V.ref a)) ∧ Own C H Hf a d ∧ g.H0 a = none
  io : ∀ (i : Nat) (d : D), ρ[i]? = some (Slot.io d) → ∃ a, σ[i]? = some (some (V.ref a)) ∧ Own C H Hf a d ∧ (i, a) ∈ g.IO
  sep : ∀ (i j : Nat) (d e : D) (a : Addr), i ≠ j → ρ[i]? = some (Slot.ow d) → ρ[j]? = some (Slot.ow e) → σ[i]? = some (some (V.ref a)) → σ[j]? ≠ some (some (V.ref a))
  lent : ∀ p ∈ g.IO, g.H0 p.2 ≠ none
  newf : ∀ a, Hf a ≠ none → g.Hf0 a ≠ none ∨ g.H0 a = none
  lone : ∀ p ∈ g.IO, ∀ q ∈ g.IO, p.2 = q.2 → p.1 = q.1
/-- a result's place -/
def RVok (C : Cst) (g : G) (σ : L2.St) (H Hf : Hp) (ρ : Rho) (v : V) : RV → Prop
  | .fz d => Rep C Hf v d
  | .ow d => ∃ a, v = .ref a ∧ Own C H Hf a d ∧ g.H0 a = none ∧ ∀ (i : Nat) (e : D), ρ[i]? = some (Slot.ow e) → σ[i]? ≠ some (some (V.ref a))
/-- an operand seen where it stands -/
def Vw (C : Cst) (H Hf : Hp) (v : V) (d : D) : Prop := Rep C Hf v d ∨ ∃ a, v = .ref a ∧ Own C H Hf a d
inductive Vws (C : Cst) (H Hf : Hp) : List V → List D → Prop
  | nil : Vws C H Hf [] []
  | cons {v : V} {vs : List V} {d : D} {ds : List D} : Vw C H Hf v d → Vws C H Hf vs ds → Vws C H Hf (v :: vs) (d :: ds)
/-- what a step that stores nothing leaves: new objects alone -/
structure PO (C : Cst) (H Hf : Hp) (v : V) (r : RV) (H' Hf' : Hp) : Prop where
  keep : ∀ a o, H a = some o → H' a = some o
  le : Le Hf Hf'
  sub : Le Hf' H'
  new : ∀ a, Hf' a ≠ none → Hf a ≠ none ∨ H a = none
  val : match r with
    | .fz d => Rep C Hf' v d
    | .ow d => ∃ a, v = .ref a ∧ H a = none ∧ Own C H' Hf' a d
section
variable {C : Cst} {g : G} {σ : L2.St} {H Hf H' Hf' : Hp} {ρ : Rho} {v : V} {r : RV} {d : D}
theorem Own.grow {a : Addr} {H H' Hf Hf' : Hp} (h2 : Own C H Hf a d) (keep : ∀ a o, H a = some o → NoTab o → H' a = some o) (le : Le Hf Hf') (new : ∀ a, Hf' a ≠ none → Hf a ≠ none ∨ H a = none) : Own C H' Hf' a d := by
  refine h2.le le ?_ (keep a)
  cases e : Hf' a with
  | none => rfl
  | some o =>
    rcases new a (by rw [e]; simp) with z | z
    · exact absurd h2.1 z
    · obtain ⟨o, h, _⟩ := h2.there
      rw [z] at h; cases h
theorem SR.grow (s : SR C g σ H Hf ρ) (keep : ∀ a o, H a = some o → NoTab o → H' a = some o) (dom : ∀ a, H a ≠ none → H' a ≠ none) (tb : LamX.Tabs g.T H') (le : Le Hf Hf') (sub : Le Hf' H') (new : ∀ a, Hf' a ≠ none → Hf a ≠ none ∨ H a = none) : SR C g σ H' Hf' ρ where
  len := s.len
  sub := sub
  base := fun a o e n i => keep a o (s.base a o e n i) n
  dom := fun a e => dom a (s.dom a e)
  fz0 := fun a o e => le a o (s.fz0 a o e)
  tabs := tb
  nft := fun p hp => by
    cases e : Hf' p.1 with
    | none => rfl
    | some o =>
      rcases new p.1 (by rw [e]; simp) with z | z
      · exact absurd (s.nft p hp) z
      · obtain ⟨ps, h, _⟩ := s.tabs p hp
        rw [z] at h; cases h
  fz := fun i d e => let ⟨v, h1, h2⟩ := s.fz i d e; ⟨v, h1, h2.le le⟩
  ow := fun i d e => by
    obtain ⟨a, h1, h2, h3⟩ := s.ow i d e
    exact ⟨a, h1, h2.grow keep le new, h3⟩
  io := fun i d e => by
    obtain ⟨a, h1, h2, h3⟩ := s.io i d e
    exact ⟨a, h1, h2.grow keep le new, h3⟩
  sep := s.sep
  lent := s.lent
  newf := fun a e => by
    rcases new a e with z | z
    · exact s.newf a z
    · refine .inr ?_
      cases q : g.H0 a with
      | none => rfl
      | some o => exact absurd z (s.dom a (by rw [q]; simp))
  lone := s.lone
theorem SR.po (s : SR C g σ H Hf ρ) (p : PO C H Hf v r H' Hf') : SR C g σ H' Hf' ρ ∧ RVok C g σ H' Hf' ρ v r := by
  have s' : SR C g σ H' Hf' ρ := s.grow (fun a o e _ => p.keep a o e) (fun a e => by
    cases q : H a with
    | none => exact absurd q e
    | some o => rw [p.keep a o q]; simp) (s.tabs.ext p.keep) p.le p.sub p.new
  refine ⟨s', ?_⟩
  have hv := p.val
  cases r with
  | fz d => exact hv
  | ow d =>
    obtain ⟨a, h1, h2, h3⟩ := hv
    refine ⟨a, h1, h3, ?_, fun i e he hs => ?_⟩
    · cases q : g.H0 a with
      | none => rfl
      | some o => exact absurd h2 (s.dom a (by rw [q]; simp))
    · obtain ⟨b, h4, h5, _⟩ := s.ow i e he
      rw [hs] at h4
      have : a = b := by injection h4 with h4; injection h4 with h4; injection h4
      subst this
      obtain ⟨o, h6, _⟩ := h5.there
      rw [h2] at h6; cases h6
/-- what the frozen part says of a list or dict is frozen for good -/
theorem Own.freeze {v0 : Addr} (h : Own C H Hf v0 d) (sub : Le Hf H) : ∃ o, H v0 = some o ∧ NoTab o ∧ Rep C (upd Hf v0 o) (.ref v0) d := by
  obtain ⟨hn, h⟩ := h
  have le : ∀ o, Le Hf (upd Hf v0 o) := fun o a u e => by rw [upd_ne (ne_of_none e hn)]; exact e
  cases d with
  | lst ds =>
    obtain ⟨xs, e, r⟩ := h
    exact ⟨_, e, (fun _ z => by cases z), .lst (.inl upd_same) (Reps.le (le _) r)⟩
  | dic kvs => obtain ⟨o, es, ep, e, q1, q2, q3, q4, q5, r⟩ := h; exact ⟨_, e, (fun _ z => by cases z), .dic upd_same q1 q2 q3 q4 q5 (Ents.le (le _) r)⟩
  | _ => exact h.elim
/-- a result that is kept is frozen from now on -/
theorem SR.freeze (s : SR C g σ H Hf ρ) (h : RVok C g σ H Hf ρ v r) : ∃ Hf', SR C g σ H Hf' ρ ∧ Le Hf Hf' ∧ Rep C Hf' v r.d := by
  cases r with
  | fz d => exact ⟨Hf, s, fun _ _ e => e, h⟩
  | ow d =>
    obtain ⟨a, rfl, ho, h0, hs⟩ := h
    obtain ⟨o, e, nt, hr⟩ := ho.freeze s.sub
    have hn := ho.1
    have le : Le Hf (upd Hf a o) := fun b u q => by rw [upd_ne (ne_of_none q hn)]; exact q
    refine ⟨upd Hf a o, ⟨s.len, fun b u q => ?_, s.base, s.dom, fun b u q => le b u (s.fz0 b u q), s.tabs, fun p hp => ?_, fun i d e => ?_, fun i d e => ?_, fun i d e => ?_, s.sep, s.lent, fun b e => ?_, s.lone⟩, le, hr⟩
    · by_cases hb : b = a
      · subst hb; rw [upd_same] at q; cases q; exact e
      · rw [upd_ne hb] at q; exact s.sub b u q
    · have : p.1 ≠ a := fun z => by
        obtain ⟨ps, h, _⟩ := s.tabs p hp
        rw [z, e] at h
        exact nt ps (Option.some.inj h)
      rw [upd_ne this]; exact s.nft p hp
    · obtain ⟨v, h1, h2⟩ := s.fz i d e
      exact ⟨v, h1, h2.le le⟩
    · obtain ⟨b, h1, h2, h3⟩ := s.ow i d e
      have : b ≠ a := fun z => hs i d e (by rw [h1, z])
      exact ⟨b, h1, h2.le le (by rw [upd_ne this]; exact h2.1) (fun o e _ => e), h3⟩
    · obtain ⟨b, h1, h2, h3⟩ := s.io i d e
      have : b ≠ a := fun z => s.lent _ h3 (by rw [z]; exact h0)
      exact ⟨b, h1, h2.le le (by rw [upd_ne this]; exact h2.1) (fun o e _ => e), h3⟩
    · by_cases hb : b = a
      · subst hb; exact .inr h0
      · rw [upd_ne hb] at e; exact s.newf b e
/-- an owned name's thing is frozen -/
theorem SR.freezeAt {i : Nat} (s : SR C g σ H Hf ρ) (e : ρ[i]? = some (Slot.ow d)) : ∃ v Hf', σ[i]? = some (some v) ∧ SR C g σ H Hf' (ρ.set i (.fz d)) ∧ Le Hf Hf' ∧ Rep C Hf' v d := by
  obtain ⟨a, h1, h2, h3⟩ := s.ow i d e
  obtain ⟨o, eo, nt, hr⟩ := h2.freeze s.sub
  have hn := h2.1
  have hi : i < ρ.length := (List.getElem?_eq_some_iff.mp e).1
  have le : Le Hf (upd Hf a o) := fun b u q => by rw [upd_ne (ne_of_none q hn)]; exact q
  refine ⟨.ref a, upd Hf a o, h1, ⟨by simpa using s.len, fun b u q => ?_, s.base, s.dom, fun b u q => le b u (s.fz0 b u q), s.tabs, fun p hp => ?_, fun j d' e' => ?_, fun j d' e' => ?_, fun j d' e' => ?_, fun j k d1 d2 b hjk e1 e2 => ?_, s.lent, fun b e => ?_, s.lone⟩, le, hr⟩
  · by_cases hb : b = a
    · subst hb; rw [upd_same] at q; cases q; exact eo
    · rw [upd_ne hb] at q; exact s.sub b u q
  · have : p.1 ≠ a := fun z => by
      obtain ⟨ps, h, _⟩ := s.tabs p hp
      rw [z, eo] at h
      exact nt ps (Option.some.inj h)
    rw [upd_ne this]; exact s.nft p hp
  · by_cases hj : j = i
    · subst hj
      rw [List.getElem?_set_self hi] at e'
      cases e'
      exact ⟨_, h1, hr⟩
    · rw [List.getElem?_set_ne (Ne.symm hj)] at e'
      obtain ⟨v, q1, q2⟩ := s.fz j d' e'
      exact ⟨v, q1, q2.le le⟩
  · have hj : j ≠ i := fun z => by
      subst z
      rw [List.getElem?_set_self hi] at e'
      cases e'
    rw [List.getElem?_set_ne (Ne.symm hj)] at e'
    obtain ⟨b, q1, q2, q3⟩ := s.ow j d' e'
    have : b ≠ a := fun z => by subst z; exact s.sep j i d' d b hj e' e q1 h1
    exact ⟨b, q1, q2.le le (by rw [upd_ne this]; exact q2.1) (fun o e _ => e), q3⟩
  · have hj : j ≠ i := fun z => by
      subst z
      rw [List.getElem?_set_self hi] at e'
      cases e'
    rw [List.getElem?_set_ne (Ne.symm hj)] at e'
    obtain ⟨b, q1, q2, q3⟩ := s.io j d' e'
    have : b ≠ a := fun z => s.lent _ q3 (by rw [z]; exact h3)
    exact ⟨b, q1, q2.le le (by rw [upd_ne this]; exact q2.1) (fun o e _ => e), q3⟩
  · have hne : ∀ (m : Nat) (dd : D), (ρ.set i (.fz d))[m]? = some (Slot.ow dd) → ρ[m]? = some (Slot.ow dd) := fun m dd q => by
      by_cases hm : m = i
      · subst hm; rw [List.getElem?_set_self hi] at q; cases q
      · rw [List.getElem?_set_ne (Ne.symm hm)] at q; exact q
    exact s.sep j k d1 d2 b hjk (hne j d1 e1) (hne k d2 e2)
  · by_cases hb : b = a
    · subst hb; exact .inr h3
    · rw [upd_ne hb] at e; exact s.newf b e
/-- a name's value where it stands -/
theorem SR.view {i : Nat} (s : SR C g σ H Hf ρ) (e : slotD ρ i = .ok d) : ∃ v, σ[i]? = some (some v) ∧ Vw C H Hf v d := by
  unfold slotD at e
  split at e
  · rename_i d' q
    cases e
    obtain ⟨v, h1, h2⟩ := s.fz i _ q
    exact ⟨v, h1, .inl h2⟩
  · rename_i d' q
    cases e
    obtain ⟨a, h1, h2, _⟩ := s.ow i _ q
    exact ⟨_, h1, .inr ⟨a, rfl, h2⟩⟩
  · rename_i d' q
    cases e
    obtain ⟨a, h1, h2, _⟩ := s.io i _ q
    exact ⟨_, h1, .inr ⟨a, rfl, h2⟩⟩
  · cases e
theorem Vw.rep (h : Vw C H Hf v d) (sub : Le Hf H) : Rep C H v d := by
  rcases h with h | ⟨a, rfl, h⟩
  · exact h.le sub
  · obtain ⟨_, h⟩ := h
    cases d with
    | lst ds => obtain ⟨xs, e, r⟩ := h; exact .lst (.inl e) (Reps.le sub r)
    | dic kvs => obtain ⟨o, es, ep, e, q1, q2, q3, q4, q5, r⟩ := h; exact .dic e q1 q2 q3 q4 q5 (Ents.le sub r)
    | _ => exact h.elim
theorem Vw.lst {ds : List D} (h : Vw C H Hf v (.lst ds)) (sub : Le Hf H) : ∃ a xs, v = .ref a ∧ Rd H a (.lst xs) ∧ Reps C Hf xs ds := by
  rcases h with h | ⟨a, rfl, h⟩
  · cases h with
    | lst s r => exact ⟨_, _, rfl, Rd.le sub s, r⟩
  · obtain ⟨_, xs, e, r⟩ := h
    exact ⟨a, xs, rfl, .inl e, r⟩
theorem Vw.tup {ds : List D} (h : Vw C H Hf v (.tup ds)) (sub : Le Hf H) : ∃ a xs, v = .ref a ∧ SqT C.K H a xs ∧ Reps C Hf xs ds := by
  rcases h with h | ⟨a, rfl, h⟩
  · cases h with
    | tup s r => exact ⟨_, _, rfl, SqT.le sub s, r⟩
  · exact h.2.elim
theorem Vw.dic {kvs : List (D × D)} (h : Vw C H Hf v (.dic kvs)) (sub : Le Hf H) : ∃ (a : Addr) (o : Obj) (es : List DictEntry) (ep : Nat), v = .ref a ∧ H a = some (rawO a o) ∧ o.ExactDict ∧ o.data = .dict es.toArray ep ∧ (a == sysModules) = false ∧ kvs.length ≤ szL ∧ DKeys kvs ∧ Ents C Hf es kvs := by
  rcases h with h | ⟨a, rfl, h⟩
  · cases h with
    | dic s q1 q2 q3 q4 q5 r => exact ⟨_, _, _, _, rfl, sub _ _ s, q1, q2, q3, q4, q5, r⟩
  · obtain ⟨_, o, es, ep, q⟩ := h
    exact ⟨a, o, es, ep, rfl, q⟩
theorem Vw.int {i : Int} (h : Vw C H Hf v (.int i)) : v = .int i := by
  rcases h with h | ⟨a, rfl, h⟩
  · cases h; rfl
  · exact h.2.elim
theorem Vw.bl {b : Bool} (h : Vw C H Hf v (.bl b)) : v = .bl b := by
  rcases h with h | ⟨a, rfl, h⟩
  · cases h; rfl
  · exact h.2.elim
theorem Vw.str {l : List Nat} (h : Vw C H Hf v (.str l)) : v = .str (Sx l) ∧ l.length ≤ szL := by
  rcases h with h | ⟨a, rfl, h⟩
  · cases h with
    | str z => exact ⟨rfl, z⟩
  · exact h.2.elim
theorem Vw.non (h : Vw C H Hf v .non) : v = .non := by
  rcases h with h | ⟨a, rfl, h⟩
  · cases h; rfl
  · exact h.2.elim
/-- nothing new -/
theorem PO.same (sub : Le Hf H) (h : Rep C Hf v d) : PO C H Hf v (.fz d) H Hf := ⟨fun _ _ e => e, fun _ _ e => e, sub, fun _ h => .inl h, h⟩
/-- a new tuple -/
theorem PO.newTup {p : Addr} {xs : List V} {ds : List D} (sub : Le Hf H) (hp : H p = none) (r : Reps C Hf xs ds) : PO C H Hf (.ref p) (.fz (.tup ds)) (upd H p (.tup xs)) (upd Hf p (.tup xs)) := by
  have hf : Hf p = none := by
    cases e : Hf p with
    | none => rfl
    | some o => rw [sub p o e] at hp; cases hp
  have le : Le Hf (upd Hf p (.tup xs)) := fun b u q => by rw [upd_ne (ne_of_none q hf)]; exact q
  refine ⟨fun b u q => by rw [upd_ne (ne_of_none q hp)]; exact q, le, fun b u q => ?_, fun b q => ?_, .tup (SqT.of upd_same) (Reps.le le r)⟩
  · by_cases hb : b = p
    · subst hb; rw [upd_same] at q ⊢; exact q
    · rw [upd_ne hb] at q ⊢; exact sub b u q
  · by_cases hb : b = p
    · subst hb; exact .inr hp
    · rw [upd_ne hb] at q; exact .inl q
/-- a new list, nobody's yet -/
theorem PO.newLst {p : Addr} {xs : List V} {ds : List D} (sub : Le Hf H) (hp : H p = none) (r : Reps C Hf xs ds) : PO C H Hf (.ref p) (.ow (.lst ds)) (upd H p (.lst xs)) Hf := by
  have hf : Hf p = none := by
    cases e : Hf p with
    | none => rfl
    | some o => rw [sub p o e] at hp; cases hp
  refine ⟨fun b u q => by rw [upd_ne (ne_of_none q hp)]; exact q, fun _ _ e => e, fun b u q => ?_, fun _ h => .inl h, ⟨p, rfl, hp, hf, xs, upd_same, r⟩⟩
  rw [upd_ne (ne_of_none q hf)]; exact sub b u q
end
end Ev


set_option maxHeartbeats 4000000
namespace Ev
open PySem L2 PySem.W PyProof.Rows

theorem szL_eq : (sizeLine : Nat) = szL := by rw [sizeLine_eq]; rfl
/-- a two-sided operation of values does what o does of data -/
def OpV (X : Cx) (C : Cst) (f : Value → Value → Sem Value) (o : Op) : Prop :=
  ∀ (pins : List (Addr × Obj)) (s : Shared) (σ : L2.St) (H Hf : Hp) (x y : V) (v u : Value) (da db : D) (r : RV), Inv X pins σ H s → Le Hf H → RelV x v → RelV y u → Vw C H Hf x da → Vw C H Hf y db → opF o [da, db] = some r →
    wpAny (model X.prog X.w) X.A (f v u) (EP X pins σ fun z H' => ∃ Hf', PO C H Hf z r H' Hf') X.xe s
section
variable {X : Cx} {C : Cst}
theorem lstX {pins : List (Addr × Obj)} {s : Shared} {σ : L2.St} {H : Hp} {l : Addr} {xs : List V} (I : Inv X pins σ H s) (h : Rd H l (.lst xs)) :
    ∃ (its : List Value) (n : Nat), Vals xs its ∧ xs.length = its.length ∧ xs.length ≤ sizeLine ∧ s.heap.get? l = some { cls := .type "list", data := .seq its.toArray n } := by
  obtain ⟨z, its, n, r, e⟩ := h.ok I.hok
  exact ⟨its, n, r, r.length, z, e⟩
theorem op_catL : OpR X (binaryOp .Add) (fun x y H Q => ∃ l b xs zs, x = .ref l ∧ y = .ref b ∧ Rd H l (.lst xs) ∧ Rd H b (.lst zs) ∧ xs.length + zs.length ≤ sizeLine ∧ ∀ p, H p = none → Q (.ref p) (upd H p (.lst (xs ++ zs)))) := by
  intro pins s σ H x y v u Q I rx ry h
  obtain ⟨l, b, xs, zs, rfl, rfl, hH, hB, hz, q⟩ := h
  cases rx
  cases ry
  obtain ⟨its, n, r, hl, _, e⟩ := lstX I hH
  obtain ⟨its2, n2, r2, hl2, _, e2⟩ := lstX I hB
  have ea : its.toArray ++ its2.toArray = (its ++ its2).toArray := by simp
  refine PySem.P.add_list e e2 ?_ (by rw [List.size_toArray, List.size_toArray, ← hl, ← hl2]; exact hz)
  rw [ea]
  exact ⟨.ref _, _, I.lnew (t' := s.toks) (r.append r2) (by rw [List.length_append]; exact hz), rfl, q _ I.fresh⟩
theorem reps_nil_left {H : Hp} {ds : List D} (r : Reps C H [] ds) : ds = [] := by cases r; rfl
theorem v_add (hC : X.K = C.K) : OpV X C (binaryOp .Add) .add := by
  intro pins s σ H Hf x y v u da db r I sub rx ry hx hy ho
  have hC' : C.K = X.K := hC.symm
  cases da <;> cases db <;> simp only [opF, fAdd] at ho <;> try (cases ho; done)
  · obtain rfl := hx.int
    obtain rfl := hy.int
    cases ho
    exact op_add pins s σ H _ _ v u _ I rx ry ⟨_, _, rfl, rfl, _, PO.same sub (.int _)⟩
  · rename_i a b
    obtain ⟨rfl, ha⟩ := hx.str
    obtain ⟨rfl, hb⟩ := hy.str
    split at ho
    · rename_i hz
      cases ho
      refine op_add_str pins s σ H _ _ v u _ I rx ry ⟨_, _, rfl, rfl, ?_, _, PO.same sub ?_⟩
      · rw [Sx_len, Sx_len, szL_eq]; exact hz
      · have e : Sx a ++ Sx b = Sx (a ++ b) := SX.S_cat a b

        rw [e]
        exact .str (by rw [List.length_append]; exact hz)
    · cases ho
  · rename_i xs ys
    obtain ⟨a, as, rfl, sa, ra⟩ := hx.tup sub
    obtain ⟨b, bs, rfl, sb, rb⟩ := hy.tup sub
    split at ho
    · rename_i hz
      cases ho
      rw [hC'] at sa sb
      refine op_catA pins s σ H _ _ v u _ I rx ry ⟨a, b, as, bs, rfl, rfl, sa, sb, ?_, fun e => ⟨Hf, ?_⟩, fun _ e => ⟨Hf, ?_⟩, fun _ _ p hp => ⟨_, PO.newTup sub hp (ra.append rb)⟩⟩
      · rw [szL_eq, ra.length, rb.length]; exact hz
      · subst e
        rw [reps_nil_left ra, List.nil_append]
        rcases hy with hy | ⟨_, _, hy⟩
        · exact PO.same sub hy
        · exact hy.2.elim
      · subst e
        rw [reps_nil_left rb, List.append_nil]
        rcases hx with hx | ⟨_, _, hx⟩
        · exact PO.same sub hx
        · exact hx.2.elim
    · cases ho
  · rename_i xs ys
    obtain ⟨a, as, rfl, sa, ra⟩ := hx.lst sub
    obtain ⟨b, bs, rfl, sb, rb⟩ := hy.lst sub
    split at ho
    · rename_i hz
      cases ho
      exact op_catL pins s σ H _ _ v u _ I rx ry ⟨a, b, as, bs, rfl, rfl, sa, sb, by rw [szL_eq, ra.length, rb.length]; exact hz, fun p hp => ⟨_, PO.newLst sub hp (ra.append rb)⟩⟩
    · cases ho
theorem v_sub : OpV X C (binaryOp .Sub) .sub := by
  intro pins s σ H Hf x y v u da db r I sub rx ry hx hy ho
  cases da <;> cases db <;> simp only [opF, fSub] at ho <;> try (cases ho; done)
  obtain rfl := hx.int
  obtain rfl := hy.int
  cases ho
  exact op_sub pins s σ H _ _ v u _ I rx ry ⟨_, _, rfl, rfl, _, PO.same sub (.int _)⟩
theorem v_fdiv : OpV X C (binaryOp .FloorDiv) .fdiv := by
  intro pins s σ H Hf x y v u da db r I sub rx ry hx hy ho
  cases da <;> cases db <;> simp only [opF, fFdiv] at ho <;> try (cases ho; done)
  obtain rfl := hx.int
  obtain rfl := hy.int
  split at ho
  · rename_i h
    cases ho
    simp only [Bool.and_eq_true, decide_eq_true_eq] at h
    exact op_fdivW pins s σ H _ _ v u _ I rx ry ⟨_, _, rfl, rfl, ⟨h.1, by omega⟩, _, PO.same sub (.int _)⟩
  · cases ho
theorem v_mod : OpV X C (binaryOp .Mod) .mod := by
  intro pins s σ H Hf x y v u da db r I sub rx ry hx hy ho
  cases da <;> cases db <;> simp only [opF, fMod] at ho <;> try (cases ho; done)
  obtain rfl := hx.int
  obtain rfl := hy.int
  split at ho
  · rename_i h
    cases ho
    exact op_mod pins s σ H _ _ v u _ I rx ry ⟨_, _, rfl, rfl, h, _, PO.same sub (.int _)⟩
  · cases ho
theorem log2_lt64 {i : Int} (h : i.natAbs.log2 < 63) : -(2 ^ 64) < i ∧ i < 2 ^ 64 := by
  have : i.natAbs < 2 ^ 63 := by
    by_cases h0 : i.natAbs = 0
    · rw [h0]; decide
    · exact (Nat.log2_lt h0).mp h
  omega
theorem v_pow : OpV X C (binaryOp .Pow) .pow := by
  intro pins s σ H Hf x y v u da db r I sub rx ry hx hy ho
  cases da <;> cases db <;> simp only [opF, fPow] at ho <;> try (cases ho; done)
  obtain rfl := hx.int
  obtain rfl := hy.int
  split at ho
  · rename_i h
    cases ho
    simp only [Bool.and_eq_true, decide_eq_true_eq] at h
    have q := log2_lt64 h.2
    exact op_pow pins s σ H _ _ v u _ I rx ry ⟨_, _, rfl, rfl, ⟨h.1.1, h.1.2, by omega⟩, _, PO.same sub (.int _)⟩
  · cases ho
theorem rep_arr (its : List Value) (m : Nat) : List.foldl (fun x1 x2 => x1 ++ x2) #[] (List.replicate m its.toArray) = (List.replicate m its).flatten.toArray := by
  have := foldl_rep its m []
  rw [List.nil_append] at this
  exact this
theorem op_repL : OpR X (binaryOp .Mult) (fun x y H Q => ∃ l k xs, x = .ref l ∧ y = .int k ∧ Rd H l (.lst xs) ∧ -(2 ^ 63) ≤ k ∧ k < 2 ^ 63 ∧ xs.length * k.toNat ≤ sizeLine ∧
    ∀ p, H p = none → Q (.ref p) (upd H p (.lst (List.replicate k.toNat xs).flatten))) := by
  intro pins s σ H x y v u Q I rx ry h
  obtain ⟨l, k, xs, rfl, rfl, hH, h1, h2, hz, q⟩ := h
  cases rx
  obtain ⟨t, rfl⟩ := ry
  obtain ⟨its, n, r, hl, _, e⟩ := lstX I hH
  have hlen : its.toArray.size * k.toNat ≤ sizeLine := by rw [List.size_toArray, ← hl]; exact hz
  have big : (sizeLine : Nat) ≤ (2 ^ 63 - 1) / 8 := by decide
  have hfit : ¬ (!Builtin.List.listFitsIndex k) = true := by
    rw [fitsIndex_both h1 h2]; exact Bool.false_ne_true
  have hlong : ¬ Builtin.List.listTooLong (its.toArray.size * k.toNat) = true := by
    rw [notLongL hlen]; exact Bool.false_ne_true
  have hnew : List.foldl (fun x1 x2 => x1 ++ x2) #[] (List.replicate (if its.toArray.isEmpty = true then 0 else k.toNat) its.toArray) = (List.replicate k.toNat its).flatten.toArray := by
    rw [rep_arr]
    cases its with
    | nil => simp
    | cons a r' => rw [if_neg (by simp)]
  refine wpAny_binaryOp_repeat_ref (T := "list") (U := "int") (by decide) ⟨_, e, rfl⟩ (fun s' => typeIs_int s' k t) noFill_list_mul F.fills_int_mul F.slot_int_rmul repeat_list F.slot_int_index.lookup
    (call_meets F.slot_int_rmul (typeIs_int s k t) F.entry_int_rmul (F.args_int_rmul_2 _ _) (int___rmul___int_list k t l its.toArray n)
      ⟨e, rfl, ⟨_, e, rfl⟩, call_meets F.slot_list_mul ⟨_, e, rfl⟩ F.entry_list_mul (F.args_list_mul_2 _ _) (AutoListH.list___mul___list_int_3 l its.toArray n k t hfit (by omega) hlong) ⟨e, ?_⟩⟩)
  rw [hnew]
  exact ⟨.ref _, _, I.lnew (t' := s.toks) (r.rep k.toNat) (by rw [PyProof.Rows.lm_len_rep_flat, Nat.mul_comm]; exact hz), rfl, q _ I.fresh⟩
theorem Reps.rep {H : Hp} {vs : List V} {ds : List D} (r : Reps C H vs ds) : ∀ m : Nat, Reps C H (List.replicate m vs).flatten (List.replicate m ds).flatten
  | 0 => .nil
  | m + 1 => by
    rw [List.replicate_succ, List.replicate_succ, List.flatten_cons, List.flatten_cons]
    exact r.append (Reps.rep r m)
theorem flat_arr (l : List Nat) : ∀ (m : Nat) (acc : Array Nat), (List.replicate m l.toArray).foldl (· ++ ·) acc = acc ++ ((List.replicate m l).flatten).toArray
  | 0, acc => by simp
  | m + 1, acc => by
    rw [List.replicate_succ, List.foldl_cons, flat_arr l m, List.replicate_succ, List.flatten_cons]
    simp
theorem op_mulS : OpR X (binaryOp .Mult) (fun x y H Q => ∃ l k, x = .str (Sx l) ∧ y = .int k ∧ l ≠ [] ∧ l.length ≤ 1000 ∧ 2 ≤ k ∧ k ≤ 1000 ∧ Q (.str (Sx (List.replicate k.toNat l).flatten)) H) := by
  intro pins s σ H x y v u Q I rx ry h
  obtain ⟨l, k, rfl, rfl, h0, h1, h2, h3, q⟩ := h
  obtain ⟨t, rfl⟩ := rx
  obtain ⟨t2, rfl⟩ := ry
  have hl : (Sx l).length = l.length := Sx_len l
  have hlen : l.length * k.toNat ≤ 1000000 := by
    have : k.toNat ≤ 1000 := by omega
    calc l.length * k.toNat ≤ 1000 * 1000 := Nat.mul_le_mul h1 this
      _ = 1000000 := rfl
  have hdiv : (1000 : Int) ≤ (2 ^ 63 - 1) / k := by
    apply (Int.le_ediv_iff_mul_le (by omega)).mpr
    have : (1000 : Int) * k ≤ 1000 * 1000 := by omega
    omega
  have hne : (k == 1 || (Sx l).length == 0) = false := by
    rw [hl]
    have : l.length ≠ 0 := fun e => h0 (List.length_eq_zero_iff.mp e)
    simp [this]
    omega
  have hk1 : ¬ k < 1 := by omega
  refine PySem.P.mul_str (by simp; omega) (fun _ _ => by rw [hl]; omega) (fun _ _ => ?_) ?_
  · rw [hl]
    have hs : (sizeLine : Nat) = 16777216 := by rw [sizeLine_eq]
    unfold PySem.Builtin.Str.tooLong
    simp only [gt_iff_lt, decide_eq_false_iff_not]
    omega
  · rw [if_neg hk1, if_neg (by rw [hne]; simp)]
    have e : (⟨(List.replicate k.toNat (Sx l).cps).foldl (· ++ ·) #[]⟩ : Str) = Sx (List.replicate k.toNat l).flatten := by
      unfold Sx
      congr 1
      have := flat_arr l k.toNat #[]
      simpa using this
    rw [e]
    refine ⟨?_, .str _, H, I.tok _, ⟨_, rfl⟩, q⟩
    have e3 : (List.replicate k.toNat l).flatten.length = k.toNat * l.length := by simp
    have hs : (sizeLine : Nat) = 16777216 := by rw [sizeLine_eq]
    rw [Sx_len, e3, Nat.mul_comm]
    omega
theorem v_mul (hC : X.K = C.K) : OpV X C (binaryOp .Mult) .mul := by
  intro pins s σ H Hf x y v u da db r I sub rx ry hx hy ho
  cases da <;> cases db <;> simp only [opF, fMul] at ho <;> try (cases ho; done)
  · rename_i i j
    obtain rfl := hx.int
    obtain rfl := hy.int
    split at ho
    · rename_i h
      cases ho
      unfold mulOk at h
      simp only [Bool.or_eq_true, Bool.and_eq_true, decide_eq_true_eq] at h
      rcases h with (h | h) | h
      · exact op_mul pins s σ H _ _ v u _ I rx ry ⟨_, _, rfl, rfl, .inl (log2_lt64 h), _, PO.same sub (.int _)⟩
      · exact op_mul pins s σ H _ _ v u _ I rx ry ⟨_, _, rfl, rfl, .inr (log2_lt64 h), _, PO.same sub (.int _)⟩
      · exact op_mulW pins s σ H _ _ v u _ I rx ry ⟨_, _, rfl, rfl, by unfold CMulW; omega, _, PO.same sub (.int _)⟩
    · cases ho
  · rename_i l k
    obtain ⟨rfl, hz⟩ := hx.str
    obtain rfl := hy.int
    split at ho
    · rename_i h
      cases ho
      simp only [Bool.and_eq_true, decide_eq_true_eq] at h
      have h0 : l ≠ [] := fun e => by subst e; simp at h
      have e3 : (List.replicate k.toNat l).flatten.length = k.toNat * l.length := by simp
      have h4 : k.toNat * l.length ≤ 1000 * 1000 := Nat.mul_le_mul (by omega) h.2
      exact op_mulS pins s σ H _ _ v u _ I rx ry ⟨l, k, rfl, rfl, h0, h.2, h.1.1.2, h.1.2, _, PO.same sub (.str (by rw [e3]; unfold szL; omega))⟩
    · cases ho
  · rename_i xs k
    obtain ⟨a, as, rfl, sa, ra⟩ := hx.tup sub
    obtain rfl := hy.int
    split at ho
    · rename_i h
      cases ho
      simp only [Bool.and_eq_true, decide_eq_true_eq] at h
      rw [← hC] at sa
      have hl := ra.length
      refine op_repT pins s σ H _ _ v u _ I rx ry ⟨a, k, as, rfl, rfl, sa, fun e => ?_, h.1.1.2, h.1.2, by omega, fun p hp => ⟨_, PO.newTup sub hp (ra.rep k.toNat)⟩⟩
      subst e
      have := h.1.1.1
      rw [reps_nil_left ra] at this
      simp at this
    · cases ho
  · rename_i xs k
    obtain ⟨a, as, rfl, sa, ra⟩ := hx.lst sub
    obtain rfl := hy.int
    split at ho
    · rename_i h
      cases ho
      simp only [Bool.and_eq_true, decide_eq_true_eq] at h
      have hl := ra.length
      exact op_repL pins s σ H _ _ v u _ I rx ry ⟨a, k, as, rfl, rfl, sa, by omega, by omega, by rw [szL_eq, hl]; exact h.2, fun p hp => ⟨_, PO.newLst sub hp (ra.rep k.toNat)⟩⟩
    · cases ho
end
end Ev


set_option maxHeartbeats 4000000
namespace Ev
open PySem L2 PySem.W PyProof.Rows PySem.SeqAt

theorem lex1 (p q : Int ⊕ List Nat) : lexLt itemOrd [p] [q] = itemLt p q := lex_one p q
theorem ltN_lt : ∀ a b : List Nat, ltN a b = decide (a < b)
  | [], [] => by simp [ltN]
  | [], _ :: _ => by simp [ltN]
  | _ :: _, [] => by simp [ltN]
  | x :: xs, y :: ys => by
    unfold ltN
    by_cases h : x = y
    · subst h
      rw [if_pos (beq_self_eq_true x), ltN_lt xs ys]
      simp
    · rw [if_neg (by simpa using h)]
      have : (x :: xs < y :: ys) ↔ x < y := by
        rw [List.cons_lt_cons_iff]
        constructor
        · rintro (h1 | ⟨h1, _⟩)
          · exact h1
          · exact absurd h1 h
        · exact .inl
      simp [this]
mutual
theorem alk_alike : ∀ a b : D, alk a b = true → alike (toP a) (toP b) = true ∧ toP a ≠ .none
  | .bl _, b, h => by cases b <;> simp_all [alk, toP, alike]
  | .int _, b, h => by cases b <;> simp_all [alk, toP, alike]
  | .str _, b, h => by cases b <;> simp_all [alk, toP, alike]
  | .tup xs, b, h => by
    cases b with
    | tup ys => simp only [alk] at h; simp only [toP, alike]; exact ⟨alks_alike xs ys h, by simp⟩
    | _ => simp_all [alk]
  | .lst xs, b, h => by
    cases b with
    | lst ys => simp only [alk] at h; simp only [toP, alike]; exact ⟨alks_alike xs ys h, by simp⟩
    | _ => simp_all [alk]
  | .non, _, h => by simp [alk] at h
  | .dic _, _, h => by simp [alk] at h
  | .fn _, _, h => by simp [alk] at h
  | .cls _, _, h => by simp [alk] at h
  | .exc _ _, _, h => by simp [alk] at h
theorem alks_alike : ∀ a b : List D, alks a b = true → alikeAll (toPs a) (toPs b) = true
  | [], [], _ => by simp [toPs, alikeAll]
  | [], _ :: _, _ => by simp [toPs, alikeAll]
  | _ :: _, [], _ => by simp [toPs, alikeAll]
  | a :: as, b :: bs, h => by
    simp only [alks, Bool.and_eq_true] at h
    simp only [toPs, alikeAll, (alk_alike a b h.1).1, alks_alike as bs h.2, Bool.and_self]
end
theorem lex_nil_cons (y : PyData) (ys : List PyData) : lexLt itemOrd (keyToksAll []) (keyToksAll (y :: ys)) = true := by
  rw [keyToksAll, keyToksAll]
  rfl
theorem lex_cons_nil (y : PyData) (ys : List PyData) : lexLt itemOrd (keyToksAll (y :: ys)) (keyToksAll []) = false := by
  rw [keyToksAll, keyToksAll]
  rfl
theorem lex_nil_nil : lexLt itemOrd (keyToksAll []) (keyToksAll []) = false := by
  rw [keyToksAll]
  rfl
mutual
theorem ltD_toP : ∀ a b : D, plain a = true → plain b = true → alk a b = true → dataLt (toP a) (toP b) = ltD a b
  | .bl x, b, _, _, h => by
    cases b with
    | bl y => simp only [toP, ltD]; rw [dataLt_bool]; cases x <;> cases y <;> rfl
    | _ => simp_all [alk]
  | .int x, b, _, _, h => by
    cases b with
    | int y => simp only [toP, ltD]; exact dataLt_int x y
    | _ => simp_all [alk]
  | .str x, b, _, _, h => by
    cases b with
    | str y => simp only [toP, ltD]; rw [dataLt_str, ltN_lt]
    | _ => simp_all [alk]
  | .tup xs, b, ha, hb, h => by
    cases b with
    | tup ys =>
      simp only [alk] at h; simp only [toP, ltD]
      rw [dataLt_tuple]
      exact ltDs_toP xs ys (by simpa [plain] using ha) (by simpa [plain] using hb) h
    | _ => simp_all [alk]
  | .lst xs, b, ha, hb, h => by
    cases b with
    | lst ys =>
      simp only [alk] at h; simp only [toP, ltD]
      rw [dataLt_list]
      exact ltDs_toP xs ys (by simpa [plain] using ha) (by simpa [plain] using hb) h
    | _ => simp_all [alk]
  | .non, _, _, _, h => by simp [alk] at h
  | .dic _, _, _, _, h => by simp [alk] at h
  | .fn _, _, _, _, h => by simp [alk] at h
  | .cls _, _, _, _, h => by simp [alk] at h
  | .exc _ _, _, _, _, h => by simp [alk] at h
theorem ltDs_toP : ∀ a b : List D, plains a = true → plains b = true → alks a b = true → lexLt itemOrd (keyToksAll (toPs a)) (keyToksAll (toPs b)) = ltDs a b
  | [], [], _, _, _ => by simp only [toPs, ltDs]; exact lex_nil_nil
  | [], _ :: _, _, _, _ => by simp only [toPs, ltDs]; exact lex_nil_cons _ _
  | _ :: _, [], _, _, _ => by simp only [toPs, ltDs]; exact lex_cons_nil _ _
  | a :: as, b :: bs, ha, hb, h => by
    have ha' : plain a = true ∧ plains as = true := by simpa [plains] using ha
    have hb' : plain b = true ∧ plains bs = true := by simpa [plains] using hb
    simp only [alks, Bool.and_eq_true] at h
    have q := (alk_alike a b h.1).1
    have e := eqD_toP a b ha'.1 hb'.1
    simp only [toPs, ltDs]
    by_cases z : eqD a b = true
    · rw [if_pos z, dataLt_all_yes q (by rw [e]; exact z)]
      exact ltDs_toP as bs ha'.2 hb'.2 h.2
    · rw [if_neg z, dataLt_all_no q (by rw [e]; simpa using z)]
      exact ltD_toP a b ha'.1 hb'.1 h.1
end
mutual
theorem alk_comm : ∀ a b : D, alk a b = alk b a
  | .bl _, b => by cases b <;> simp [alk]
  | .int _, b => by cases b <;> simp [alk]
  | .str _, b => by cases b <;> simp [alk]
  | .tup xs, b => by
    cases b with
    | tup ys => simp only [alk]; exact alks_comm xs ys
    | _ => simp [alk]
  | .lst xs, b => by
    cases b with
    | lst ys => simp only [alk]; exact alks_comm xs ys
    | _ => simp [alk]
  | .non, b => by cases b <;> simp [alk]
  | .dic _, b => by cases b <;> simp [alk]
  | .fn _, b => by cases b <;> simp [alk]
  | .cls _, b => by cases b <;> simp [alk]
  | .exc _ _, b => by cases b <;> simp [alk]
theorem alks_comm : ∀ a b : List D, alks a b = alks b a
  | [], [] => rfl
  | [], _ :: _ => by simp [alks]
  | _ :: _, [] => by simp [alks]
  | a :: as, b :: bs => by simp only [alks]; rw [alk_comm a b, alks_comm as bs]
end

section
variable {X : Cx} {C : Cst}
/-- what stands there, as the library reads it -/
theorem Vw.reads {pins : List (Addr × Obj)} {s : Shared} {σ : L2.St} {H Hf : Hp} {v : V} {u : Value} {d : D} (hC : X.K = C.K) (I : Inv X pins σ H s) (sub : Le Hf H) (h : Vw C H Hf v d) (p : plain d = true) (r : RelV v u) : ∃ as, Reads s.heap u (toP d) as := by
  have q := (h.rep sub).dp p
  rw [← hC] at q
  exact Dp.reads I _ _ _ q r
theorem ep_bl {pins : List (Addr × Obj)} {s : Shared} {σ : L2.St} {H Hf : Hp} {b b' : Bool} (sub : Le Hf H) (I : Inv X pins σ H s) (e : b = b') : EP X pins σ (fun z H' => ∃ Hf', PO C H Hf z (.fz (.bl b')) H' Hf') (.bool b) s := by
  subst e
  exact ⟨.bl b, H, I, rfl, Hf, PO.same sub (.bl b)⟩
theorem min_toP {a b : D} {n : Nat} (h : min (dep a) (dep b) ≤ 60) (hu : n + 100 < cLine) : n + min (toP a).depth (toP b).depth < cLine := by
  have := dep_toP a
  have := dep_toP b
  omega
theorem v_eq (hC : X.K = C.K) (hu : X.A.units + 100 < cLine) : OpV X C (compareOp .Eq) .eq := by
  intro pins s σ H Hf x y v u da db r I sub rx ry hx hy ho
  simp only [opF, fEq] at ho
  split at ho
  · rename_i h
    simp only [eqOk, Bool.and_eq_true, decide_eq_true_eq] at h
    cases ho
    obtain ⟨as, r1⟩ := hx.reads hC I sub h.1.1 rx
    obtain ⟨bs, r2⟩ := hy.reads hC I sub h.1.2 ry
    exact eq_plain r1 r2 (plain_toP _ h.1.1) (plain_toP _ h.1.2) (min_toP h.2 hu) (ep_bl sub I (eqD_toP _ _ h.1.1 h.1.2))
  · cases ho
theorem v_ne (hC : X.K = C.K) (hu : X.A.units + 100 < cLine) : OpV X C (compareOp .NotEq) .ne := by
  intro pins s σ H Hf x y v u da db r I sub rx ry hx hy ho
  simp only [opF, fNe] at ho
  split at ho
  · rename_i h
    simp only [eqOk, Bool.and_eq_true, decide_eq_true_eq] at h
    cases ho
    obtain ⟨as, r1⟩ := hx.reads hC I sub h.1.1 rx
    obtain ⟨bs, r2⟩ := hy.reads hC I sub h.1.2 ry
    exact ne_plain r1 r2 (plain_toP _ h.1.1) (plain_toP _ h.1.2) (min_toP h.2 hu) (ep_bl sub I (by rw [eqD_toP _ _ h.1.1 h.1.2]))
  · cases ho
theorem ltOk_all {a b : D} (h : ltOk a b = true) : plain a = true ∧ plain b = true ∧ alk a b = true ∧ min (dep a) (dep b) ≤ 60 := by
  simp only [ltOk, Bool.and_eq_true, decide_eq_true_eq] at h
  exact ⟨h.1.1.1, h.1.1.2, h.1.2, h.2⟩
theorem v_lt (hC : X.K = C.K) (hu : X.A.units + 100 < cLine) : OpV X C (compareOp .Lt) .lt := by
  intro pins s σ H Hf x y v u da db r I sub rx ry hx hy ho
  simp only [opF, fLt] at ho
  split at ho
  · rename_i h
    obtain ⟨p1, p2, p3, p4⟩ := ltOk_all h
    cases ho
    obtain ⟨as, r1⟩ := hx.reads hC I sub p1 rx
    obtain ⟨bs, r2⟩ := hy.reads hC I sub p2 ry
    exact lt_data r1 r2 (alk_alike _ _ p3).1 (alk_alike _ _ p3).2 (min_toP p4 hu) (ep_bl sub I (ltD_toP _ _ p1 p2 p3))
  · cases ho
theorem v_gt (hC : X.K = C.K) (hu : X.A.units + 100 < cLine) : OpV X C (compareOp .Gt) .gt := by
  intro pins s σ H Hf x y v u da db r I sub rx ry hx hy ho
  simp only [opF, fGt] at ho
  split at ho
  · rename_i h
    obtain ⟨p1, p2, p3, p4⟩ := ltOk_all h
    cases ho
    obtain ⟨as, r1⟩ := hx.reads hC I sub p1 rx
    obtain ⟨bs, r2⟩ := hy.reads hC I sub p2 ry
    exact gt_data r1 r2 (alk_alike _ _ p3).1 (alk_alike _ _ p3).2 (min_toP p4 hu) (ep_bl sub I (ltD_toP _ _ p2 p1 (by rw [alk_comm]; exact p3)))
  · cases ho
theorem v_le (hC : X.K = C.K) (hu : X.A.units + 100 < cLine) : OpV X C (compareOp .LtE) .le := by
  intro pins s σ H Hf x y v u da db r I sub rx ry hx hy ho
  simp only [opF, fLe] at ho
  split at ho
  · rename_i h
    obtain ⟨p1, p2, p3, p4⟩ := ltOk_all h
    cases ho
    obtain ⟨as, r1⟩ := hx.reads hC I sub p1 rx
    obtain ⟨bs, r2⟩ := hy.reads hC I sub p2 ry
    exact le_data r1 r2 (alk_alike _ _ p3).1 (alk_alike _ _ p3).2 (min_toP p4 hu) (ep_bl sub I (by rw [ltD_toP _ _ p2 p1 (by rw [alk_comm]; exact p3)]))
  · cases ho
theorem v_ge (hC : X.K = C.K) (hu : X.A.units + 100 < cLine) : OpV X C (compareOp .GtE) .ge := by
  intro pins s σ H Hf x y v u da db r I sub rx ry hx hy ho
  simp only [opF, fGe] at ho
  split at ho
  · rename_i h
    obtain ⟨p1, p2, p3, p4⟩ := ltOk_all h
    cases ho
    obtain ⟨as, r1⟩ := hx.reads hC I sub p1 rx
    obtain ⟨bs, r2⟩ := hy.reads hC I sub p2 ry
    exact ge_data r1 r2 (alk_alike _ _ p3).1 (alk_alike _ _ p3).2 (min_toP p4 hu) (ep_bl sub I (by rw [ltD_toP _ _ p1 p2 p3]))
  · cases ho
theorem is_bool_gen {M : Model} {A : Around} {E : Value → Shared → Prop} {s : Shared} {v : Value} {b : Bool} {Q : Value → Shared → Prop} (hv : ∀ id, v ≠ .builtin id) (h : Q (.bool (v == .bool b)) s) : wpAny M A (compareOp .Is v (.bool b)) Q E s := by
  cases v <;> first | exact wpAny_pure h | exact absurd rfl (hv _)
theorem isnot_bool_gen {M : Model} {A : Around} {E : Value → Shared → Prop} {s : Shared} {v : Value} {b : Bool} {Q : Value → Shared → Prop} (hv : ∀ id, v ≠ .builtin id) (h : Q (.bool (!(v == .bool b))) s) : wpAny M A (compareOp .IsNot v (.bool b)) Q E s := by
  cases v <;> first | exact wpAny_pure h | exact absurd rfl (hv _)
theorem no_builtin {x : V} {v : Value} (r : RelV x v) : ∀ id, v ≠ .builtin id := by
  intro id e
  subst e
  cases x <;> first | (obtain ⟨_, z⟩ := r; cases z; done) | (cases r; done) | cases (show Value.builtin id = _ from r)
/-- the shape of a value by its datum -/
theorem isK_val {H Hf : Hp} {x : V} {v : Value} {a c : D} {k : Bool} {cv : Value} (hx : Vw C H Hf x a) (rx : RelV x v) (hk : isK a c = some k) (hc : (c = .non ∧ cv = .none) ∨ ∃ b, c = .bl b ∧ cv = .bool b) : (v == cv) = k := by
  cases a <;> simp only [isK] at hk <;> try (cases hk; done)
  · obtain rfl := hx.non
    cases (show v = Value.none from rx)
    rcases hc with ⟨rfl, rfl⟩ | ⟨b, rfl, rfl⟩ <;> cases hk <;> rfl
  · obtain rfl := hx.bl
    cases (show v = Value.bool _ from rx)
    rcases hc with ⟨rfl, rfl⟩ | ⟨b, rfl, rfl⟩
    · cases hk; rfl
    · rename_i b'
      cases hk
      cases b <;> cases b' <;> rfl
  · obtain rfl := hx.int
    obtain ⟨t, rfl⟩ := (show ∃ t, v = Value.int _ t from rx)
    rcases hc with ⟨rfl, rfl⟩ | ⟨b, rfl, rfl⟩ <;> cases hk <;> rfl
  · obtain ⟨rfl, _⟩ := hx.str
    obtain ⟨t, rfl⟩ := (show ∃ t, v = Value.str _ t from rx)
    rcases hc with ⟨rfl, rfl⟩ | ⟨b, rfl, rfl⟩ <;> cases hk <;> rfl
  · have : ∃ p, x = .ref p := by
      rcases hx with hx | ⟨p, rfl, _⟩
      · cases hx; exact ⟨_, rfl⟩
      · exact ⟨p, rfl⟩
    obtain ⟨p, rfl⟩ := this
    cases (show v = Value.ref _ from rx)
    rcases hc with ⟨rfl, rfl⟩ | ⟨b, rfl, rfl⟩ <;> cases hk <;> rfl
  · have : ∃ p, x = .ref p := by
      rcases hx with hx | ⟨p, rfl, _⟩
      · cases hx; exact ⟨_, rfl⟩
      · exact ⟨p, rfl⟩
    obtain ⟨p, rfl⟩ := this
    cases (show v = Value.ref _ from rx)
    rcases hc with ⟨rfl, rfl⟩ | ⟨b, rfl, rfl⟩ <;> cases hk <;> rfl
theorem v_is : OpV X C (compareOp .Is) .is := by
  intro pins s σ H Hf x y v u da db r I sub rx ry hx hy ho
  cases db <;> simp only [opF, fIs] at ho <;> try (cases ho; done)
  · obtain rfl := hy.non
    cases (show u = Value.none from ry)
    obtain ⟨k, hk, hb⟩ := Option.bind_eq_some_iff.mp ho
    cases hb
    exact is_none_gen (ep_bl sub I (isK_val hx rx hk (.inl ⟨rfl, rfl⟩)))
  · obtain rfl := hy.bl
    cases (show u = Value.bool _ from ry)
    obtain ⟨k, hk, hb⟩ := Option.bind_eq_some_iff.mp ho
    cases hb
    exact is_bool_gen (no_builtin rx) (ep_bl sub I (isK_val hx rx hk (.inr ⟨_, rfl, rfl⟩)))
theorem v_isnot : OpV X C (compareOp .IsNot) .isnot := by
  intro pins s σ H Hf x y v u da db r I sub rx ry hx hy ho
  cases db <;> simp only [opF, fIsnot] at ho <;> try (cases ho; done)
  · obtain rfl := hy.non
    cases (show u = Value.none from ry)
    obtain ⟨k, hk, hb⟩ := Option.bind_eq_some_iff.mp ho
    cases hb
    exact isnot_none_gen (ep_bl sub I (by rw [isK_val hx rx hk (.inl ⟨rfl, rfl⟩)]))
  · obtain rfl := hy.bl
    cases (show u = Value.bool _ from ry)
    obtain ⟨k, hk, hb⟩ := Option.bind_eq_some_iff.mp ho
    cases hb
    exact isnot_bool_gen (no_builtin rx) (ep_bl sub I (by rw [isK_val hx rx hk (.inr ⟨_, rfl, rfl⟩)]))
theorem any_toP (x : D) (hx : plain x = true) : ∀ ys : List D, plains ys = true → ((toPs ys).any fun y => PyData.eqv y (toP x)) = ys.any fun y => eqD y x
  | [], _ => rfl
  | y :: ys, h => by
    have h' : plain y = true ∧ plains ys = true := by simpa [plains] using h
    simp only [toPs, List.any_cons, eqD_toP y x h'.1 hx, any_toP x hx ys h'.2]
theorem in_room {x : D} {ys : List D} {n : Nat} (h : dep x ≤ 50) (hu : n + 100 < cLine) : n + 1 + min (PyData.depthAll (toPs ys)) (toP x).depth < cLine := by
  have := dep_toP x
  omega
/-- a dict's key: the library's, and its tuple -/
theorem decide_str {a b : List Nat} : decide (Sx a = Sx b) = (a == b) := by
  by_cases h : a = b
  · subst h; simp
  · have : ¬ Sx a = Sx b := fun q => h (Sx_inj q)
    simp [this, h]
end
end Ev


set_option maxHeartbeats 4000000
namespace Ev
open PySem L2

structure Z where
  C : Cst
  tb : Tb
  F : CallF
  lim : Nat → Option Str
  Hb : Hp
  T : List (Addr × Str)
  EW : XK
/-- a frame's ghost over the module's things -/
structure Z.ok (z : Z) (g : G) : Prop where
  hb : Le z.Hb g.Hf0
  t : g.T = z.T
/-- what an exception leaves untouched -/
structure KeepG (g : G) (H' : Hp) : Prop where
  base : ∀ a o, g.H0 a = some o → NoTab o → (∀ p ∈ g.IO, p.2 ≠ a) → H' a = some o
  dom : ∀ a, g.H0 a ≠ none → H' a ≠ none
  fz0 : Le g.Hf0 H'
  tabs : LamX.Tabs g.T H'
/-- an exception of class c that bears d -/
def ExcRel (C : Cst) (lim : Nat → Option Str) (c : Nat) (d : D) (cls : Value) (dct : Option Addr) (H' : Hp) : Prop :=
  ∃ a, C.clA c = some a ∧ cls = .ref a ∧ match lim c with
    | none => dct = none
    | some f => ∃ dx i, dct = some dx ∧ d = .int i ∧ H' dx = some (.xd [(f, .int i)])
theorem SR.keepG {C : Cst} {g : G} {σ : L2.St} {H Hf : Hp} {ρ : Rho} (s : SR C g σ H Hf ρ) : KeepG g H :=
  ⟨s.base, s.dom, fun a o e => s.sub a o (s.fz0 a o e), s.tabs⟩
def WxE (z : Z) (g : G) (c : Nat) (d : D) : Prop := ∀ cls dct H', ExcRel z.C z.lim c d cls dct H' → KeepG g H' → z.EW cls dct H'
/-- what is wanted of an outcome -/
def Out {α : Type} (z : Z) (g : G) (σ : L2.St) (Hf : Hp) (x : Res (α × Rho)) (K : α → Rho → Hp → Hp → Prop) : Prop := match x with
  | .ok (a, ρ') => ∀ H' Hf', SR z.C g σ H' Hf' ρ' → Le Hf Hf' → K a ρ' H' Hf'
  | .exc c d => WxE z g c d
  | .bad _ => False
theorem Le.trans {A B D : Hp} (h : Le A B) (k : Le B D) : Le A D := fun a o e => k a o (h a o e)
theorem Le.refl (A : Hp) : Le A A := fun _ _ e => e
section
variable {z : Z} {g : G} {σ : L2.St} {H Hf : Hp} {ρ : Rho}
theorem Out.bind {α β : Type} {x : Res (α × Rho)} {f : α × Rho → Res (β × Rho)} {K : β → Rho → Hp → Hp → Prop} (h : Out z g σ Hf (x.bind f) K) : Out z g σ Hf x (fun a ρ' _ Hf' => Out z g σ Hf' (f (a, ρ')) K) := by
  cases x with
  | ok p =>
    obtain ⟨a, ρ'⟩ := p
    intro H' Hf' s l
    have h' : Out z g σ Hf (f (a, ρ')) K := h
    revert h'
    cases f (a, ρ') with
    | ok q => intro h' H2 Hf2 s2 l2; exact h' H2 Hf2 s2 (l.trans l2)
    | exc c d => exact id
    | bad n => exact id
  | exc c d => exact h
  | bad n => exact h
theorem Out.bind' {α β : Type} {x : Res α} {f : α → Res (β × Rho)} {K : β → Rho → Hp → Hp → Prop} (h : Out z g σ Hf (x.bind f) K) (hx : ∀ c d, x ≠ .exc c d) : ∃ a, x = .ok a ∧ Out z g σ Hf (f a) K := by
  cases x with
  | ok a => exact ⟨a, rfl, h⟩
  | exc c d => exact absurd rfl (hx c d)
  | bad n => exact h.elim
theorem Out.imp {α : Type} {x : Res (α × Rho)} {K K' : α → Rho → Hp → Hp → Prop} (h : Out z g σ Hf x K) (k : ∀ a ρ' H' Hf', SR z.C g σ H' Hf' ρ' → Le Hf Hf' → K a ρ' H' Hf' → K' a ρ' H' Hf') : Out z g σ Hf x K' := by
  cases x with
  | ok p => exact fun H' Hf' s l => k _ _ _ _ s l (h H' Hf' s l)
  | exc c d => exact h
  | bad n => exact h
theorem Out.le {α : Type} {x : Res (α × Rho)} {K : α → Rho → Hp → Hp → Prop} {Hf1 : Hp} (h : Out z g σ Hf x K) (l : Le Hf Hf1) : Out z g σ Hf1 x K := by
  cases x with
  | ok p => exact fun H' Hf' s l2 => h H' Hf' s (l.trans l2)
  | exc c d => exact h
  | bad n => exact h
end
/-- an expression's reading -/
def tE (z : Z) (e : Ex) : TE := fun σ H Q => ∃ g, z.ok g ∧ ∃ Hf ρ, SR z.C g σ H Hf ρ ∧ Out z g σ Hf (ev z.tb z.F e ρ) fun r ρ' H' Hf' => ∀ v, RVok z.C g σ H' Hf' ρ' v r → Q v H'
def tO (z : Z) : Ex → TE
  | .var i => tVar i
  | e => tE z e
def tOs (z : Z) : Exs → TA
  | .n => tNil
  | .c e es => tCons (tO z e) (tOs z es)
def tFs (z : Z) : Exs → TA
  | .n => tNil
  | .c e es => tCons (tE z e) (tFs z es)
def evB (T : Tb) (F : CallF) (e : Ex) (ρ : Rho) : Res (Bool × Rho) := (ev T F e ρ).bind fun (r, ρ1) => (asBl r).bind fun k => .ok (k, ρ1)
def tT (z : Z) (e : Ex) : TT := fun σ H Q => ∃ g, z.ok g ∧ ∃ Hf ρ, SR z.C g σ H Hf ρ ∧ Out z g σ Hf (evB z.tb z.F e ρ) fun k _ H' _ => Q k H'
def OdOk (C : Cst) (σ : L2.St) (Hf : Hp) (v : V) : Opd → Prop
  | .v d => Rep C Hf v d
  | .s i => σ[i]? = some (some v)
inductive OdsOk (C : Cst) (σ : L2.St) (Hf : Hp) : List V → List Opd → Prop
  | nil : OdsOk C σ Hf [] []
  | cons {v : V} {vs : List V} {o : Opd} {os : List Opd} : OdOk C σ Hf v o → OdsOk C σ Hf vs os → OdsOk C σ Hf (v :: vs) (o :: os)
/-- an operation on operands, by its data -/
def rO (C : Cst) (o : Op) : List V → Hp → VK → Prop := fun vs H Q => ∃ Hf ds rv, Le Hf H ∧ Vws C H Hf vs ds ∧ opF o ds = some rv ∧ ∀ v H' Hf', PO C H Hf v rv H' Hf' → Q v H'
section
variable {z : Z} {g : G} {σ : L2.St} {H Hf : Hp} {ρ : Rho}
theorem OdOk.le {C : Cst} {Hf Hf' : Hp} {v : V} {o : Opd} (h : OdOk C σ Hf v o) (l : Le Hf Hf') : OdOk C σ Hf' v o := by
  cases o with
  | v d => exact Rep.le l h
  | s i => exact h
theorem OdsOk.le {C : Cst} {Hf Hf' : Hp} {vs : List V} {os : List Opd} (h : OdsOk C σ Hf vs os) (l : Le Hf Hf') : OdsOk C σ Hf' vs os := by
  induction h with
  | nil => exact .nil
  | cons a _ ih => exact .cons (a.le l) ih
theorem slotD_noexc {ρ : Rho} {i : Nat} : ∀ c d, slotD ρ i ≠ .exc c d := by
  intro c d h; unfold slotD at h; split at h <;> cases h
theorem asBl_noexc {r : RV} : ∀ c d, asBl r ≠ .exc c d := by
  intro c d h; unfold asBl at h; split at h <;> cases h
theorem asBl_ok {r : RV} {k : Bool} (h : asBl r = .ok k) : r = .fz (.bl k) := by
  unfold asBl at h
  split at h
  · cases h; rfl
  · cases h
theorem rvok_bl {C : Cst} {g : G} {H Hf : Hp} {v : V} {k : Bool} (h : RVok C g σ H Hf ρ v (.fz (.bl k))) : v = .bl k := by
  have h' : Rep C Hf v (.bl k) := h
  cases h'; rfl
theorem tE_var {i : Nat} {e : Ex} (he : ∀ i, e ≠ .var i) (f : Rho → Res (RV × Rho)) : opnd e f ρ = (f ρ).bind fun p => .ok (.v p.1.d, p.2) := by
  cases e <;> first | rfl | exact absurd rfl (he _)
theorem tO_ne {e : Ex} (he : ∀ i, e ≠ .var i) : tO z e = tE z e := by
  cases e <;> first | rfl | exact absurd rfl (he _)
/-- an operand -/
theorem tO_of {e : Ex} {K : V → Hp → Prop} (hg : z.ok g) (s : SR z.C g σ H Hf ρ) (h : Out z g σ Hf (opnd e (ev z.tb z.F e) ρ) fun o _ H1 Hf1 => ∀ v, OdOk z.C σ Hf1 v o → K v H1) : tO z e σ H K := by
  by_cases he : ∃ i, e = .var i
  · obtain ⟨i, rfl⟩ := he
    obtain ⟨d, hd, h2⟩ := Out.bind' h slotD_noexc
    obtain ⟨v, hv, _⟩ := s.view hd
    exact ⟨v, hv, h2 H Hf s (Le.refl _) v hv⟩
  · have he' : ∀ i, e ≠ .var i := fun i q => he ⟨i, q⟩
    rw [tE_var (i := 0) he'] at h
    rw [tO_ne he']
    refine ⟨g, hg, Hf, ρ, s, (Out.bind h).imp fun r ρ' H' Hf' s' l k v rv => ?_⟩
    obtain ⟨Hf2, s2, l2, hr⟩ := s'.freeze rv
    exact k H' Hf2 s2 l2 v hr
theorem tOs_of (hg : z.ok g) : ∀ {es : Exs} {H Hf : Hp} {ρ : Rho} {K : List V → Hp → Prop}, SR z.C g σ H Hf ρ → (Out z g σ Hf (evOs z.tb z.F es ρ) fun os _ H1 Hf1 => ∀ vs, OdsOk z.C σ Hf1 vs os → K vs H1) → tOs z es σ H K
  | .n, H, Hf, ρ, K, s, h => by
    simp only [evOs] at h
    exact h H Hf s (Le.refl _) [] .nil
  | .c e es, H, Hf, ρ, K, s, h => by
    simp only [evOs] at h
    refine tO_of hg s ((Out.bind h).imp fun o ρ1 H1 Hf1 s1 l1 k v hv => ?_)
    refine tOs_of hg s1 ((Out.bind k).imp fun os ρ2 H2 Hf2 s2 l2 k2 vs hvs => ?_)
    exact k2 H2 Hf2 s2 (Le.refl _) (v :: vs) (.cons (hv.le l2) hvs)
theorem tFs_of (hg : z.ok g) : ∀ {es : Exs} {H Hf : Hp} {ρ : Rho} {K : List V → Hp → Prop}, SR z.C g σ H Hf ρ → (Out z g σ Hf (evFs z.tb z.F es ρ) fun ds ρ1 H1 Hf1 => ∀ vs, Reps z.C Hf1 vs ds → K vs H1) → tFs z es σ H K
  | .n, H, Hf, ρ, K, s, h => by
    simp only [evFs] at h
    exact h H Hf s (Le.refl _) [] .nil
  | .c e es, H, Hf, ρ, K, s, h => by
    simp only [evFs] at h
    refine ⟨g, hg, Hf, ρ, s, (Out.bind h).imp fun r ρ1 H1 Hf1 s1 l1 k v hv => ?_⟩
    obtain ⟨Hf2, s2, l2, hr⟩ := s1.freeze hv
    refine tFs_of hg s2 ((Out.bind (k.le l2)).imp fun ds ρ2 H3 Hf3 s3 l3 k3 vs hvs => ?_)
    exact k3 H3 Hf3 s3 (Le.refl _) (v :: vs) (.cons (hr.le l3) hvs)
theorem get_view {C : Cst} {g : G} {H Hf : Hp} {ρ : Rho} {o : Opd} {v : V} {d : D} (s : SR C g σ H Hf ρ) (h : OdOk C σ Hf v o) (e : o.get ρ = .ok d) : Vw C H Hf v d := by
  cases o with
  | v d' => cases e; exact .inl h
  | s i =>
    obtain ⟨w, hw, hv⟩ := s.view e
    have : v = w := by
      have h' : σ[i]? = some (some v) := h
      rw [hw] at h'; injection h' with h'; injection h' with h'; exact h'.symm
    rw [this]; exact hv
theorem get_noexc {ρ : Rho} {o : Opd} : ∀ c d, o.get ρ ≠ .exc c d := by
  intro c d h
  cases o with
  | v d' => cases h
  | s i => exact slotD_noexc c d h
theorem getAll_noexc {ρ : Rho} : ∀ {os : List Opd} c d, getAll ρ os ≠ .exc c d
  | [], c, d, h => by cases h
  | o :: os, c, d, h => by
    unfold getAll at h
    cases q : o.get ρ with
    | ok a =>
      rw [q] at h
      cases q2 : getAll ρ os with
      | ok b => rw [q2] at h; cases h
      | exc c' d' => exact getAll_noexc c' d' q2
      | bad n => rw [q2] at h; cases h
    | exc c' d' => exact get_noexc c' d' q
    | bad n => rw [q] at h; cases h
theorem getAll_views {C : Cst} {g : G} {H Hf : Hp} {ρ : Rho} (s : SR C g σ H Hf ρ) : ∀ {os : List Opd} {vs : List V} {ds : List D}, OdsOk C σ Hf vs os → getAll ρ os = .ok ds → Vws C H Hf vs ds
  | [], _, ds, .nil, e => by cases e; exact .nil
  | o :: os, _, ds, .cons h r, e => by
    unfold getAll at e
    cases q : o.get ρ with
    | ok a =>
      rw [q] at e
      cases q2 : getAll ρ os with
      | ok b => rw [q2] at e; cases e; exact .cons (get_view s h q) (getAll_views s r q2)
      | exc c' d' => rw [q2] at e; cases e
      | bad n => rw [q2] at e; cases e
    | exc c' d' => rw [q] at e; cases e
    | bad n => rw [q] at e; cases e
/-- an operation -/
theorem tE_op {o : Op} {es : Exs} {Q : VK} (h : tE z (.op o es) σ H Q) : tOs z es σ H fun vs H1 => rO z.C o vs H1 Q := by
  obtain ⟨g, hg, Hf, ρ, s, h⟩ := h
  simp only [ev] at h
  refine tOs_of hg s ((Out.bind h).imp fun os ρ1 H1 Hf1 s1 l1 k vs hvs => ?_)
  obtain ⟨ds, hd, k2⟩ := Out.bind' k getAll_noexc
  have hv := getAll_views s1 hvs hd
  cases q : opF o ds with
  | none => simp only [q] at k2; exact k2.elim
  | some r =>
    simp only [q] at k2
    refine ⟨Hf1, ds, r, s1.sub, hv, q, fun v H' Hf' po => ?_⟩
    obtain ⟨s2, rv⟩ := s1.po po
    exact k2 H' Hf' s2 po.le v rv
theorem tE_tup {es : Exs} {Q : VK} (h : tE z (.tup es) σ H Q) : tTup (tFs z es) σ H Q := by
  obtain ⟨g, hg, Hf, ρ, s, h⟩ := h
  simp only [ev] at h
  refine tFs_of hg s ((Out.bind h).imp fun ds ρ1 H1 Hf1 s1 l1 k vs hvs => ?_)
  dsimp only at k
  split at k
  · rename_i hz
    refine ⟨by rw [szL_eq, hvs.length]; exact hz, fun p hp => ?_⟩
    have po := PO.newTup (C := z.C) s1.sub hp hvs
    obtain ⟨s2, rv⟩ := s1.po po
    exact k _ _ s2 po.le _ rv
  · exact k.elim
theorem tE_lst {es : Exs} {Q : VK} (h : tE z (.lst es) σ H Q) : tLst (tFs z es) σ H Q := by
  obtain ⟨g, hg, Hf, ρ, s, h⟩ := h
  simp only [ev] at h
  refine tFs_of hg s ((Out.bind h).imp fun ds ρ1 H1 Hf1 s1 l1 k vs hvs => ?_)
  dsimp only at k
  split at k
  · rename_i hz
    refine ⟨by rw [szL_eq, hvs.length]; exact hz, fun p hp => ?_⟩
    have po := PO.newLst (C := z.C) s1.sub hp hvs
    obtain ⟨s2, rv⟩ := s1.po po
    exact k _ _ s2 po.le _ rv
  · exact k.elim
/-- a name where its value may be kept -/
theorem tE_name {i : Nat} {Q : VK} (h : tE z (.var i) σ H Q) : tVar i σ H Q := by
  obtain ⟨g, hg, Hf, ρ, s, h⟩ := h
  simp only [ev, escape] at h
  split at h
  · rename_i d q
    obtain ⟨v, h1, h2⟩ := s.fz i d q
    exact ⟨v, h1, h H Hf s (Le.refl _) v h2⟩
  · rename_i d q
    obtain ⟨v, Hf', h1, s', l, hr⟩ := s.freezeAt q
    exact ⟨v, h1, h H Hf' s' l v hr⟩
  · exact h.elim
theorem tT_tE {e : Ex} {Q : Bool → Hp → Prop} (h : tT z e σ H Q) : tE z e σ H fun x H' => ∃ k, x = .bl k ∧ Q k H' := by
  obtain ⟨g, hg, Hf, ρ, s, h⟩ := h
  refine ⟨g, hg, Hf, ρ, s, (Out.bind h).imp fun r ρ1 H1 Hf1 s1 l1 k v hv => ?_⟩
  obtain ⟨b, hb, k2⟩ := Out.bind' k asBl_noexc
  obtain rfl := asBl_ok hb
  exact ⟨b, rvok_bl hv, k2 H1 Hf1 s1 (Le.refl _)⟩
end
end Ev


set_option maxHeartbeats 4000000
namespace Ev
open PySem L2
section
variable {z : Z} {g : G} {σ : L2.St} {H Hf : Hp} {ρ : Rho}
theorem SR.fzv {C : Cst} {g : G} {H Hf : Hp} {v : V} {d : D} (s : SR C g σ H Hf ρ) (h : Rep C Hf v d) : RVok C g σ H Hf ρ v (.fz d) := h
theorem bind_assoc' {α β γ : Type} (x : Res α) (f : α → Res β) (g : β → Res γ) : (x.bind f).bind g = x.bind fun a => (f a).bind g := by
  cases x <;> rfl
theorem evB_and {T : Tb} {F : CallF} {a b : Ex} {ρ : Rho} : evB T F (.and a b) ρ = (evB T F a ρ).bind fun p => if p.1 then evB T F b p.2 else .ok (false, p.2) := by
  simp only [evB, ev]
  cases ev T F a ρ with
  | ok q =>
    obtain ⟨r, ρ1⟩ := q
    show ((asBl r).bind _).bind _ = ((asBl r).bind _).bind _
    cases asBl r with
    | ok k =>
      cases k
      · rfl
      · show ((ev T F b ρ1).bind _).bind _ = (ev T F b ρ1).bind _
        cases ev T F b ρ1 with
        | ok q2 =>
          obtain ⟨r2, ρ2⟩ := q2
          show ((asBl r2).bind _).bind _ = (asBl r2).bind _
          cases asBl r2 <;> rfl
        | _ => rfl
    | _ => rfl
  | _ => rfl
theorem evB_or {T : Tb} {F : CallF} {a b : Ex} {ρ : Rho} : evB T F (.or a b) ρ = (evB T F a ρ).bind fun p => if p.1 then .ok (true, p.2) else evB T F b p.2 := by
  simp only [evB, ev]
  cases ev T F a ρ with
  | ok q =>
    obtain ⟨r, ρ1⟩ := q
    show ((asBl r).bind _).bind _ = ((asBl r).bind _).bind _
    cases asBl r with
    | ok k =>
      cases k
      · show ((ev T F b ρ1).bind _).bind _ = (ev T F b ρ1).bind _
        cases ev T F b ρ1 with
        | ok q2 =>
          obtain ⟨r2, ρ2⟩ := q2
          show ((asBl r2).bind _).bind _ = (asBl r2).bind _
          cases asBl r2 <;> rfl
        | _ => rfl
      · rfl
    | _ => rfl
  | _ => rfl
theorem evB_not {T : Tb} {F : CallF} {a : Ex} {ρ : Rho} : evB T F (.not a) ρ = (evB T F a ρ).bind fun p => .ok (!p.1, p.2) := by
  simp only [evB, ev]
  cases ev T F a ρ with
  | ok q =>
    obtain ⟨r, ρ1⟩ := q
    show ((asBl r).bind _).bind _ = ((asBl r).bind _).bind _
    cases asBl r <;> rfl
  | _ => rfl
theorem ev_and {T : Tb} {F : CallF} {a b : Ex} {ρ : Rho} : ev T F (.and a b) ρ = (evB T F a ρ).bind fun p => if p.1 then (evB T F b p.2).bind fun q => .ok (.fz (.bl q.1), q.2) else .ok (.fz (.bl false), p.2) := by
  simp only [evB, ev]
  cases ev T F a ρ with
  | ok q =>
    obtain ⟨r, ρ1⟩ := q
    show (asBl r).bind _ = ((asBl r).bind _).bind _
    cases asBl r with
    | ok k =>
      cases k
      · rfl
      · show (ev T F b ρ1).bind _ = ((ev T F b ρ1).bind _).bind _
        cases ev T F b ρ1 with
        | ok q2 =>
          obtain ⟨r2, ρ2⟩ := q2
          show (asBl r2).bind _ = ((asBl r2).bind _).bind _
          cases asBl r2 <;> rfl
        | _ => rfl
    | _ => rfl
  | _ => rfl
theorem ev_or {T : Tb} {F : CallF} {a b : Ex} {ρ : Rho} : ev T F (.or a b) ρ = (evB T F a ρ).bind fun p => if p.1 then .ok (.fz (.bl true), p.2) else (evB T F b p.2).bind fun q => .ok (.fz (.bl q.1), q.2) := by
  simp only [evB, ev]
  cases ev T F a ρ with
  | ok q =>
    obtain ⟨r, ρ1⟩ := q
    show (asBl r).bind _ = ((asBl r).bind _).bind _
    cases asBl r with
    | ok k =>
      cases k
      · show (ev T F b ρ1).bind _ = ((ev T F b ρ1).bind _).bind _
        cases ev T F b ρ1 with
        | ok q2 =>
          obtain ⟨r2, ρ2⟩ := q2
          show (asBl r2).bind _ = ((asBl r2).bind _).bind _
          cases asBl r2 <;> rfl
        | _ => rfl
      · rfl
    | _ => rfl
  | _ => rfl
theorem ev_not {T : Tb} {F : CallF} {a : Ex} {ρ : Rho} : ev T F (.not a) ρ = (evB T F a ρ).bind fun p => .ok (.fz (.bl (!p.1)), p.2) := by
  simp only [evB, ev]
  cases ev T F a ρ with
  | ok q =>
    obtain ⟨r, ρ1⟩ := q
    show (asBl r).bind _ = ((asBl r).bind _).bind _
    cases asBl r <;> rfl
  | _ => rfl
theorem ev_ite {T : Tb} {F : CallF} {c a b : Ex} {ρ : Rho} : ev T F (.ite c a b) ρ = (evB T F c ρ).bind fun p => if p.1 then ev T F a p.2 else ev T F b p.2 := by
  simp only [evB, ev]
  rw [bind_assoc']
  congr 1; funext q
  rw [bind_assoc']
  congr 1
/-- a truth value out of a test -/
theorem tE_ofB {e : Ex} {Q : VK} (h : Out z g σ Hf (Res.bind (evB z.tb z.F e ρ) fun q => .ok (.fz (.bl q.1), q.2)) fun r ρ' H' Hf' => ∀ v, RVok z.C g σ H' Hf' ρ' v r → Q v H') (hg : z.ok g) (s : SR z.C g σ H Hf ρ) : tE z e σ H fun x H1 => ∃ c, x = .bl c ∧ Q (.bl c) H1 := by
  refine ⟨g, hg, Hf, ρ, s, ?_⟩
  simp only [evB] at h
  rw [bind_assoc'] at h
  refine (Out.bind h).imp fun r ρ1 H1 Hf1 s1 l1 k v hv => ?_
  dsimp only at k
  rw [bind_assoc'] at k
  have k2 := k
  obtain ⟨b, hb, k3⟩ := Out.bind' k2 asBl_noexc
  obtain rfl := asBl_ok hb
  exact ⟨b, rvok_bl hv, k3 H1 Hf1 s1 (Le.refl _) (.bl b) (.bl b)⟩
theorem tE_and {a b : Ex} {Q : VK} (h : tE z (.and a b) σ H Q) : tAndV (tE z a) (fun σ H Q => tE z b σ H fun x H1 => ∃ c, x = .bl c ∧ Q (.bl c) H1) σ H Q := by
  obtain ⟨g, hg, Hf, ρ, s, h⟩ := h
  rw [ev_and] at h
  have h2 : tT z a σ H (fun c H1 => if c = true then tE z b σ H1 (fun x H1 => ∃ c, x = .bl c ∧ Q (.bl c) H1) else Q (.bl false) H1) := by
    refine ⟨g, hg, Hf, ρ, s, (Out.bind h).imp fun k ρ1 H1 Hf1 s1 l1 hk => ?_⟩
    cases k
    · exact hk H1 Hf1 s1 (Le.refl _) (.bl false) (.bl false)
    · exact tE_ofB hk hg s1
  exact tT_tE h2
theorem tE_or {a b : Ex} {Q : VK} (h : tE z (.or a b) σ H Q) : tOrV (tE z a) (fun σ H Q => tE z b σ H fun x H1 => ∃ c, x = .bl c ∧ Q (.bl c) H1) σ H Q := by
  obtain ⟨g, hg, Hf, ρ, s, h⟩ := h
  rw [ev_or] at h
  have h2 : tT z a σ H (fun c H1 => if c = true then Q (.bl true) H1 else tE z b σ H1 (fun x H1 => ∃ c, x = .bl c ∧ Q (.bl c) H1)) := by
    refine ⟨g, hg, Hf, ρ, s, (Out.bind h).imp fun k ρ1 H1 Hf1 s1 l1 hk => ?_⟩
    cases k
    · exact tE_ofB hk hg s1
    · exact hk H1 Hf1 s1 (Le.refl _) (.bl true) (.bl true)
  exact tT_tE h2
theorem tE_not {a : Ex} {Q : VK} (h : tE z (.not a) σ H Q) : tNotV (tE z a) σ H Q := by
  obtain ⟨g, hg, Hf, ρ, s, h⟩ := h
  rw [ev_not] at h
  have h2 : tT z a σ H (fun c H1 => Q (.bl (!c)) H1) :=
    ⟨g, hg, Hf, ρ, s, (Out.bind h).imp fun k ρ1 H1 Hf1 s1 l1 hk => hk H1 Hf1 s1 (Le.refl _) (.bl (!k)) (.bl (!k))⟩
  exact tT_tE h2
theorem tE_ite {c a b : Ex} {Q : VK} (h : tE z (.ite c a b) σ H Q) : tIf (tT z c) (tE z a) (tE z b) σ H Q := by
  obtain ⟨g, hg, Hf, ρ, s, h⟩ := h
  rw [ev_ite] at h
  refine ⟨g, hg, Hf, ρ, s, (Out.bind h).imp fun k ρ1 H1 Hf1 s1 l1 hk => ?_⟩
  cases k
  · exact ⟨g, hg, Hf1, ρ1, s1, hk⟩
  · exact ⟨g, hg, Hf1, ρ1, s1, hk⟩
theorem tT_and {a b : Ex} {Q : Bool → Hp → Prop} (h : tT z (.and a b) σ H Q) : tAnd (tT z a) (tT z b) σ H Q := by
  obtain ⟨g, hg, Hf, ρ, s, h⟩ := h
  rw [evB_and] at h
  refine ⟨g, hg, Hf, ρ, s, (Out.bind h).imp fun k ρ1 H1 Hf1 s1 l1 hk => ?_⟩
  cases k
  · exact hk H1 Hf1 s1 (Le.refl _)
  · exact ⟨g, hg, Hf1, ρ1, s1, hk⟩
theorem tT_or {a b : Ex} {Q : Bool → Hp → Prop} (h : tT z (.or a b) σ H Q) : tOr (tT z a) (tT z b) σ H Q := by
  obtain ⟨g, hg, Hf, ρ, s, h⟩ := h
  rw [evB_or] at h
  refine ⟨g, hg, Hf, ρ, s, (Out.bind h).imp fun k ρ1 H1 Hf1 s1 l1 hk => ?_⟩
  cases k
  · exact ⟨g, hg, Hf1, ρ1, s1, hk⟩
  · exact hk H1 Hf1 s1 (Le.refl _)
theorem tT_not {a : Ex} {Q : Bool → Hp → Prop} (h : tT z (.not a) σ H Q) : tNot (tT z a) σ H Q := by
  obtain ⟨g, hg, Hf, ρ, s, h⟩ := h
  rw [evB_not] at h
  exact ⟨g, hg, Hf, ρ, s, (Out.bind h).imp fun k ρ1 H1 Hf1 s1 l1 hk => hk H1 Hf1 s1 (Le.refl _)⟩
theorem po_bl {C : Cst} {H Hf H' Hf' : Hp} {v : V} {k : Bool} (p : PO C H Hf v (.fz (.bl k)) H' Hf') : v = .bl k := by
  have h : Rep C Hf' v (.bl k) := p.val
  cases h; rfl
theorem opnd_noname {e : Ex} {f : Rho → Res (RV × Rho)} {ρ : Rho} : True := trivial
theorem tE_chn {o p : Op} {a b c : Ex} {Q : VK} (h : tE z (.chn o p a b c) σ H Q) : tChain (fun x y H Q => rO z.C o [x, y] H Q) (fun x y H Q => rO z.C p [x, y] H Q) (tO z a) (tO z b) (tO z c) σ H Q := by
  obtain ⟨g, hg, Hf, ρ, s, h⟩ := h
  simp only [ev] at h
  refine tO_of hg s ((Out.bind h).imp fun ox ρ1 H1 Hf1 s1 l1 h v hv => ?_)
  refine tO_of hg s1 ((Out.bind h).imp fun oy ρ2 H2 Hf2 s2 l2 h u hu => ?_)
  obtain ⟨dx, ex, h⟩ := Out.bind' h get_noexc
  obtain ⟨dy, ey, h⟩ := Out.bind' h get_noexc
  have vx := get_view s2 (hv.le l2) ex
  have vy := get_view s2 hu ey
  cases q : opF o [dx, dy] with
  | none => rw [q] at h; exact h.elim
  | some r =>
    rw [q] at h
    refine ⟨Hf2, [dx, dy], r, s2.sub, .cons vx (.cons vy .nil), q, fun w H3 Hf3 po => ?_⟩
    cases r with
    | ow d => exact h.elim
    | fz d =>
      cases d with
      | bl k =>
        obtain rfl := po_bl po
        obtain ⟨s3, _⟩ := s2.po po
        refine ⟨k, rfl, ?_⟩
        cases k
        · exact h H3 Hf3 s3 po.le (.bl false) (.bl false)
        · rw [if_pos rfl]
          refine tO_of hg s3 ((Out.bind (h.le po.le)).imp fun oz ρ4 H4 Hf4 s4 l4 h w hw => ?_)
          obtain ⟨dz, ez, h⟩ := Out.bind' h get_noexc
          obtain ⟨dy2, ey2, h⟩ := Out.bind' h get_noexc
          have vz := get_view s4 hw ez
          have vy2 := get_view s4 ((hu.le po.le).le l4) ey2
          cases q2 : opF p [dy2, dz] with
          | none => rw [q2] at h; exact h.elim
          | some r2 =>
            rw [q2] at h
            refine ⟨Hf4, [dy2, dz], r2, s4.sub, .cons vy2 (.cons vz .nil), q2, fun w5 H5 Hf5 po5 => ?_⟩
            cases r2 with
            | ow d => exact h.elim
            | fz d =>
              cases d with
              | bl k =>
                obtain rfl := po_bl po5
                obtain ⟨s5, _⟩ := s4.po po5
                exact h H5 Hf5 s5 po5.le (.bl k) (.bl k)
              | _ => exact h.elim
      | _ => exact h.elim
end
end Ev


set_option maxHeartbeats 4000000
namespace Ev
open PySem L2
inductive ArgsOk (C : Cst) (σ : L2.St) (Hf : Hp) (ρ : Rho) : List Bool → Exs → List V → List Slot → Prop
  | nil : ArgsOk C σ Hf ρ [] .n [] []
  | val {bs : List Bool} {e : Ex} {es : Exs} {v : V} {vs : List V} {d : D} {ss : List Slot} : Rep C Hf v d → ArgsOk C σ Hf ρ bs es vs ss → ArgsOk C σ Hf ρ (false :: bs) (.c e es) (v :: vs) (.fz d :: ss)
  | ref {bs : List Bool} {i : Nat} {es : Exs} {v : V} {vs : List V} {d : D} {ss : List Slot} : σ[i]? = some (some v) → ownAt ρ i = .ok d → ArgsOk C σ Hf ρ bs es vs ss → ArgsOk C σ Hf ρ (true :: bs) (.c (.var i) es) (v :: vs) (.io d :: ss)
def tAs (z : Z) : List Bool → Exs → TA
  | true :: bs, .c e es => tCons (tO z e) (tAs z bs es)
  | false :: bs, .c e es => tCons (tE z e) (tAs z bs es)
  | [], .n => tNil
  | [], .c _ _ => fun _ _ _ => False
  | _ :: _, .n => fun _ _ _ => False
/-- what a function promises: what the evaluator says -/
def spF (C : Cst) (lim : Nat → Option Str) (Tt : List (Addr × Str)) (Hb : Hp) (F : CallF) (m j : Nat) : Sp := fun vs H Q E => vs.length = m ∧ ∃ IO Hf ss, Le Hb Hf ∧ SR C ⟨H, IO, Hf, Tt⟩ (vs.map some) H Hf ss ∧ (∀ p ∈ IO, vs[p.1]? = some (.ref p.2)) ∧
  match F j ss with
  | .ok (r, outs) => ∀ v H' Hf', SR C ⟨H, IO, Hf, Tt⟩ (vs.map some) H' Hf' outs → Le Hf Hf' → RVok C ⟨H, IO, Hf, Tt⟩ (vs.map some) H' Hf' outs v r → Q v H'
  | .exc c d => ∀ cls dct H', ExcRel C lim c d cls dct H' → KeepG ⟨H, IO, Hf, Tt⟩ H' → E cls dct H'
  | .bad _ => False
theorem ownAt_noexc {ρ : Rho} {i : Nat} : ∀ c d, ownAt ρ i ≠ .exc c d := by
  intro c d h; unfold ownAt at h; split at h <;> cases h
section
variable {z : Z} {σ : L2.St} {H Hf : Hp} {ρ : Rho} {C : Cst} {g : G}
theorem ArgsOk.length : ∀ {bs : List Bool} {es : Exs} {vs : List V} {ss : List Slot}, ArgsOk C σ Hf ρ bs es vs ss → vs.length = ss.length
  | _, _, _, _, .nil => rfl
  | _, _, _, _, .val _ r => congrArg (· + 1) r.length
  | _, _, _, _, .ref _ _ r => congrArg (· + 1) r.length
theorem evAs_of (hg : z.ok g) : ∀ {bs : List Bool} {es : Exs} {H Hf : Hp} {ρ : Rho} {K : List V → Hp → Prop}, SR z.C g σ H Hf ρ → (Out z g σ Hf (evAs z.tb z.F bs es ρ) fun ss ρ1 H1 Hf1 => ∀ vs, ArgsOk z.C σ Hf1 ρ1 bs es vs ss → K vs H1) → tAs z bs es σ H K
  | [], .n, H, Hf, ρ, K, s, h => by
    simp only [evAs] at h
    exact h H Hf s (Le.refl _) [] .nil
  | [], .c _ _, H, Hf, ρ, K, s, h => by simp only [evAs] at h; exact h.elim
  | _ :: _, .n, H, Hf, ρ, K, s, h => by simp only [evAs] at h; exact h.elim
  | true :: bs, .c e es, H, Hf, ρ, K, s, h => by
    simp only [evAs, if_true] at h
    cases e with
    | var i =>
      obtain ⟨d, hd, h2⟩ := Out.bind' h slotD_noexc
      obtain ⟨v, hv, _⟩ := s.view hd
      refine ⟨v, hv, evAs_of hg s ((Out.bind h2).imp fun ss ρ1 H1 Hf1 s1 l1 k vs hvs => ?_)⟩
      obtain ⟨d1, e1, k2⟩ := Out.bind' k ownAt_noexc
      exact k2 H1 Hf1 s1 (Le.refl _) (v :: vs) (.ref hv e1 hvs)
    | _ => exact h.elim
  | false :: bs, .c e es, H, Hf, ρ, K, s, h => by
    simp only [evAs] at h
    refine ⟨g, hg, Hf, ρ, s, (Out.bind h).imp fun r ρ1 H1 Hf1 s1 l1 k v hv => ?_⟩
    obtain ⟨Hf2, s2, l2, hr⟩ := s1.freeze hv
    refine evAs_of hg s2 ((Out.bind (k.le l2)).imp fun ss ρ2 H3 Hf3 s3 l3 k3 vs hvs => ?_)
    exact k3 H3 Hf3 s3 (Le.refl _) (v :: vs) (.val (hr.le l3) hvs)
/-- an owned or lent name -/
theorem SR.own {i : Nat} {d : D} (s : SR C g σ H Hf ρ) (e : ownAt ρ i = .ok d) : ∃ a, σ[i]? = some (some (V.ref a)) ∧ Own C H Hf a d ∧ ((ρ[i]? = some (.ow d) ∧ g.H0 a = none) ∨ (ρ[i]? = some (.io d) ∧ (i, a) ∈ g.IO)) := by
  unfold ownAt at e
  split at e
  · rename_i q
    cases e
    obtain ⟨a, h1, h2, h3⟩ := s.ow i _ q
    exact ⟨a, h1, h2, .inl ⟨q, h3⟩⟩
  · rename_i q
    cases e
    obtain ⟨a, h1, h2, h3⟩ := s.io i _ q
    exact ⟨a, h1, h2, .inr ⟨q, h3⟩⟩
  · cases e
/-- two owned names hold two things -/
theorem SR.apart {i j : Nat} {d e : D} {a : Addr} (s : SR C g σ H Hf ρ) (hi : ownAt ρ i = .ok d) (hj : ownAt ρ j = .ok e) (hij : i ≠ j) (ha : σ[i]? = some (some (V.ref a))) : σ[j]? ≠ some (some (V.ref a)) := by
  intro hb
  obtain ⟨a1, h1, h2, h3⟩ := s.own hi
  obtain ⟨b1, k1, k2, k3⟩ := s.own hj
  rw [ha] at h1; injection h1 with h1; injection h1 with h1; injection h1 with h1; subst h1
  rw [hb] at k1; injection k1 with k1; injection k1 with k1; injection k1 with k1; subst k1
  rcases h3 with ⟨q1, q2⟩ | ⟨q1, q2⟩ <;> rcases k3 with ⟨r1, r2⟩ | ⟨r1, r2⟩
  · exact s.sep i j d e a hij q1 r1 ha hb
  · exact s.lent _ r2 q2
  · exact s.lent _ q2 r2
  · exact hij (s.lone _ q2 _ r2 rfl)
theorem bool_cases (b : Bool) : b = true ∨ b = false := by cases b <;> simp
theorem nodupN_cons {x : Nat} {xs : List Nat} (h : nodupN (x :: xs) = true) : x ∉ xs ∧ nodupN xs = true := by
  unfold nodupN at h
  simp only [Bool.and_eq_true, Bool.not_eq_true', List.contains_eq_mem, decide_eq_false_iff_not] at h
  exact h
/-- what is lent to a callee: the parameter's place, the thing, the name's place -/
structure Lent (C : Cst) (g : G) (σ : L2.St) (H Hf : Hp) (ρ : Rho) (n : Nat) (vs : List V) (ss : List Slot) (L : List (Nat × Addr × Nat)) : Prop where
  at_ : ∀ p ∈ L, σ[p.2.2]? = some (some (.ref p.2.1)) ∧ (∃ d, ownAt ρ p.2.2 = .ok d) ∧ n ≤ p.1 ∧ vs[p.1 - n]? = some (.ref p.2.1)
  inj : ∀ p ∈ L, ∀ q ∈ L, p.2.2 = q.2.2 → p.1 = q.1
  io : ∀ (k : Nat) (d : D), ss[k]? = some (.io d) → ∃ a i, (n + k, a, i) ∈ L ∧ vs[k]? = some (.ref a) ∧ Own C H Hf a d
  fz : ∀ (k : Nat) (d : D), ss[k]? = some (.fz d) → ∃ v, vs[k]? = some v ∧ Rep C Hf v d
  noow : ∀ (k : Nat) (d : D), ss[k]? ≠ some (.ow d)
theorem lent_of (s : SR C g σ H Hf ρ) : ∀ {bs : List Bool} {es : Exs} {vs : List V} {ss : List Slot} (n : Nat), ArgsOk C σ Hf ρ bs es vs ss → nodupN (refVars bs es) = true →
    ∃ L, Lent C g σ H Hf ρ n vs ss L ∧ ∀ p ∈ L, p.2.2 ∈ refVars bs es
  | _, _, _, _, n, .nil, _ => ⟨[], ⟨by simp, by simp, by simp, by simp, by simp⟩, by simp⟩
  | false :: bs, .c e es, v :: vs, .fz d :: ss, n, .val hr r, hn => by
    have hn' : nodupN (refVars bs es) = true := by
      cases e <;> simpa [refVars] using hn
    obtain ⟨L, l, hm⟩ := lent_of s (n + 1) r hn'
    refine ⟨L, ⟨fun p hp => ?_, l.inj, fun k d' e' => ?_, fun k d' e' => ?_, fun k d' e' => ?_⟩, fun p hp => ?_⟩
    · obtain ⟨h1, h2, h3, h4⟩ := l.at_ p hp
      refine ⟨h1, h2, by omega, ?_⟩
      have : p.1 - n = (p.1 - (n + 1)) + 1 := by omega
      rw [this]; simpa using h4
    · cases k with
      | zero => simp at e'
      | succ k =>
        obtain ⟨a, i, h1, h2, h3⟩ := l.io k d' (by simpa using e')
        exact ⟨a, i, by have : n + (k + 1) = n + 1 + k := by omega
                        rw [this]; exact h1, by simpa using h2, h3⟩
    · cases k with
      | zero => simp at e'; subst e'; exact ⟨v, rfl, hr⟩
      | succ k => obtain ⟨w, h1, h2⟩ := l.fz k d' (by simpa using e'); exact ⟨w, by simpa using h1, h2⟩
    · cases k with
      | zero => simp at e'
      | succ k => exact l.noow k d' (by simpa using e')
    · have := hm p hp
      cases e <;> simpa [refVars] using this
  | true :: bs, .c (.var i) es, v :: vs, .io d :: ss, n, .ref hv ho r, hn => by
    have hn2 : nodupN (i :: refVars bs es) = true := by simpa [refVars] using hn
    obtain ⟨hi, hn'⟩ := nodupN_cons hn2
    obtain ⟨L, l, hm⟩ := lent_of s (n + 1) r hn'
    obtain ⟨a, ha, hown, _⟩ := s.own ho
    have hva : v = .ref a := by rw [hv] at ha; injection ha with ha; injection ha
    subst hva
    refine ⟨(n, a, i) :: L, ⟨fun p hp => ?_, fun p hp q hq => ?_, fun k d' e' => ?_, fun k d' e' => ?_, fun k d' e' => ?_⟩, fun p hp => ?_⟩
    · rcases List.mem_cons.mp hp with e | hp
      · subst e; exact ⟨ha, ⟨d, ho⟩, Nat.le_refl _, by simp⟩
      · obtain ⟨h1, h2, h3, h4⟩ := l.at_ p hp
        refine ⟨h1, h2, by omega, ?_⟩
        have : p.1 - n = (p.1 - (n + 1)) + 1 := by omega
        rw [this]; simpa using h4
    · rcases List.mem_cons.mp hp with e | hp <;> rcases List.mem_cons.mp hq with e' | hq
      · subst e; subst e'; exact fun _ => rfl
      · subst e; intro h; exact absurd (by rw [show i = q.2.2 from h]; exact hm q hq) hi
      · subst e'; intro h; exact absurd (by rw [show i = p.2.2 from h.symm]; exact hm p hp) hi
      · exact l.inj p hp q hq
    · cases k with
      | zero => simp at e'; subst e'; exact ⟨a, i, by simp, rfl, hown⟩
      | succ k =>
        obtain ⟨a', i', h1, h2, h3⟩ := l.io k d' (by simpa using e')
        exact ⟨a', i', by have : n + (k + 1) = n + 1 + k := by omega
                          rw [this]; exact List.mem_cons_of_mem _ h1, by simpa using h2, h3⟩
    · cases k with
      | zero => simp at e'
      | succ k => obtain ⟨w, h1, h2⟩ := l.fz k d' (by simpa using e'); exact ⟨w, by simpa using h1, h2⟩
    · cases k with
      | zero => simp at e'
      | succ k => exact l.noow k d' (by simpa using e')
    · rcases List.mem_cons.mp hp with e | hp
      · subst e; simp [refVars]
      · simp [refVars]; exact .inr (hm p hp)
/-- the callee's state at its entry -/
theorem SR.enter (s : SR C g σ H Hf ρ) {bs : List Bool} {es : Exs} {vs : List V} {ss : List Slot} (ha : ArgsOk C σ Hf ρ bs es vs ss) (hn : nodupN (refVars bs es) = true) :
    ∃ L, Lent C g σ H Hf ρ 0 vs ss L ∧ (∀ p ∈ L, p.2.2 ∈ refVars bs es) ∧ SR C ⟨H, L.map (fun p => (p.1, p.2.1)), Hf, g.T⟩ (vs.map some) H Hf ss := by
  obtain ⟨L, l, hm⟩ := lent_of s 0 ha hn
  refine ⟨L, l, hm, ⟨by rw [List.length_map]; exact ha.length, s.sub, fun _ _ e _ _ => e, fun _ e => e, Le.refl _, s.tabs, s.nft, fun i d e => ?_, fun i d e => absurd e (l.noow i d), fun i d e => ?_, fun i j d e a _ h => absurd h (l.noow i d), fun p hp => ?_, fun a e => .inl e, fun p hp q hq h => ?_⟩⟩
  · obtain ⟨v, h1, h2⟩ := l.fz i d e
    exact ⟨v, by rw [List.getElem?_map, h1]; rfl, h2⟩
  · obtain ⟨a, j, h1, h2, h3⟩ := l.io i d e
    refine ⟨a, by rw [List.getElem?_map, h2]; rfl, h3, ?_⟩
    rw [Nat.zero_add] at h1
    exact List.mem_map.mpr ⟨_, h1, rfl⟩
  · obtain ⟨q, hq, rfl⟩ := List.mem_map.mp hp
    obtain ⟨h1, ⟨d, h2⟩, _⟩ := l.at_ q hq
    obtain ⟨a, k1, k2, _⟩ := s.own h2
    rw [h1] at k1; injection k1 with k1; injection k1 with k1; injection k1 with k1
    obtain ⟨o, ho, _⟩ := k2.there
    show H q.2.1 ≠ none
    rw [k1, ho]; simp
  · obtain ⟨p', hp', rfl⟩ := List.mem_map.mp hp
    obtain ⟨q', hq', rfl⟩ := List.mem_map.mp hq
    obtain ⟨h1, ⟨d, h2⟩, _⟩ := l.at_ p' hp'
    obtain ⟨k1, ⟨e, k2⟩, _⟩ := l.at_ q' hq'
    by_cases hpq : p'.2.2 = q'.2.2
    · exact l.inj p' hp' q' hq' hpq
    · refine absurd ?_ (s.apart h2 k2 hpq h1)
      have h' : p'.2.1 = q'.2.1 := h
      rw [k1, h']
theorem putAt_length {ρ : Rho} {i : Nat} {d : D} : (putAt ρ i d).length = ρ.length := by
  unfold putAt; split <;> simp
theorem putAt_ne {ρ : Rho} {i j : Nat} {d : D} (h : j ≠ i) : (putAt ρ i d)[j]? = ρ[j]? := by
  unfold putAt; split <;> exact List.getElem?_set_ne (Ne.symm h)
theorem putAt_ow {ρ : Rho} {i : Nat} {d e : D} (h : ρ[i]? = some (.ow e)) : (putAt ρ i d)[i]? = some (.ow d) := by
  have hi : i < ρ.length := (List.getElem?_eq_some_iff.mp h).1
  unfold putAt; rw [h]; exact List.getElem?_set_self hi
theorem putAt_io {ρ : Rho} {i : Nat} {d e : D} (h : ρ[i]? = some (.io e)) : (putAt ρ i d)[i]? = some (.io d) := by
  have hi : i < ρ.length := (List.getElem?_eq_some_iff.mp h).1
  unfold putAt; rw [h]; exact List.getElem?_set_self hi
theorem pb_spec {ρ0 : Rho} : ∀ {bs : List Bool} {es : Exs} {vs : List V} {ss outs : List Slot} {ρ ρ2 : Rho}, ArgsOk C σ Hf ρ0 bs es vs ss → nodupN (refVars bs es) = true → putBack bs es outs ρ = .ok ρ2 →
    ρ2.length = ρ.length ∧ (∀ i, i ∉ refVars bs es → ρ2[i]? = ρ[i]?) ∧ ∀ i ∈ refVars bs es, ∃ (k : Nat) (d' : D) (v : V), outs[k]? = some (.io d') ∧ vs[k]? = some v ∧ σ[i]? = some (some v) ∧ (∀ e, ρ[i]? = some (.ow e) → ρ2[i]? = some (.ow d')) ∧ (∀ e, ρ[i]? = some (.io e) → ρ2[i]? = some (.io d'))
  | _, _, _, _, outs, ρ, ρ2, .nil, _, h => by
    cases outs with
    | nil => simp only [putBack] at h; cases h; exact ⟨rfl, fun _ _ => rfl, by simp [refVars]⟩
    | cons _ _ => simp only [putBack] at h; cases h
  | false :: bs, .c e es, v :: vs, .fz d :: ss, outs, ρ, ρ2, .val hr r, hn, h => by
    have hn' : nodupN (refVars bs es) = true := by cases e <;> simpa [refVars] using hn
    have hrv : refVars (false :: bs) (.c e es) = refVars bs es := by cases e <;> simp [refVars]
    cases outs with
    | nil => simp only [putBack] at h; cases h
    | cons o outs =>
      simp only [putBack] at h
      obtain ⟨h1, h2, h3⟩ := pb_spec r hn' h
      rw [hrv]
      refine ⟨h1, h2, fun i hi => ?_⟩
      obtain ⟨k, d', w, q1, q2, q3⟩ := h3 i hi
      exact ⟨k + 1, d', w, by simpa using q1, by simpa using q2, q3⟩
  | true :: bs, .c (.var i) es, v :: vs, .io d :: ss, outs, ρ, ρ2, .ref hv ho r, hn, h => by
    have hn2 : nodupN (i :: refVars bs es) = true := by simpa [refVars] using hn
    obtain ⟨hi, hn'⟩ := nodupN_cons hn2
    have hrv : refVars (true :: bs) (.c (.var i) es) = i :: refVars bs es := by simp [refVars]
    cases outs with
    | nil => simp only [putBack] at h; cases h
    | cons o outs =>
      simp only [putBack] at h
      cases o with
      | io d' =>
        simp only at h
        obtain ⟨h1, h2, h3⟩ := pb_spec r hn' h
        rw [hrv]
        refine ⟨by rw [h1, putAt_length], fun j hj => ?_, fun j hj => ?_⟩
        · have hj1 : j ≠ i := fun z => hj (by rw [z]; exact List.mem_cons_self)
          have hj2 : j ∉ refVars bs es := fun z => hj (List.mem_cons_of_mem _ z)
          rw [h2 j hj2, putAt_ne hj1]
        · by_cases hji : j = i
          · subst hji
            refine ⟨0, d', v, rfl, rfl, hv, fun e he => ?_, fun e he => ?_⟩
            · rw [h2 j hi]; exact putAt_ow he
            · rw [h2 j hi]; exact putAt_io he
          · have hj2 : j ∈ refVars bs es := by
              rcases List.mem_cons.mp hj with e | e
              · exact absurd e hji
              · exact e
            obtain ⟨k, d2, w, q1, q2, q3, q4, q5⟩ := h3 j hj2
            exact ⟨k + 1, d2, w, by simpa using q1, by simpa using q2, q3, fun e he => q4 e (by rw [putAt_ne hji]; exact he), fun e he => q5 e (by rw [putAt_ne hji]; exact he)⟩
      | _ => cases h
/-- behind a call -/
theorem SR.behind {H1 Hf1 H' Hf' : Hp} {ρ1 ρ2 : Rho} {bs : List Bool} {es : Exs} {vs : List V} {ss outs : List Slot} {L : List (Nat × Addr × Nat)} (s : SR C g σ H1 Hf1 ρ1) (ha : ArgsOk C σ Hf1 ρ1 bs es vs ss) (hn : nodupN (refVars bs es) = true)
    (l : Lent C g σ H1 Hf1 ρ1 0 vs ss L) (hm : ∀ p ∈ L, p.2.2 ∈ refVars bs es) (c : SR C ⟨H1, L.map (fun p => (p.1, p.2.1)), Hf1, g.T⟩ (vs.map some) H' Hf' outs) (pb : putBack bs es outs ρ1 = .ok ρ2) : SR C g σ H' Hf' ρ2 := by
  obtain ⟨p1, p2, p3⟩ := pb_spec ha hn pb
  have inL : ∀ q ∈ L.map (fun p => (p.1, p.2.1)), ∃ i d, i ∈ refVars bs es ∧ ownAt ρ1 i = .ok d ∧ σ[i]? = some (some (.ref q.2)) := fun q hq => by
    obtain ⟨p, hp, rfl⟩ := List.mem_map.mp hq
    obtain ⟨h1, ⟨d, h2⟩, _⟩ := l.at_ p hp
    exact ⟨p.2.2, d, hm p hp, h2, h1⟩
  have keepOut : ∀ (i : Nat) (d : D) (a : Addr), i ∉ refVars bs es → ownAt ρ1 i = .ok d → σ[i]? = some (some (.ref a)) → Own C H1 Hf1 a d → Own C H' Hf' a d := fun i d a hi hd hs ho => by
    obtain ⟨o, h6, h7⟩ := ho.there
    refine ho.le c.fz0 ?_ (fun o e nt => c.base a o e nt fun q hq hqa => ?_)
    · cases q : Hf' a with
      | none => rfl
      | some u =>
        rcases c.newf a (by rw [q]; simp) with z | z
        · exact absurd ho.1 z
        · exact absurd z (by show H1 a ≠ none; rw [h6]; simp)
    · obtain ⟨j, e2, hj, hj2, hj3⟩ := inL q hq
      have hij : i ≠ j := fun z => hi (z ▸ hj)
      rw [hqa] at hj3
      exact s.apart hd hj2 hij hs hj3
  have inOw : ∀ i ∈ refVars bs es, ∃ d, ownAt ρ1 i = .ok d := fun i hi => by
    have : ∀ {bs : List Bool} {es : Exs} {vs : List V} {ss : List Slot}, ArgsOk C σ Hf1 ρ1 bs es vs ss → ∀ i ∈ refVars bs es, ∃ d, ownAt ρ1 i = .ok d := by
      intro bs es vs ss ha
      induction ha with
      | nil => intro i hi; simp [refVars] at hi
      | val _ r ih => rename_i e _ _ _ _ _; intro i hi; exact ih i (by cases e <;> simpa [refVars] using hi)
      | ref _ ho r ih =>
        intro i hi
        rcases List.mem_cons.mp (by simpa [refVars] using hi) with e | e
        · subst e; exact ⟨_, ho⟩
        · exact ih i e
    exact this ha i hi
  have back : ∀ i ∈ refVars bs es, (∃ e d', ρ1[i]? = some (.ow e) ∧ ρ2[i]? = some (.ow d') ∧ ∃ a, σ[i]? = some (some (.ref a)) ∧ Own C H' Hf' a d' ∧ g.H0 a = none) ∨ (∃ e d', ρ1[i]? = some (.io e) ∧ ρ2[i]? = some (.io d') ∧ ∃ a, σ[i]? = some (some (.ref a)) ∧ Own C H' Hf' a d' ∧ (i, a) ∈ g.IO) := fun i hi => by
    obtain ⟨d, hd⟩ := inOw i hi
    obtain ⟨a, h1, h2, h3⟩ := s.own hd
    obtain ⟨k, d', v, q1, q2, q3, q4, q5⟩ := p3 i hi
    obtain ⟨b, r1, r2, _⟩ := c.io k d' q1
    have hb : b = a := by
      rw [List.getElem?_map, q2] at r1
      rw [h1] at q3
      injection q3 with q3; injection q3 with q3; subst q3
      injection r1 with r1; injection r1 with r1; injection r1 with r1; exact r1.symm
    subst hb
    rcases h3 with ⟨e1, e2⟩ | ⟨e1, e2⟩
    · exact .inl ⟨d, d', e1, q4 d e1, b, h1, r2, e2⟩
    · exact .inr ⟨d, d', e1, q5 d e1, b, h1, r2, e2⟩
  have wasOw : ∀ (i : Nat) (d : D), ρ2[i]? = some (Slot.ow d) → ∃ e : D, ρ1[i]? = some (Slot.ow e) := fun i d e => by
    by_cases hi : i ∈ refVars bs es
    · rcases back i hi with ⟨e1, d', h1, h2, _⟩ | ⟨e1, d', h1, h2, _⟩
      · exact ⟨e1, h1⟩
      · rw [e] at h2; cases h2
    · rw [p2 i hi] at e; exact ⟨d, e⟩
  refine ⟨by rw [s.len, p1], c.sub, fun a o e nt hio => c.base a o (s.base a o e nt hio) nt fun q hq hqa => ?_, fun a e => c.dom a (s.dom a e), fun a o e => c.fz0 a o (s.fz0 a o e), c.tabs, c.nft, fun i d e => ?_, fun i d e => ?_, fun i d e => ?_, fun i j d e a hij h1 h2 h3 => ?_, s.lent, fun a e => ?_, s.lone⟩
  · obtain ⟨j, e2, hj, hj2, hj3⟩ := inL q hq
    obtain ⟨b, k1, k2, k3⟩ := s.own hj2
    rw [hj3] at k1; injection k1 with k1; injection k1 with k1; injection k1 with k1
    rcases k3 with ⟨_, k4⟩ | ⟨_, k4⟩
    · rw [← k1, hqa, e] at k4; cases k4
    · exact hio _ k4 (by rw [← k1]; exact hqa)
  · by_cases hi : i ∈ refVars bs es
    · rcases back i hi with ⟨e1, d', h1, h2, _⟩ | ⟨e1, d', h1, h2, _⟩ <;> (rw [e] at h2; cases h2)
    · rw [p2 i hi] at e
      obtain ⟨v, h1, h2⟩ := s.fz i d e
      exact ⟨v, h1, h2.le c.fz0⟩
  · by_cases hi : i ∈ refVars bs es
    · rcases back i hi with ⟨e1, d', h1, h2, h3⟩ | ⟨e1, d', h1, h2, _⟩
      · rw [e] at h2; cases h2; exact h3
      · rw [e] at h2; cases h2
    · rw [p2 i hi] at e
      obtain ⟨a, h1, h2, h3⟩ := s.ow i d e
      exact ⟨a, h1, keepOut i d a hi (by unfold ownAt; rw [e]) h1 h2, h3⟩
  · by_cases hi : i ∈ refVars bs es
    · rcases back i hi with ⟨e1, d', h1, h2, _⟩ | ⟨e1, d', h1, h2, h3⟩
      · rw [e] at h2; cases h2
      · rw [e] at h2; cases h2; exact h3
    · rw [p2 i hi] at e
      obtain ⟨a, h1, h2, h3⟩ := s.io i d e
      exact ⟨a, h1, keepOut i d a hi (by unfold ownAt; rw [e]) h1 h2, h3⟩
  · obtain ⟨e1, q1⟩ := wasOw i d h1
    obtain ⟨e2, q2⟩ := wasOw j e h2
    exact s.sep i j e1 e2 a hij q1 q2 h3
  · rcases c.newf a e with z | z
    · exact s.newf a z
    · refine .inr ?_
      cases q : g.H0 a with
      | none => rfl
      | some o => exact absurd z (s.dom a (by rw [q]; simp))
theorem putBack_noexc : ∀ {bs : List Bool} {es : Exs} {outs : List Slot} {ρ : Rho} (c : Nat) (d : D), putBack bs es outs ρ ≠ .exc c d
  | [], .n, [], ρ, c, d, h => by simp only [putBack] at h; cases h
  | [], .n, _ :: _, ρ, c, d, h => by simp only [putBack] at h; cases h
  | [], .c _ _, _, ρ, c, d, h => by simp only [putBack] at h; cases h
  | _ :: _, .n, _, ρ, c, d, h => by simp only [putBack] at h; cases h
  | _ :: _, .c _ _, [], ρ, c, d, h => by simp only [putBack] at h; cases h
  | false :: bs, .c e es, o :: outs, ρ, c, d, h => by simp only [putBack] at h; exact putBack_noexc c d h
  | true :: bs, .c e es, o :: outs, ρ, c, d, h => by
    cases e with
    | var i =>
      simp only [putBack] at h
      cases o with
      | io d' => exact putBack_noexc c d h
      | _ => cases h
    | _ => simp only [putBack] at h; cases h
/-- a call -/
theorem tE_call {j : Nat} {es : Exs} {Q : VK} (h : tE z (.call j es) σ H Q) :
    ∃ fd, z.tb.fns[j]? = some fd ∧ tAs z fd.refs es σ H fun vs H1 => spF z.C z.lim z.T z.Hb z.F fd.params j vs H1 Q z.EW := by
  obtain ⟨g, hg, Hf, ρ, s, h⟩ := h
  simp only [ev] at h
  cases q : z.tb.fns[j]? with
  | none => rw [q] at h; exact h.elim
  | some fd =>
    rw [q] at h
    refine ⟨fd, rfl, ?_⟩
    dsimp only at h
    split at h
    · exact h.elim
    · rename_i hnd
      have hn2 : nodupN (refVars fd.refs es) = true ∧ fd.refs.length = fd.params := by
        rcases bool_cases (nodupN (refVars fd.refs es) && fd.refs.length == fd.params) with e | e
        · simpa using e
        · rw [e] at hnd; exact absurd rfl hnd
      have hn := hn2.1
      refine evAs_of hg s ((Out.bind h).imp fun ss ρ1 H1 Hf1 s1 l1 k vs hvs => ?_)
      · have hlen : vs.length = fd.params := by
          have : ∀ {bs : List Bool} {es : Exs} {vs : List V} {ss : List Slot}, ArgsOk z.C σ Hf1 ρ1 bs es vs ss → bs.length = vs.length := by
            intro bs es vs ss ha
            induction ha with
            | nil => rfl
            | val _ r ih => simpa using ih
            | ref _ _ r ih => simpa using ih
          rw [← this hvs]; exact hn2.2
        obtain ⟨L, l, hm, se⟩ := s1.enter hvs hn
        refine ⟨hlen, _, Hf1, ss, hg.hb.trans s1.fz0, hg.t ▸ se, fun p hp => ?_, ?_⟩
        · obtain ⟨q, hq, rfl⟩ := List.mem_map.mp hp
          exact (l.at_ q hq).2.2.2
        have k' : Out z g σ Hf1 ((z.F j ss).bind fun p => (putBack fd.refs es p.2 ρ1).bind fun ρ2 => .ok (p.1, ρ2)) _ := k
        revert k'
        cases z.F j ss with
        | ok p =>
          obtain ⟨r, outs⟩ := p
          intro k' v H' Hf' s' l' rv
          obtain ⟨ρ2, e2, k3⟩ := Out.bind' (x := putBack fd.refs es outs ρ1) k' putBack_noexc
          have s2 := s1.behind hvs hn l hm (hg.t.symm ▸ s') e2
          refine k3 H' Hf' s2 l' v ?_
          cases r with
          | fz d => exact rv
          | ow d =>
            obtain ⟨a, rfl, ho, h0, _⟩ := rv
            have h0' : H1 a = none := h0
            refine ⟨a, rfl, ho, ?_, fun i e hi hs => ?_⟩
            · cases q : g.H0 a with
              | none => rfl
              | some o => exact absurd h0' (s1.dom a (by rw [q]; simp))
            · obtain ⟨b, k1, k2, k4⟩ := s2.ow i e hi
              rw [hs] at k1; injection k1 with k1; injection k1 with k1; injection k1 with k1; subst k1
              have : ∃ e, ownAt ρ1 i = .ok e := by
                obtain ⟨p1, p2, p3⟩ := pb_spec hvs hn e2
                by_cases hi2 : i ∈ refVars fd.refs es
                · obtain ⟨k, d', v, q1, q2, q3, q4, q5⟩ := p3 i hi2
                  cases hr : ρ1[i]? with
                  | none =>
                    have := List.getElem?_eq_none_iff.mp hr
                    have : ρ2[i]? = none := List.getElem?_eq_none_iff.mpr (by omega)
                    rw [hi] at this; cases this
                  | some sl =>
                    cases sl with
                    | ow e => exact ⟨e, by unfold ownAt; rw [hr]⟩
                    | io e => exact ⟨e, by unfold ownAt; rw [hr]⟩
                    | fz e =>
                      exfalso
                      have : ∀ {bs : List Bool} {es : Exs} {vs : List V} {ss : List Slot}, ArgsOk z.C σ Hf1 ρ1 bs es vs ss → ∀ i ∈ refVars bs es, ∃ d, ownAt ρ1 i = .ok d := by
                        intro bs es vs ss ha
                        induction ha with
                        | nil => intro i hi; simp [refVars] at hi
                        | val _ r ih => rename_i e _ _ _ _ _; intro i hi; exact ih i (by cases e <;> simpa [refVars] using hi)
                        | ref _ ho r ih =>
                          intro i hi
                          rcases List.mem_cons.mp (by simpa [refVars] using hi) with e | e
                          · subst e; exact ⟨_, ho⟩
                          · exact ih i e
                      obtain ⟨d, hd⟩ := this hvs i hi2
                      unfold ownAt at hd; rw [hr] at hd; cases hd
                    | non =>
                      exfalso
                      have : ∀ {bs : List Bool} {es : Exs} {vs : List V} {ss : List Slot}, ArgsOk z.C σ Hf1 ρ1 bs es vs ss → ∀ i ∈ refVars bs es, ∃ d, ownAt ρ1 i = .ok d := by
                        intro bs es vs ss ha
                        induction ha with
                        | nil => intro i hi; simp [refVars] at hi
                        | val _ r ih => rename_i e _ _ _ _ _; intro i hi; exact ih i (by cases e <;> simpa [refVars] using hi)
                        | ref _ ho r ih =>
                          intro i hi
                          rcases List.mem_cons.mp (by simpa [refVars] using hi) with e | e
                          · subst e; exact ⟨_, ho⟩
                          · exact ih i e
                      obtain ⟨d, hd⟩ := this hvs i hi2
                      unfold ownAt at hd; rw [hr] at hd; cases hd
                · exact ⟨e, by unfold ownAt; rw [← p2 i hi2, hi]⟩
              obtain ⟨e', he'⟩ := this
              obtain ⟨b, m1, m2, _⟩ := s1.own he'
              rw [hs] at m1; injection m1 with m1; injection m1 with m1; injection m1 with m1; subst m1
              obtain ⟨o, ho2, _⟩ := m2.there
              rw [h0'] at ho2; cases ho2
        | exc c d =>
          intro k' cls dct H' hx hk
          exact k' cls dct H' hx ⟨fun a o e nt hio => hk.base a o (s1.base a o e nt hio) nt fun p hp hpa => by
            obtain ⟨q, hq, rfl⟩ := List.mem_map.mp hp
            obtain ⟨h1, ⟨d, h2⟩, _⟩ := l.at_ q hq
            obtain ⟨b, m1, _, m3⟩ := s1.own h2
            rw [h1] at m1; injection m1 with m1; injection m1 with m1; injection m1 with m1
            rcases m3 with ⟨_, m4⟩ | ⟨_, m4⟩
            · rw [← m1] at m4
              have hpa' : q.2.1 = a := hpa
              rw [hpa', e] at m4; cases m4
            · exact hio _ m4 (by rw [← m1]; exact hpa), fun a e => hk.dom a (s1.dom a e), fun a o e => hk.fz0 a o (s1.fz0 a o e), hg.t.symm ▸ hk.tabs⟩
        | bad n => exact fun k' => k'
end
end Ev


set_option maxHeartbeats 4000000
namespace Ev
open PySem L2
section
variable {z : Z} {g : G} {σ σ' : L2.St} {H Hf H' Hf' : Hp} {ρ ρ' : Rho} {C : Cst}
/-- other slots, each known or forgotten -/
theorem SR.reslot (s : SR C g σ H Hf ρ) (len : σ'.length = ρ'.length) (h : ∀ (i : Nat) (sl : Slot), ρ'[i]? = some sl → sl = .non ∨ (ρ[i]? = some sl ∧ σ'[i]? = σ[i]?)) : SR C g σ' H Hf ρ' where
  len := len
  sub := s.sub
  base := s.base
  dom := s.dom
  fz0 := s.fz0
  tabs := s.tabs
  nft := s.nft
  fz := fun i d e => by
    rcases h i _ e with q | ⟨q, r⟩
    · cases q
    · rw [r]; exact s.fz i d q
  ow := fun i d e => by
    rcases h i _ e with q | ⟨q, r⟩
    · cases q
    · rw [r]; exact s.ow i d q
  io := fun i d e => by
    rcases h i _ e with q | ⟨q, r⟩
    · cases q
    · rw [r]; exact s.io i d q
  sep := fun i j d e a hij hi hj hs hs' => by
    rcases h i _ hi with q | ⟨q, r⟩
    · cases q
    · rcases h j _ hj with q2 | ⟨q2, r2⟩
      · cases q2
      · rw [r] at hs; rw [r2] at hs'; exact s.sep i j d e a hij q q2 hs hs'
  lent := s.lent
  newf := s.newf
  lone := s.lone
/-- other slots, each known, forgotten or frozen -/
theorem SR.reslot2 (s : SR C g σ H Hf ρ) (len : σ'.length = ρ'.length) (h : ∀ (i : Nat) (sl : Slot), ρ'[i]? = some sl → sl = .non ∨ (ρ[i]? = some sl ∧ σ'[i]? = σ[i]?) ∨ ∃ d v, sl = .fz d ∧ σ'[i]? = some (some v) ∧ Rep C Hf v d) : SR C g σ' H Hf ρ' where
  len := len
  sub := s.sub
  base := s.base
  dom := s.dom
  fz0 := s.fz0
  tabs := s.tabs
  nft := s.nft
  fz := fun i d e => by
    rcases h i _ e with q | ⟨q, r⟩ | ⟨d', v, q, r1, r2⟩
    · cases q
    · rw [r]; exact s.fz i d q
    · cases q; exact ⟨v, r1, r2⟩
  ow := fun i d e => by
    rcases h i _ e with q | ⟨q, r⟩ | ⟨d', v, q, r1, r2⟩
    · cases q
    · rw [r]; exact s.ow i d q
    · cases q
  io := fun i d e => by
    rcases h i _ e with q | ⟨q, r⟩ | ⟨d', v, q, r1, r2⟩
    · cases q
    · rw [r]; exact s.io i d q
    · cases q
  sep := fun i j d e a hij hi hj hs hs' => by
    rcases h i _ hi with q | ⟨q, r⟩ | ⟨d', v, q, r1, r2⟩
    · cases q
    · rcases h j _ hj with q2 | ⟨q2, r2⟩ | ⟨d', v, q2, r1, r2⟩
      · cases q2
      · rw [r] at hs; rw [r2] at hs'; exact s.sep i j d e a hij q q2 hs hs'
      · cases q2
    · cases q
  lent := s.lent
  newf := s.newf
  lone := s.lone
/-- a slot is given a frozen value -/
theorem SR.setFz {i : Nat} {v : V} {d : D} (s : SR C g σ H Hf ρ) (hi : i < ρ.length) (h : Rep C Hf v d) (nio : ∀ e, ρ[i]? ≠ some (.io e)) : SR C g (σ.set i (some v)) H Hf (ρ.set i (.fz d)) := by
  have hl := s.len
  have ne : ∀ {j : Nat} {sl : Slot}, sl ≠ .fz d → (ρ.set i (Slot.fz d))[j]? = some sl → ρ[j]? = some sl ∧ (σ.set i (some v))[j]? = σ[j]? := fun {j sl} hsl e => by
    by_cases hj : i = j
    · subst hj; rw [List.getElem?_set_self hi] at e; cases e; exact absurd rfl hsl
    · rw [List.getElem?_set_ne hj] at e ⊢; exact ⟨e, rfl⟩
  refine ⟨by simpa using hl, s.sub, s.base, s.dom, s.fz0, s.tabs, s.nft, fun j d' e => ?_, fun j d' e => ?_, fun j d' e => ?_, fun j k d1 d2 a hjk h1 h2 h3 h4 => ?_, s.lent, s.newf, s.lone⟩
  · by_cases hj : i = j
    · subst hj
      rw [List.getElem?_set_self hi] at e
      cases e
      exact ⟨v, List.getElem?_set_self (by omega), h⟩
    · rw [List.getElem?_set_ne hj] at e ⊢; exact s.fz j d' e
  · obtain ⟨q, r⟩ := ne (by simp) e
    rw [r]; exact s.ow j d' q
  · obtain ⟨q, r⟩ := ne (by simp) e
    rw [r]; exact s.io j d' q
  · obtain ⟨q, r⟩ := ne (by simp) h1
    obtain ⟨q2, r2⟩ := ne (by simp) h2
    rw [r] at h3; rw [r2] at h4; exact s.sep j k d1 d2 a hjk q q2 h3 h4
/-- a slot is given a thing of its own -/
theorem SR.setOw {i : Nat} {a : Addr} {d : D} (s : SR C g σ H Hf ρ) (hi : i < ρ.length) (ho : Own C H Hf a d) (h0 : g.H0 a = none) (hs : ∀ (j : Nat) (e : D), ρ[j]? = some (.ow e) → σ[j]? ≠ some (some (V.ref a))) (nio : ∀ e, ρ[i]? ≠ some (.io e)) : SR C g (σ.set i (some (.ref a))) H Hf (ρ.set i (.ow d)) := by
  have hl := s.len
  have ne : ∀ {j : Nat} {sl : Slot}, i ≠ j → (ρ.set i (Slot.ow d))[j]? = some sl → ρ[j]? = some sl ∧ (σ.set i (some (V.ref a)))[j]? = σ[j]? := fun {j sl} hj e => by
    rw [List.getElem?_set_ne hj] at e ⊢; exact ⟨e, rfl⟩
  refine ⟨by simpa using hl, s.sub, s.base, s.dom, s.fz0, s.tabs, s.nft, fun j d' e => ?_, fun j d' e => ?_, fun j d' e => ?_, fun j k d1 d2 b hjk h1 h2 h3 h4 => ?_, s.lent, s.newf, s.lone⟩
  · by_cases hj : i = j
    · subst hj; rw [List.getElem?_set_self hi] at e; cases e
    · obtain ⟨q, r⟩ := ne hj e; rw [r]; exact s.fz j d' q
  · by_cases hj : i = j
    · subst hj; rw [List.getElem?_set_self hi] at e; cases e
      exact ⟨a, List.getElem?_set_self (by omega), ho, h0⟩
    · obtain ⟨q, r⟩ := ne hj e; rw [r]; exact s.ow j d' q
  · by_cases hj : i = j
    · subst hj; rw [List.getElem?_set_self hi] at e; cases e
    · obtain ⟨q, r⟩ := ne hj e; rw [r]; exact s.io j d' q
  · by_cases hj : i = j
    · subst hj
      rw [List.getElem?_set_self (by omega)] at h3
      injection h3 with h3; injection h3 with h3; injection h3 with h3; subst h3
      obtain ⟨q, r⟩ := ne hjk h2
      rw [r] at h4; exact hs k d2 q h4
    · obtain ⟨q, r⟩ := ne hj h1
      rw [r] at h3
      by_cases hk : i = k
      · subst hk
        rw [List.getElem?_set_self (by omega)] at h4
        injection h4 with h4; injection h4 with h4; injection h4 with h4; subst h4
        exact hs j d1 q h3
      · obtain ⟨q2, r2⟩ := ne hk h2
        rw [r2] at h4; exact s.sep j k d1 d2 b hjk q q2 h3 h4
end
def Tgs.len : Tgs → Nat
  | .n => 0 | .c _ ts => ts.len + 1
mutual
def gT (K : PySem.W.Frag) : Tg → TG
  | .nm i => gName i
  | .tp ts => gTup K ts.len (gTs K ts)
def gTs (K : PySem.W.Frag) : Tgs → TGs
  | .n => gNil
  | .c t ts => gCons (gT K t) (gTs K ts)
end
theorem setTgs_len : ∀ {ts : Tgs} {xs : List D} {ρ ρ' : Rho}, setTgs ts xs ρ = .ok ρ' → xs.length = ts.len
  | .n, [], _, _, _ => rfl
  | .n, _ :: _, _, _, h => by simp only [setTgs] at h; cases h
  | .c t ts, [], _, _, h => by simp only [setTgs] at h; cases h
  | .c t ts, x :: xs, ρ, ρ', h => by
    simp only [setTgs] at h
    cases q : setTg t (.fz x) ρ with
    | ok r => rw [q] at h; simp [Tgs.len, setTgs_len (ts := ts) h]
    | exc c d => rw [q] at h; cases h
    | bad n => rw [q] at h; cases h
section
variable {g : G} {H Hf : Hp} {C : Cst}
/-- what a store leaves -/
structure Stored (C : Cst) (g : G) (σ σ' : L2.St) (H Hf : Hp) (ρ' : Rho) (is : List Nat) : Prop where
  sr : SR C g σ' H Hf ρ'
  len : σ'.length = σ.length
  out : ∀ i, i ∉ is → σ'[i]? = σ[i]?
mutual
theorem gT_fz : ∀ {t : Tg} {σ : L2.St} {ρ ρ' : Rho} {v : V} {d : D} {Q : L2.St → Hp → Prop}, SR C g σ H Hf ρ → Rep C Hf v d → setTg t (.fz d) ρ = .ok ρ' → (∀ σ', Stored C g σ σ' H Hf ρ' t.vars → Q σ' H) → gT C.K t v σ H Q
  | .nm i, σ, ρ, ρ', v, d, Q, s, hr, h, k => by
    simp only [setTg] at h
    split at h
    · cases h
    · cases h
    · rename_i sl hns hq
      cases h
      have hi : i < ρ.length := (List.getElem?_eq_some_iff.mp hq).1
      refine k _ ⟨s.setFz hi hr (fun e z => ?_), by simp, fun j hj => ?_⟩
      · rw [hq] at z; cases z; exact hns e rfl
      · simp only [Tg.vars, List.mem_singleton] at hj
        exact List.getElem?_set_ne (Ne.symm hj)
  | .tp ts, σ, ρ, ρ', v, d, Q, s, hr, h, k => by
    simp only [setTg] at h
    split at h
    · rename_i xs e
      have e' : d = .tup xs := e
      subst e'
      cases hr with
      | tup sq r =>
        refine ⟨_, _, rfl, SqT.le s.sub sq, by rw [r.length, setTgs_len h], gTs_fz s r h k⟩
    · cases h
theorem gTs_fz : ∀ {ts : Tgs} {σ : L2.St} {ρ ρ' : Rho} {vs : List V} {ds : List D} {Q : L2.St → Hp → Prop}, SR C g σ H Hf ρ → Reps C Hf vs ds → setTgs ts ds ρ = .ok ρ' → (∀ σ', Stored C g σ σ' H Hf ρ' ts.vars → Q σ' H) → gTs C.K ts vs σ H Q
  | .n, σ, ρ, ρ', vs, ds, Q, s, hr, h, k => by
    cases hr with
    | nil => simp only [setTgs] at h; cases h; exact ⟨rfl, k σ ⟨s, rfl, fun _ _ => rfl⟩⟩
    | cons _ _ => simp only [setTgs] at h; cases h
  | .c t ts, σ, ρ, ρ', vs, ds, Q, s, hr, h, k => by
    cases hr with
    | nil => simp only [setTgs] at h; cases h
    | cons h1 h2 =>
      rename_i v vs d ds
      simp only [setTgs] at h
      cases q : setTg t (.fz d) ρ with
      | ok ρ1 =>
        rw [q] at h
        refine ⟨v, vs, rfl, gT_fz s h1 q fun σ1 st1 => gTs_fz st1.sr h2 h fun σ2 st2 => k σ2 ⟨st2.sr, st2.len.trans st1.len, fun i hi => ?_⟩⟩
        have hi' : i ∉ t.vars ∧ i ∉ ts.vars := by simpa [Tgs.vars, List.mem_append, not_or] using hi
        rw [st2.out i hi'.2, st1.out i hi'.1]
      | exc c d => rw [q] at h; cases h
      | bad n => rw [q] at h; cases h
end
/-- a result is stored -/
theorem gT_rv {t : Tg} {σ : L2.St} {ρ ρ' : Rho} {v : V} {r : RV} {Q : L2.St → Hp → Prop} (s : SR C g σ H Hf ρ) (hr : RVok C g σ H Hf ρ v r) (h : setTg t r ρ = .ok ρ') (k : ∀ σ' Hf', Le Hf Hf' → Stored C g σ σ' H Hf' ρ' t.vars → Q σ' H) : gT C.K t v σ H Q := by
  cases r with
  | fz d => exact gT_fz s hr h fun σ' st => k σ' Hf (Le.refl _) st
  | ow d =>
    cases t with
    | nm i =>
      simp only [setTg] at h
      split at h
      · cases h
      · cases h
      · rename_i sl hns hq
        cases h
        have hi : i < ρ.length := (List.getElem?_eq_some_iff.mp hq).1
        obtain ⟨a, rfl, ho, h0, hs⟩ := hr
        refine k _ Hf (Le.refl _) ⟨s.setOw hi ho h0 hs (fun e z => ?_), by simp, fun j hj => ?_⟩
        · rw [hq] at z; cases z; exact hns e rfl
        · simp only [Tg.vars, List.mem_singleton] at hj
          exact List.getElem?_set_ne (Ne.symm hj)
    | tp ts =>
      have hd : ∃ xs, d = .tup xs := by
        simp only [setTg, RV.d] at h
        split at h
        · exact ⟨_, rfl⟩
        · cases h
      obtain ⟨xs, rfl⟩ := hd
      obtain ⟨a, _, ho, _⟩ := hr
      exact ho.2.elim
theorem setTg_noexc : ∀ {t : Tg} {r : RV} {ρ : Rho} (c : Nat) (d : D), setTg t r ρ ≠ .exc c d := by
  have key : ∀ n : Nat, (∀ {t : Tg} {r : RV} {ρ : Rho} (c : Nat) (d : D), sizeOf t ≤ n → setTg t r ρ ≠ .exc c d) ∧ (∀ {ts : Tgs} {xs : List D} {ρ : Rho} (c : Nat) (d : D), sizeOf ts ≤ n → setTgs ts xs ρ ≠ .exc c d) := by
    intro n
    induction n with
    | zero =>
      refine ⟨fun {t r ρ} c d h => ?_, fun {ts xs ρ} c d h => ?_⟩
      · cases t <;> simp at h
      · cases ts <;> simp at h
    | succ n ih =>
      refine ⟨fun {t r ρ} c d hz h => ?_, fun {ts xs ρ} c d hz h => ?_⟩
      · cases t with
        | nm i => simp only [setTg] at h; split at h <;> cases h
        | tp ts =>
          simp only [setTg] at h
          split at h
          · exact ih.2 c d (by simp at hz; omega) h
          · cases h
      · cases ts with
        | n => cases xs <;> (simp only [setTgs] at h; cases h)
        | c t ts =>
          cases xs with
          | nil => simp only [setTgs] at h; cases h
          | cons x xs =>
            simp only [setTgs] at h
            cases q : setTg t (.fz x) ρ with
            | ok ρ1 => rw [q] at h; exact ih.2 c d (by simp at hz; omega) h
            | exc c' d' => exact ih.1 c' d' (by simp at hz; omega) q
            | bad m => rw [q] at h; cases h
  intro t r ρ c d
  exact (key (sizeOf t)).1 c d (Nat.le_refl _)
end
end Ev


set_option maxHeartbeats 4000000
namespace Ev
open PySem L2
/-- an iterator that yields these data -/
structure Walk (C : Cst) (J : L2.It) (Hf : Hp) (ds : List D) : Prop where
  go : ∀ i H, Le Hf H → i < ds.length → J.go i H
  yld : ∀ i H x H' Hf1, Le Hf Hf1 → Le Hf1 H → J.yld i H x H' → ∀ d, ds[i]? = some d → ∃ Hf', PO C H Hf1 x (.fz d) H' Hf'
  stop : ∀ i H, Le Hf H → ds.length ≤ i → J.stop i H
def tI (z : Z) (it : It) : TI := fun σ H R => ∃ g, z.ok g ∧ ∃ Hf ρ, SR z.C g σ H Hf ρ ∧ Out z g σ Hf (evIt z.tb z.F it ρ) fun ds _ H1 Hf1 => ∀ J, Walk z.C J Hf1 ds → R J H1
section
variable {C : Cst} {H Hf : Hp}
theorem Reps.get1 {vs : List V} {ds : List D} {i : Nat} {v : V} {d : D} (r : Reps C Hf vs ds) (hv : vs[i]? = some v) (hd : ds[i]? = some d) : Rep C Hf v d := by
  obtain ⟨w, h1, h2⟩ := r.get hd
  rw [hv] at h1; cases h1; exact h2
theorem walk_list {a : Addr} {xs : List V} {ds : List D} (h : Rd Hf a (.lst xs)) (r : Reps C Hf xs ds) : Walk C (Itl C.K a) Hf ds where
  go := fun i H le hi => by
    have : i < xs.length := by rw [r.length]; exact hi
    exact ⟨xs, xs[i], .inl (Rd.le le h), List.getElem?_eq_getElem this⟩
  yld := fun i H x H' Hf1 l1 l2 ⟨e, hx⟩ d hd => by
    subst e
    have := hx xs (.inl (Rd.le (l1.trans l2) h))
    exact ⟨Hf1, PO.same l2 ((r.get1 this hd).le l1)⟩
  stop := fun i H le hi => ⟨xs, .inl (Rd.le le h), by rw [r.length]; exact hi⟩
theorem walk_tup {a : Addr} {xs : List V} {ds : List D} (h : SqT C.K Hf a xs) (r : Reps C Hf xs ds) : Walk C (Itt C.K a) Hf ds where
  go := fun i H le hi => by
    have : i < xs.length := by rw [r.length]; exact hi
    exact ⟨xs, xs[i], SqT.le le h, List.getElem?_eq_getElem this⟩
  yld := fun i H x H' Hf1 l1 l2 ⟨e, hx⟩ d hd => by
    subst e
    have := hx xs (SqT.le (l1.trans l2) h)
    exact ⟨Hf1, PO.same l2 ((r.get1 this hd).le l1)⟩
  stop := fun i H le hi => ⟨xs, SqT.le le h, by rw [r.length]; exact hi⟩
theorem walk_str {l : List Nat} : Walk C (Its (Sx l)) Hf (l.map fun c => .str [c]) where
  go := fun i H le hi => by simpa [Its, Sx] using hi
  yld := fun i H x H' Hf1 l1 l2 ⟨e, c, hc, hx⟩ d hd => by
    subst e; subst hx
    have hc' : l[i]? = some c := by simpa [Sx] using hc
    rw [List.getElem?_map, hc'] at hd
    cases hd
    exact ⟨Hf1, PO.same l2 (.str (l := [c]) (show 1 ≤ szL by decide))⟩
  stop := fun i H le hi => by simpa [Its, Sx] using hi
theorem rngD_length : ∀ (n : Nat) (lo : Int), (rngD lo n).length = n
  | 0, _ => rfl
  | n + 1, lo => by simp [rngD, rngD_length n]
theorem rngD_get : ∀ (n : Nat) (lo : Int) (i : Nat) (d : D), (rngD lo n)[i]? = some d → d = .int (lo + i)
  | 0, _, _, _, h => by simp [rngD] at h
  | n + 1, lo, 0, d, h => by simp [rngD] at h; rw [← h]; simp
  | n + 1, lo, i + 1, d, h => by
    have := rngD_get n (lo + 1) i d (by simpa [rngD] using h)
    rw [this]; congr 1; push_cast; omega
theorem walk_rng {lo : Int} {n : Nat} : Walk C (Itr lo n) Hf (rngD lo n) where
  go := fun i H le hi => by rw [rngD_length] at hi; exact hi
  yld := fun i H x H' Hf1 l1 l2 ⟨e, hx⟩ d hd => by
    subst e; subst hx
    rw [rngD_get _ _ _ _ hd]
    exact ⟨Hf1, PO.same l2 (.int _)⟩
  stop := fun i H le hi => by rw [rngD_length] at hi; exact hi
theorem enumD_get : ∀ (xs : List D) (n : Int) (i : Nat) (d : D), (enumD n xs)[i]? = some d → ∃ x, xs[i]? = some x ∧ d = .tup [.int (n + i), x]
  | [], _, _, _, h => by simp [enumD] at h
  | x :: xs, n, 0, d, h => by simp [enumD] at h; exact ⟨x, rfl, by rw [← h]; simp⟩
  | x :: xs, n, i + 1, d, h => by
    obtain ⟨y, h1, h2⟩ := enumD_get xs (n + 1) i d (by simpa [enumD] using h)
    exact ⟨y, by simpa using h1, by rw [h2]; congr 3; push_cast; omega⟩
theorem enumD_length : ∀ (xs : List D) (n : Int), (enumD n xs).length = xs.length
  | [], _ => rfl
  | x :: xs, n => by simp [enumD, enumD_length xs]
theorem walk_enum {a : Addr} {xs : List V} {ds : List D} (h : Rd Hf a (.lst xs)) (r : Reps C Hf xs ds) : Walk C (Ite C.K a) Hf (enumD 0 ds) where
  go := fun i H le hi => by
    rw [enumD_length] at hi
    have : i < xs.length := by rw [r.length]; exact hi
    exact ⟨xs, xs[i], .inl (Rd.le le h), List.getElem?_eq_getElem this⟩
  yld := fun i H x H' Hf1 l1 l2 ⟨T, y, e1, hT, e2, hx⟩ d hd => by
    subst e1; subst e2
    obtain ⟨x, h1, rfl⟩ := enumD_get _ _ _ _ hd
    have := hx xs (.inl (Rd.le (l1.trans l2) h))
    refine ⟨_, PO.newTup l2 hT (.cons ?_ (.cons ((r.get1 this h1).le l1) .nil))⟩
    rw [Int.zero_add]; exact .int _
  stop := fun i H le hi => by rw [enumD_length] at hi; exact ⟨xs, .inl (Rd.le le h), by rw [r.length]; exact hi⟩
theorem walk_enumT {a : Addr} {xs : List V} {ds : List D} (h : SqT C.K Hf a xs) (r : Reps C Hf xs ds) : Walk C (IteT C.K a) Hf (enumD 0 ds) where
  go := fun i H le hi => by
    rw [enumD_length] at hi
    have : i < xs.length := by rw [r.length]; exact hi
    exact ⟨xs, xs[i], SqT.le le h, List.getElem?_eq_getElem this⟩
  yld := fun i H x H' Hf1 l1 l2 ⟨T, y, e1, hT, e2, hx⟩ d hd => by
    subst e1; subst e2
    obtain ⟨x, h1, rfl⟩ := enumD_get _ _ _ _ hd
    have := hx xs (SqT.le (l1.trans l2) h)
    refine ⟨_, PO.newTup l2 hT (.cons ?_ (.cons ((r.get1 this h1).le l1) .nil))⟩
    rw [Int.zero_add]; exact .int _
  stop := fun i H le hi => by rw [enumD_length] at hi; exact ⟨xs, SqT.le le h, by rw [r.length]; exact hi⟩
theorem zipD_get : ∀ (xs ys : List D) (i : Nat) (d : D), (zipD xs ys)[i]? = some d → ∃ x y, xs[i]? = some x ∧ ys[i]? = some y ∧ d = .tup [x, y]
  | [], _, _, _, h => by simp [zipD] at h
  | _ :: _, [], _, _, h => by simp [zipD] at h
  | x :: xs, y :: ys, 0, d, h => by simp [zipD] at h; exact ⟨x, y, rfl, rfl, h.symm⟩
  | x :: xs, y :: ys, i + 1, d, h => by
    obtain ⟨a, b, h1, h2, h3⟩ := zipD_get xs ys i d (by simpa [zipD] using h)
    exact ⟨a, b, by simpa using h1, by simpa using h2, h3⟩
theorem zipD_length : ∀ (xs ys : List D), (zipD xs ys).length = min xs.length ys.length
  | [], _ => by simp [zipD]
  | _ :: _, [] => by simp [zipD]
  | x :: xs, y :: ys => by simp [zipD, zipD_length xs ys]
theorem sqV.le {k : Bool} {K : PySem.W.Frag} {H H' : Hp} {a : Addr} {xs : List V} (le : Le H H') (h : sqV k K H a xs) : sqV k K H' a xs := by
  cases k with
  | true => exact SqL.le le h
  | false => exact SqT.le le h
/-- a list or a tuple, frozen -/
theorem seq_frz {v : V} {d : D} {ds : List D} (h : Rep C Hf v d) (e : seqD d = some ds) : ∃ k a xs, v = .ref a ∧ sqV k C.K Hf a xs ∧ Reps C Hf xs ds := by
  cases d <;> simp only [seqD] at e <;> try (cases e; done)
  · cases e
    cases h with
    | tup s r => exact ⟨false, _, _, rfl, s, r⟩
  · cases e
    cases h with
    | lst s r => exact ⟨true, _, _, rfl, .inl s, r⟩
theorem walk_zipM {k1 k2 : Bool} {a b : Addr} {xs ys : List V} {ds es : List D} (h : sqV k1 C.K Hf a xs) (h2 : sqV k2 C.K Hf b ys) (r : Reps C Hf xs ds) (r2 : Reps C Hf ys es) : Walk C (ItzM C.K k1 k2 a b) Hf (zipD ds es) where
  go := fun i H le hi => by
    rw [zipD_length] at hi
    have q1 : i < xs.length := by rw [r.length]; omega
    have q2 : i < ys.length := by rw [r2.length]; omega
    exact ⟨xs, ys, xs[i], ys[i], h.le le, h2.le le, List.getElem?_eq_getElem q1, List.getElem?_eq_getElem q2⟩
  yld := fun i H x H' Hf1 l1 l2 ⟨T, x', y', e1, hT, e2, hx, hy⟩ d hd => by
    subst e1; subst e2
    obtain ⟨x, y, h3, h4, rfl⟩ := zipD_get _ _ _ _ hd
    have k1 := hx xs (h.le (l1.trans l2))
    have k2 := hy ys (h2.le (l1.trans l2))
    exact ⟨_, PO.newTup l2 hT (.cons ((r.get1 k1 h3).le l1) (.cons ((r2.get1 k2 h4).le l1) .nil))⟩
  stop := fun i H le hi => by
    rw [zipD_length] at hi
    exact ⟨xs, ys, h.le le, h2.le le, by rw [r.length, r2.length]; omega⟩
end
section
variable {z : Z} {g : G} {σ : L2.St} {H Hf : Hp} {ρ : Rho}
/-- over a value -/
theorem tI_sq {e : Ex} {R : L2.It → Hp → Prop} (h : tI z (.sq e) σ H R) : tE z e σ H fun x H1 =>
    (∃ a, x = .ref a ∧ (∃ xs, SqL z.C.K H1 a xs) ∧ R (Itl z.C.K a) H1) ∨ (∃ a, x = .ref a ∧ (∃ xs, SqT z.C.K H1 a xs) ∧ R (Itt z.C.K a) H1) ∨ (∃ y, x = .str y ∧ R (Its y) H1) := by
  obtain ⟨g, hg, Hf, ρ, s, h⟩ := h
  simp only [evIt] at h
  refine ⟨g, hg, Hf, ρ, s, (Out.bind h).imp fun r ρ1 H1 Hf1 s1 l1 k v hv => ?_⟩
  obtain ⟨Hf2, s2, l2, hr⟩ := s1.freeze hv
  dsimp only at k
  split at k
  · rename_i xs hxs
    have k2 := k H1 Hf2 s2 l2
    cases hd : r.d <;> rw [hd] at hxs hr <;> simp only [walkD] at hxs
    case str l =>
      cases hxs
      cases hr with
      | str hz => exact .inr (.inr ⟨_, rfl, k2 _ walk_str⟩)
    case tup ds =>
      cases hxs
      cases hr with
      | tup sq rr => exact .inr (.inl ⟨_, rfl, ⟨_, SqT.le s2.sub sq⟩, k2 _ (walk_tup sq rr)⟩)
    case lst ds =>
      cases hxs
      cases hr with
      | lst sq rr => exact .inl ⟨_, rfl, ⟨_, .inl (Rd.le s2.sub sq)⟩, k2 _ (walk_list sq rr)⟩
    all_goals cases hxs
  · exact k.elim
theorem tI_rg {es : Exs} {R : L2.It → Hp → Prop} (h : tI z (.rg es) σ H R) : tFs z es σ H fun vs H1 =>
    (∃ j : Int, vs = [.int j] ∧ -(2 ^ 62) ≤ j ∧ j < 2 ^ 62 ∧ R (Itr 0 j.toNat) H1) ∨ (∃ i j : Int, vs = [.int i, .int j] ∧ (-(2 ^ 62) ≤ i ∧ i < 2 ^ 62 ∧ -(2 ^ 62) ≤ j ∧ j < 2 ^ 62) ∧ R (Itr i (j - i).toNat) H1) := by
  obtain ⟨g, hg, Hf, ρ, s, h⟩ := h
  simp only [evIt] at h
  refine tFs_of hg s ((Out.bind h).imp fun ds ρ1 H1 Hf1 s1 l1 k vs hvs => ?_)
  dsimp only at k
  split at k
  · rename_i xs hxs
    have k2 := k H1 Hf1 s1 (Le.refl _)
    unfold rangeD at hxs
    split at hxs
    · rename_i n
      cases hvs with
      | cons h1 r =>
        cases r
        cases h1
        split at hxs
        · rename_i hn
          simp only [Bool.and_eq_true, decide_eq_true_eq] at hn
          cases hxs
          exact .inl ⟨n, rfl, by omega, by omega, k2 _ walk_rng⟩
        · cases hxs
    · rename_i a b
      cases hvs with
      | cons h1 r =>
        cases r with
        | cons h2 r =>
          cases r
          cases h1
          cases h2
          split at hxs
          · rename_i hn
            simp only [Bool.and_eq_true, decide_eq_true_eq] at hn
            cases hxs
            exact .inr ⟨a, b, rfl, by omega, k2 _ walk_rng⟩
          · cases hxs
    · cases hxs
  · exact k.elim
theorem tI_en {e : Ex} {R : L2.It → Hp → Prop} (h : tI z (.en e) σ H R) : tE z e σ H fun x H1 => ∃ a xs, x = .ref a ∧ ((SqL z.C.K H1 a xs ∧ R (Ite z.C.K a) H1) ∨ (SqT z.C.K H1 a xs ∧ R (IteT z.C.K a) H1)) := by
  obtain ⟨g, hg, Hf, ρ, s, h⟩ := h
  simp only [evIt] at h
  refine ⟨g, hg, Hf, ρ, s, (Out.bind h).imp fun r ρ1 H1 Hf1 s1 l1 k v hv => ?_⟩
  obtain ⟨Hf2, s2, l2, hr⟩ := s1.freeze hv
  dsimp only at k
  split at k
  · rename_i xs hxs
    rw [hxs] at hr
    cases hr with
    | lst sq rr => exact ⟨_, _, rfl, .inl ⟨.inl (Rd.le s2.sub sq), k H1 Hf2 s2 l2 _ (walk_enum sq rr)⟩⟩
  · rename_i xs hxs
    rw [hxs] at hr
    cases hr with
    | tup sq rr => exact ⟨_, _, rfl, .inr ⟨SqT.le s2.sub sq, k H1 Hf2 s2 l2 _ (walk_enumT sq rr)⟩⟩
  · exact k.elim
theorem tI_zp {a b : Ex} {R : L2.It → Hp → Prop} (h : tI z (.zp a b) σ H R) : tCons (tE z a) (tCons (tE z b) tNil) σ H fun vs H1 =>
    ∃ k1 k2 a b xs ys, vs = [.ref a, .ref b] ∧ sqV k1 z.C.K H1 a xs ∧ sqV k2 z.C.K H1 b ys ∧ R (ItzM z.C.K k1 k2 a b) H1 := by
  obtain ⟨g, hg, Hf, ρ, s, h⟩ := h
  simp only [evIt] at h
  refine ⟨g, hg, Hf, ρ, s, (Out.bind h).imp fun r ρ1 H1 Hf1 s1 l1 k v hv => ?_⟩
  obtain ⟨Hf2, s2, l2, hr⟩ := s1.freeze hv
  refine ⟨g, hg, Hf2, ρ1, s2, (Out.bind (k.le l2)).imp fun r' ρ2 H3 Hf3 s3 l3 k v' hv' => ?_⟩
  obtain ⟨Hf4, s4, l4, hr'⟩ := s3.freeze hv'
  have hr2 := hr.le (l3.trans l4)
  dsimp only at k
  split at k
  · rename_i xs ys e1 e2
    obtain ⟨k1, a, vs, rfl, q1, r1⟩ := seq_frz hr2 e1
    obtain ⟨k2, b, ws, rfl, q2, r2⟩ := seq_frz hr' e2
    exact ⟨k1, k2, a, b, vs, ws, rfl, q1.le s4.sub, q2.le s4.sub, k H3 Hf4 s4 l4 _ (walk_zipM q1 q2 r1 r2)⟩
  · exact k.elim
end
end Ev


set_option maxHeartbeats 4000000
namespace Ev
open PySem L2
def G.guard (g : G) (D : Addr) (o : HO) : G := { g with H0 := upd g.H0 D o }
theorem Z.ok.guard {z : Z} {g : G} {D : Addr} {o : HO} (h : z.ok g) : z.ok (g.guard D o) := ⟨h.hb, h.t⟩
section
variable {z : Z} {g : G} {σ σ' : L2.St} {H Hf H' Hf' : Hp} {ρ ρ' : Rho} {C : Cst} {D : Addr} {o o' : HO}
theorem tabs_upd {T : List (Addr × Str)} {H : Hp} {a : Addr} {u v : HO} (t : LamX.Tabs T H) (h : H a = some u) (no : NoTab u) (nc : ∀ q, u ≠ LamX.CodeO a q) : LamX.Tabs T (upd H a v) := by
  intro p hp
  obtain ⟨ps, h1, h2, h3⟩ := t p hp
  have hne : p.1 ≠ a := fun e => by rw [e, h] at h1; cases h1; exact no ps rfl
  refine ⟨ps, by rw [upd_ne hne]; exact h1, h2, fun pos cv e => ?_⟩
  obtain ⟨c, h4, h5⟩ := h3 pos cv e
  have hne2 : c ≠ a := fun e => by rw [e, h] at h5; cases h5; exact nc _ rfl
  exact ⟨c, h4, by rw [upd_ne hne2]; exact h5⟩
theorem tabs_new {T : List (Addr × Str)} {H : Hp} {a : Addr} {v : HO} (t : LamX.Tabs T H) (h : H a = none) : LamX.Tabs T (upd H a v) :=
  t.ext fun b o e => by rw [upd_ne (ne_of_none e h)]; exact e
theorem lst_nocode {xs : List V} {a : Addr} : ∀ q, HO.lst xs ≠ LamX.CodeO a q := fun _ h => by unfold LamX.CodeO at h; cases h
theorem SR.guard (s : SR C g σ H Hf ρ) (hD : g.H0 D = none) (hH : H D = some o) (hF : Hf D = none) (hs : ∀ (i : Nat) (d : Ev.D), ρ[i]? = some (.ow d) → σ[i]? ≠ some (some (V.ref D))) : SR C (g.guard D o) σ H Hf ρ where
  len := s.len
  sub := s.sub
  base := fun a u e nt hio => by
    by_cases h : a = D
    · subst h
      have e' : upd g.H0 a o a = some u := e
      rw [upd_same] at e'; rw [hH]; exact e'
    · have e' : upd g.H0 D o a = some u := e
      rw [upd_ne h] at e'; exact s.base a u e' nt hio
  dom := fun a e => by
    by_cases h : a = D
    · subst h; rw [hH]; simp
    · have e' : upd g.H0 D o a ≠ none := e
      rw [upd_ne h] at e'; exact s.dom a e'
  fz0 := s.fz0
  tabs := s.tabs
  nft := s.nft
  fz := s.fz
  ow := fun i d e => by
    obtain ⟨a, h1, h2, h3⟩ := s.ow i d e
    have h : a ≠ D := fun q => hs i d e (by rw [← q]; exact h1)
    exact ⟨a, h1, h2, by show upd g.H0 D o a = none; rw [upd_ne h]; exact h3⟩
  io := s.io
  sep := s.sep
  lent := fun p hp => by
    have := s.lent p hp
    have h : p.2 ≠ D := fun q => this (by rw [q]; exact hD)
    show upd g.H0 D o p.2 ≠ none
    rw [upd_ne h]; exact this
  newf := fun a e => by
    by_cases h : a = D
    · subst h; exact absurd hF e
    · rcases s.newf a e with q | q
      · exact .inl q
      · exact .inr (by show upd g.H0 D o a = none; rw [upd_ne h]; exact q)
  lone := s.lone
structure Unguarded (C : Cst) (g : G) (σ : L2.St) (H Hf : Hp) (ρ : Rho) (D : Addr) (o : HO) : Prop where
  sr : SR C g σ H Hf ρ
  at_ : H D = some o
  hf : Hf D = none
  ns : ∀ (i : Nat) (d : Ev.D), ρ[i]? = some (.ow d) → σ[i]? ≠ some (some (V.ref D))
theorem SR.unguard (s : SR C (g.guard D o) σ H Hf ρ) (nt : NoTab o) (hD : g.H0 D = none) (hF0 : g.Hf0 D = none) (hl : ∀ p ∈ g.IO, g.H0 p.2 ≠ none) : Unguarded C g σ H Hf ρ D o := by
  have gD : (g.guard D o).H0 D = some o := upd_same
  have gn : ∀ {a : Addr}, (g.guard D o).H0 a = none → g.H0 a = none := fun {a} e => by
    by_cases h : a = D
    · rw [h]; exact hD
    · have e' : upd g.H0 D o a = none := e
      rw [upd_ne h] at e'; exact e'
  have hio : ∀ p ∈ g.IO, p.2 ≠ D := fun p hp q => hl p hp (by rw [q]; exact hD)
  have hH : H D = some o := s.base D o gD nt hio
  refine ⟨⟨s.len, s.sub, fun a u e nt hi => ?_, fun a e => ?_, s.fz0, s.tabs, s.nft, s.fz, fun i d e => ?_, s.io, s.sep, hl, fun a e => ?_, s.lone⟩, hH, ?_, fun i d e q => ?_⟩
  · have h : a ≠ D := fun q => by rw [q, hD] at e; cases e
    exact s.base a u (by show upd g.H0 D o a = some u; rw [upd_ne h]; exact e) nt hi
  · have h : a ≠ D := fun q => e (by rw [q]; exact hD)
    exact s.dom a (by show upd g.H0 D o a ≠ none; rw [upd_ne h]; exact e)
  · obtain ⟨a, h1, h2, h3⟩ := s.ow i d e
    exact ⟨a, h1, h2, gn h3⟩
  · rcases s.newf a e with q | q
    · exact .inl q
    · exact .inr (gn q)
  · cases q : Hf D with
    | none => rfl
    | some u =>
      rcases s.newf D (by rw [q]; simp) with k | k
      · exact absurd hF0 k
      · rw [gD] at k; cases k
  · obtain ⟨a, h1, h2, h3⟩ := s.ow i d e
    rw [q] at h1; injection h1 with h1; injection h1 with h1; injection h1 with h1
    rw [← h1, gD] at h3; cases h3
/-- what nobody here holds changes -/
theorem SR.other (s : SR C g σ H Hf ρ) (hD : g.H0 D = none) (hF : Hf D = none) (hs : ∀ (i : Nat) (d : Ev.D), ρ[i]? = some (.ow d) → σ[i]? ≠ some (some (V.ref D))) (tb : LamX.Tabs g.T (upd H D o)) : SR C g σ (upd H D o) Hf ρ where
  len := s.len
  sub := fun a u e => by
    have h : a ≠ D := fun q => by rw [q, hF] at e; cases e
    rw [upd_ne h]; exact s.sub a u e
  base := fun a u e nt hi => by
    have h : a ≠ D := fun q => by rw [q, hD] at e; cases e
    rw [upd_ne h]; exact s.base a u e nt hi
  dom := fun a e => by
    have h : a ≠ D := fun q => e (by rw [q]; exact hD)
    rw [upd_ne h]; exact s.dom a e
  fz0 := s.fz0
  tabs := tb
  nft := s.nft
  fz := s.fz
  ow := fun i d e => by
    obtain ⟨a, h1, h2, h3⟩ := s.ow i d e
    have h : a ≠ D := fun q => hs i d e (by rw [← q]; exact h1)
    exact ⟨a, h1, h2.le (Le.refl _) h2.1 (fun u e _ => by rw [upd_ne h]; exact e), h3⟩
  io := fun i d e => by
    obtain ⟨a, h1, h2, h3⟩ := s.io i d e
    have h : a ≠ D := fun q => s.lent _ h3 (by show g.H0 a = none; rw [q]; exact hD)
    exact ⟨a, h1, h2.le (Le.refl _) h2.1 (fun u e _ => by rw [upd_ne h]; exact e), h3⟩
  sep := s.sep
  lent := s.lent
  newf := s.newf
  lone := s.lone
end
theorem hideL_length {ρ : Rho} : ∀ {is : List Nat}, (hideL ρ is).length = ρ.length
  | [] => rfl
  | i :: is => by simp [hideL, hideL_length (ρ := ρ) (is := is)]
theorem hideL_in {ρ : Rho} {j : Nat} : ∀ {is : List Nat}, j ∈ is → ∀ sl, (hideL ρ is)[j]? = some sl → sl = .non
  | i :: is, hj, sl, e => by
    unfold hideL at e
    by_cases h : i = j
    · subst h
      by_cases hl : i < (hideL ρ is).length
      · rw [List.getElem?_set_self hl] at e; cases e; rfl
      · rw [List.getElem?_eq_none (by simpa using hl)] at e; cases e
    · rw [List.getElem?_set_ne h] at e
      rcases List.mem_cons.mp hj with q | q
      · exact absurd q.symm h
      · exact hideL_in q sl e
theorem hideL_out {ρ : Rho} {j : Nat} : ∀ {is : List Nat}, j ∉ is → (hideL ρ is)[j]? = ρ[j]?
  | [], _ => rfl
  | i :: is, h => by
    have h1 : i ≠ j := fun e => h (by rw [e]; exact List.mem_cons_self)
    have h2 : j ∉ is := fun e => h (List.mem_cons_of_mem _ e)
    unfold hideL
    rw [List.getElem?_set_ne h1]; exact hideL_out h2
theorem unhide_length {ρ0 ρ : Rho} : ∀ {is : List Nat}, (unhide ρ0 ρ is).length = ρ.length
  | [] => rfl
  | i :: is => by simp [unhide, unhide_length (ρ0 := ρ0) (ρ := ρ) (is := is)]
theorem unhide_in {ρ0 ρ : Rho} {j : Nat} : ∀ {is : List Nat}, j ∈ is → ∀ sl, (unhide ρ0 ρ is)[j]? = some sl → sl = ρ0[j]?.getD .non
  | i :: is, hj, sl, e => by
    unfold unhide at e
    by_cases h : i = j
    · subst h
      by_cases hl : i < (unhide ρ0 ρ is).length
      · rw [List.getElem?_set_self hl] at e; cases e; rfl
      · rw [List.getElem?_eq_none (by simpa using hl)] at e; cases e
    · rw [List.getElem?_set_ne h] at e
      rcases List.mem_cons.mp hj with q | q
      · exact absurd q.symm h
      · exact unhide_in q sl e
theorem unhide_out {ρ0 ρ : Rho} {j : Nat} : ∀ {is : List Nat}, j ∉ is → (unhide ρ0 ρ is)[j]? = ρ[j]?
  | [], _ => rfl
  | i :: is, h => by
    have h1 : i ≠ j := fun e => h (by rw [e]; exact List.mem_cons_self)
    have h2 : j ∉ is := fun e => h (List.mem_cons_of_mem _ e)
    unfold unhide
    rw [List.getElem?_set_ne h1]; exact unhide_out h2
theorem wipe_out' {σ : L2.St} {j : Nat} {is : List Nat} (h : j ∉ is) : (L2.wipe σ is)[j]? = σ[j]? := by
  induction is with
  | nil => rfl
  | cons i is ih =>
    have h1 : i ≠ j := fun e => h (by rw [e]; exact List.mem_cons_self)
    have h2 : j ∉ is := fun e => h (List.mem_cons_of_mem _ e)
    unfold L2.wipe
    rw [List.getElem?_set_ne h1]; exact ih h2
theorem wipe_in {σ : L2.St} {j : Nat} {is : List Nat} (hj : j ∈ is) (hl : j < σ.length) : (L2.wipe σ is)[j]? = some none := by
  induction is with
  | nil => simp at hj
  | cons i is ih =>
    unfold L2.wipe
    by_cases h : i = j
    · subst h; exact List.getElem?_set_self (by rw [L2.wipe_length]; exact hl)
    · rw [List.getElem?_set_ne h]
      rcases List.mem_cons.mp hj with q | q
      · exact absurd q.symm h
      · exact ih q
theorem wipe_eq {σ σ' : L2.St} {is : List Nat} (hl : σ'.length = σ.length) (h : ∀ i, i ∉ is → σ'[i]? = σ[i]?) : L2.wipe σ' is = L2.wipe σ is := by
  apply List.ext_getElem?
  intro j
  by_cases hj : j ∈ is
  · by_cases hlt : j < σ.length
    · rw [wipe_in hj hlt, wipe_in hj (by omega)]
    · rw [List.getElem?_eq_none (by rw [L2.wipe_length]; omega), List.getElem?_eq_none (by rw [L2.wipe_length]; omega)]
  · rw [wipe_out' hj, wipe_out' hj]; exact h j hj
theorem wipe_wipe {σ : L2.St} {is : List Nat} : L2.wipe (L2.wipe σ is) is = L2.wipe σ is :=
  wipe_eq (L2.wipe_length _ _) fun i hi => wipe_out' hi
def E0 : XK := fun _ _ _ => False
def Z.blk (z : Z) : Z := { z with EW := E0 }
theorem Z.ok.blk {z : Z} {g : G} (h : z.ok g) : z.blk.ok g := ⟨h.hb, h.t⟩
/-- a clause's tests -/
def tCl (z : Z) : Exs → TT
  | .n => tYes
  | .c e _ => tT z e
section
variable {z : Z} {g : G} {σ : L2.St} {H Hf : Hp} {ρ : Rho}
theorem tCl_of {f : Exs} {b : Bool} {ρ' : Rho} {K : Bool → Hp → Prop} (hg : z.ok g) (s : SR z.C g σ H Hf ρ) (h : evC z.tb z.F f ρ = .ok (b, ρ')) (k : ∀ H' Hf', SR z.C g σ H' Hf' ρ' → Le Hf Hf' → K b H') : tCl z f σ H K := by
  cases f with
  | n => simp only [evC] at h; cases h; exact k H Hf s (Le.refl _)
  | c e es =>
    simp only [evC] at h
    refine ⟨g, hg, Hf, ρ, s, ?_⟩
    show Out z g σ Hf (evB z.tb z.F e ρ) _
    unfold evB; rw [h]
    exact k
theorem tE_of {e : Ex} {r : RV} {ρ' : Rho} {Q : VK} (hg : z.ok g) (s : SR z.C g σ H Hf ρ) (h : ev z.tb z.F e ρ = .ok (r, ρ')) (k : ∀ v H' Hf', SR z.C g σ H' Hf' ρ' → Le Hf Hf' → RVok z.C g σ H' Hf' ρ' v r → Q v H') : tE z e σ H Q := by
  refine ⟨g, hg, Hf, ρ, s, ?_⟩
  rw [h]
  exact fun H' Hf' s' l v rv => k v H' Hf' s' l rv
theorem bind_ok {α β : Type} {x : Res α} {f : α → Res β} {b : β} (h : x.bind f = .ok b) : ∃ a, x = .ok a ∧ f a = .ok b := by
  cases x with
  | ok a => exact ⟨a, rfl, h⟩
  | exc c d => cases h
  | bad n => cases h
theorem okOnly_noexc {α : Type} {x : Res α} : ∀ c d, x.okOnly ≠ .exc c d := by
  intro c d h; cases x <;> cases h
theorem okOnly_ok {α : Type} {x : Res α} {a : α} (h : x.okOnly = .ok a) : x = .ok a := by
  cases x with
  | ok b => exact h
  | exc c d => cases h
  | bad n => cases h
def LcTurn (z : Z) (e : Ex) (tg : Tg) (f : Exs) (vs : List Nat) (st : Rho × List D) (x : D) : Res (Rho × List D) :=
  (setTg tg (.fz x) (hideL st.1 vs)).bind fun ρ2 => (evC z.tb z.F f ρ2).bind fun (b, ρ3) => if b then (ev z.tb z.F e ρ3).bind fun (r, ρ2) => if st.2.length < szL then .ok (ρ2, st.2 ++ [r.d]) else .bad 32 else .ok (ρ3, st.2)
/-- the state within a comprehension -/
structure LcSt (z : Z) (g : G) (σ : L2.St) (Hf1 : Hp) (vs : List Nat) (dst : Addr) (H : Hp) (ρ : Rho) (acc : List D) : Prop where
  ex : ∃ Hf accV, Le Hf1 Hf ∧ Reps z.C Hf accV acc ∧ SR z.C (g.guard dst (.lst accV)) σ H Hf (hideL ρ vs) ∧ H dst = some (.lst accV)
/-- one turn -/
theorem lc_turn {e : Ex} {tg : Tg} {f : Exs} {vs : List Nat} {dst : Addr} {Hf1 : Hp} {acc acc' : List D} {ρ' : Rho} {d : D} {J : L2.It} {xs : List D} {i : Nat} {Nx : Hp → Prop} {x : V} {H' : Hp} (hg : z.ok g)
    (st : LcSt z g σ Hf1 vs dst H ρ acc) (hD : g.H0 dst = none) (hF0 : g.Hf0 dst = none) (hl : ∀ p ∈ g.IO, g.H0 p.2 ≠ none) (hsub : ∀ i ∈ tg.vars, i ∈ vs)
    (wk : Walk z.C J Hf1 xs) (hd : xs[i]? = some d) (ht : LcTurn z e tg f vs (ρ, acc) d = .ok (ρ', acc')) (hy : J.yld i H x H') (hlen : σ.length = ρ.length)
    (hN : ∀ H'', LcSt z g σ Hf1 vs dst H'' ρ' acc' → Nx H'') :
    gT z.C.K tg x (L2.wipe σ vs) H' fun σ2 H2 => L2.wipe σ2 vs = L2.wipe σ vs ∧ tCl z.blk f σ2 H2 fun b H3 =>
      if b = true then tE z.blk e σ2 H3 fun y H4 => ∃ ac, H4 dst = some (.lst ac) ∧ ac.length < sizeLine ∧ Nx (upd H4 dst (.lst (ac ++ [y]))) else Nx H3 := by
  obtain ⟨Hf, accV, l1, ra, s, hdst⟩ := st.ex
  obtain ⟨Hf2, po⟩ := wk.yld i H x H' Hf l1 s.sub hy d hd
  obtain ⟨s2, rv⟩ := s.po po
  have rv' : Rep z.C Hf2 x d := rv
  obtain ⟨ρ2, e2, h3⟩ := bind_ok ht
  obtain ⟨⟨b, ρ3⟩, e3, h4⟩ := bind_ok h3
  have sw : SR z.C (g.guard dst (.lst accV)) (L2.wipe σ vs) H' Hf2 (hideL ρ vs) := s2.reslot (by rw [L2.wipe_length, hideL_length]; exact hlen) fun j sl e => by
    by_cases hj : j ∈ vs
    · exact .inl (hideL_in hj sl e)
    · exact .inr ⟨e, wipe_out' hj⟩
  refine gT_fz sw rv' e2 fun σ2 st2 => ?_
  have hw : L2.wipe σ2 vs = L2.wipe σ vs := by
    have := wipe_eq (is := vs) st2.len fun i hi => st2.out i fun q => hi (hsub i q)
    rw [this, wipe_wipe]
  have out2 : ∀ j, j ∉ vs → σ2[j]? = σ[j]? := fun j hj => by
    rw [st2.out j fun q => hj (hsub j q)]; exact wipe_out' hj
  refine ⟨hw, tCl_of (z := z.blk) hg.guard.blk st2.sr e3 fun H3 Hf3 s3 l3 => ?_⟩
  have back : ∀ {Hk Hfk : Hp} {ρk : Rho} {o : HO}, SR z.C (g.guard dst o) σ2 Hk Hfk ρk → SR z.C (g.guard dst o) σ Hk Hfk (hideL ρk vs) := fun {Hk Hfk ρk o} sk => by
    have hk : σ2.length = σ.length := by rw [st2.len, L2.wipe_length]
    refine sk.reslot (by rw [hideL_length, ← sk.len, hk]) fun j sl e => ?_
    by_cases hj : j ∈ vs
    · exact .inl (hideL_in hj sl e)
    · rw [hideL_out hj] at e
      exact .inr ⟨e, (out2 j hj).symm⟩
  cases b with
  | false =>
    rw [if_neg (by simp)]
    dsimp only at h4
    rw [if_neg (by simp)] at h4
    cases h4
    exact hN H3 ⟨⟨Hf3, accV, (l1.trans po.le).trans l3, Reps.le (po.le.trans l3) ra, back s3, (s3.unguard (fun _ z => by cases z) hD hF0 hl).at_⟩⟩
  | true =>
    rw [if_pos rfl]
    dsimp only at h4
    rw [if_pos rfl] at h4
    obtain ⟨⟨r, ρ4⟩, e4, h5⟩ := bind_ok h4
    dsimp only at h5
    split at h5
    · rename_i hz
      cases h5
      refine tE_of (z := z.blk) hg.guard.blk s3 e4 fun v H4 Hf4 s4 l4 hv => ?_
      obtain ⟨Hf5, s5, l5, hr⟩ := s4.freeze hv
      have u := s5.unguard (fun _ z => by cases z) hD hF0 hl
      have le5 : Le Hf Hf5 := (((po.le).trans l3).trans l4).trans l5
      refine ⟨accV, u.at_, by rw [szL_eq, ra.length]; exact hz, hN _ ⟨⟨Hf5, accV ++ [v], l1.trans le5, (Reps.le le5 ra).append (.cons hr .nil), ?_, upd_same⟩⟩⟩
      have s6 : SR z.C g σ2 (upd H4 dst (.lst (accV ++ [v]))) Hf5 _ := u.sr.other hD u.hf u.ns (tabs_upd u.sr.tabs u.at_ (fun _ z => by cases z) lst_nocode)
      exact back (s6.guard hD upd_same u.hf u.ns)
    · cases h5
theorem noOwn_at {ρ : Rho} {is : List Nat} {i : Nat} (h : noOwn ρ is = true) (hi : i ∈ is) : ρ[i]? = some .non ∨ ∃ d, ρ[i]? = some (.fz d) := by
  have := List.all_eq_true.mp h i hi
  split at this
  · rename_i q; exact .inl q
  · rename_i d q; exact .inr ⟨d, q⟩
  · cases this
theorem LcSt.len {vs : List Nat} {Hf1 : Hp} {dst : Addr} {acc : List D} (st : LcSt z g σ Hf1 vs dst H ρ acc) : σ.length = ρ.length := by
  obtain ⟨_, _, _, _, s, _⟩ := st.ex
  rw [s.len, hideL_length]
/-- a comprehension's begin -/
theorem LcSt.start {vs : List Nat} {dst : Addr} (s : SR z.C g σ H Hf ρ) (hd : H dst = none) : LcSt z g σ Hf vs dst (upd H dst (.lst [])) ρ [] := by
  have hD : g.H0 dst = none := by
    cases q : g.H0 dst with
    | none => rfl
    | some o => exact absurd hd (s.dom dst (by rw [q]; simp))
  have hF : Hf dst = none := by
    cases q : Hf dst with
    | none => rfl
    | some o => rw [s.sub _ _ q] at hd; cases hd
  have hns : ∀ (i : Nat) (d : D), ρ[i]? = some (.ow d) → σ[i]? ≠ some (some (V.ref dst)) := fun i d e q => by
    obtain ⟨a, h1, h2, _⟩ := s.ow i d e
    rw [q] at h1; injection h1 with h1; injection h1 with h1; injection h1 with h1; subst h1
    obtain ⟨o, h3, _⟩ := h2.there
    rw [hd] at h3; cases h3
  have s2 := (s.other (o := .lst []) hD hF hns (tabs_new s.tabs hd)).guard hD upd_same hF hns
  refine ⟨⟨Hf, [], Le.refl _, .nil, s2.reslot (by rw [hideL_length]; exact s.len) fun j sl e => ?_, upd_same⟩⟩
  by_cases hj : j ∈ vs
  · exact .inl (hideL_in hj sl e)
  · rw [hideL_out hj] at e; exact .inr ⟨e, rfl⟩
/-- and its end -/
theorem LcSt.fin {vs : List Nat} {dst : Addr} {H1 Hf1 : Hp} {ρ1 : Rho} {acc : List D} (st : LcSt z g σ Hf1 vs dst H ρ acc) (s1 : SR z.C g σ H1 Hf1 ρ1) (hd : H1 dst = none) (hno : noOwn ρ1 vs = true) :
    ∃ Hf', Le Hf1 Hf' ∧ SR z.C g σ H Hf' (unhide ρ1 ρ vs) ∧ RVok z.C g σ H Hf' (unhide ρ1 ρ vs) (.ref dst) (.ow (.lst acc)) := by
  have hD : g.H0 dst = none := by
    cases q : g.H0 dst with
    | none => rfl
    | some o => exact absurd hd (s1.dom dst (by rw [q]; simp))
  have hF0 : g.Hf0 dst = none := by
    cases q : g.Hf0 dst with
    | none => rfl
    | some o => rw [s1.sub _ _ (s1.fz0 _ _ q)] at hd; cases hd
  obtain ⟨Hf, accV, l1, ra, s, hdst⟩ := st.ex
  have u := s.unguard (fun _ z => by cases z) hD hF0 s1.lent
  refine ⟨Hf, l1, u.sr.reslot2 (by rw [unhide_length]; exact st.len) fun j sl e => ?_, dst, rfl, ⟨u.hf, accV, hdst, ra⟩, hD, fun i d e => ?_⟩
  · by_cases hj : j ∈ vs
    · have := unhide_in hj sl e
      rcases noOwn_at hno hj with q | ⟨d, q⟩
      · rw [q] at this; exact .inl this
      · rw [q] at this
        obtain ⟨v, h1, h2⟩ := s1.fz j d q
        exact .inr (.inr ⟨d, v, this, h1, h2.le l1⟩)
    · rw [unhide_out hj] at e
      exact .inr (.inl ⟨by rw [hideL_out hj]; exact e, rfl⟩)
  · by_cases hi : i ∈ vs
    · have := unhide_in hi _ e
      rcases noOwn_at hno hi with q | ⟨d, q⟩ <;> (rw [q] at this; cases this)
    · rw [unhide_out hi] at e
      exact u.ns i d (by rw [hideL_out hi]; exact e)
theorem drop_at {xs : List D} {i : Nat} (h : i < xs.length) : xs.drop i = xs[i] :: xs.drop (i + 1) := List.drop_eq_getElem_cons h
/-- [e for tg in it if f] -/
theorem tE_lc1 {e : Ex} {tg : Tg} {it : It} {f : Exs} {Q : VK} (h : tE z (.lc e (.c tg it f .n)) σ H Q) : tLc (tI z it) (gT z.C.K tg) (tCl z.blk f) (tE z.blk e) (Gens.c tg it f .n).vars σ H Q := by
  obtain ⟨g, hg, Hf, ρ, s, h⟩ := h
  simp only [ev] at h
  refine ⟨g, hg, Hf, ρ, s, (Out.bind h).imp fun xs ρ1 H1 Hf1 s1 l1 k J wk dst hd => ?_⟩
  generalize hvs : (Gens.c tg it f .n).vars = vs at k
  dsimp only at k
  split at k
  · exact k.elim
  · rename_i hno
    have hno : noOwn ρ1 vs = true := by
      rcases bool_cases (noOwn ρ1 vs) with q | q
      · exact q
      · rw [q] at hno; exact absurd rfl hno
    obtain ⟨⟨ρ3, ds⟩, hfold, k⟩ := Out.bind' k okOnly_noexc
    have hfold := okOnly_ok hfold
    have hturn : (fun (st : Rho × List D) (x : D) => (setTg tg (.fz x) (hideL st.1 vs)).bind fun ρ2 => (evC z.tb z.F f ρ2).bind fun x => if x.1 = true then evG z.tb z.F .n (fun st => (ev z.tb z.F e st.1).bind fun x => if st.2.length < szL then .ok (x.2, st.2 ++ [x.1.d]) else .bad 32) (x.2, st.2) else .ok (x.2, st.2)) = LcTurn z e tg f vs := by
      funext st x
      unfold LcTurn
      congr 1
    have hfold : foldR (LcTurn z e tg f vs) (ρ1, []) xs = .ok (ρ3, ds) := by rw [← hturn]; exact hfold
    have hD : g.H0 dst = none := by
      cases q : g.H0 dst with
      | none => rfl
      | some o => exact absurd hd (s1.dom dst (by rw [q]; simp))
    have hF0 : g.Hf0 dst = none := by
      cases q : g.Hf0 dst with
      | none => rfl
      | some o => rw [s1.sub _ _ (s1.fz0 _ _ q)] at hd; cases hd
    have hsub : ∀ i ∈ tg.vars, i ∈ vs := fun i hi => by rw [← hvs]; exact List.mem_append_left _ hi
    refine ⟨fun i m H => i ≤ xs.length ∧ m = xs.length - i ∧ ∃ ρi acc, LcSt z g σ Hf1 vs dst H ρi acc ∧ foldR (LcTurn z e tg f vs) (ρi, acc) (xs.drop i) = .ok (ρ3, ds), ⟨xs.length, Nat.zero_le _, rfl, ρ1, [], LcSt.start s1 hd, hfold⟩, fun i m H ⟨hi, hm, ρi, acc, st, hf⟩ => ?_⟩
    obtain ⟨Hfi, accV, li, _, si, _⟩ := st.ex
    by_cases hlt : i < xs.length
    · refine .inr ⟨wk.go i H (li.trans si.sub) hlt, fun H' => ∃ ρi acc, LcSt z g σ Hf1 vs dst H' ρi acc ∧ foldR (LcTurn z e tg f vs) (ρi, acc) (xs.drop (i + 1)) = .ok (ρ3, ds), fun H' ⟨ρj, acc', st', hf'⟩ => ⟨xs.length - (i + 1), by omega, by omega, rfl, ρj, acc', st', hf'⟩, fun x H' hy => ?_⟩
      rw [drop_at hlt] at hf
      unfold foldR at hf
      obtain ⟨⟨ρj, acc'⟩, ht, hf2⟩ := bind_ok hf
      exact lc_turn hg st hD hF0 s1.lent hsub wk (List.getElem?_eq_getElem hlt) ht hy st.len fun H'' st'' => ⟨ρj, acc', st'', hf2⟩
    · refine .inl ⟨wk.stop i H (li.trans si.sub) (by omega), ?_⟩
      rw [List.drop_eq_nil_of_le (by omega)] at hf
      unfold foldR at hf
      cases hf
      obtain ⟨Hf', l', sE, rvE⟩ := st.fin s1 hd hno
      exact k H Hf' sE l' _ rvE
end
end Ev


set_option maxHeartbeats 4000000
namespace Ev
open PySem L2
section
variable {z : Z} {g : G} {σ : L2.St} {H Hf : Hp} {ρ : Rho}
def Lc2Turn (z : Z) (e : Ex) (tg : Tg) (f : Exs) (tg1 : Tg) (it1 : It) (f1 : Exs) (vs vs1 : List Nat) (st : Rho × List D) (x : D) : Res (Rho × List D) :=
  (setTg tg (.fz x) (hideL st.1 vs)).bind fun ρ2 => (evC z.tb z.F f ρ2).bind fun (b, ρ3) => if b then (evIt z.tb z.F it1 ρ3).bind fun (xs1, ρ4) => foldR (LcTurn z e tg1 f1 vs1) (ρ4, st.2) xs1 else .ok (ρ3, st.2)
theorem tI_of {it : It} {ds : List D} {ρ' : Rho} {R : L2.It → Hp → Prop} (hg : z.ok g) (s : SR z.C g σ H Hf ρ) (h : evIt z.tb z.F it ρ = .ok (ds, ρ')) (k : ∀ H' Hf', SR z.C g σ H' Hf' ρ' → Le Hf Hf' → ∀ J, Walk z.C J Hf' ds → R J H') : tI z it σ H R := by
  refine ⟨g, hg, Hf, ρ, s, ?_⟩
  rw [h]
  exact k
/-- the slots of a block seen again without its names -/
theorem SR.hideOut {g : G} {C : Cst} {σ σ2 : L2.St} {H Hf : Hp} {ρ : Rho} {vs : List Nat} (s : SR C g σ2 H Hf ρ) (hl : σ2.length = σ.length) (out : ∀ j, j ∉ vs → σ2[j]? = σ[j]?) : SR C g σ H Hf (hideL ρ vs) :=
  s.reslot (by rw [hideL_length, ← s.len, hl]) fun j sl e => by
    by_cases hj : j ∈ vs
    · exact .inl (hideL_in hj sl e)
    · rw [hideL_out hj] at e
      exact .inr ⟨e, (out j hj).symm⟩
theorem hideL_sub {ρ : Rho} {vs vs1 : List Nat} (h : ∀ i ∈ vs1, i ∈ vs) : hideL (hideL ρ vs1) vs = hideL ρ vs := by
  apply List.ext_getElem?
  intro j
  by_cases hj : j ∈ vs
  · by_cases hlt : j < ρ.length
    · have k : ∀ q : Rho, q.length = ρ.length → (hideL q vs)[j]? = some .non := fun q hq => by
        have hlt2 : j < (hideL q vs).length := by rw [hideL_length]; omega
        have := hideL_in hj _ (List.getElem?_eq_getElem hlt2)
        rw [List.getElem?_eq_getElem hlt2, this]
      rw [k _ hideL_length, k _ rfl]
    · rw [List.getElem?_eq_none (by rw [hideL_length, hideL_length]; omega), List.getElem?_eq_none (by rw [hideL_length]; omega)]
  · rw [hideL_out hj, hideL_out hj, hideL_out fun q => hj (h j q)]
/-- one turn of the outer clause -/
theorem lc2_turn {e : Ex} {tg tg1 : Tg} {it1 : It} {f f1 : Exs} {vs vs1 : List Nat} {dst : Addr} {Hf1 : Hp} {acc acc' : List D} {ρ' : Rho} {d : D} {J : L2.It} {xs : List D} {i : Nat} {Nx : Hp → Prop} {x : V} {H' : Hp} (hg : z.ok g)
    (st : LcSt z g σ Hf1 vs dst H ρ acc) (hD : g.H0 dst = none) (hF0 : g.Hf0 dst = none) (hl : ∀ p ∈ g.IO, g.H0 p.2 ≠ none) (hsub : ∀ i ∈ tg.vars, i ∈ vs) (hsub1 : ∀ i ∈ vs1, i ∈ vs) (hsub2 : ∀ i ∈ tg1.vars, i ∈ vs1)
    (wk : Walk z.C J Hf1 xs) (hd : xs[i]? = some d) (ht : Lc2Turn z e tg f tg1 it1 f1 vs vs1 (ρ, acc) d = .ok (ρ', acc')) (hy : J.yld i H x H') (hlen : σ.length = ρ.length)
    (hN : ∀ H'', LcSt z g σ Hf1 vs dst H'' ρ' acc' → Nx H'') :
    gT z.C.K tg x (L2.wipe σ vs) H' fun σ2 H2 => L2.wipe σ2 vs = L2.wipe σ vs ∧ tCl z.blk f σ2 H2 fun b H3 =>
      if b = true then tI z.blk it1 σ2 H3 fun J1 H4 => ∃ W1 : Nat → Nat → Hp → Prop, (∃ m, W1 0 m H4) ∧ ∀ j k H, W1 j k H →
        (J1.stop j H ∧ Nx H) ∨ (J1.go j H ∧ ∃ Nx1 : Hp → Prop, (∀ H', Nx1 H' → ∃ k', k' < k ∧ W1 (j + 1) k' H') ∧ ∀ x H', J1.yld j H x H' → gT z.C.K tg1 x (L2.wipe σ2 vs1) H' fun σ3 H5 => L2.wipe σ3 vs1 = L2.wipe σ2 vs1 ∧ tCl z.blk f1 σ3 H5 fun b H6 =>
          if b = true then tE z.blk e σ3 H6 fun y H7 => ∃ acc, H7 dst = some (.lst acc) ∧ acc.length < sizeLine ∧ Nx1 (upd H7 dst (.lst (acc ++ [y]))) else Nx1 H6)
      else Nx H3 := by
  obtain ⟨Hf, accV, l1, ra, s, hdst⟩ := st.ex
  obtain ⟨Hf2, po⟩ := wk.yld i H x H' Hf l1 s.sub hy d hd
  obtain ⟨s2, rv⟩ := s.po po
  have rv' : Rep z.C Hf2 x d := rv
  obtain ⟨ρ2, e2, h3⟩ := bind_ok ht
  obtain ⟨⟨b, ρ3⟩, e3, h4⟩ := bind_ok h3
  have sw : SR z.C (g.guard dst (.lst accV)) (L2.wipe σ vs) H' Hf2 (hideL ρ vs) := s2.reslot (by rw [L2.wipe_length, hideL_length]; exact hlen) fun j sl e => by
    by_cases hj : j ∈ vs
    · exact .inl (hideL_in hj sl e)
    · exact .inr ⟨e, wipe_out' hj⟩
  refine gT_fz sw rv' e2 fun σ2 st2 => ?_
  have hw : L2.wipe σ2 vs = L2.wipe σ vs := by
    have := wipe_eq (is := vs) st2.len fun i hi => st2.out i fun q => hi (hsub i q)
    rw [this, wipe_wipe]
  have out2 : ∀ j, j ∉ vs → σ2[j]? = σ[j]? := fun j hj => by
    rw [st2.out j fun q => hj (hsub j q)]; exact wipe_out' hj
  have hk : σ2.length = σ.length := by rw [st2.len, L2.wipe_length]
  refine ⟨hw, tCl_of (z := z.blk) hg.guard.blk st2.sr e3 fun H3 Hf3 s3 l3 => ?_⟩
  cases b with
  | false =>
    rw [if_neg (by simp)]
    dsimp only at h4
    rw [if_neg (by simp)] at h4
    cases h4
    exact hN H3 ⟨⟨Hf3, accV, (l1.trans po.le).trans l3, Reps.le (po.le.trans l3) ra, s3.hideOut hk out2, (s3.unguard (fun _ z => by cases z) hD hF0 hl).at_⟩⟩
  | true =>
    rw [if_pos rfl]
    dsimp only at h4
    rw [if_pos rfl] at h4
    obtain ⟨⟨xs1, ρ4⟩, e4, h5⟩ := bind_ok h4
    dsimp only at h5
    refine tI_of (z := z.blk) hg.guard.blk s3 e4 fun H4 Hf4 s4 l4 J1 wk1 => ?_
    have le4 : Le Hf Hf4 := (po.le.trans l3).trans l4
    have u4 := s4.unguard (fun _ z => by cases z) hD hF0 hl
    have st4 : LcSt z g σ2 Hf4 vs1 dst H4 ρ4 acc := ⟨⟨Hf4, accV, Le.refl _, Reps.le le4 ra, s4.hideOut rfl fun j _ => rfl, u4.at_⟩⟩
    refine ⟨fun j m H => j ≤ xs1.length ∧ m = xs1.length - j ∧ ∃ ρj ac, LcSt z g σ2 Hf4 vs1 dst H ρj ac ∧ foldR (LcTurn z e tg1 f1 vs1) (ρj, ac) (xs1.drop j) = .ok (ρ', acc'), ⟨xs1.length, Nat.zero_le _, rfl, ρ4, acc, st4, h5⟩, fun j m H5 ⟨hj, hm, ρj, ac, stj, hf⟩ => ?_⟩
    obtain ⟨Hfj, acV, lj, rj, sj, dj⟩ := stj.ex
    by_cases hlt : j < xs1.length
    · refine .inr ⟨wk1.go j H5 (lj.trans sj.sub) hlt, fun H' => ∃ ρi ac1, LcSt z g σ2 Hf4 vs1 dst H' ρi ac1 ∧ foldR (LcTurn z e tg1 f1 vs1) (ρi, ac1) (xs1.drop (j + 1)) = .ok (ρ', acc'), fun H' ⟨ρi, ac1, st', hf'⟩ => ⟨xs1.length - (j + 1), by omega, by omega, rfl, ρi, ac1, st', hf'⟩, fun x1 H6 hy1 => ?_⟩
      rw [drop_at hlt] at hf
      unfold foldR at hf
      obtain ⟨⟨ρi, ac1⟩, ht1, hf2⟩ := bind_ok hf
      exact lc_turn hg stj hD hF0 hl hsub2 wk1 (List.getElem?_eq_getElem hlt) ht1 hy1 stj.len fun H'' st'' => ⟨ρi, ac1, st'', hf2⟩
    · refine .inl ⟨wk1.stop j H5 (lj.trans sj.sub) (by omega), hN H5 ?_⟩
      rw [List.drop_eq_nil_of_le (by omega)] at hf
      unfold foldR at hf
      cases hf
      have := sj.hideOut (vs := vs) hk out2
      rw [hideL_sub hsub1] at this
      exact ⟨⟨Hfj, acV, ((l1.trans le4).trans lj), rj, this, dj⟩⟩
/-- [e for tg in it if f for tg1 in it1 if f1] -/
theorem tE_lc2 {e : Ex} {tg tg1 : Tg} {it it1 : It} {f f1 : Exs} {Q : VK} (h : tE z (.lc e (.c tg it f (.c tg1 it1 f1 .n))) σ H Q) :
    tLc2 (tI z it) (gT z.C.K tg) (tCl z.blk f) (tI z.blk it1) (gT z.C.K tg1) (tCl z.blk f1) (tE z.blk e) (Gens.c tg it f (.c tg1 it1 f1 .n)).vars (Gens.c tg1 it1 f1 .n).vars σ H Q := by
  obtain ⟨g, hg, Hf, ρ, s, h⟩ := h
  simp only [ev] at h
  refine ⟨g, hg, Hf, ρ, s, (Out.bind h).imp fun xs ρ1 H1 Hf1 s1 l1 k J wk dst hd => ?_⟩
  have hsub : ∀ i ∈ tg.vars, i ∈ (Gens.c tg it f (.c tg1 it1 f1 .n)).vars := fun i hi => List.mem_append_left _ hi
  have hsub1 : ∀ i ∈ (Gens.c tg1 it1 f1 .n).vars, i ∈ (Gens.c tg it f (.c tg1 it1 f1 .n)).vars := fun i hi => List.mem_append_right _ hi
  have hsub2 : ∀ i ∈ tg1.vars, i ∈ (Gens.c tg1 it1 f1 .n).vars := fun i hi => List.mem_append_left _ hi
  generalize hvs1 : (Gens.c tg1 it1 f1 .n).vars = vs1 at hsub1 hsub2
  generalize hvs : (Gens.c tg it f (.c tg1 it1 f1 .n)).vars = vs at k hsub hsub1
  dsimp only at k
  split at k
  · exact k.elim
  · rename_i hno
    have hno : noOwn ρ1 vs = true := by
      rcases bool_cases (noOwn ρ1 vs) with q | q
      · exact q
      · rw [q] at hno; exact absurd rfl hno
    obtain ⟨⟨ρ3, ds⟩, hfold, k⟩ := Out.bind' k okOnly_noexc
    have hfold := okOnly_ok hfold
    have hturn1 : (fun (st : Rho × List D) (x : D) => (setTg tg1 (.fz x) (hideL st.1 vs1)).bind fun ρ2 => (evC z.tb z.F f1 ρ2).bind fun x => if x.1 = true then evG z.tb z.F .n (fun st => (ev z.tb z.F e st.1).bind fun x => if st.2.length < szL then .ok (x.2, st.2 ++ [x.1.d]) else .bad 32) (x.2, st.2) else .ok (x.2, st.2)) = LcTurn z e tg1 f1 vs1 := by
      funext st x
      unfold LcTurn
      congr 1
    have hturn : (fun (st : Rho × List D) (x : D) => (setTg tg (.fz x) (hideL st.1 vs)).bind fun ρ2 => (evC z.tb z.F f ρ2).bind fun x => if x.1 = true then evG z.tb z.F (.c tg1 it1 f1 .n) (fun st => (ev z.tb z.F e st.1).bind fun x => if st.2.length < szL then .ok (x.2, st.2 ++ [x.1.d]) else .bad 32) (x.2, st.2) else .ok (x.2, st.2)) = Lc2Turn z e tg f tg1 it1 f1 vs vs1 := by
      funext st x
      unfold Lc2Turn
      rw [← hturn1]
      simp only [evG, hvs1]
    have hfold : foldR (Lc2Turn z e tg f tg1 it1 f1 vs vs1) (ρ1, []) xs = .ok (ρ3, ds) := by rw [← hturn]; exact hfold
    have hD : g.H0 dst = none := by
      cases q : g.H0 dst with
      | none => rfl
      | some o => exact absurd hd (s1.dom dst (by rw [q]; simp))
    have hF0 : g.Hf0 dst = none := by
      cases q : g.Hf0 dst with
      | none => rfl
      | some o => rw [s1.sub _ _ (s1.fz0 _ _ q)] at hd; cases hd
    refine ⟨fun i m H => i ≤ xs.length ∧ m = xs.length - i ∧ ∃ ρi acc, LcSt z g σ Hf1 vs dst H ρi acc ∧ foldR (Lc2Turn z e tg f tg1 it1 f1 vs vs1) (ρi, acc) (xs.drop i) = .ok (ρ3, ds), ⟨xs.length, Nat.zero_le _, rfl, ρ1, [], LcSt.start s1 hd, hfold⟩, fun i m H ⟨hi, hm, ρi, acc, st, hf⟩ => ?_⟩
    obtain ⟨Hfi, accV, li, _, si, _⟩ := st.ex
    by_cases hlt : i < xs.length
    · refine .inr ⟨wk.go i H (li.trans si.sub) hlt, fun H' => ∃ ρi acc, LcSt z g σ Hf1 vs dst H' ρi acc ∧ foldR (Lc2Turn z e tg f tg1 it1 f1 vs vs1) (ρi, acc) (xs.drop (i + 1)) = .ok (ρ3, ds), fun H' ⟨ρj, acc', st', hf'⟩ => ⟨xs.length - (i + 1), by omega, by omega, rfl, ρj, acc', st', hf'⟩, fun x H' hy => ?_⟩
      rw [drop_at hlt] at hf
      unfold foldR at hf
      obtain ⟨⟨ρj, acc'⟩, ht, hf2⟩ := bind_ok hf
      exact lc2_turn hg st hD hF0 s1.lent hsub hsub1 hsub2 wk (List.getElem?_eq_getElem hlt) ht hy st.len fun H'' st'' => ⟨ρj, acc', st'', hf2⟩
    · refine .inl ⟨wk.stop i H (li.trans si.sub) (by omega), ?_⟩
      rw [List.drop_eq_nil_of_le (by omega)] at hf
      unfold foldR at hf
      cases hf
      obtain ⟨Hf', l', sE, rvE⟩ := st.fin s1 hd hno
      exact k H Hf' sE l' _ rvE
end
end Ev


set_option maxHeartbeats 4000000
namespace Ev
open PySem L2
def OutS (z : Z) (g : G) (σ : L2.St) (Hf : Hp) (x : Res (Fl × Rho)) (K : Fl → Rho → L2.St → Hp → Hp → Prop) : Prop := match x with
  | .ok (a, ρ') => ∀ σ' H' Hf', SR z.C g σ' H' Hf' ρ' → σ'.length = σ.length → Le Hf Hf' → K a ρ' σ' H' Hf'
  | .exc c d => WxE z g c d
  | .bad _ => False
def KS (z : Z) (g : G) (D : Ends) : Fl → Rho → L2.St → Hp → Hp → Prop := fun fl ρ' σ' H' Hf' => match fl with
  | .nx => D.nx σ' H'
  | .ct => D.ct σ' H'
  | .rt r => ∀ v, RVok z.C g σ' H' Hf' ρ' v r → D.rt v H'
def tS (z : Z) (st : St) : TS := fun D σ H => ∃ g, z.ok g ∧ ∃ Hf ρ, SR z.C g σ H Hf ρ ∧ OutS z g σ Hf (evS z.tb z.F st ρ) (KS z g D)
def tSs (z : Z) (ss : Sts) : TS := fun D σ H => ∃ g, z.ok g ∧ ∃ Hf ρ, SR z.C g σ H Hf ρ ∧ OutS z g σ Hf (evSs z.tb z.F ss ρ) (KS z g D)
section
variable {z : Z} {g : G} {σ : L2.St} {H Hf : Hp} {ρ : Rho}
theorem OutS.bindE {α : Type} {x : Res (α × Rho)} {f : α × Rho → Res (Fl × Rho)} {K : Fl → Rho → L2.St → Hp → Hp → Prop} (h : OutS z g σ Hf (x.bind f) K) : Out z g σ Hf x (fun a ρ' _ Hf' => OutS z g σ Hf' (f (a, ρ')) K) := by
  cases x with
  | ok p =>
    obtain ⟨a, ρ'⟩ := p
    intro H' Hf' s l
    have h' : OutS z g σ Hf (f (a, ρ')) K := h
    revert h'
    cases f (a, ρ') with
    | ok q => intro h' σ2 H2 Hf2 s2 n2 l2; exact h' σ2 H2 Hf2 s2 n2 (l.trans l2)
    | exc c d => exact id
    | bad n => exact id
  | exc c d => exact h
  | bad n => exact h
theorem OutS.bind {x : Res (Fl × Rho)} {f : Fl × Rho → Res (Fl × Rho)} {K : Fl → Rho → L2.St → Hp → Hp → Prop} (h : OutS z g σ Hf (x.bind f) K) : OutS z g σ Hf x (fun a ρ' σ' _ Hf' => OutS z g σ' Hf' (f (a, ρ')) K) := by
  cases x with
  | ok p =>
    obtain ⟨a, ρ'⟩ := p
    intro σ' H' Hf' s n l
    have h' : OutS z g σ Hf (f (a, ρ')) K := h
    revert h'
    cases f (a, ρ') with
    | ok q => intro h' σ2 H2 Hf2 s2 n2 l2; exact h' σ2 H2 Hf2 s2 (n2.trans n) (l.trans l2)
    | exc c d => exact id
    | bad n => exact id
  | exc c d => exact h
  | bad n => exact h
theorem OutS.bind' {α : Type} {x : Res α} {f : α → Res (Fl × Rho)} {K : Fl → Rho → L2.St → Hp → Hp → Prop} (h : OutS z g σ Hf (x.bind f) K) (hx : ∀ c d, x ≠ .exc c d) : ∃ a, x = .ok a ∧ OutS z g σ Hf (f a) K := by
  cases x with
  | ok a => exact ⟨a, rfl, h⟩
  | exc c d => exact absurd rfl (hx c d)
  | bad n => exact h.elim
theorem OutS.imp {x : Res (Fl × Rho)} {K K' : Fl → Rho → L2.St → Hp → Hp → Prop} (h : OutS z g σ Hf x K) (k : ∀ a ρ' σ' H' Hf', SR z.C g σ' H' Hf' ρ' → σ'.length = σ.length → Le Hf Hf' → K a ρ' σ' H' Hf' → K' a ρ' σ' H' Hf') : OutS z g σ Hf x K' := by
  cases x with
  | ok p => exact fun σ' H' Hf' s n l => k _ _ _ _ _ s n l (h σ' H' Hf' s n l)
  | exc c d => exact h
  | bad n => exact h
theorem OutS.le {x : Res (Fl × Rho)} {K : Fl → Rho → L2.St → Hp → Hp → Prop} {Hf1 : Hp} (h : OutS z g σ Hf x K) (l : Le Hf Hf1) : OutS z g σ Hf1 x K := by
  cases x with
  | ok p => exact fun σ' H' Hf' s n l2 => h σ' H' Hf' s n (l.trans l2)
  | exc c d => exact h
  | bad n => exact h
theorem OutS.sl {x : Res (Fl × Rho)} {K : Fl → Rho → L2.St → Hp → Hp → Prop} {σ1 : L2.St} (h : OutS z g σ Hf x K) (n : σ1.length = σ.length) : OutS z g σ1 Hf x K := by
  cases x with
  | ok p => exact fun σ' H' Hf' s m l2 => h σ' H' Hf' s (m.trans n) l2
  | exc c d => exact h
  | bad n => exact h
theorem tSs_nil {D : Ends} (h : tSs z .n D σ H) : tNext D σ H := by
  obtain ⟨g, hg, Hf, ρ, s, h⟩ := h
  simp only [evSs] at h
  exact h σ H Hf s rfl (Le.refl _)
theorem tSs_cons {st : St} {ss : Sts} {D : Ends} (h : tSs z (.c st ss) D σ H) : tSeq (tS z st) (tSs z ss) D σ H := by
  obtain ⟨g, hg, Hf, ρ, s, h⟩ := h
  simp only [evSs] at h
  refine ⟨g, hg, Hf, ρ, s, (OutS.bind h).imp fun fl ρ1 σ1 H1 Hf1 s1 n1 l1 k => ?_⟩
  cases fl with
  | nx => exact ⟨g, hg, Hf1, ρ1, s1, k⟩
  | ct => exact k σ1 H1 Hf1 s1 rfl (Le.refl _)
  | rt r => exact fun v hv => k σ1 H1 Hf1 s1 rfl (Le.refl _) v hv
theorem tS_asg {tg : Tg} {e : Ex} {D : Ends} (h : tS z (.asg tg e) D σ H) : tAsg (tE z e) (gT z.C.K tg) D σ H := by
  obtain ⟨g, hg, Hf, ρ, s, h⟩ := h
  simp only [evS] at h
  refine ⟨g, hg, Hf, ρ, s, (OutS.bindE h).imp fun r ρ1 H1 Hf1 s1 l1 k v hv => ?_⟩
  obtain ⟨ρ2, e2, k2⟩ := OutS.bind' k setTg_noexc
  exact gT_rv s1 hv e2 fun σ' Hf' l' st => k2 σ' H1 Hf' st.sr st.len l'
theorem setTgs_noexc {ts : Tgs} {xs : List D} {ρ : Rho} (c : Nat) (d : D) : setTgs ts xs ρ ≠ .exc c d := by
  intro h
  exact setTg_noexc (t := .tp ts) (r := .fz (.tup xs)) (ρ := ρ) c d (by simp only [setTg, RV.d]; exact h)
theorem setTgR_noexc : ∀ {ts : Tgs} {rs : List RV} {ρ : Rho} (c : Nat) (d : D), setTgR ts rs ρ ≠ .exc c d
  | .n, [], _, _, _, h => by simp only [setTgR] at h; cases h
  | .n, _ :: _, _, _, _, h => by simp only [setTgR] at h; cases h
  | .c (.nm i) ts, [], _, _, _, h => by simp only [setTgR] at h; cases h
  | .c (.tp _) ts, [], _, _, _, h => by simp only [setTgR] at h; cases h
  | .c (.tp _) ts, _ :: _, _, _, _, h => by simp only [setTgR] at h; cases h
  | .c (.nm i) ts, r :: rs, ρ, c, d, h => by
    simp only [setTgR] at h
    cases q : setTg (.nm i) r ρ with
    | ok ρ1 => rw [q] at h; exact setTgR_noexc c d h
    | exc c' d' => exact setTg_noexc c' d' q
    | bad m => rw [q] at h; cases h
/-- several results, apart -/
inductive RVoks (C : Cst) (g : G) (σ : L2.St) (H Hf : Hp) (ρ : Rho) : List V → List RV → Prop
  | nil : RVoks C g σ H Hf ρ [] []
  | cons {v : V} {r : RV} {vs : List V} {rs : List RV} : RVok C g σ H Hf ρ v r → (∀ (a : Addr) (e : D), r = .ow e → v = .ref a → ∀ (k : Nat) (w : V) (f : D), vs[k]? = some w → rs[k]? = some (.ow f) → w ≠ .ref a) → RVoks C g σ H Hf ρ vs rs → RVoks C g σ H Hf ρ (v :: vs) (r :: rs)
theorem KeepG.unguard {g : G} {D : Addr} {o : HO} {H' : Hp} (h : KeepG (g.guard D o) H') (hD : g.H0 D = none) : KeepG g H' where
  base := fun a u e nt hio => h.base a u (by
    have : a ≠ D := fun q => by rw [q, hD] at e; cases e
    show upd g.H0 D o a = some u
    rw [upd_ne this]; exact e) nt hio
  dom := fun a e => h.dom a (by
    have : a ≠ D := fun q => e (by rw [q]; exact hD)
    show upd g.H0 D o a ≠ none
    rw [upd_ne this]; exact e)
  fz0 := h.fz0
  tabs := h.tabs
/-- an outcome, one thing more held -/
theorem Out.toGuard {α : Type} {x : Res (α × Rho)} {K K' : α → Rho → Hp → Hp → Prop} {D : Addr} {o : HO} (h : Out z g σ Hf x K) (hD : g.H0 D = none) (k : ∀ a ρ' H' Hf', SR z.C (g.guard D o) σ H' Hf' ρ' → Le Hf Hf' → (SR z.C g σ H' Hf' ρ' → K a ρ' H' Hf') → K' a ρ' H' Hf') : Out z (g.guard D o) σ Hf x K' := by
  cases x with
  | ok p => exact fun H' Hf' s l => k _ _ _ _ s l fun sg => h H' Hf' sg l
  | exc c d => exact fun cls dct H' hx hk => h cls dct H' hx (hk.unguard hD)
  | bad n => exact h
theorem RVoks.unguard {C : Cst} {D : Addr} {o : HO} (hD : g.H0 D = none) : ∀ {vs : List V} {rs : List RV}, RVoks C (g.guard D o) σ H Hf ρ vs rs → RVoks C g σ H Hf ρ vs rs ∧ ∀ (k : Nat) (w : V) (f : Ev.D), vs[k]? = some w → rs[k]? = some (.ow f) → w ≠ .ref D
  | _, _, .nil => ⟨.nil, fun k w f h _ => by simp at h⟩
  | _, _, .cons (v := v) (r := r) h q t => by
    obtain ⟨t1, t2⟩ := RVoks.unguard hD t
    have key : RVok C g σ H Hf ρ v r ∧ ∀ f, r = .ow f → v ≠ .ref D := by
      cases r with
      | fz d => exact ⟨h, fun f e => by cases e⟩
      | ow d =>
        obtain ⟨a, h1, h2, h3, h4⟩ := h
        have hne : a ≠ D := fun e => by
          have h3' : upd g.H0 D o a = none := h3
          rw [e, upd_same] at h3'; cases h3'
        have h3' : upd g.H0 D o a = none := h3
        rw [upd_ne hne] at h3'
        exact ⟨⟨a, h1, h2, h3', h4⟩, fun f _ e => by rw [h1] at e; injection e with e; exact hne e⟩
    refine ⟨.cons key.1 q t1, fun k w f h1 h2 => ?_⟩
    cases k with
    | zero =>
      simp at h1 h2
      subst h1
      exact key.2 f h2
    | succ k => exact t2 k w f (by simpa using h1) (by simpa using h2)
theorem tRs_of : ∀ {es : Exs} {g : G} {H Hf : Hp} {ρ : Rho} {K : List V → Hp → Prop}, z.ok g → SR z.C g σ H Hf ρ → (Out z g σ Hf (evRs z.tb z.F es ρ) fun rs ρ1 H1 Hf1 => ∀ vs, RVoks z.C g σ H1 Hf1 ρ1 vs rs → K vs H1) → tFs z es σ H K
  | .n, g, H, Hf, ρ, K, hg, s, h => by
    simp only [evRs] at h
    exact h H Hf s (Le.refl _) [] .nil
  | .c e es, g, H, Hf, ρ, K, hg, s, h => by
    simp only [evRs] at h
    refine ⟨g, hg, Hf, ρ, s, (Out.bind h).imp fun r ρ1 H1 Hf1 s1 l1 k v hv => ?_⟩
    cases r with
    | fz d =>
      refine tRs_of (es := es) hg s1 ((Out.bind k).imp fun rs ρ2 H3 Hf3 s3 l3 k3 vs hvs => ?_)
      exact k3 H3 Hf3 s3 (Le.refl _) (v :: vs) (.cons (Rep.le l3 hv) (fun a e h => by cases h) hvs)
    | ow d =>
      obtain ⟨a, rfl, ho, h0, hs⟩ := hv
      obtain ⟨o, e, nt⟩ := ho.there
      have hF0 : g.Hf0 a = none := by
        cases q : g.Hf0 a with
        | none => rfl
        | some u => have z1 := ho.1; rw [s1.fz0 a u q] at z1; cases z1
      refine tRs_of (es := es) (g := g.guard a o) hg.guard (s1.guard h0 e ho.1 hs) ((Out.bind k).toGuard h0 fun rs ρ2 H3 Hf3 s3 l3 k3 vs hvs => ?_)
      have u := s3.unguard nt h0 hF0 s1.lent
      have own3 : Own z.C H3 Hf3 a d := ho.le l3 u.hf (fun o' e' _ => by rw [e] at e'; cases e'; exact u.at_)
      obtain ⟨t1, t2⟩ := RVoks.unguard h0 hvs
      refine k3 u.sr H3 Hf3 u.sr (Le.refl _) (.ref a :: vs) (.cons ⟨a, rfl, own3, h0, u.ns⟩ (fun b e hr hb k w f h1 h2 => ?_) t1)
      injection hb with hb
      rw [← hb]
      exact t2 k w f h1 h2
theorem setTg_nm {i : Nat} {r : RV} {ρ ρ' : Rho} (h : setTg (.nm i) r ρ = .ok ρ') : (i < ρ.length ∧ ρ' = ρ.set i r.slot) ∧ ∀ e, ρ[i]? ≠ some (.io e) := by
  simp only [setTg] at h
  split at h
  · cases h
  · cases h
  · rename_i sl hne q
    cases h
    exact ⟨⟨(List.getElem?_eq_some_iff.mp q).1, rfl⟩, fun e he => by rw [he] at q; cases q; exact hne e rfl⟩
/-- the results left, behind one that is stored -/
theorem RVoks.stored {C : Cst} {i : Nat} {v : V} {r : RV} (hi : i < ρ.length) (hl : σ.length = ρ.length) : ∀ {vs : List V} {rs : List RV}, (∀ (a : Addr) (e : D), r = .ow e → v = .ref a → ∀ (k : Nat) (w : V) (f : D), vs[k]? = some w → rs[k]? = some (.ow f) → w ≠ .ref a) → (∀ e, r = .ow e → ∃ a, v = .ref a) → RVoks C g σ H Hf ρ vs rs → RVoks C g (σ.set i (some v)) H Hf (ρ.set i r.slot) vs rs
  | [], [], _, _, .nil => .nil
  | w :: _, r2 :: _, hq, hr, .cons h q t => by
    refine .cons ?_ q (RVoks.stored hi hl (fun a e h1 h2 k w f h3 h4 => hq a e h1 h2 (k + 1) w f (by simpa using h3) (by simpa using h4)) hr t)
    cases r2 with
    | fz d => exact h
    | ow d =>
      obtain ⟨a, h1, h2, h3, h4⟩ := h
      refine ⟨a, h1, h2, h3, fun j e he => ?_⟩
      by_cases hj : i = j
      · subst hj
        rw [List.getElem?_set_self hi] at he
        rw [List.getElem?_set_self (by omega)]
        cases r with
        | fz d' => cases he
        | ow d' =>
          obtain ⟨b, rfl⟩ := hr d' rfl
          intro e2
          injection e2 with e2; injection e2 with e2; injection e2 with e2
          exact hq b d' rfl rfl 0 w d rfl rfl (by rw [h1, e2])
      · rw [List.getElem?_set_ne hj] at he ⊢
        exact h4 j e he
/-- names in order -/
theorem gTs_R : ∀ {ts : Tgs} {σ : L2.St} {ρ ρ' : Rho} {vs : List V} {rs : List RV} {Q : L2.St → Hp → Prop}, SR z.C g σ H Hf ρ → RVoks z.C g σ H Hf ρ vs rs → setTgR ts rs ρ = .ok ρ' → (∀ σ', SR z.C g σ' H Hf ρ' → σ'.length = σ.length → Q σ' H) → gTs z.C.K ts vs σ H Q
  | .n, σ, ρ, ρ', _, _, Q, s, .nil, h, k => by
    simp only [setTgR] at h; cases h; exact ⟨rfl, k σ s rfl⟩
  | .n, σ, ρ, ρ', _, _, Q, s, .cons _ _ _, h, k => by simp only [setTgR] at h; cases h
  | .c (.tp _) ts, σ, ρ, ρ', _, _, Q, s, .nil, h, k => by simp only [setTgR] at h; cases h
  | .c (.tp _) ts, σ, ρ, ρ', _, _, Q, s, .cons _ _ _, h, k => by simp only [setTgR] at h; cases h
  | .c (.nm i) ts, σ, ρ, ρ', _, _, Q, s, .nil, h, k => by simp only [setTgR] at h; cases h
  | .c (.nm i) ts, σ, ρ, ρ', _, _, Q, s, .cons (v := v) (r := r) (vs := vs) (rs := rs) hd hq hr, h, k => by
    simp only [setTgR] at h
    cases q : setTg (.nm i) r ρ with
    | ok ρ1 =>
      rw [q] at h
      obtain ⟨⟨hi, rfl⟩, nio⟩ := setTg_nm q
      have h' : setTgR ts rs (ρ.set i r.slot) = .ok ρ' := h
      have s1 : SR z.C g (σ.set i (some v)) H Hf (ρ.set i r.slot) := by
        cases r with
        | fz d => exact s.setFz hi hd nio
        | ow d =>
          obtain ⟨a, rfl, h1, h2, h3⟩ := hd
          exact s.setOw hi h1 h2 h3 nio
      have hr' := RVoks.stored (v := v) (r := r) hi s.len hq (fun e h => by
        subst h
        obtain ⟨a, h1, _⟩ := hd
        exact ⟨a, h1⟩) hr
      exact ⟨v, vs, rfl, gTs_R s1 hr' h' fun σ2 s2 n2 => k σ2 s2 (by rw [n2, List.length_set])⟩
    | exc c d => rw [q] at h; cases h
    | bad n => rw [q] at h; cases h
/-- a, b = x, y -/
theorem tS_par2 {i j : Nat} {es : Exs} {D : Ends} (hij : i ≠ j) (h : tS z (.par (.c (.nm i) (.c (.nm j) .n)) es) D σ H) : tPar i j (tFs z es) D σ H := by
  obtain ⟨g, hg, Hf, ρ, s, h⟩ := h
  simp only [evS] at h
  refine tRs_of hg s ((OutS.bindE h).imp fun rs ρ1 H1 Hf1 s1 l1 k vs hvs => ?_)
  obtain ⟨ρ2, e2, k2⟩ := OutS.bind' k setTgR_noexc
  have hg := gTs_R (Q := fun σ' H' => σ' = σ' ∧ D.nx σ' H') s1 hvs e2 fun σ' s' n' => ⟨rfl, k2 σ' H1 Hf1 s' n' (Le.refl _)⟩
  obtain ⟨v, r, rfl, hg⟩ := hg
  obtain ⟨w, r2, rfl, hg⟩ := hg
  obtain ⟨rfl, _, hg⟩ := hg
  exact ⟨v, w, rfl, hg⟩
/-- a, b, c = x, y, z -/
theorem tS_par3 {i j l : Nat} {es : Exs} {D : Ends} (h : tS z (.par (.c (.nm i) (.c (.nm j) (.c (.nm l) .n))) es) D σ H) : tPar3 i j l (tFs z es) D σ H := by
  obtain ⟨g, hg, Hf, ρ, s, h⟩ := h
  simp only [evS] at h
  refine tRs_of hg s ((OutS.bindE h).imp fun rs ρ1 H1 Hf1 s1 l1 k vs hvs => ?_)
  obtain ⟨ρ2, e2, k2⟩ := OutS.bind' k setTgR_noexc
  have hg := gTs_R (Q := fun σ' H' => σ' = σ' ∧ D.nx σ' H') s1 hvs e2 fun σ' s' n' => ⟨rfl, k2 σ' H1 Hf1 s' n' (Le.refl _)⟩
  obtain ⟨u, r, rfl, hg⟩ := hg
  obtain ⟨v, r, rfl, hg⟩ := hg
  obtain ⟨w, r2, rfl, hg⟩ := hg
  obtain ⟨rfl, _, hg⟩ := hg
  exact ⟨u, v, w, rfl, hg⟩
/-- a, b, .. = x, y, ..: a tuple is made and taken apart -/
theorem tS_parN {ts : Tgs} {es : Exs} {D : Ends} (h : tS z (.par ts es) D σ H) (hn : ts.len ≤ 1000) : tAsg (tTup (tFs z es)) (gTup z.C.K ts.len (gTs z.C.K ts)) D σ H := by
  obtain ⟨g, hg, Hf, ρ, s, h⟩ := h
  simp only [evS] at h
  refine tRs_of hg s ((OutS.bindE h).imp fun rs ρ1 H1 Hf1 s1 l1 k vs hvs => ?_)
  obtain ⟨ρ2, e2, k2⟩ := OutS.bind' k setTgR_noexc
  have hlen : ∀ {vs : List V} {rs : List RV} {ρ : Rho} {σ : L2.St} {H Hf : Hp}, RVoks z.C g σ H Hf ρ vs rs → vs.length = rs.length := by
    intro vs rs ρ σ H Hf h
    induction h with
    | nil => rfl
    | cons _ _ _ ih => simp [ih]
  have hlen2 : ∀ {ts : Tgs} {rs : List RV} {ρ ρ' : Rho}, setTgR ts rs ρ = .ok ρ' → rs.length = ts.len := by
    intro ts
    induction ts using Tgs.rec (motive_1 := fun _ => True) with
    | nm i => trivial
    | tp ts _ => trivial
    | n =>
      intro rs ρ ρ' h
      cases rs with
      | nil => rfl
      | cons _ _ => simp only [setTgR] at h; cases h
    | c t ts _ ih =>
      intro rs ρ ρ' h
      cases t with
      | tp _ => cases rs <;> (simp only [setTgR] at h; cases h)
      | nm i =>
        cases rs with
        | nil => simp only [setTgR] at h; cases h
        | cons r rs =>
          simp only [setTgR] at h
          obtain ⟨ρ1, _, h2⟩ := bind_ok h
          simp [Tgs.len, ih h2]
  have hv : vs.length = ts.len := by rw [hlen hvs, hlen2 e2]
  refine ⟨by rw [hv]; have : (1000 : Nat) ≤ sizeLine := by decide
             omega, fun p hp => ?_⟩
  -- the tuple is nobody's
  have keep : ∀ b o, H1 b = some o → NoTab o → upd H1 p (.tup vs) b = some o := fun b o e _ => by rw [upd_ne (ne_of_none e hp)]; exact e
  have hF : Hf1 p = none := by
    cases q : Hf1 p with
    | none => rfl
    | some o => rw [s1.sub _ _ q] at hp; cases hp
  have s2 : SR z.C g σ (upd H1 p (.tup vs)) Hf1 ρ1 := s1.grow keep (fun b e => by
      by_cases hb : b = p
      · rw [hb, upd_same]; simp
      · rw [upd_ne hb]; exact e) (tabs_new s1.tabs hp) (Le.refl _) (fun b o e => by rw [upd_ne (ne_of_none e hF)]; exact s1.sub b o e) (fun b e => .inl e)
  have hvs2 : ∀ {vs' : List V} {rs' : List RV}, RVoks z.C g σ H1 Hf1 ρ1 vs' rs' → RVoks z.C g σ (upd H1 p (.tup vs)) Hf1 ρ1 vs' rs' := by
    intro vs' rs' h
    induction h with
    | nil => exact .nil
    | @cons v r vs rs h q t ih =>
      refine .cons ?_ q ih
      cases r with
      | fz d => exact h
      | ow d =>
        obtain ⟨a, h1, h2, h3, h4⟩ := h
        exact ⟨a, h1, h2.le (Le.refl _) h2.1 (fun o e nt => keep a o e nt), h3, h4⟩
  refine ⟨p, vs, rfl, SqT.of upd_same, hv, ?_⟩
  exact gTs_R s2 (hvs2 hvs) e2 fun σ' s' n' => k2 σ' _ Hf1 s' n' (Le.refl _)
theorem tS_exp {e : Ex} {D : Ends} (h : tS z (.exp e) D σ H) : tDrop (tE z e) D σ H := by
  obtain ⟨g, hg, Hf, ρ, s, h⟩ := h
  simp only [evS] at h
  exact ⟨g, hg, Hf, ρ, s, (OutS.bindE h).imp fun r ρ1 H1 Hf1 s1 l1 k v hv => k σ H1 Hf1 s1 rfl (Le.refl _)⟩
theorem evS_iff {T : Tb} {F : CallF} {c : Ex} {a b : Sts} {ρ : Rho} : evS T F (.iff c a b) ρ = (evB T F c ρ).bind fun p => if p.1 then evSs T F a p.2 else evSs T F b p.2 := by
  simp only [evB, evS]
  rw [bind_assoc']
  congr 1; funext q
  rw [bind_assoc']
  congr 1
theorem tS_iff {c : Ex} {a b : Sts} {D : Ends} (h : tS z (.iff c a b) D σ H) : tIfS (tT z c) (tSs z a) (tSs z b) D σ H := by
  obtain ⟨g, hg, Hf, ρ, s, h⟩ := h
  rw [evS_iff] at h
  refine ⟨g, hg, Hf, ρ, s, (OutS.bindE h).imp fun k ρ1 H1 Hf1 s1 l1 hk => ?_⟩
  cases k
  · exact ⟨g, hg, Hf1, ρ1, s1, hk⟩
  · exact ⟨g, hg, Hf1, ρ1, s1, hk⟩
theorem tS_ret {e : Ex} {D : Ends} (he : ∀ i, e ≠ .var i) (h : tS z (.ret e) D σ H) : tRet (tE z e) D σ H := by
  obtain ⟨g, hg, Hf, ρ, s, h⟩ := h
  have h' : OutS z g σ Hf ((ev z.tb z.F e ρ).bind fun p => .ok (.rt p.1, p.2)) (KS z g D) := by
    cases e <;> first | (simp only [evS] at h; exact h) | exact absurd rfl (he _)
  exact ⟨g, hg, Hf, ρ, s, (OutS.bindE h').imp fun r ρ1 H1 Hf1 s1 l1 k v hv => k σ H1 Hf1 s1 rfl (Le.refl _) v hv⟩
theorem tS_retV {i : Nat} {D : Ends} (h : tS z (.ret (.var i)) D σ H) : tRet (tVar i) D σ H := by
  obtain ⟨g, hg, Hf, ρ, s, h⟩ := h
  simp only [evS] at h
  split at h
  · rename_i d q
    obtain ⟨v, h1, h2⟩ := s.fz i d q
    exact ⟨v, h1, h σ H Hf s rfl (Le.refl _) v h2⟩
  · rename_i d q
    obtain ⟨a, h1, h2, h3⟩ := s.ow i d q
    have hi : i < ρ.length := (List.getElem?_eq_some_iff.mp q).1
    have hs2 : SR z.C g σ H Hf (ρ.set i .non) := s.reslot (by simpa using s.len) fun j sl e => by
      by_cases hj : i = j
      · subst hj; rw [List.getElem?_set_self hi] at e; cases e; exact .inl rfl
      · rw [List.getElem?_set_ne hj] at e; exact .inr ⟨e, rfl⟩
    refine ⟨_, h1, h σ H Hf hs2 rfl (Le.refl _) _ ⟨a, rfl, h2, h3, fun j e he hs => ?_⟩⟩
    by_cases hj : i = j
    · subst hj; rw [List.getElem?_set_self hi] at he; cases he
    · rw [List.getElem?_set_ne hj] at he
      exact s.sep i j d e a hj q he h1 hs
  · exact h.elim
theorem tS_retN {D : Ends} (h : tS z .retN D σ H) : tRetN D σ H := by
  obtain ⟨g, hg, Hf, ρ, s, h⟩ := h
  simp only [evS] at h
  exact h σ H Hf s rfl (Le.refl _) .non .non
theorem tS_cont {D : Ends} (h : tS z .cont D σ H) : tCont D σ H := by
  obtain ⟨g, hg, Hf, ρ, s, h⟩ := h
  simp only [evS] at h
  exact h σ H Hf s rfl (Le.refl _)
theorem tS_pass {D : Ends} (h : tS z .pass D σ H) : tNext D σ H := by
  obtain ⟨g, hg, Hf, ρ, s, h⟩ := h
  simp only [evS] at h
  exact h σ H Hf s rfl (Le.refl _)
theorem tS_nop {D : Ends} (h : tS z .nop D σ H) : False := by
  obtain ⟨g, hg, Hf, ρ, s, h⟩ := h
  simp only [evS] at h
  exact h
theorem tE_nop {Q : VK} (h : tE z .nop σ H Q) : False := by
  obtain ⟨g, hg, Hf, ρ, s, h⟩ := h
  simp only [ev] at h
  exact h
theorem tS_for {tg : Tg} {it : It} {b : Sts} {D : Ends} (h : tS z (.for tg it b) D σ H) : tFor (tI z it) (gT z.C.K tg) (tSs z b) D σ H := by
  obtain ⟨g, hg, Hf, ρ, s, h⟩ := h
  simp only [evS] at h
  refine ⟨g, hg, Hf, ρ, s, (OutS.bindE h).imp fun xs ρ1 H1 Hf1 s1 l1 k J wk => ?_⟩
  refine ⟨fun i m σ' H' => i ≤ xs.length ∧ m = xs.length - i ∧ ∃ Hf' ρ', Le Hf1 Hf' ∧ SR z.C g σ' H' Hf' ρ' ∧ OutS z g σ' Hf' (forR (fun ρ x => (setTg tg (.fz x) ρ).bind fun ρ2 => evSs z.tb z.F b ρ2) ρ' (xs.drop i)) (KS z g D), ⟨xs.length, Nat.zero_le _, rfl, Hf1, ρ1, Le.refl _, s1, k⟩, fun i m σ' H' ⟨hi, hm, Hf', ρ', l', s', h'⟩ => ?_⟩
  by_cases hlt : i < xs.length
  · refine .inr ⟨wk.go i H' (l'.trans s'.sub) hlt, fun σ2 H2 => ∃ Hf2 ρ2, Le Hf1 Hf2 ∧ SR z.C g σ2 H2 Hf2 ρ2 ∧ OutS z g σ2 Hf2 (forR (fun ρ x => (setTg tg (.fz x) ρ).bind fun ρ2 => evSs z.tb z.F b ρ2) ρ2 (xs.drop (i + 1))) (KS z g D), fun σ2 H2 ⟨Hf2, ρ2, l2, s2, h2⟩ => ⟨xs.length - (i + 1), by omega, by omega, rfl, Hf2, ρ2, l2, s2, h2⟩, fun x H2 hy => ?_⟩
    rw [drop_at hlt] at h'
    unfold forR at h'
    obtain ⟨Hf2, po⟩ := wk.yld i H' x H2 Hf' l' s'.sub hy xs[i] (List.getElem?_eq_getElem hlt)
    obtain ⟨s2, rv⟩ := s'.po po
    rw [bind_assoc'] at h'
    obtain ⟨ρ3, e3, h3⟩ := OutS.bind' h' setTg_noexc
    refine gT_fz s2 rv e3 fun σ3 st3 => ⟨g, hg, Hf2, ρ3, st3.sr, ?_⟩
    have h4 := ((OutS.bind h3).le po.le).sl st3.len
    refine h4.imp fun fl ρ4 σ4 H4 Hf4 s4 n4 l4 k4 => ?_
    have lt := (l'.trans po.le).trans l4
    cases fl with
    | nx => exact ⟨Hf4, ρ4, lt, s4, k4⟩
    | ct => exact ⟨Hf4, ρ4, lt, s4, k4⟩
    | rt r => exact fun v hv => k4 σ4 H4 Hf4 s4 rfl (Le.refl _) v hv
  · refine .inl ⟨wk.stop i H' (l'.trans s'.sub) (by omega), ?_⟩
    rw [List.drop_eq_nil_of_le (by omega)] at h'
    unfold forR at h'
    exact h' σ' H' Hf' s' rfl (Le.refl _)
def whStep (z : Z) (c : Ex) (b : Sts) (ρ : Rho) : Res (Option Fl × Rho) := (ev z.tb z.F c ρ).bind fun (r, ρ1) => (asBl r).bind fun k => if k then (evSs z.tb z.F b ρ1).bind fun (fl, ρ2) => .ok (some fl, ρ2) else .ok (none, ρ1)
theorem whStep_eq {c : Ex} {b : Sts} {ρ : Rho} {n : Nat} : whileR (whStep z c b) (n + 1) ρ = (evB z.tb z.F c ρ).bind fun p => if p.1 then (evSs z.tb z.F b p.2).bind fun q => match q.1 with | .rt r => .ok (.rt r, q.2) | _ => whileR (whStep z c b) n q.2 else .ok (.nx, p.2) := by
  show (whStep z c b ρ).bind _ = _
  unfold whStep evB
  rw [bind_assoc', bind_assoc']
  congr 1; funext q
  rw [bind_assoc', bind_assoc']
  congr 1; funext k
  cases k
  · rfl
  · show (Res.bind _ _).bind _ = Res.bind _ _
    rw [bind_assoc']
    congr 1; funext q2
    obtain ⟨fl, ρ2⟩ := q2
    cases fl <;> rfl
theorem tS_whl {c : Ex} {b : Sts} {D : Ends} (h : tS z (.whl c b) D σ H) : tWhile (tT z c) (tSs z b) D σ H := by
  obtain ⟨g, hg, Hf, ρ, s, h⟩ := h
  simp only [evS] at h
  refine ⟨fun m σ' H' => ∃ Hf' ρ', SR z.C g σ' H' Hf' ρ' ∧ OutS z g σ' Hf' (whileR (whStep z c b) m ρ') (KS z g D), ⟨z.tb.wmax, Hf, ρ, s, h⟩, fun m σ' H' ⟨Hf', ρ', s', h'⟩ => ?_⟩
  cases m with
  | zero => exact h'.elim
  | succ m =>
    rw [whStep_eq] at h'
    refine ⟨g, hg, Hf', ρ', s', (OutS.bindE h').imp fun k ρ1 H1 Hf1 s1 l1 hk => ?_⟩
    cases k
    · rw [if_neg (by simp)]; exact hk σ' H1 Hf1 s1 rfl (Le.refl _)
    · rw [if_pos rfl]
      refine ⟨fun σ2 H2 => ∃ Hf2 ρ2, SR z.C g σ2 H2 Hf2 ρ2 ∧ OutS z g σ2 Hf2 (whileR (whStep z c b) m ρ2) (KS z g D), fun σ2 H2 hN => ⟨m, Nat.lt_succ_self _, hN⟩, g, hg, Hf1, ρ1, s1, ?_⟩
      refine (OutS.bind hk).imp fun fl ρ4 σ4 H4 Hf4 s4 n4 l4 k4 => ?_
      cases fl with
      | nx => exact ⟨Hf4, ρ4, s4, k4⟩
      | ct => exact ⟨Hf4, ρ4, s4, k4⟩
      | rt r => exact fun v hv => k4 σ4 H4 Hf4 s4 rfl (Le.refl _) v hv
end
end Ev


set_option maxHeartbeats 4000000
namespace Ev
open PySem L2
section
variable {z : Z} {g : G} {σ : L2.St} {H Hf : Hp} {ρ : Rho} {C : Cst}
theorem putAt_get {ρ : Rho} {i j : Nat} {d : D} {sl : Slot} (e : (putAt ρ i d)[j]? = some sl) : (j ≠ i ∧ ρ[j]? = some sl) ∨ (j = i ∧ (sl = .io d ∨ sl = .ow d)) := by
  by_cases h : j = i
  · subst h
    refine .inr ⟨rfl, ?_⟩
    unfold putAt at e
    split at e
    · by_cases hl : j < ρ.length
      · rw [List.getElem?_set_self hl] at e; cases e; exact .inl rfl
      · rw [List.getElem?_eq_none (by simpa using hl)] at e; cases e
    · by_cases hl : j < ρ.length
      · rw [List.getElem?_set_self hl] at e; cases e; exact .inr rfl
      · rw [List.getElem?_eq_none (by simpa using hl)] at e; cases e
  · rw [putAt_ne h] at e; exact .inl ⟨h, e⟩
/-- a list that a name owns is written -/
theorem SR.writeL {i : Nat} {ds : List D} (s : SR C g σ H Hf ρ) (e : ownAt ρ i = .ok (.lst ds)) : ∃ a xs, σ[i]? = some (some (V.ref a)) ∧ H a = some (.lst xs) ∧ Reps C Hf xs ds ∧
    ∀ xs' ds', Reps C Hf xs' ds' → SR C g σ (upd H a (.lst xs')) Hf (putAt ρ i (.lst ds')) := by
  obtain ⟨a, h1, h2, h3⟩ := s.own e
  obtain ⟨hn, xs, ha, hr⟩ := h2
  refine ⟨a, xs, h1, ha, hr, fun xs' ds' hr' => ?_⟩
  have hown : Own C (upd H a (.lst xs')) Hf a (.lst ds') := ⟨hn, xs', upd_same, hr'⟩
  have hnb : ∀ b o, g.H0 b = some o → (∀ p ∈ g.IO, p.2 ≠ b) → b ≠ a := fun b o e1 hio q => by
    subst q
    rcases h3 with ⟨_, q⟩ | ⟨_, q⟩
    · rw [e1] at q; cases q
    · exact hio _ q rfl
  have other : ∀ {j : Nat} {d : D} {b : Addr}, j ≠ i → ownAt ρ j = .ok d → σ[j]? = some (some (V.ref b)) → Own C H Hf b d → Own C (upd H a (.lst xs')) Hf b d := fun {j d b} hj hd hs ho => by
    have hb : b ≠ a := fun q => s.apart hd e hj hs (by rw [q]; exact h1)
    exact ho.le (Le.refl _) ho.1 (fun o e _ => by rw [upd_ne hb]; exact e)
  refine ⟨by rw [putAt_length]; exact s.len, fun b u q => ?_, fun b o e1 nt hio => ?_, fun b e1 => ?_, s.fz0, tabs_upd s.tabs ha (fun _ q => by cases q) lst_nocode, s.nft, fun j d q => ?_, fun j d q => ?_, fun j d q => ?_, fun j k d1 d2 b hjk q1 q2 q3 q4 => ?_, s.lent, s.newf, s.lone⟩
  · have hb : b ≠ a := fun q2 => by rw [q2, hn] at q; cases q
    rw [upd_ne hb]; exact s.sub b u q
  · rw [upd_ne (hnb b o e1 hio)]; exact s.base b o e1 nt hio
  · by_cases hb : b = a
    · subst hb; rw [upd_same]; simp
    · rw [upd_ne hb]; exact s.dom b e1
  · rcases putAt_get q with ⟨hj, q⟩ | ⟨hj, q | q⟩
    · exact s.fz j d q
    · cases q
    · cases q
  · rcases putAt_get q with ⟨hj, q⟩ | ⟨hj, q' | q'⟩
    · obtain ⟨b, k1, k2, k3⟩ := s.ow j d q
      exact ⟨b, k1, other hj (by unfold ownAt; rw [q]) k1 k2, k3⟩
    · cases q'
    · subst hj
      cases q'
      rcases h3 with ⟨r1, r2⟩ | ⟨r1, r2⟩
      · exact ⟨a, h1, hown, r2⟩
      · exfalso
        have := putAt_io (d := .lst ds') r1
        rw [q] at this; cases this
  · rcases putAt_get q with ⟨hj, q⟩ | ⟨hj, q' | q'⟩
    · obtain ⟨b, k1, k2, k3⟩ := s.io j d q
      exact ⟨b, k1, other hj (by unfold ownAt; rw [q]) k1 k2, k3⟩
    · subst hj
      cases q'
      rcases h3 with ⟨r1, r2⟩ | ⟨r1, r2⟩
      · exfalso
        have := putAt_ow (d := .lst ds') r1
        rw [q] at this; cases this
      · exact ⟨a, h1, hown, r2⟩
    · cases q'
  · have own1 : ∃ e1, ownAt ρ j = .ok e1 := by
      rcases putAt_get q1 with ⟨_, q⟩ | ⟨hj, _⟩
      · exact ⟨_, by unfold ownAt; rw [q]⟩
      · subst hj; exact ⟨_, e⟩
    have own2 : ∃ e1, ownAt ρ k = .ok e1 := by
      rcases putAt_get q2 with ⟨_, q⟩ | ⟨hj, _⟩
      · exact ⟨_, by unfold ownAt; rw [q]⟩
      · subst hj; exact ⟨_, e⟩
    obtain ⟨e1, o1⟩ := own1
    obtain ⟨e2, o2⟩ := own2
    exact s.apart o1 o2 hjk q3 q4
/-- name.append(e) -/
theorem tS_app {i : Nat} {e : Ex} {D : Ends} (h : tS z (.app i e) D σ H) : tDrop (tBM z.C.K "list" rAppend (tVar i) (tCons (tE z e) tNil)) D σ H := by
  obtain ⟨g, hg, Hf, ρ, s, h⟩ := h
  simp only [evS] at h
  obtain ⟨d0, hd0, h⟩ := OutS.bind' h slotD_noexc
  obtain ⟨v0, hv0, vw⟩ := s.view hd0
  cases d0 with
  | lst ds0 =>
    obtain ⟨a, xs0, rfl, sq0, _⟩ := vw.lst s.sub
    refine ⟨_, hv0, .inl ⟨rfl, xs0, .inl sq0⟩, g, hg, Hf, ρ, s, (OutS.bindE h).imp fun r ρ1 H1 Hf1 s1 l1 k v hv => ?_⟩
    obtain ⟨Hf2, s2, l2, hr⟩ := s1.freeze hv
    obtain ⟨o, ho, k⟩ := OutS.bind' k ownAt_noexc
    cases o with
    | lst ds =>
      obtain ⟨a', xs, h1, h2, h3, h4⟩ := s2.writeL ho
      rw [hv0] at h1; injection h1 with h1; injection h1 with h1; injection h1 with h1; subst h1
      dsimp only at k
      split at k
      · rename_i hz
        refine ⟨a, xs, v, rfl, rfl, h2, by rw [szL_eq, h3.length]; exact hz, ?_⟩
        exact k σ _ Hf2 (h4 (xs ++ [v]) (ds ++ [r.d]) (h3.append (.cons hr .nil))) rfl l2
      · exact k.elim
    | _ => exact k.elim
  | _ => exact h.elim
/-- xs += ys -/
def ipExt : V → V → Hp → VK → Prop := fun x y H Q => ∃ l b xs zs, x = .ref l ∧ y = .ref b ∧ H l = some (.lst xs) ∧ Rd H b (.lst zs) ∧ xs.length + zs.length ≤ sizeLine ∧ Q (.ref l) (upd H l (.lst (xs ++ zs)))
/-- name += e, numbers or a list that the name holds -/
def ipAug : V → V → Hp → VK → Prop := fun x y H Q => ipI (fun i j => i + j) x y H Q ∨ ipExt x y H Q
theorem tS_aug {i : Nat} {e : Ex} {D : Ends} (h : tS z (.aug i e) D σ H) : tAug i (tE z e) ipAug D σ H := by
  obtain ⟨g, hg, Hf, ρ, s, h⟩ := h
  simp only [evS] at h
  obtain ⟨d0, hd0, h⟩ := OutS.bind' h slotD_noexc
  obtain ⟨v0, hv0, vw⟩ := s.view hd0
  refine ⟨v0, hv0, g, hg, Hf, ρ, s, (OutS.bindE h).imp fun r ρ1 H1 Hf1 s1 l1 k v hv => ?_⟩
  obtain ⟨Hf2, s2, l2, hr⟩ := s1.freeze hv
  dsimp only at k
  have lists : ∀ {xs ys : List Ev.D}, r.d = .lst ys → ownAt ρ1 i = .ok (.lst xs) → OutS z g σ Hf1 (if xs.length + ys.length ≤ szL then Res.ok (Fl.nx, putAt ρ1 i (.lst (xs ++ ys))) else Res.bad 53) (KS z g D) → ipAug v0 v H1 fun z' H4 => D.nx (σ.set i (some z')) H4 := fun {xs ys} e2 ho k => by
    rw [e2] at hr
    obtain ⟨a', us, h1, h2, h3, h4⟩ := s2.writeL ho
    rw [hv0] at h1; injection h1 with h1; injection h1 with h1; subst h1
    split at k
    · rename_i hz
      cases hr with
      | lst sq rr =>
        refine .inr ⟨a', _, us, _, rfl, rfl, h2, Rd.le s2.sub sq, by rw [szL_eq, h3.length, rr.length]; exact hz, ?_⟩
        have hσ : σ.set i (some (V.ref a')) = σ := by
          refine List.ext_getElem? fun j => ?_
          by_cases hj : i = j
          · subst hj
            rw [List.getElem?_set_self (List.getElem?_eq_some_iff.mp hv0).1, hv0]
          · rw [List.getElem?_set_ne hj]
        show D.nx (σ.set i (some (V.ref a'))) _
        rw [hσ]
        exact k σ _ Hf2 (h4 _ _ (h3.append rr)) rfl l2
    · exact k.elim
  split at k
  · rename_i a b e1 e2
    rw [e2] at hr
    cases hr
    obtain ⟨w, h1, h2⟩ := s2.fz i _ e1
    rw [hv0] at h1; injection h1 with h1; injection h1 with h1; subst h1
    cases h2
    have hi : i < ρ1.length := (List.getElem?_eq_some_iff.mp e1).1
    have s3 := s2.setFz (v := .int (a + b)) (d := .int (a + b)) hi (.int _) (fun e z => by rw [e1] at z; cases z)
    exact .inl ⟨a, b, rfl, rfl, k _ H1 Hf2 s3 (by simp) l2⟩
  · rename_i xs ys e1 e2
    exact lists e2 (by unfold ownAt; rw [e1]) k
  · rename_i xs ys e1 e2
    exact lists e2 (by unfold ownAt; rw [e1]) k
  · exact k.elim
theorem iop_extR {X : Cx} : OpR X (inplaceOp .Add) ipExt := by
  intro pins s σ H x y v u Q I rx ry h
  obtain ⟨l, b, xs, zs, rfl, rfl, hH, hB, hz, q⟩ := h
  cases rx
  cases ry
  obtain ⟨z, its, n, r, hl, e⟩ := I.lstM hH
  obtain ⟨its2, n2, r2, hl2, z2, e2⟩ := lstX I hB
  have hsz : its.toArray.size + its2.toArray.size ≤ sizeLine := by rw [List.size_toArray, List.size_toArray]; omega
  have hlong : ¬ (!its.toArray.isEmpty && Builtin.List.listTooLong (its.toArray.size + its2.toArray.size)) = true := by
    rw [notLongL hsz, Bool.and_false]
    exact Bool.false_ne_true
  refine iadd_road ⟨_, e, rfl⟩ ⟨_, e2, rfl⟩ (call_meets PySem.F.slot_list_iadd ⟨_, e, rfl⟩ PySem.F.entry_list_iadd (PySem.F.args_list_iadd_2 _ _)
    (AutoSeq1.list___iadd___list_list_0 l its.toArray n b its2.toArray n2 hlong (by rw [List.size_toArray]; omega) (by omega)) ⟨e, e2, ?_⟩)
  refine ⟨.ref l, _, I.lset (its' := its ++ its2) (t' := s.toks) hH e (by simp) (r.append r2) ?_, rfl, q⟩
  rw [List.length_append]
  omega
theorem ip_aug {X : Cx} : PIp X .Add ipAug := fun pins s σ H x y v u Q I rx ry h => h.elim (ip_add pins s σ H x y v u Q I rx ry) (iop_extR pins s σ H x y v u Q I rx ry)
end
end Ev


set_option maxHeartbeats 4000000
namespace Ev
open PySem L2 PyProof.Rows
section
variable {X : Cx} {C : Cst}
theorem OpV.opr {f : Value → Value → Sem Value} {o : Op} (h : OpV X C f o) : OpR X f (fun x y H Q => rO C o [x, y] H Q) := by
  intro pins s σ H x y v u Q I rx ry ⟨Hf, ds, rv, sub, hv, ho, k⟩
  cases hv with
  | cons h1 r =>
    cases r with
    | cons h2 r =>
      cases r
      exact thn (h pins s σ H Hf x y v u _ _ rv I sub rx ry h1 h2 ho) fun u s' ⟨z, H', I', r', Hf', po⟩ => ⟨z, H', I', r', k z H' Hf' po⟩
theorem Vws.one {H Hf : Hp} {vs : List V} {d : D} (h : Vws C H Hf vs [d]) : ∃ v, vs = [v] ∧ Vw C H Hf v d := by
  cases h with
  | cons a r => cases r; exact ⟨_, rfl, a⟩
theorem Vws.two {H Hf : Hp} {vs : List V} {d e : D} (h : Vws C H Hf vs [d, e]) : ∃ v w, vs = [v, w] ∧ Vw C H Hf v d ∧ Vw C H Hf w e := by
  cases h with
  | cons a r => obtain ⟨w, rfl, b⟩ := r.one; exact ⟨_, _, rfl, a, b⟩
theorem Vws.three {H Hf : Hp} {vs : List V} {d e f : D} (h : Vws C H Hf vs [d, e, f]) : ∃ v w u, vs = [v, w, u] ∧ Vw C H Hf v d ∧ Vw C H Hf w e ∧ Vw C H Hf u f := by
  cases h with
  | cons a r => obtain ⟨w, u, rfl, b, c⟩ := r.two; exact ⟨_, _, _, rfl, a, b, c⟩
theorem ixL_atI {α : Type} {xs : List α} {i : Int} {v : α} (h : ixL xs i = some v) : atI xs i = some v := by
  unfold ixL at h
  unfold atI ixN
  split at h
  · rename_i h0
    have : i.toNat < xs.length := (List.getElem?_eq_some_iff.mp h).1
    rw [if_pos h0, if_pos (by omega)]
    exact h
  · rename_i h0
    split at h
    · rename_i h1
      rw [if_neg h0, if_pos h1]; exact h
    · cases h
theorem ixL_reps {H Hf : Hp} {vs : List V} {ds : List D} {i : Int} {d : D} (r : Reps C Hf vs ds) (h : ixL ds i = some d) : ∃ v, atI vs i = some v ∧ Rep C Hf v d := by
  have hl := r.length
  have h' := h
  unfold ixL at h'
  split at h'
  · rename_i h0
    obtain ⟨v, h1, h2⟩ := r.get h'
    exact ⟨v, ixL_atI (by unfold ixL; rw [if_pos h0]; exact h1), h2⟩
  · rename_i h0
    split at h'
    · rename_i h1
      obtain ⟨v, q1, q2⟩ := r.get h'
      refine ⟨v, ixL_atI ?_, q2⟩
      unfold ixL
      rw [if_neg h0, if_pos (by rw [hl]; exact h1), hl]
      exact q1
    · cases h'
/-- -i -/
theorem r_neg : UnR X (unaryOp .USub) (fun x H Q => rO C .neg [x] H Q) := by
  intro pins s σ H x v Q I rx ⟨Hf, ds, rv, sub, hv, ho, k⟩
  simp only [opF] at ho
  unfold fNeg at ho
  split at ho
  · rename_i i
    obtain ⟨_, e, h1⟩ := hv.one
    cases e
    obtain rfl := h1.int
    cases ho
    exact un_neg pins s σ H _ v Q I rx ⟨i, rfl, k _ H Hf (PO.same sub (.int _))⟩
  · cases ho
/-- len -/
theorem r_len (hK : X.K = C.K) : CallR X (.builtin "len") (fun vs H Q => rO C .len vs H Q) := by
  intro pins s σ H xs us Q I r ⟨Hf, ds, rv, sub, hv, ho, k⟩
  refine call_len pins s σ H xs us Q I r ?_
  simp only [opF] at ho
  unfold fLen at ho
  split at ho
  · rename_i ys
    obtain ⟨v, rfl, h1⟩ := hv.one
    obtain ⟨a, vs, rfl, sq, rr⟩ := h1.lst sub
    cases ho
    exact ⟨_, vs.length, rfl, .inl ⟨vs, .inl sq, rfl⟩, by rw [rr.length]; exact k _ H Hf (PO.same sub (.int _))⟩
  · rename_i ys
    obtain ⟨v, rfl, h1⟩ := hv.one
    obtain ⟨a, vs, rfl, sq, rr⟩ := h1.tup sub
    cases ho
    exact ⟨_, vs.length, rfl, .inr ⟨vs, by rw [hK]; exact sq, rfl⟩, by rw [rr.length]; exact k _ H Hf (PO.same sub (.int _))⟩
  · rename_i l
    obtain ⟨v, rfl, h1⟩ := hv.one
    obtain ⟨rfl, hz⟩ := h1.str
    cases ho
    exact ⟨_, l.length, rfl, ⟨by rw [Sx_len, szL_eq]; exact hz, by rw [Sx_len]⟩, k _ H Hf (PO.same sub (.int _))⟩
  · cases ho
  · cases ho
theorem r_abs : CallR X (.builtin "abs") (fun vs H Q => rO C .abs vs H Q) := by
  intro pins s σ H xs us Q I r ⟨Hf, ds, rv, sub, hv, ho, k⟩
  refine call_abs pins s σ H xs us Q I r ?_
  simp only [opF] at ho
  unfold fAbs at ho
  split at ho
  · rename_i i
    obtain ⟨v, rfl, h1⟩ := hv.one
    obtain rfl := h1.int
    cases ho
    exact ⟨i, rfl, k _ H Hf (PO.same sub (.int _))⟩
  · cases ho
theorem r_int : CallR X (.type "int") (fun vs H Q => rO C .int vs H Q) := by
  intro pins s σ H xs us Q I r ⟨Hf, ds, rv, sub, hv, ho, k⟩
  refine call_int1 pins s σ H xs us Q I r ?_
  simp only [opF] at ho
  unfold fInt at ho
  split at ho
  · rename_i i
    obtain ⟨v, rfl, h1⟩ := hv.one
    obtain rfl := h1.int
    cases ho
    exact .inl ⟨i, rfl, k _ H Hf (PO.same sub (.int _))⟩
  · cases ho
theorem r_max2 (hc : X.calm = true) : CallR X (.builtin "max") (fun vs H Q => rO C .max2 vs H Q) := by
  intro pins s σ H xs us Q I r ⟨Hf, ds, rv, sub, hv, ho, k⟩
  refine call_max2 hc pins s σ H xs us Q I r ?_
  simp only [opF] at ho
  unfold fMax2 at ho
  split at ho
  · rename_i i j
    obtain ⟨v, w, rfl, h1, h2⟩ := hv.two
    obtain rfl := h1.int
    obtain rfl := h2.int
    cases ho
    exact ⟨i, j, rfl, k _ H Hf (PO.same sub (.int _))⟩
  · cases ho
theorem r_min2 (hc : X.calm = true) : CallR X (.builtin "min") (fun vs H Q => rO C .min2 vs H Q) := by
  intro pins s σ H xs us Q I r ⟨Hf, ds, rv, sub, hv, ho, k⟩
  refine call_min2 hc pins s σ H xs us Q I r ?_
  simp only [opF] at ho
  unfold fMin2 at ho
  split at ho
  · rename_i i j
    obtain ⟨v, w, rfl, h1, h2⟩ := hv.two
    obtain rfl := h1.int
    obtain rfl := h2.int
    cases ho
    exact ⟨i, j, rfl, k _ H Hf (PO.same sub (.int _))⟩
  · cases ho
/-- list(x) -/
theorem r_lst (hK : X.K = C.K) : CallR X (.type "list") (fun vs H Q => rO C .lst vs H Q) := by
  intro pins s σ H xs us Q I r ⟨Hf, ds, rv, sub, hv, ho, k⟩
  refine call_list_of pins s σ H xs us Q I r ?_
  simp only [opF] at ho
  unfold fLst at ho
  split at ho
  · rename_i ys
    obtain ⟨v, rfl, h1⟩ := hv.one
    obtain ⟨a, vs, rfl, sq, rr⟩ := h1.lst sub
    cases ho
    exact ⟨a, vs, rfl, .inl (.inl sq), fun l hl => k _ _ _ (PO.newLst sub hl rr)⟩
  · rename_i ys
    obtain ⟨v, rfl, h1⟩ := hv.one
    obtain ⟨a, vs, rfl, sq, rr⟩ := h1.tup sub
    cases ho
    exact ⟨a, vs, rfl, .inr (by rw [hK]; exact sq), fun l hl => k _ _ _ (PO.newLst sub hl rr)⟩
  · cases ho
/-- tuple(x) -/
theorem r_tup (hK : X.K = C.K) : CallR X (.type "tuple") (fun vs H Q => rO C .tup vs H Q) := by
  intro pins s σ H xs us Q I r ⟨Hf, ds, rv, sub, hv, ho, k⟩
  refine call_tuple_of pins s σ H xs us Q I r ?_
  simp only [opF] at ho
  unfold fTup at ho
  split at ho
  · rename_i ys
    obtain ⟨v, rfl, h1⟩ := hv.one
    obtain ⟨a, vs, rfl, sq, rr⟩ := h1.lst sub
    cases ho
    exact ⟨a, vs, rfl, .inl ⟨.inl sq, fun l hl => k _ _ _ (PO.newTup sub hl rr)⟩⟩
  · rename_i ys
    obtain ⟨v, rfl, h1⟩ := hv.one
    cases ho
    have h1' : Rep C Hf v (.tup ys) := by
      rcases h1 with h | ⟨_, _, h⟩
      · exact h
      · exact h.2.elim
    obtain ⟨a, vs, rfl, sq, rr⟩ := h1.tup sub
    exact ⟨a, vs, rfl, .inr ⟨by rw [hK]; exact sq, k _ H Hf (PO.same sub h1')⟩⟩
  · cases ho
theorem bools_reps {Hf : Hp} : ∀ {vs : List V} {ds : List D} {bs : List Bool}, Reps C Hf vs ds → boolsD ds = some bs → vs = bs.map V.bl
  | _, [], bs, .nil, h => by simp only [boolsD] at h; cases h; rfl
  | _, d :: ds, bs, .cons h1 r, h => by
    cases d <;> simp only [boolsD] at h <;> try (cases h; done)
    obtain ⟨b', h2, rfl⟩ := Option.map_eq_some_iff.mp h
    cases h1
    rw [bools_reps r h2]; rfl
theorem r_all (hc : X.calm = true) : CallR X (.builtin "all") (fun vs H Q => rO C .all vs H Q) := by
  intro pins s σ H xs us Q I r ⟨Hf, ds, rv, sub, hv, ho, k⟩
  refine cr_all hc pins s σ H xs us Q I r ?_
  simp only [opF] at ho
  unfold fAll at ho
  split at ho
  · rename_i ys
    obtain ⟨v, rfl, h1⟩ := hv.one
    obtain ⟨a, vs, rfl, sq, rr⟩ := h1.lst sub
    obtain ⟨bs, hb, e⟩ := Option.map_eq_some_iff.mp ho
    subst e
    have := bools_reps rr hb
    subst this
    exact ⟨a, bs, rfl, .inl sq, k _ H Hf (PO.same sub (.bl _))⟩
  · cases ho
theorem r_any (hc : X.calm = true) : CallR X (.builtin "any") (fun vs H Q => rO C .any vs H Q) := by
  intro pins s σ H xs us Q I r ⟨Hf, ds, rv, sub, hv, ho, k⟩
  refine cr_any hc pins s σ H xs us Q I r ?_
  simp only [opF] at ho
  unfold fAny at ho
  split at ho
  · rename_i ys
    obtain ⟨v, rfl, h1⟩ := hv.one
    obtain ⟨a, vs, rfl, sq, rr⟩ := h1.lst sub
    obtain ⟨bs, hb, e⟩ := Option.map_eq_some_iff.mp ho
    subst e
    have := bools_reps rr hb
    subst this
    exact ⟨a, bs, rfl, .inl sq, k _ H Hf (PO.same sub (.bl _))⟩
  · cases ho
def tyN : Ty → String
  | .tInt => "int" | .tBool => "bool" | .tStr => "str" | .tTup => "tuple" | .tLst => "list" | .tOwn _ => ""
/-- isinstance(x, T) -/
theorem r_isi (hK : X.K = C.K) {t : Ty} : CallR X (.builtin "isinstance") (fun vs H Q => ∃ x, vs = [x, .ty (tyN t)] ∧ rO C (.isi t) [x] H Q) := by
  intro pins s σ H xs us Q I r ⟨x, e, Hf, ds, rv, sub, hv, ho, k⟩
  subst e
  simp only [opF] at ho
  unfold fIsi at ho
  split at ho
  · rename_i d
    obtain ⟨_, e, h1⟩ := hv.one
    cases e
    split at ho
    · rename_i hp
      obtain ⟨b, hb, e⟩ := Option.map_eq_some_iff.mp ho
      subst e
      obtain ⟨u, w, rfl, ru, rw'⟩ := vals2 r
      cases (show w = Value.type (tyN t) from rw')
      obtain ⟨as, rd⟩ := h1.reads hK I sub hp ru
      have fin : ∀ tk, EP X pins σ Q (.bool b) { s with toks := tk } := fun tk => ⟨.bl b, H, I.tok tk, rfl, k _ H Hf (PO.same sub (.bl b))⟩
      cases t with
      | tInt => exact PySem.W.isinstance_int_data rd fun tk _ => (by
          have : (toP d).isInt = b := by cases d <;> simp_all [tyIs, toP, PyData.isInt, plain]
          rw [this]; exact fin tk)
      | tBool => exact PySem.W.isinstance_bool_data rd fun tk _ => (by
          have : (toP d).isBool = b := by cases d <;> simp_all [tyIs, toP, PyData.isBool, plain]
          rw [this]; exact fin tk)
      | tStr => exact PySem.W.isinstance_str_data rd fun tk _ => (by
          have : (toP d).isStr = b := by cases d <;> simp_all [tyIs, toP, PyData.isStr, plain]
          rw [this]; exact fin tk)
      | tTup => exact PySem.W.isinstance_tuple_data rd fun tk _ => (by
          have : (toP d).isTuple = b := by cases d <;> simp_all [tyIs, toP, PyData.isTuple, plain]
          rw [this]; exact fin tk)
      | tLst => exact PySem.W.isinstance_list_data rd fun tk _ => (by
          have : (toP d).isList = b := by cases d <;> simp_all [tyIs, toP, PyData.isList, plain]
          rw [this]; exact fin tk)
      | tOwn c => simp only [tyIs] at hb; cases hb
    · cases ho
  · cases ho
theorem contains_sign {l : List Nat} {c : Nat} : decide (c ∈ (Sx l).cps.toList) = l.contains c := by
  rw [Sx_cps]
  by_cases h : c ∈ l
  · simp [h]
  · simp [h]
theorem ints_reps {Hf : Hp} : ∀ {vs : List V} {ds : List D} {ns : List Int}, Reps C Hf vs ds → intsD ds = some ns → vs = ns.map V.int
  | _, [], ns, .nil, h => by simp only [intsD] at h; cases h; rfl
  | _, d :: ds, ns, .cons h1 r, h => by
    cases d <;> simp only [intsD] at h <;> try (cases h; done)
    obtain ⟨b', h2, rfl⟩ := Option.map_eq_some_iff.mp h
    cases h1
    rw [ints_reps r h2]; rfl
theorem r_sum (hc : X.calm = true) : CallR X (.builtin "sum") (fun vs H Q => rO C .sum vs H Q) := by
  intro pins s σ H xs us Q I r ⟨Hf, ds, rv, sub, hv, ho, k⟩
  refine cr_sum hc pins s σ H xs us Q I r ?_
  simp only [opF] at ho
  unfold fSum at ho
  split at ho
  · rename_i ys
    obtain ⟨v, rfl, h1⟩ := hv.one
    obtain ⟨a, vs, rfl, sq, rr⟩ := h1.lst sub
    obtain ⟨ns, hb, e⟩ := Option.map_eq_some_iff.mp ho
    subst e
    have := ints_reps rr hb
    subst this
    exact ⟨a, ns, rfl, .inl sq, k _ H Hf (PO.same sub (.int _))⟩
  · cases ho
  · cases ho
theorem r_str : CallR X (.type "str") (fun vs H Q => rO C .str vs H Q) := by
  intro pins s σ H xs us Q I r ⟨Hf, ds, rv, sub, hv, ho, k⟩
  simp only [opF] at ho
  unfold fStr at ho
  split at ho
  · rename_i i
    refine call_str_int pins s σ H xs us Q I r ?_
    obtain ⟨v, rfl, h1⟩ := hv.one
    obtain rfl := h1.int
    split at ho
    · rename_i hc
      simp only [Bool.and_eq_true, decide_eq_true_eq] at hc
      cases ho
      have e : Sx (strI i) = Str.ofString (toString i) := by unfold Sx strI; rfl
      refine ⟨i, rfl, hc.1, ?_⟩
      have := k _ H Hf (PO.same sub (.str (l := strI i) hc.2))
      rw [e] at this; exact this
    · cases ho
  · rename_i l
    obtain ⟨v, rfl, h1⟩ := hv.one
    obtain ⟨rfl, hz⟩ := h1.str
    cases ho
    cases r with
    | cons r1 r2 =>
      cases r2
      obtain ⟨t, rfl⟩ := r1
      exact PySem.P.str_of_str ⟨.str (Sx l), H, I, ⟨t, rfl⟩, k _ H Hf (PO.same sub (.str hz))⟩
  · cases ho
end
end Ev


set_option maxHeartbeats 4000000
namespace Ev
open PySem PySem.Spec PyProof.Rows
/-- how many of the list are new, f what is there already -/
def cntF (f : L2.Key → Bool) : List L2.Key → Nat
  | [] => 0
  | k :: r => (if f k then 0 else 1) + cntF (fun j => f j || decide (j = k)) r
theorem cntF_congr : ∀ {r : List L2.Key} {f g : L2.Key → Bool}, (∀ k, f k = g k) → cntF f r = cntF g r
  | [], _, _, _ => rfl
  | k :: r, f, g, h => by
    unfold cntF
    rw [h k, cntF_congr (r := r) (f := fun j => f j || decide (j = k)) (g := fun j => g j || decide (j = k)) fun j => by rw [h j]]
theorem cntF_le : ∀ (r : List L2.Key) (f : L2.Key → Bool), cntF f r ≤ r.length
  | [], _ => Nat.le_refl _
  | k :: r, f => by
    unfold cntF
    have := cntF_le r (fun j => f j || decide (j = k))
    split <;> simp <;> omega
section
variable {P : Program} {w : World} {A : Around} {E : Value → Shared → Prop} {s : Shared}
theorem key_scan {k : L2.Key} {v : Value} (h : L2.keyIs k v = true) : v.scannable = true := by
  rcases L2.keyIs_shape h with ⟨i, t, _, rfl⟩ | ⟨x, t, _, rfl⟩ <;> rfl
theorem setOf_at {h h' : Heap} {a : Addr} {S : L2.Key → Bool} {n : Nat} (x : h.SetOf (L2.mixKind P w) a S n) (k : ∀ o, h.get? a = some o → h'.get? a = some o) : h'.SetOf (L2.mixKind P w) a S n := by
  obtain ⟨o, es, ep, t, ho, r⟩ := x
  exact ⟨o, es, ep, t, k o ho, r⟩
theorem set_update_keys {I : Addr} {fp wr : List Addr} {G : Array GenState → Array GenState → Prop} {n : Nat} {Pv : Nat → Value → Prop} {St : Nat → Shared → Prop} {R : Result → Shared → Prop}
    (W : WalksS P w A.in1 I fp wr G n Pv St) (S : Addr) (hSf : S ∉ fp) (ks : List L2.Key) (hn : n = ks.length) (hb : ks.length + 1 < scanBound) (hval : ∀ i v, Pv i v → ∃ k, ks[i]? = some k ∧ L2.keyIs k v = true) :
    ∀ (k i : Nat) (s : Shared) (f : L2.Key → Bool) (c : Nat), n - i = k → i ≤ n → c ≤ i → St i s → s.heap.SetOf (L2.mixKind P w) S f c →
      (∀ s' g, Moved (S :: wr) G s s' → s'.heap.SetOf (L2.mixKind P w) S g (c + cntF f (ks.drop i)) → R (.ok (.ret .none)) s') →
      codeAny (model P w) A (.builtin "set.update.loop" ⟨[.ref S, .ref I], []⟩) R s := by
  have hSw : S ∉ wr := fun h => hSf (W.sub _ h)
  have hsub : ∀ b ∈ wr, b ∈ S :: wr := fun b hb => List.mem_cons_of_mem _ hb
  intro k
  induction k with
  | zero =>
    intro i s f c hk' hi hc hst hS hR
    have hin : i = n := by omega
    subst hin
    refine codeAny_builtin F.entry_set_update_loop ?_
    rw [Around.under_plainId F.plain_set_update_loop _]
    show wpAny _ A.in1 (pyNext (.ref I) >>= _) _ _ s
    refine wpAny_bind (W.done s _ _ hst fun s' hm => ?_)
    show wpAny _ A.in1 (ret Value.none) _ _ s'
    refine wpAny_pure (hR s' f (hm.mono hsub) ?_)
    rw [List.drop_eq_nil_of_le (by omega)]
    exact setOf_at hS fun o e => hm.heap S o hSw e
  | succ k ih =>
    intro i s f c hk' hi hc hst hS hR
    have hlt : i < n := by omega
    refine codeAny_builtin F.entry_set_update_loop ?_
    rw [Around.under_plainId F.plain_set_update_loop _]
    show wpAny _ A.in1 (pyNext (.ref I) >>= _) _ _ s
    refine wpAny_bind (W.item i s _ _ hlt hst fun v s' hP hst' hm => ?_)
    obtain ⟨z, hz, hv⟩ := hval i v hP
    have hS' := setOf_at hS fun o e => hm.heap S o hSw e
    have hdrop : ks.drop i = z :: ks.drop (i + 1) := by
      have hi2 : i < ks.length := by omega
      rw [List.drop_eq_getElem_cons hi2]
      rw [List.getElem?_eq_getElem hi2] at hz
      rw [Option.some.inj hz]
    show wpAny _ A.in1 (holding [v] (setAdd S v) >>= _) _ _ s'
    refine wpAny_bind (wpAny_holding ?_)
    unfold setAdd
    refine wpAny_holding ?_
    refine wpAny_bind ((L2.mixKind P w).pyHash (k := z) hv ?_)
    refine wpAny_setAddHashed_of (knd := L2.mixKind P w) (s := { s' with toks := s'.toks + 1 }) hv (key_scan hv) hS' (by omega) fun h' hsb hS2 => ?_
    refine wpAny_pure ⟨plainId_quiet F.plain_set_update_loop _, ih (i + 1) _ (fun j => f j || decide (j = z)) (if f z = true then c else c + 1) (by omega) hlt (by split <;> omega) (W.frame _ s' _ _ hst' (Nat.le_succ _) fun b hb o e => ?_) hS2 fun s'' g hm'' hS'' => ?_⟩
    · rw [hsb.2 b (fun h : b = S => hSf (by rw [← h]; exact hb))]; exact e
    · refine hR s'' g (Moved.trans W.gtrans ((hm.mono hsub).then_heap (Nat.le_succ _) fun b o hb e => ?_) hm'') ?_
      · rw [hsb.2 b (fun h : b = S => hb (by rw [h]; exact List.mem_cons_self))]; exact e
      · rw [hdrop]
        unfold cntF
        have : c + ((if f z = true then 0 else 1) + cntF (fun j => f j || decide (j = z)) (ks.drop (i + 1))) = (if f z = true then c else c + 1) + cntF (fun j => f j || decide (j = z)) (ks.drop (i + 1)) := by split <;> omega
        rw [this]; exact hS''
/-- a new set of nothing -/
theorem setOf_new {h : Heap} {a : Addr} {led : Bool} (ho : h.get? a = some { cls := .type "set", dict := none, data := .set #[] 0 (.fresh 0 0 led) }) : h.SetOf (L2.mixKind P w) a (fun _ => false) 0 :=
  ⟨_, #[], 0, _, ho, ⟨rfl, rfl, rfl⟩, rfl, (fun e he => by simp at he), (by simp), (by decide), (by rfl), rfl⟩
set_option maxHeartbeats 6400000 in
/-- set(x), x a tuple of numbers and texts -/
theorem set_of_tuple {l : Addr} {items : Array Value} (ks : List L2.Key) {Q : Value → Shared → Prop} (hh : A.handled = none) (hl : s.heap.IsTuple l items) (hisz : items.size = ks.length) (hit : ∀ (i : Nat) (v : Value), items[i]? = some v → ∃ k, ks[i]? = some k ∧ L2.keyIs k v = true) (hb : ks.length + 1 < scanBound)
    (h : ∀ (h' : Heap) (tk : Nat) (g : L2.Key → Bool), h'.SetOf (L2.mixKind P w) s.heap.objs.size g (cntF (fun _ => false) ks) → (∀ b o, s.heap.get? b = some o → h'.get? b = some o) → Q (.ref s.heap.objs.size) { s with heap := h', toks := tk }) :
    wpAny (model P w) A (call (.type "set") [.ref l]) Q E s := by
  obtain ⟨c, tl, hmro⟩ := PySem.F.called_set.mro
  have hmade := PySem.F.called_set.made
  have hsub := PySem.F.called_set.sub
  refine wpAny_call (codeAny_of_tree ?_)
  show wpAny _ _ (callAny (.type "set") _) _ _ _
  refine wpAny_pure ⟨Code.quiet_builtin _ (by decide +kernel), codeAny_builtin PySem.F.entry_type_call ?_⟩
  rw [Around.under_plain (weight_type_call_type "set" [.ref l] []) rfl]
  have h1 := PySem.F.called_set.notType
  have h2 := PySem.F.called_set.canCreate
  have hct := PySem.F.typeCall_set_1 (.ref l)
  repeat (any_goals (first | assumption | wp_step))
  refine codeAny_mono (PySem.code_set_new_1 (.ref l) (E := E) (Q₁ := fun obj s₁ => ∃ led : Bool, obj = .ref s.heap.objs.size ∧ s₁ = { s with heap := s.heap.push { cls := .type "set", dict := none, data := .set #[] 0 (.fresh 0 0 led) } }) fun led => ⟨led, rfl, rfl⟩) fun r s₁ hr => ?_
  cases r with
  | error e => exact hr
  | ok fl =>
    cases fl with
    | ret obj =>
      obtain ⟨led, rfl, rfl⟩ := hr
      have hS : (s.heap.push { cls := .type "set", dict := none, data := .set #[] 0 (.fresh 0 0 led) }).get? s.heap.objs.size = some { cls := .type "set", dict := none, data := .set #[] 0 (.fresh 0 0 led) } := Heap.get?_push_size _ rfl
      have hT : Shared.TypeIs { s with heap := s.heap.push { cls := .type "set", dict := none, data := .set #[] 0 (.fresh 0 0 led) } } (.ref s.heap.objs.size) "set" := ⟨_, hS, rfl⟩
      have hli := PySem.F.called_set.init.lookup
      have hbi := PySem.F.called_set.init.bind (.ref s.heap.objs.size)
      repeat (any_goals (first | assumption | wp_step))
      refine codeAny_mono (codeAny_call_builtin (R := wants (fun r s₂ => r = .none ∧ ∃ h' tk g, s₂ = { s with heap := h', toks := tk } ∧ h'.SetOf (L2.mixKind P w) s.heap.objs.size g (cntF (fun _ => false) ks) ∧ (∀ b o, s.heap.get? b = some o → h'.get? b = some o)) E) PySem.F.called_set.init.plain PySem.F.entry_set_init (PySem.check_set_init_1 hT ?_)) fun r₂ s₂ hr₂ => ?_
      · obtain ⟨ol, hol, hcl, nl, hdl⟩ := hl
        obtain ⟨ocls, odict, odata, oslots⟩ := ol
        simp only at hcl hdl
        subst hcl; subst hdl
        have hol' : (s.heap.push { cls := .type "set", dict := none, data := .set #[] 0 (.fresh 0 0 led) }).get? l = some { cls := .type "tuple", dict := odict, data := .seq items nl, slots := oslots } := Heap.get?_push_of_some _ hol
        have hsls := PySem.F.sub_tuple_set
        have hslf := PySem.F.sub_tuple_frozenset
        have hne : (Value.type "tuple" == Value.type "dict") = false := by decide
        have hl1 : (s.heap.push { cls := .type "set", dict := none, data := .set #[] 0 (.fresh 0 0 led) }).IsTuple l items := ⟨_, hol', rfl, nl, rfl⟩
        unfold Builtin.«set.__init__» noKeywords Builtin.Frozenset.updateFrom
        generalize hPI : pyIter = PI
        wp_walk
        subst hPI
        refine wpAny_pyIter_tuple hl1 ?_
        refine wpAny_bind (wpAny_runValue ?_)
        have hlS : l < s.heap.objs.size := Heap.lt_size hol
        have hh3 : A.in1.in1.in1.handled = none := by simp [hh]
        have hneI : l ≠ (s.heap.push { cls := .type "set", dict := none, data := .set #[] 0 (.fresh 0 0 led) }).objs.size := by
          rw [Heap.size_push]; exact Nat.ne_of_lt (Nat.lt_succ_of_lt hlS)
        have hSf : s.heap.objs.size ∉ [(s.heap.push { cls := .type "set", dict := none, data := .set #[] 0 (.fresh 0 0 led) }).objs.size, l] := by
          rw [Heap.size_push]; simp only [List.mem_cons, List.mem_singleton, List.not_mem_nil, or_false, not_or]
          exact ⟨Nat.ne_of_lt (Nat.lt_succ_self _), Nat.ne_of_gt hlS⟩
        have hget : ((s.heap.push { cls := .type "set", dict := none, data := .set #[] 0 (.fresh 0 0 led) }).push { cls := .type "tuple_iterator", data := .fields #[.ref l, .int 0 0] }).get? s.heap.objs.size
              = some { cls := .type "set", dict := none, data := .set #[] 0 (.fresh 0 0 led) } := Heap.get?_push_of_some _ hS
        refine set_update_keys ((Walks.tuple hh3 _ l hneI items).toS) s.heap.objs.size hSf ks hisz hb hit (items.size - 0) 0 _ (fun _ => false) 0 (by omega) (Nat.zero_le _) (Nat.le_refl _)
          ⟨⟨_, Heap.get?_push_size _ rfl, rfl, rfl⟩, (hl1.push _)⟩ (setOf_new hget) ?_
        intro s' g hm hS'
        obtain ⟨h', g2, d', tk', os'⟩ := s'
        have eg : g2 = s.gens := hm.gens
        have ed : d' = s.drawn := hm.drawn
        have eo : os' = s.os := hm.os
        subst eg; subst ed; subst eo
        show wpAny _ _ _ _ _ _
        refine wpAny_pure ?_
        show wpAny _ _ (ret Value.none) _ _ _
        rw [Nat.zero_add, List.drop_zero] at hS'
        refine wpAny_pure ⟨rfl, h', tk', g, rfl, hS', fun b o e => ?_⟩
        have hb0 : b < s.heap.objs.size := Heap.lt_size e
        have hb1 : b ≠ s.heap.objs.size := Nat.ne_of_lt hb0
        have hb2 : b ≠ (s.heap.push { cls := .type "set", dict := none, data := .set #[] 0 (.fresh 0 0 led) }).objs.size := by
          rw [Heap.size_push]; exact Nat.ne_of_lt (Nat.lt_succ_of_lt hb0)
        exact hm.heap b o (by simp only [List.mem_cons, List.mem_singleton, List.not_mem_nil, or_false, not_or]; exact ⟨hb1, hb2⟩) (Heap.get?_push_of_some _ (Heap.get?_push_of_some _ e))
      · cases r₂ with
        | error e => exact hr₂
        | ok fl₂ =>
          cases fl₂ with
          | ret r =>
            obtain ⟨rfl, h', tk, g, rfl, hS', hk'⟩ := hr₂
            repeat (any_goals (first | assumption | wp_step))
            exact h _ _ _ hS' hk'
          | _ => exact hr₂.elim
    | _ => exact hr.elim
end
end Ev


set_option maxHeartbeats 4000000
namespace Ev
open PySem PySem.Spec PyProof.Rows
def toK : D → L2.Key
  | .int i => .inl i
  | .str l => .inr (Sx l)
  | _ => .inl 0
theorem eqD_key {a b : D} (ha : keyS a = true) (hb : keyS b = true) : eqD a b = decide (toK a = toK b) := by
  cases a <;> simp only [keyS] at ha <;> try (cases ha; done)
  · cases b <;> simp only [keyS] at hb <;> try (cases hb; done)
    · rename_i i j
      simp only [eqD, toK]
      exact (L2.key_ll i j).symm
    · simp only [eqD, toK]
      exact (L2.key_lr _ _).symm
  · cases b <;> simp only [keyS] at hb <;> try (cases hb; done)
    · simp only [eqD, toK]
      exact (L2.key_rl _ _).symm
    · rename_i x y
      simp only [eqD, toK]
      exact ((L2.key_rr _ _).trans decide_str).symm
theorem dedup_cnt : ∀ (xs seen : List D) (f : L2.Key → Bool), xs.all keyS = true → (∀ x, keyS x = true → (seen.any fun y => eqD y x) = f (toK x)) → (dedup seen xs).length = cntF f (xs.map toK)
  | [], _, _, _, _ => rfl
  | x :: xs, seen, f, h, hf => by
    have h' : keyS x = true ∧ xs.all keyS = true := by simpa using h
    simp only [dedup, List.map_cons, cntF]
    rw [← hf x h'.1]
    cases q : seen.any fun y => eqD y x with
    | true =>
      rw [if_pos rfl, if_pos rfl, Nat.zero_add]
      refine (dedup_cnt xs seen _ h'.2 fun z hz => ?_)
      rw [hf z hz]
      by_cases e : toK z = toK x
      · rw [← hf z hz]
        have : (seen.any fun y => eqD y z) = true := by
          rw [hf z hz, e, ← hf x h'.1]; exact q
        rw [this]; rfl
      · simp [e]
    | false =>
      rw [if_neg (by simp), if_neg (by simp), List.length_cons, Nat.add_comm]
      congr 1
      refine dedup_cnt xs (x :: seen) _ h'.2 fun z hz => ?_
      rw [List.any_cons, eqD_key h'.1 hz, hf z hz, Bool.or_comm]
      congr 1
      by_cases e : toK z = toK x
      · simp [e]
      · have : ¬ toK x = toK z := fun q => e q.symm
        simp [e, this]
theorem keyIs_of {C : Cst} {Hf : L2.Hp} {v : L2.V} {u : Value} {d : D} (h : Rep C Hf v d) (k : keyS d = true) (r : L2.RelV v u) : L2.keyIs (toK d) u = true := by
  cases h <;> simp only [keyS] at k <;> try (cases k; done)
  · obtain ⟨t, rfl⟩ := r
    exact L2.keyIs_int _ t
  · obtain ⟨t, rfl⟩ := r
    exact L2.keyIs_str _ t
section
variable {X : L2.Cx} {C : Cst}
open L2
theorem pe_lset {a : Expr} {ta : TE} {p p2 q pos : Pos} (hK : X.K = C.K) (hc : X.calm = true) (hg : Gl X "len") (hm : X.mg "len" = none) (hg2 : Gl X "set") (hm2 : X.mg "set" = none) (ha : PE X a ta)
    (na : starEach [a] X.env = (false, eval a X.env) :: starEach [] X.env) : PE X (.Call (.Name "len" p) [.Call (.Name "set" p2) [a] [] q] [] pos) (fun σ H Q => ta σ H fun v H1 => rO C .lset [v] H1 Q) := by
  refine ⟨fun pins s σ H Q I h => ?_⟩
  refine Call_ (ld_blt I hg hm boot_len ?_)
  refine PyProof.Rows.callWith_builtin1 (PyProof.Rows.args_cons ?_ rfl) rfl rfl
  refine Call_ (ld_blt I hg2 hm2 boot_set ?_)
  refine PyProof.Rows.callWith_type1 (PyProof.Rows.args_cons (thn (ha.run pins s σ H _ I h) fun v s1 ⟨x, H1, I1, r1, q1⟩ => PyProof.Rows.args_nil ?_) na) na rfl
  obtain ⟨Hf, ds, rv, sub, hv, ho, k⟩ := q1
  simp only [opF] at ho
  unfold fLset at ho
  split at ho
  · rename_i xs
    obtain ⟨_, e, h1⟩ := hv.one
    cases e
    split at ho
    · rename_i hh
      simp only [Bool.and_eq_true, decide_eq_true_eq] at hh
      cases ho
      obtain ⟨b, vs, rfl, sq, rr⟩ := h1.tup sub
      rw [← hK] at sq
      cases r1
      obtain ⟨its, rvs, pl, hz⟩ := I1.tuple sq
      have hl := rr.length
      have hl2 := rvs.length
      have hit : ∀ (i : Nat) (v : Value), its.toArray[i]? = some v → ∃ k, (xs.map toK)[i]? = some k ∧ keyIs k v = true := fun i v hi => by
        have hi' : its[i]? = some v := by simpa using hi
        have hlt : i < its.length := (List.getElem?_eq_some_iff.mp hi').1
        have hx : xs[i]? = some xs[i] := List.getElem?_eq_getElem (by omega)
        obtain ⟨w, h2, h3⟩ := rr.get hx
        obtain ⟨u, h4, h5⟩ := rvs.get h2
        rw [hi'] at h4; cases h4
        exact ⟨toK xs[i], by rw [List.getElem?_map, hx]; rfl, keyIs_of h3 (List.all_eq_true.mp hh.1 _ (List.getElem_mem _)) h5⟩
      refine set_of_tuple (xs.map toK) (I1.ok.hd hc) pl (by simp; omega) hit (by rw [List.length_map]; unfold scanBound; omega) fun h' tk g hS hk => PyProof.Rows.args_nil ?_
      obtain ⟨o, es, ep, t, ho, hex, hd, _, _, _, hf, hn⟩ := hS
      have I2 : Inv X pins σ H1 { s1 with heap := h', toks := tk } := I1.kept fun b o e => hk b o e
      have hcl := cntF_le (xs.map toK) (fun _ => false)
      rw [List.length_map] at hcl
      have hcnt := dedup_cnt xs [] (fun _ => false) hh.1 (fun _ _ => rfl)
      refine call_len_set ho hex hd hf (by rw [hn]; omega) ⟨.int (dedup [] xs).length, H1, I2.tok _, ⟨_, by rw [hn, hcnt]⟩, k _ H1 Hf (PO.same sub (.int _))⟩
    · cases ho
  · cases ho
end
end Ev


set_option maxHeartbeats 4000000
namespace Ev
open PySem PySem.Spec L2 PyProof.Rows
theorem dget_key {kvs : List (D × D)} {k d : D} (h : dget kvs k = some d) : ∃ p ∈ kvs, eqD p.1 k = true := by
  induction kvs with
  | nil => cases h
  | cons p r ih =>
    obtain ⟨a, b⟩ := p
    simp only [dget] at h
    split at h
    · rename_i q; exact ⟨_, List.mem_cons_self, q⟩
    · obtain ⟨p, hp, q⟩ := ih h
      exact ⟨p, List.mem_cons_of_mem _ hp, q⟩
theorem keyS_notTup {d : D} (h : keyOk d = true) (t : isTup d = false) : keyS d = true := by
  cases d <;> first | rfl | (simp [keyOk] at h; done) | (simp [isTup] at t)
theorem eqD_keyS {a k : D} (ha : keyOk a = true) (hk : keyS k = true) (e : eqD a k = true) : keyS a = true := by
  cases a <;> first | rfl | (simp [keyOk] at ha; done) | (cases k <;> first | (simp [keyS] at hk; done) | (simp [eqD] at e; done))
theorem DKeys.allS {kvs : List (D × D)} {k d : D} (dk : DKeys kvs) (hk : keyS k = true) (h : dget kvs k = some d) : ∀ p ∈ kvs, keyS p.1 = true := by
  obtain ⟨p, hp, q⟩ := dget_key h
  have h1 := eqD_keyS (dk.ok p hp).1 hk q
  intro q2 hq2
  refine keyS_notTup (dk.ok q2 hq2).1 ?_
  rw [← dk.same p hp q2 hq2]
  cases hh : p.1 <;> rw [hh] at h1 <;> first | rfl | (simp [keyS] at h1)
theorem toNK_hash {w : World} {d : D} (h : keyS d = true) : NestedKey.hash w (toNK d) = keyH w (toK d) := by
  cases d <;> first | rfl | (simp [keyS] at h)
theorem toNK_inj {a b : D} (ha : keyS a = true) (hb : keyS b = true) (e : toK a = toK b) : toNK a = toNK b := by
  cases a <;> first | (simp [keyS] at ha; done) | skip
  all_goals cases b <;> first | (simp [keyS] at hb; done) | skip
  all_goals simp only [toK] at e
  all_goals first | (cases e; done) | (have e' := Sum.inl.inj e; simp only [toNK]; rw [e']) | (have e' := Sum.inr.inj e; simp only [toNK]; rw [e'])
theorem ents_pairs {P : Program} {C : Cst} {Hf : Hp} : ∀ {es : List DictEntry} {kvs : List (D × D)}, Ents C Hf es kvs → (∀ p ∈ kvs, keyS p.1 = true) → ∃ vs : List (Key × Value), Pairs (mixKind P C.w) es vs ∧ (∀ e ∈ es, ∃ k, (mixKind P C.w).is k e.key = true ∧ e.hash = (mixKind P C.w).hash k) ∧ vs.map (·.1) = kvs.map (fun p => toK p.1) ∧
    ∀ k d, keyS k = true → dget kvs k = some d → ∃ y u, valueAt vs (toK k) = some u ∧ RelV y u ∧ Rep C Hf y d
  | _, _, .nil, _ => ⟨[], .nil, fun _ h => by simp at h, rfl, fun k d _ h => by cases h⟩
  | _, _, .cons (e := e) (k := k0) (d := d0) (es := es) (kvs := kvs) hh rx hx ry hy r, hk => by
    obtain ⟨vs, h1, h2, h3, h4⟩ := ents_pairs (P := P) r fun p hp => hk p (List.mem_cons_of_mem _ hp)
    have hk0 := hk _ List.mem_cons_self
    have his := keyIs_of hx hk0 rx
    refine ⟨(toK k0, e.val) :: vs, .cons his rfl h1, fun e' he' => ?_, by simp [h3], fun k d hkk hd => ?_⟩
    · rcases List.mem_cons.mp he' with q | q
      · subst q; exact ⟨toK k0, his, by rw [hh]; exact toNK_hash hk0⟩
      · exact h2 e' q
    · simp only [dget] at hd
      rw [eqD_key hk0 hkk] at hd
      by_cases q : toK k0 = toK k
      · rw [decide_eq_true q, if_pos rfl] at hd
        cases hd
        exact ⟨_, e.val, by simp [valueAt, List.find?_cons, q], ry, hy⟩
      · rw [decide_eq_false q, if_neg (by simp)] at hd
        obtain ⟨y, u, q1, q2, q3⟩ := h4 k d hkk hd
        refine ⟨y, u, ?_, q2, q3⟩
        rw [← q1]
        simp [valueAt, List.find?_cons, q]
theorem map_nodup {kvs : List (D × D)} (dk : DKeys kvs) (hs : ∀ p ∈ kvs, keyS p.1 = true) : (kvs.map (fun p => toK p.1)).Nodup := by
  have h := dk.nd
  have gen : ∀ kvs : List (D × D), (∀ p ∈ kvs, keyS p.1 = true) → (kvs.map fun p => toNK p.1).Nodup → (kvs.map fun p => toK p.1).Nodup := by
    intro kvs
    induction kvs with
    | nil => intros; exact List.nodup_nil
    | cons p r ih =>
      intro hs h
      rw [List.map_cons, List.nodup_cons] at h ⊢
      refine ⟨fun hm => h.1 ?_, ih (fun q hq => hs q (List.mem_cons_of_mem _ hq)) h.2⟩
      obtain ⟨q, hq, e⟩ := List.mem_map.mp hm
      exact List.mem_map.mpr ⟨q, hq, toNK_inj (hs q (List.mem_cons_of_mem _ hq)) (hs p List.mem_cons_self) e⟩
  exact gen kvs hs h
theorem dict_at {P : Program} {C : Cst} {Hf : Hp} {h : Heap} {a : Addr} {o : Obj} {es : List DictEntry} {ep : Nat} {kvs : List (D × D)} {k d : D} (en : Ents C Hf es kvs) (dk : DKeys kvs) (ho : h.get? a = some o) (hc : o.ExactDict) (hd : o.data = .dict es.toArray ep) (hk : keyS k = true) (hg : dget kvs k = some d) :
    ∃ vs, h.DictOf (mixKind P C.w) a vs ∧ ∃ y u, valueAt vs (toK k) = some u ∧ RelV y u ∧ Rep C Hf y d := by
  have hs := dk.allS hk hg
  obtain ⟨vs, h1, h2, h3, h4⟩ := ents_pairs (P := P) en hs
  exact ⟨vs, ⟨o, es.toArray, ep, ho, hc, hd, fun e he => h2 e (by simpa using he), by simpa using h1, by rw [h3]; exact map_nodup dk hs⟩, h4 k d hk hg⟩
theorem rawO_at {X : Cx} {pins : List (Addr × Obj)} {σ : L2.St} {H : Hp} {s : Shared} {a : Addr} {o : Obj} (I : Inv X pins σ H s) (h : H a = some (rawO a o)) : s.heap.get? a = some o := (I.hok a _ h).1
theorem keyIs_of2 {C : Cst} {H Hf : Hp} {v : V} {u : Value} {d : D} (h : Vw C H Hf v d) (k : keyS d = true) (r : RelV v u) : keyIs (toK d) u = true := by
  rcases h with h | ⟨a, rfl, h⟩
  · exact keyIs_of h k r
  · cases d <;> first | (simp [keyS] at k; done) | exact h.2.elim
section
variable {X : Cx} {C : Cst}
theorem rngD_map : ∀ (n : Nat) (lo : Int), rngD lo n = (List.range n).map fun i => .int (lo + (i : Nat))
  | 0, _ => rfl
  | n + 1, lo => by
    rw [List.range_succ_eq_map, List.map_cons, List.map_map]
    simp only [rngD, rngD_map n (lo + 1)]
    congr 1
    · simp
    · refine List.map_congr_left fun i _ => ?_
      simp only [Function.comp]
      congr 1; push_cast; omega
theorem reps_rg {Hf : Hp} {n : Int} : Reps C Hf (rgV 0 n) (rngD 0 n.toNat) := by
  rw [rngD_map]
  unfold rgV
  rw [Int.sub_zero]
  generalize List.range n.toNat = l
  induction l with
  | nil => exact .nil
  | cons i r ih => exact .cons (.int _) ih
theorem pe_lrg {a : Expr} {ta : TE} {p p2 q pos : Pos} (hc : X.calm = true) (hg : Gl X "list") (hm : X.mg "list" = none) (hg2 : Gl X "range") (hm2 : X.mg "range" = none) (ha : PE X a ta) (hmo : ∀ σ H (Q Q' : VK), (∀ v H, Q v H → Q' v H) → ta σ H Q → ta σ H Q')
    (na : starEach [a] X.env = (false, eval a X.env) :: starEach [] X.env) : PE X (.Call (.Name "list" p) [.Call (.Name "range" p2) [a] [] q] [] pos) (fun σ H Q => ta σ H fun v H1 => rO C .lrg [v] H1 Q) := by
  have := pe_listRg (p := p) (pos := pos) hc hg hm (prg_1 (p := p2) (pos := q) hg2 hm2 ha na)
  refine ⟨fun pins s σ H Q I h => this.run pins s σ H Q I (hmo σ H _ _ (fun x H1 q => ?_) h)⟩
  obtain ⟨Hf, ds, rv, sub, hv, ho, k⟩ := q
  simp only [opF] at ho
  unfold fLrg at ho
  split at ho
  · obtain ⟨_, e, h1⟩ := hv.one
    cases e
    obtain rfl := h1.int
    split at ho
    · rename_i hn
      simp only [Bool.and_eq_true, decide_eq_true_eq] at hn
      cases ho
      exact ⟨_, rfl, ⟨by omega, by omega, by omega, by omega, by omega⟩, fun q hq => k _ _ Hf (PO.newLst sub hq reps_rg)⟩
    · cases ho
  · cases ho
theorem pe_trg {a : Expr} {ta : TE} {p p2 q pos : Pos} (hc : X.calm = true) (hg : Gl X "tuple") (hm : X.mg "tuple" = none) (hg2 : Gl X "range") (hm2 : X.mg "range" = none) (ha : PE X a ta) (hmo : ∀ σ H (Q Q' : VK), (∀ v H, Q v H → Q' v H) → ta σ H Q → ta σ H Q')
    (na : starEach [a] X.env = (false, eval a X.env) :: starEach [] X.env) : PE X (.Call (.Name "tuple" p) [.Call (.Name "range" p2) [a] [] q] [] pos) (fun σ H Q => ta σ H fun v H1 => rO C .trg [v] H1 Q) := by
  have := pe_tupRg (p := p) (pos := pos) hc hg hm (prg_1 (p := p2) (pos := q) hg2 hm2 ha na)
  refine ⟨fun pins s σ H Q I h => this.run pins s σ H Q I (hmo σ H _ _ (fun x H1 q => ?_) h)⟩
  obtain ⟨Hf, ds, rv, sub, hv, ho, k⟩ := q
  simp only [opF] at ho
  unfold fTrg at ho
  split at ho
  · obtain ⟨_, e, h1⟩ := hv.one
    cases e
    obtain rfl := h1.int
    split at ho
    · rename_i hn
      simp only [Bool.and_eq_true, decide_eq_true_eq] at hn
      cases ho
      exact ⟨_, rfl, ⟨by omega, by omega, by omega, by omega, by omega⟩, fun q hq => k _ _ _ (PO.newTup sub hq reps_rg)⟩
    · cases ho
  · cases ho
end
end Ev


set_option maxHeartbeats 4000000
namespace Ev
open PySem PySem.Spec L2 PyProof.Rows
/-- the values of the dict whose object is o -/
def ItdR (d : Addr) (o : Obj) (xs : List V) : L2.It :=
  ⟨fun i H => H d = some (rawO d o) ∧ i < xs.length, fun i H x H' => H' = H ∧ xs[i]? = some x, fun i H => H d = some (rawO d o) ∧ xs.length ≤ i⟩
section
variable {P : Program} {w : World} {K : PySem.W.Frag} {tg : Expr} {d : Addr} {o : Obj} {es : List DictEntry} {ep : Nat} {xs : List V}
theorem turn_valsR (it : Addr) (hc : o.ExactDict) (hod : o.data = .dict es.toArray ep) (hv : Vals xs (es.map (·.val))) : Turn P w K tg (ItdR d o xs) [it] it (fun i h => h.IsValIter it d i xs.length ep) where
  mem := by simp
  obj := fun i h st b hb => by
    have e : b = it := by simpa using hb
    subst e
    obtain ⟨oi, e, c, dd⟩ := st
    exact ⟨oi, e, fun v z => by rw [dd] at z; cases z⟩
  keep := fun i h h' st k => st.at fun oi e => k it (by simp) oi e
  item := by
    intro X hP hw hK hcm i pins s σ H E I hf st hg
    subst hP hw hK
    obtain ⟨hd, hi⟩ := hg
    obtain ⟨f0, f1, f2, f3, f4, f5⟩ := hf it (by simp)
    have hl : xs.length = es.toArray.size := by rw [List.size_toArray]; have := hv.length; rwa [List.length_map] at this
    have hm : s.heap.DictRaw d es.toArray ep := ⟨o, rawO_at I hd, hc, hod⟩
    obtain ⟨u, hu, ru⟩ := hv.get (List.getElem?_eq_getElem hi)
    have hi' : i < es.toArray.size := hl ▸ hi
    have hue : u = es.toArray[i].val := by
      rw [List.getElem?_map] at hu
      rw [List.size_toArray] at hi'
      rw [List.getElem?_eq_getElem hi'] at hu
      simpa using hu.symm
    rw [hl] at st
    refine wpAny_pyNext_values_item_raw st hm hi' fun h' st' sb => ?_
    have I1 : Inv X pins σ H { s with heap := h' } := I.turned (t' := s.toks) (fun b ob hb e => (sb.2 b hb).trans e) f0 f1 f3 f4 f5
    obtain ⟨oi, e, c, dd⟩ := id st'
    refine ⟨_, rfl, go_of (s := { s with heap := h' }) e c dd (by decide) ⟨xs[i], H, I1, by rw [← hue]; exact ru, ⟨rfl, List.getElem?_eq_getElem hi⟩, ?_, fun b hb => (hf b hb).1⟩⟩
    show h'.IsValIter it d (i + 1) xs.length _
    rw [hl]
    exact st'
  done := by
    intro X hP hw hK hcm i pins s σ H E I hf st hg
    subst hP hw hK
    obtain ⟨hd, hi⟩ := hg
    obtain ⟨f0, f1, f2, f3, f4, f5⟩ := hf it (by simp)
    have hl : xs.length = es.toArray.size := by rw [List.size_toArray]; have := hv.length; rwa [List.length_map] at this
    have hm : s.heap.DictRaw d es.toArray ep := ⟨o, rawO_at I hd, hc, hod⟩
    rw [hl] at st
    exact wpAny_pyNext_values_end_raw (I.ok.hd hcm) st hm (by omega) fun h' eb => ⟨rfl, I.turned (t' := s.toks) (fun b ob hb e => eb b ob hb e) f0 f1 f3 f4 f5⟩
  self := fun A i s Q E st h => wpAny_pyIter_valiter st h
end
def iValsR (td : TE) : TI := fun σ H R => td σ H fun x H1 => ∃ (d : Addr) (o : Obj) (es : List DictEntry) (ep : Nat) (xs : List V), x = .ref d ∧ H1 d = some (rawO d o) ∧ o.ExactDict ∧ o.data = .dict es.toArray ep ∧ (d == sysModules) = false ∧ Vals xs (es.map (·.val)) ∧ R (ItdR d o xs) H1
section
variable {X : Cx} {tg e : Expr} {td : TE} {apos cpos : Pos}
theorem pi_valuesR (he : PE X e td) (hbase : attributeBase e "values" X.env (eval e X.env) = eval e X.env := by rfl) (hline : (apos.endLine == cpos.line) = true := by rfl) : PI X tg (.Call (.Attribute e "values" apos) [] [] cpos) (iValsR td) := by
  refine ⟨fun pins s σ H R I h => ?_⟩
  refine wpAny_Call_method (T := "dict") (id := "dict.values") hbase rfl hline F.plainAttrs_dict F.slot_dict_values F.type_dict_values (thn (he.run pins s σ H _ I h) fun u s1 ⟨x, H1, I1, rx, d, o, es, ep, xs, ex, hd, hc, hod, hs, hv, q⟩ => ?_)
  subst ex
  obtain rfl : u = Value.ref d := rx
  have ho := rawO_at I1 hd
  have hm : s1.heap.DictRaw d es.toArray ep := ⟨o, ho, hc, hod⟩
  have hl : xs.length = es.toArray.size := by rw [List.size_toArray]; have := hv.length; rwa [List.length_map] at this
  refine ⟨hm.typeIs, fun b q => ?_, ?_⟩
  · cases q
    exact ⟨o, ho, hc.2.1⟩
  have I2 : Inv X pins σ H1 { s1 with heap := s1.heap.push { cls := .type "dict_values", data := .fields #[.ref d] } } := I1.kept (t' := s1.toks) fun b ob q => Heap.get?_push_of_some _ q
  have fin : wpAny (model X.prog X.w) X.A (pyIter (.ref s1.heap.objs.size)) (PIE X pins σ tg R) X.xe { s1 with heap := s1.heap.push { cls := .type "dict_values", data := .fields #[.ref d] } } := by
    refine wpAny_pyIter_values_raw (d := d) ⟨_, Heap.get?_push_size _ rfl, rfl, rfl⟩ (hm.at fun o e => Heap.get?_push_of_some _ e) (pi_one (tk := s1.toks) I2 _ (turn_valsR _ hc hod hv) ⟨_, Heap.get?_push_size _ rfl, rfl, ?_⟩ q)
    rw [hl] <;> rfl
  show wpAny _ _ (callWith cpos (.builtin "dict.values") [.ref d] [] []) _ X.xe s1
  exact method_meetsIn F.slot_dict_values F.entry_dict_values rfl (PySem.evalArgs_none ⟨rfl, hm.typeIs, F.args_dict_values_1 _, _, meets_dict_values_raw d hs, ⟨_, _, hm⟩, fin⟩)
end
theorem ents_vals {C : Cst} {Hf : Hp} : ∀ {es : List DictEntry} {kvs : List (D × D)}, Ents C Hf es kvs → ∃ xs, Vals xs (es.map (·.val)) ∧ Reps C Hf xs (kvs.map (·.2))
  | _, _, .nil => ⟨[], .nil, .nil⟩
  | _, _, .cons _ _ _ ry hy r => by
    obtain ⟨xs, h1, h2⟩ := ents_vals r
    exact ⟨_, .cons ry h1, .cons hy h2⟩
theorem walk_vals {C : Cst} {Hf : Hp} {d : Addr} {o : Obj} {xs : List V} {ds : List D} (h : Hf d = some (rawO d o)) (r : Reps C Hf xs ds) : Walk C (ItdR d o xs) Hf ds where
  go := fun i H le hi => ⟨le _ _ h, by rw [r.length]; exact hi⟩
  yld := fun i H x H' Hf1 l1 l2 ⟨e, hx⟩ d hd => by
    subst e
    exact ⟨Hf1, PO.same l2 ((r.get1 hx hd).le l1)⟩
  stop := fun i H le hi => ⟨le _ _ h, by rw [r.length]; exact hi⟩
theorem tI_vl {z : Z} {σ : L2.St} {H : Hp} {e : Ex} {R : L2.It → Hp → Prop} (h : tI z (.vl e) σ H R) : iValsR (tE z e) σ H R := by
  obtain ⟨g, hg, Hf, ρ, s, h⟩ := h
  simp only [evIt] at h
  refine ⟨g, hg, Hf, ρ, s, (Out.bind h).imp fun r ρ1 H1 Hf1 s1 l1 k v hv => ?_⟩
  obtain ⟨Hf2, s2, l2, hr⟩ := s1.freeze hv
  dsimp only at k
  split at k
  · rename_i kvs hd
    rw [hd] at hr
    cases hr with
    | dic h1 h2 h3 h4 h5 h6 h7 =>
      obtain ⟨xs, q1, q2⟩ := ents_vals h7
      exact ⟨_, _, _, _, xs, rfl, s2.sub _ _ h1, h2, h3, h4, q1, k H1 Hf2 s2 l2 _ (walk_vals h1 q2)⟩
  · exact k.elim
end Ev


set_option maxHeartbeats 4000000
namespace Ev
open PySem PySem.Spec L2 PyProof.Rows
/-- a dict that is being made -/
inductive KR (C : Cst) (Hf : Hp) : List (Key × V) → List (D × D) → Prop
  | nil : KR C Hf [] []
  | cons {k d : D} {x : V} {ks : List (Key × V)} {kvs : List (D × D)} : keyS k = true → Rep C Hf (kV (toK k)) k → Rep C Hf x d → KR C Hf ks kvs → KR C Hf ((toK k, x) :: ks) ((k, d) :: kvs)
section
variable {C : Cst} {H Hf Hf' : Hp}
theorem KR.le (l : Le Hf Hf') : ∀ {ks : List (Key × V)} {kvs : List (D × D)}, KR C Hf ks kvs → KR C Hf' ks kvs
  | _, _, .nil => .nil
  | _, _, .cons a b c r => .cons a (b.le l) (c.le l) (KR.le l r)
theorem KR.length : ∀ {ks : List (Key × V)} {kvs : List (D × D)}, KR C Hf ks kvs → ks.length = kvs.length
  | _, _, .nil => rfl
  | _, _, .cons _ _ _ r => congrArg (· + 1) (KR.length r)
theorem KR.keys : ∀ {ks : List (Key × V)} {kvs : List (D × D)}, KR C Hf ks kvs → ks.map (·.1) = kvs.map fun p => toK p.1
  | _, _, .nil => rfl
  | _, _, .cons _ _ _ r => by simp [KR.keys r]
theorem KR.allS : ∀ {ks : List (Key × V)} {kvs : List (D × D)}, KR C Hf ks kvs → ∀ p ∈ kvs, keyS p.1 = true
  | _, _, .nil, _, h => by simp at h
  | _, _, .cons a _ _ r, p, h => by
    rcases List.mem_cons.mp h with q | q
    · subst q; exact a
    · exact KR.allS r p q
theorem putK_cons_eq {k : Key} {x v : V} {ks : List (Key × V)} (h : k ∉ ks.map (·.1)) : putK ((k, x) :: ks) k v = (k, v) :: ks := by
  unfold putK
  rw [if_pos (by simp)]
  rw [List.map_cons, if_pos rfl]
  congr 1
  refine (List.map_congr_left fun p hp => ?_).trans (List.map_id ks)
  rw [if_neg fun e => h (List.mem_map.mpr ⟨p, hp, e⟩)]; rfl
theorem putK_cons_ne {k k' : Key} {x v : V} {ks : List (Key × V)} (h : k' ≠ k) : putK ((k', x) :: ks) k v = (k', x) :: putK ks k v := by
  unfold putK
  have e : (((k', x) :: ks).any fun kv => decide (kv.1 = k)) = ks.any fun kv => decide (kv.1 = k) := by simp [h]
  rw [e]
  split
  · rw [List.map_cons, if_neg h]
  · rfl
theorem KR.put {k d : D} {x : V} (hk : keyS k = true) (hr : Rep C Hf (kV (toK k)) k) (hx : Rep C Hf x d) : ∀ {ks : List (Key × V)} {kvs : List (D × D)}, KR C Hf ks kvs → (ks.map (·.1)).Nodup → KR C Hf (putK ks (toK k) x) (dput kvs k d)
  | _, _, .nil, _ => .cons hk hr hx .nil
  | _, _, .cons (k := k0) (d := d0) (x := x0) (ks := ks) (kvs := kvs) a b c r, hn => by
    rw [List.map_cons, List.nodup_cons] at hn
    simp only [dput]
    rw [eqD_key a hk]
    by_cases q : toK k0 = toK k
    · rw [decide_eq_true q, if_pos rfl, ← q, putK_cons_eq hn.1]
      exact .cons a b hx r
    · rw [decide_eq_false q, if_neg (by simp), putK_cons_ne q]
      exact .cons a b c (KR.put hk hr hx r hn.2)
theorem putK_keys {k : Key} {v : V} {ks : List (Key × V)} (h : (ks.map (·.1)).Nodup) : ((putK ks k v).map (·.1)).Nodup := by
  unfold putK
  split
  · rw [List.map_map]
    have : (fun p : Key × V => p.1) ∘ (fun kv => if kv.1 = k then (kv.1, v) else kv) = fun p => p.1 := by
      funext p; simp only [Function.comp]; split <;> rfl
    rw [this]; exact h
  · rename_i q
    rw [List.map_append, List.nodup_append]
    refine ⟨h, by simp, fun a ha b hb => ?_⟩
    rw [List.map_cons, List.map_nil, List.mem_singleton] at hb
    subst hb
    rintro rfl
    obtain ⟨p, hp, e⟩ := List.mem_map.mp ha
    exact q (List.any_eq_true.mpr ⟨p, hp, by simp [e]⟩)
theorem toK_inj {a b : D} (ha : keyS a = true) (hb : keyS b = true) (e : toNK a = toNK b) : toK a = toK b := by
  cases a <;> first | (simp [keyS] at ha; done) | skip
  all_goals cases b <;> first | (simp [keyS] at hb; done) | skip
  all_goals simp only [toNK] at e
  all_goals first | (cases e; done) | (injection e with e; simp only [toK]; rw [e])
theorem KR.dkeys {ks : List (Key × V)} {kvs : List (D × D)} (h : KR C Hf ks kvs) (hn : (ks.map (·.1)).Nodup) : DKeys kvs := by
  have hs := h.allS
  refine ⟨fun p hp => ?_, fun p hp q hq => ?_, ?_⟩
  · have := hs p hp
    cases hh : p.1 <;> rw [hh] at this <;> first | (simp [keyS] at this; done) | exact ⟨rfl, by simp [dep]⟩
  · have h1 := hs p hp
    have h2 := hs q hq
    have key : ∀ d : D, keyS d = true → isTup d = false := fun d h => by cases d <;> first | rfl | (simp [keyS] at h)
    rw [key _ h1, key _ h2]
  · rw [h.keys] at hn
    have gen : ∀ kvs : List (D × D), (∀ p ∈ kvs, keyS p.1 = true) → (kvs.map fun p => toK p.1).Nodup → (kvs.map fun p => toNK p.1).Nodup := by
      intro kvs
      induction kvs with
      | nil => intros; exact List.nodup_nil
      | cons p r ih =>
        intro hs h
        rw [List.map_cons, List.nodup_cons] at h ⊢
        refine ⟨fun hm => h.1 ?_, ih (fun q hq => hs q (List.mem_cons_of_mem _ hq)) h.2⟩
        obtain ⟨q, hq, e⟩ := List.mem_map.mp hm
        exact List.mem_map.mpr ⟨q, hq, toK_inj (hs q (List.mem_cons_of_mem _ hq)) (hs p List.mem_cons_self) e⟩
    exact gen kvs hs hn
end
/-- its entries -/
inductive EntK (w : World) : List DictEntry → List (Key × V) → Prop
  | nil : EntK w [] []
  | cons {e : DictEntry} {k : Key} {x : V} {es : List DictEntry} {ks : List (Key × V)} : e.hash = keyH w k → RelV (kV k) e.key → RelV x e.val → EntK w es ks → EntK w (e :: es) ((k, x) :: ks)
theorem entK_of {P : Program} {w : World} : ∀ {es : List DictEntry} {vs : List (Key × Value)} {ks : List (Key × V)}, Pairs (mixKind P w) es vs → (∀ e ∈ es, ∃ k, (mixKind P w).is k e.key = true ∧ e.hash = (mixKind P w).hash k) → KV ks vs → EntK w es ks
  | [], _, _, .nil, _, r => by cases r; exact .nil
  | e :: es, _, _, .cons h1 h2 r, hk, kv => by
    cases kv with
    | @cons p q ps qs hh t =>
      obtain ⟨k', hk1, hk2⟩ := hk e List.mem_cons_self
      have e1 := (mixKind P w).inj _ _ _ hk1 h1
      subst e1
      obtain ⟨k, x⟩ := p
      obtain ⟨e2, rx⟩ := hh
      simp only at e2 rx
      subst e2
      exact .cons hk2 (keyIs_rel h1) (by rw [h2]; exact rx) (entK_of r (fun e he => hk e (List.mem_cons_of_mem _ he)) t)
theorem ents_of {C : Cst} {Hf : Hp} : ∀ {es : List DictEntry} {ks : List (Key × V)} {kvs : List (D × D)}, EntK C.w es ks → KR C Hf ks kvs → Ents C Hf es kvs
  | _, _, _, .nil, .nil => .nil
  | _, _, _, .cons a b c r, .cons d1 d2 d3 t => .cons (by rw [a, toNK_hash d1]) b d2 c d3 (ents_of r t)
def RawC (w : World) (v : V) (H : Hp) (Q : VK) : Prop := ∃ a ks, v = .ref a ∧ H a = some (.dK ks) ∧ ∀ (o : Obj) (es : List DictEntry) (ep : Nat), o.ExactDict → o.data = .dict es.toArray ep → (a == sysModules) = false → ks.length ≤ sizeLine → EntK w es ks → Q v (upd H a (rawO a o))
theorem raw_step {X : Cx} {pins : List (Addr × Obj)} {σ : L2.St} {H1 : Hp} {s1 : Shared} {v : V} {Q : VK} (I1 : Inv X pins σ H1 s1) (h : RawC X.w v H1 Q) : ∃ H2, Inv X pins σ H2 s1 ∧ Q v H2 ∧ ∀ c, H1 c = none → H2 c = none := by
  obtain ⟨a, ks, rfl, hd, k⟩ := h
  obtain ⟨z, hsys, vs, rel, o, es, ep, ho, hc, hdat, hk, hp, hn⟩ := dk_of I1.hok hd
  have new : ObjOk X.prog X.w (upd H1 a (rawO a o)) s1.heap a (rawO a o) := ⟨ho, ⟨o, ho⟩, fun h1 h2 z k => k _ z⟩
  have I2 : Inv X pins σ (upd H1 a (rawO a o)) s1 := I1.write (x := a) (e := a) (t' := s1.toks) (h' := s1.heap) (by rw [hd]; exact True.intro) (.inl rfl) (fun b v _ q => q) ⟨o, ho⟩ new
  refine ⟨_, I2, k o es.toList ep hc (by rw [hdat]) hsys z (entK_of hp (fun e he => hk e (by simpa using he)) rel), fun c hc => ?_⟩
  rw [upd_ne (fun e => by rw [e, hd] at hc; cases hc)]; exact hc
theorem pe_raw {X : Cx} {e : Expr} {t : TE} (h : PE X e t) : PE X e (fun σ H Q => t σ H fun v H1 => RawC X.w v H1 Q) := by
  refine ⟨fun pins s σ H Q I q => wpAny_mono (h.run pins s σ H _ I q) (fun u s1 hh => ?_) fun _ _ x => x⟩
  obtain ⟨v, H1, I1, r1, q1⟩ := hh
  obtain ⟨H2, I2, q2, _⟩ := raw_step I1 q1
  exact ⟨v, H2, I2, r1, q2⟩
/-- name = {k: v for ..}, stored from within -/
theorem ps_setDc {X : Cx} {i : Nat} {y : Str} {py : Pos} {kx vx tg iter : Expr} {ifs : List Expr} {scope : Scope} {own : List (Str × Nat)} {pos spos : Pos} {wi : TI} {g : TG} {tt : TT} {tk tv : TE} (hc : X.calm = true) (hN : X.N.Nodup) (hy : X.N[i]? = some y) (hyl : X.env.scope.names.lookup y = some .local)
    (hsw : swapsWith (.DictComp kx vx [⟨tg, iter, ifs, 0⟩] scope pos) (some (.Name y py)) spos.line X.env = pure true) (hi : PI X tg iter wi) (ok : BlkOk X.N X.env.scope scope own)
    (hg : ∀ (s : Shared) (H : Hp) (C : Addr) (cl : List (Str × Addr)) (fp : List Addr), PG (X.blk s H scope (compEnvC scope cl C X.env) fp) tg g) (ht : ∀ (s : Shared) (H : Hp) (C : Addr) (cl : List (Str × Addr)) (fp : List Addr), PTs (X.blk s H scope (compEnvC scope cl C X.env) fp) ifs tt)
    (hk : ∀ (s : Shared) (H : Hp) (C : Addr) (cl : List (Str × Addr)) (fp : List Addr), PE (X.blk s H scope (compEnvC scope cl C X.env) fp) kx tk)
    (he : ∀ (s : Shared) (H : Hp) (C : Addr) (cl : List (Str × Addr)) (fp : List Addr), PE (X.blk s H scope (compEnvC scope cl C X.env) fp) vx tv) (hs : ∀ x, foldedSetIterable iter X.env x = pure x) :
    PS X (.Assign [.Name y py] (.DictComp kx vx [⟨tg, iter, ifs, 0⟩] scope pos) spos) (tAsg (fun σ H Q => tDc wi g tt tk tv (own.map (·.2)) σ H fun v H1 => RawC X.w v H1 Q) (gName i)) := by
  refine ⟨fun pins s σ H D I h => ?_⟩
  rw [exec_Assign_Name_used _ _ _ _ hsw]
  refine wpAny_bind (wpAny_standAt (wpAny_bind ?_))
  show wpAny _ X.A (do let _ ← comprehension (.DictComp kx vx [⟨tg, iter, ifs, 0⟩] scope pos) scope X.env (firstIterPos [⟨tg, iter, ifs, 0⟩] pos) newDict false (eval iter X.env) (some (assign (.Name y py) X.env))) _ _ s
  have h : tDc wi g tt tk tv (own.map (·.2)) σ H (fun v H1 => RawC X.w v H1 fun x H2 => gName i x σ H2 D.nx) := h
  refine wpAny_bind (thn (dc_core (Qf := fun _ s' => SP X pins D .next s') hc hN I hi ok hg ht hk he hs h fun L C s' m H' I' q hn f => ?_) fun _ s' hq => wpAny_pure (wpAny_pure hq))
  show wpAny _ _ (assign (.Name y py) X.env (.ref L)) _ _ _
  obtain ⟨H2, I2, q2, hno⟩ := raw_step I' q
  obtain ⟨f0, f1, f2, f3, f4, f5⟩ := f
  refine wpAny_assign_Name (store_ok2 (v := V.ref L) I2 hN hy (.inl hyl) rfl (fun s2 I2 ⟨a, sb, ha⟩ => ?_) (.inr hyl))
  have haC : C ≠ a := by
    rcases ha with z | z
    · rw [z]; exact f1
    · exact fun e => f4 y a z e.symm
  refine ⟨m, hn.sameBut sb haC, fun h3 sb3 => ?_⟩
  exact ⟨_, H2, I2.turned (t' := s2.toks) (fun b o hb e => (sb3.2 b hb).trans e) (hno _ f0) f1 f3 f4 f5, q2⟩
theorem sw_trueD {kx vx : Expr} {gs : List Comprehension} {scope : Scope} {pos py : Pos} {y : Str} {l : Nat} {env : Env} (hk : env.scope.kind = .function) (hy : env.scope.names.lookup y = some .local) (hl : (py.line == pos.line) = true)
    (ha : (scope.names.any fun (n, k) => n == y && (k == .local || k == .cell)) = false) : swapsWith (.DictComp kx vx gs scope pos) (some (.Name y py)) l env = pure true := by
  have ky : env.kindOf y = some .local := hy
  have hb : env.blockKind = .function := by unfold Env.blockKind; rw [hk]; rfl
  unfold swapsWith
  simp only [hb, ky, ha, Expr.pos, hl]
  rfl
def DcTurn (z : Z) (ke ve : Ex) (tg : Tg) (f : Exs) (vs : List Nat) (st : Rho × List (D × D)) (x : D) : Res (Rho × List (D × D)) :=
  (setTg tg (.fz x) (hideL st.1 vs)).bind fun ρ2 => (evC z.tb z.F f ρ2).bind fun (b, ρ3) => if b then (ev z.tb z.F ke ρ3).bind fun (rk, ρ4) => (ev z.tb z.F ve ρ4).bind fun (rv, ρ5) => if keyS rk.d && decide (st.2.length < szL) then .ok (ρ5, dput st.2 rk.d rv.d) else .bad 32 else .ok (ρ3, st.2)
theorem dK_nocode {ks : List (Key × V)} {a : Addr} : ∀ q, HO.dK ks ≠ LamX.CodeO a q := fun _ h => by unfold LamX.CodeO at h; cases h
section
variable {z : Z} {g : G} {σ : L2.St} {H Hf : Hp} {ρ : Rho}
/-- the state within -/
structure DcSt (z : Z) (g : G) (σ : L2.St) (Hf1 : Hp) (vs : List Nat) (dst : Addr) (H : Hp) (ρ : Rho) (acc : List (D × D)) : Prop where
  ex : ∃ Hf ks, Le Hf1 Hf ∧ KR z.C Hf ks acc ∧ (ks.map (·.1)).Nodup ∧ SR z.C (g.guard dst (.dK ks)) σ H Hf (hideL ρ vs) ∧ H dst = some (.dK ks)
theorem rep_kV {C : Cst} {v : V} {d : D} (h : Rep C Hf v d) (k : keyS d = true) : v = kV (toK d) := by
  cases h <;> first | rfl | (simp [keyS] at k)
theorem dc_turn {ke ve : Ex} {tg : Tg} {f : Exs} {vs : List Nat} {dst : Addr} {Hf1 : Hp} {acc acc' : List (D × D)} {ρ' : Rho} {d : D} {J : L2.It} {xs : List D} {i : Nat} {Nx : Hp → Prop} {x : V} {H' : Hp} (hg : z.ok g)
    (st : DcSt z g σ Hf1 vs dst H ρ acc) (hD : g.H0 dst = none) (hF0 : g.Hf0 dst = none) (hl : ∀ p ∈ g.IO, g.H0 p.2 ≠ none) (hsub : ∀ i ∈ tg.vars, i ∈ vs)
    (wk : Walk z.C J Hf1 xs) (hd : xs[i]? = some d) (ht : DcTurn z ke ve tg f vs (ρ, acc) d = .ok (ρ', acc')) (hy : J.yld i H x H') (hlen : σ.length = ρ.length)
    (hN : ∀ H'', DcSt z g σ Hf1 vs dst H'' ρ' acc' → Nx H'') :
    gT z.C.K tg x (L2.wipe σ vs) H' fun σ2 H2 => L2.wipe σ2 vs = L2.wipe σ vs ∧ tCl z.blk f σ2 H2 fun b H3 =>
      if b = true then tE z.blk ke σ2 H3 fun y H4 => tE z.blk ve σ2 H4 fun w H5 => ∃ kvs k, y = kV k ∧ H5 dst = some (.dK kvs) ∧ kvs.length < sizeLine ∧ Nx (upd H5 dst (.dK (putK kvs k w))) else Nx H3 := by
  obtain ⟨Hf, ks, l1, ra, hnd, s, hdst⟩ := st.ex
  obtain ⟨Hf2, po⟩ := wk.yld i H x H' Hf l1 s.sub hy d hd
  obtain ⟨s2, rv⟩ := s.po po
  have rv' : Rep z.C Hf2 x d := rv
  obtain ⟨ρ2, e2, h3⟩ := bind_ok ht
  obtain ⟨⟨b, ρ3⟩, e3, h4⟩ := bind_ok h3
  have sw : SR z.C (g.guard dst (.dK ks)) (L2.wipe σ vs) H' Hf2 (hideL ρ vs) := s2.reslot (by rw [L2.wipe_length, hideL_length]; exact hlen) fun j sl e => by
    by_cases hj : j ∈ vs
    · exact .inl (hideL_in hj sl e)
    · exact .inr ⟨e, wipe_out' hj⟩
  refine gT_fz sw rv' e2 fun σ2 st2 => ?_
  have hw : L2.wipe σ2 vs = L2.wipe σ vs := by
    have := wipe_eq (is := vs) st2.len fun i hi => st2.out i fun q => hi (hsub i q)
    rw [this, wipe_wipe]
  have out2 : ∀ j, j ∉ vs → σ2[j]? = σ[j]? := fun j hj => by
    rw [st2.out j fun q => hj (hsub j q)]; exact wipe_out' hj
  refine ⟨hw, tCl_of (z := z.blk) hg.guard.blk st2.sr e3 fun H3 Hf3 s3 l3 => ?_⟩
  have back : ∀ {Hk Hfk : Hp} {ρk : Rho} {o : HO}, SR z.C (g.guard dst o) σ2 Hk Hfk ρk → SR z.C (g.guard dst o) σ Hk Hfk (hideL ρk vs) := fun {Hk Hfk ρk o} sk => by
    have hk : σ2.length = σ.length := by rw [st2.len, L2.wipe_length]
    refine sk.reslot (by rw [hideL_length, ← sk.len, hk]) fun j sl e => ?_
    by_cases hj : j ∈ vs
    · exact .inl (hideL_in hj sl e)
    · rw [hideL_out hj] at e
      exact .inr ⟨e, (out2 j hj).symm⟩
  cases b with
  | false =>
    rw [if_neg (by simp)]
    dsimp only at h4
    rw [if_neg (by simp)] at h4
    cases h4
    exact hN H3 ⟨⟨Hf3, ks, (l1.trans po.le).trans l3, ra.le (po.le.trans l3), hnd, back s3, (s3.unguard (fun _ z => by cases z) hD hF0 hl).at_⟩⟩
  | true =>
    rw [if_pos rfl]
    dsimp only at h4
    rw [if_pos rfl] at h4
    obtain ⟨⟨rk, ρ4⟩, e4, h5⟩ := bind_ok h4
    obtain ⟨⟨rw', ρ5⟩, e5, h6⟩ := bind_ok h5
    dsimp only at h6
    split at h6
    · rename_i hz
      simp only [Bool.and_eq_true, decide_eq_true_eq] at hz
      cases h6
      refine tE_of (z := z.blk) hg.guard.blk s3 e4 fun v H4 Hf4 s4 l4 hv => ?_
      obtain ⟨Hf5, s5, l5, hr⟩ := s4.freeze hv
      refine tE_of (z := z.blk) hg.guard.blk s5 e5 fun w H6 Hf6 s6 l6 hw => ?_
      obtain ⟨Hf7, s7, l7, hr2⟩ := s6.freeze hw
      have u := s7.unguard (fun _ z => by cases z) hD hF0 hl
      have le5 : Le Hf Hf7 := (((((po.le).trans l3).trans l4).trans l5).trans l6).trans l7
      have hv2 := rep_kV hr hz.1
      subst hv2
      refine ⟨ks, toK rk.d, rfl, u.at_, by rw [szL_eq, ra.length]; exact hz.2, hN _ ⟨⟨Hf7, putK ks (toK rk.d) w, l1.trans le5, KR.put hz.1 (hr.le (l6.trans l7)) hr2 (ra.le le5) hnd, putK_keys hnd, ?_, upd_same⟩⟩⟩
      have s8 : SR z.C g σ2 (upd H6 dst (.dK (putK ks (toK rk.d) w))) Hf7 _ := u.sr.other hD u.hf u.ns (tabs_upd u.sr.tabs u.at_ (fun _ z => by cases z) dK_nocode)
      exact back (s8.guard hD upd_same u.hf u.ns)
    · cases h6
theorem DcSt.len {vs : List Nat} {Hf1 : Hp} {dst : Addr} {acc : List (D × D)} (st : DcSt z g σ Hf1 vs dst H ρ acc) : σ.length = ρ.length := by
  obtain ⟨_, _, _, _, _, s, _⟩ := st.ex
  rw [s.len, hideL_length]
theorem DcSt.start {vs : List Nat} {dst : Addr} (s : SR z.C g σ H Hf ρ) (hd : H dst = none) : DcSt z g σ Hf vs dst (upd H dst (.dK [])) ρ [] := by
  have hD : g.H0 dst = none := by
    cases q : g.H0 dst with
    | none => rfl
    | some o => exact absurd hd (s.dom dst (by rw [q]; simp))
  have hF : Hf dst = none := by
    cases q : Hf dst with
    | none => rfl
    | some o => rw [s.sub _ _ q] at hd; cases hd
  have hns : ∀ (i : Nat) (d : D), ρ[i]? = some (.ow d) → σ[i]? ≠ some (some (V.ref dst)) := fun i d e q => by
    obtain ⟨a, h1, h2, _⟩ := s.ow i d e
    rw [q] at h1; injection h1 with h1; injection h1 with h1; injection h1 with h1; subst h1
    obtain ⟨o, h3, _⟩ := h2.there
    rw [hd] at h3; cases h3
  have s2 := (s.other (o := .dK []) hD hF hns (tabs_new s.tabs hd)).guard hD upd_same hF hns
  refine ⟨⟨Hf, [], Le.refl _, .nil, List.nodup_nil, s2.reslot (by rw [hideL_length]; exact s.len) fun j sl e => ?_, upd_same⟩⟩
  by_cases hj : j ∈ vs
  · exact .inl (hideL_in hj sl e)
  · rw [hideL_out hj] at e; exact .inr ⟨e, rfl⟩
theorem DcSt.fin {vs : List Nat} {dst : Addr} {H1 Hf1 : Hp} {ρ1 : Rho} {acc : List (D × D)} (st : DcSt z g σ Hf1 vs dst H ρ acc) (s1 : SR z.C g σ H1 Hf1 ρ1) (hd : H1 dst = none) (hno : noOwn ρ1 vs = true) :
    ∃ Hf' ks, Le Hf1 Hf' ∧ H dst = some (.dK ks) ∧ ∀ (o : Obj) (es : List DictEntry) (ep : Nat), o.ExactDict → o.data = .dict es.toArray ep → (dst == sysModules) = false → ks.length ≤ sizeLine → EntK z.C.w es ks →
      SR z.C g σ (upd H dst (rawO dst o)) Hf' (unhide ρ1 ρ vs) ∧ RVok z.C g σ (upd H dst (rawO dst o)) Hf' (unhide ρ1 ρ vs) (.ref dst) (.ow (.dic acc)) := by
  have hD : g.H0 dst = none := by
    cases q : g.H0 dst with
    | none => rfl
    | some o => exact absurd hd (s1.dom dst (by rw [q]; simp))
  have hF0 : g.Hf0 dst = none := by
    cases q : g.Hf0 dst with
    | none => rfl
    | some o => rw [s1.sub _ _ (s1.fz0 _ _ q)] at hd; cases hd
  obtain ⟨Hf, ks, l1, ra, hnd, s, hdst⟩ := st.ex
  have u := s.unguard (fun _ z => by cases z) hD hF0 s1.lent
  refine ⟨Hf, ks, l1, hdst, fun o es ep hc hdat hsys hlen hen => ?_⟩
  have so := u.sr.other (o := rawO dst o) hD u.hf u.ns (tabs_upd u.sr.tabs hdst (fun _ z => by cases z) dK_nocode)
  refine ⟨so.reslot2 (by rw [unhide_length]; exact st.len) fun j sl e => ?_, dst, rfl, ⟨u.hf, o, es, ep, upd_same, hc, hdat, hsys, by rw [← ra.length, ← szL_eq]; exact hlen, ra.dkeys hnd, ents_of hen ra⟩, hD, fun i d e => ?_⟩
  · by_cases hj : j ∈ vs
    · have := unhide_in hj sl e
      rcases noOwn_at hno hj with q | ⟨d, q⟩
      · rw [q] at this; exact .inl this
      · rw [q] at this
        obtain ⟨v, h1, h2⟩ := s1.fz j d q
        exact .inr (.inr ⟨d, v, this, h1, h2.le l1⟩)
    · rw [unhide_out hj] at e
      exact .inr (.inl ⟨by rw [hideL_out hj]; exact e, rfl⟩)
  · by_cases hi : i ∈ vs
    · have := unhide_in hi _ e
      rcases noOwn_at hno hi with q | ⟨d, q⟩ <;> (rw [q] at this; cases this)
    · rw [unhide_out hi] at e
      exact u.ns i d (by rw [hideL_out hi]; exact e)
/-- {k: v for tg in it if f} -/
theorem tE_dc1 {ke ve : Ex} {tg : Tg} {it : It} {f : Exs} {Q : VK} (h : tE z (.dc ke ve (.c tg it f .n)) σ H Q) : tDc (tI z it) (gT z.C.K tg) (tCl z.blk f) (tE z.blk ke) (tE z.blk ve) (Gens.c tg it f .n).vars σ H fun v H1 => RawC z.C.w v H1 Q := by
  obtain ⟨g, hg, Hf, ρ, s, h⟩ := h
  simp only [ev] at h
  refine ⟨g, hg, Hf, ρ, s, (Out.bind h).imp fun xs ρ1 H1 Hf1 s1 l1 k J wk dst hd => ?_⟩
  generalize hvs : (Gens.c tg it f .n).vars = vs at k
  dsimp only at k
  split at k
  · exact k.elim
  · rename_i hno
    have hno : noOwn ρ1 vs = true := by
      rcases bool_cases (noOwn ρ1 vs) with q | q
      · exact q
      · rw [q] at hno; exact absurd rfl hno
    obtain ⟨⟨ρ3, ds⟩, hfold, k⟩ := Out.bind' k okOnly_noexc
    have hfold := okOnly_ok hfold
    have hfold : foldR (DcTurn z ke ve tg f vs) (ρ1, []) xs = .ok (ρ3, ds) := hfold
    have hD : g.H0 dst = none := by
      cases q : g.H0 dst with
      | none => rfl
      | some o => exact absurd hd (s1.dom dst (by rw [q]; simp))
    have hF0 : g.Hf0 dst = none := by
      cases q : g.Hf0 dst with
      | none => rfl
      | some o => rw [s1.sub _ _ (s1.fz0 _ _ q)] at hd; cases hd
    have hsub : ∀ i ∈ tg.vars, i ∈ vs := fun i hi => by rw [← hvs]; exact List.mem_append_left _ hi
    refine ⟨fun i m H => i ≤ xs.length ∧ m = xs.length - i ∧ ∃ ρi acc, DcSt z g σ Hf1 vs dst H ρi acc ∧ foldR (DcTurn z ke ve tg f vs) (ρi, acc) (xs.drop i) = .ok (ρ3, ds), ⟨xs.length, Nat.zero_le _, rfl, ρ1, [], DcSt.start s1 hd, hfold⟩, fun i m H ⟨hi, hm, ρi, acc, st, hf⟩ => ?_⟩
    obtain ⟨Hfi, ksi, li, _, _, si, _⟩ := st.ex
    by_cases hlt : i < xs.length
    · refine .inr ⟨wk.go i H (li.trans si.sub) hlt, fun H' => ∃ ρi acc, DcSt z g σ Hf1 vs dst H' ρi acc ∧ foldR (DcTurn z ke ve tg f vs) (ρi, acc) (xs.drop (i + 1)) = .ok (ρ3, ds), fun H' ⟨ρj, acc', st', hf'⟩ => ⟨xs.length - (i + 1), by omega, by omega, rfl, ρj, acc', st', hf'⟩, fun x H' hy => ?_⟩
      rw [drop_at hlt] at hf
      unfold foldR at hf
      obtain ⟨⟨ρj, acc'⟩, ht, hf2⟩ := bind_ok hf
      exact dc_turn hg st hD hF0 s1.lent hsub wk (List.getElem?_eq_getElem hlt) ht hy st.len fun H'' st'' => ⟨ρj, acc', st'', hf2⟩
    · refine .inl ⟨wk.stop i H (li.trans si.sub) (by omega), ?_⟩
      rw [List.drop_eq_nil_of_le (by omega)] at hf
      unfold foldR at hf
      cases hf
      obtain ⟨Hf', ks, l', hdk, fin⟩ := st.fin s1 hd hno
      refine ⟨dst, ks, rfl, hdk, fun o es ep h1 h2 h3 h4 h5 => ?_⟩
      obtain ⟨sE, rvE⟩ := fin o es ep h1 h2 h3 h4 h5
      exact k _ Hf' sE l' _ rvE
end
end Ev


set_option maxHeartbeats 4000000
namespace Ev
open PySem PySem.Spec L2 PyProof.Rows PySem.W
theorem ins_at {α : Type} {lt : α → α → Bool} {x : α} : ∀ {l₁ l₂ : List α}, (∀ b ∈ l₁, lt b x = true) → (∀ b ∈ l₂, lt b x = false) → ins lt x (l₁ ++ l₂) = l₁ ++ x :: l₂
  | [], [], _, _ => rfl
  | [], y :: ys, _, h => by
    simp only [List.nil_append, ins]
    rw [if_neg (by rw [h y List.mem_cons_self]; simp)]
  | z :: zs, l₂, h1, h2 => by
    simp only [List.cons_append, ins]
    rw [if_pos (h1 z List.mem_cons_self), ins_at (fun b hb => h1 b (List.mem_cons_of_mem _ hb)) h2]
theorem isort_merge {α : Type} {lt le : α → α → Bool} (T : TotalLe le) : ∀ {xs : List α}, (∀ a ∈ xs, ∀ b ∈ xs, lt a b = !le b a) → isort lt xs = xs.mergeSort le
  | [], _ => by simp [isort]
  | x :: xs, h => by
    have total : ∀ a b : α, (le a b || le b a) = true := fun a b => by
      rcases T.total a b with q | q <;> simp [q]
    obtain ⟨l₁, l₂, e1, e2, e3⟩ := List.mergeSort_cons (le := le) T.trans total x xs
    have ih := isort_merge (lt := lt) T (xs := xs) fun a ha b hb => h a (List.mem_cons_of_mem _ ha) b (List.mem_cons_of_mem _ hb)
    have mem : ∀ b, b ∈ l₁ ++ l₂ → b ∈ xs := fun b hb => by rw [← e2] at hb; exact List.mem_mergeSort.mp hb
    have so := List.pairwise_mergeSort (le := le) T.trans total (x :: xs)
    rw [e1] at so
    have so2 := (List.pairwise_append.mp so).2.1
    rw [List.pairwise_cons] at so2
    show ins lt x (isort lt xs) = _
    rw [ih, e2, e1]
    refine ins_at (fun b hb => ?_) fun b hb => ?_
    · rw [h b (List.mem_cons_of_mem _ (mem b (List.mem_append_left _ hb))) x List.mem_cons_self]
      simpa using e3 b hb
    · rw [h b (List.mem_cons_of_mem _ (mem b (List.mem_append_right _ hb))) x List.mem_cons_self]
      have := so2.1 b hb
      simpa using this
theorem alk1_mem : ∀ {xs : List D}, allAlk1 xs = true → ∀ a ∈ xs, ∀ b ∈ xs, alk a b = true
  | [], _, a, ha, _, _ => by simp at ha
  | x :: xs, h, a, ha, b, hb => by
    simp only [allAlk1, Bool.and_eq_true, List.all_eq_true] at h
    rcases List.mem_cons.mp ha with q | q
    · subst q
      rcases List.mem_cons.mp hb with r | r
      · subst r; exact h.1.1
      · exact h.1.2 b r
    · rcases List.mem_cons.mp hb with r | r
      · subst r; rw [alk_comm]; exact h.1.2 a q
      · exact alk1_mem h.2 a q b r
theorem plains_mem : ∀ {xs : List D}, plains xs = true → ∀ a ∈ xs, plain a = true
  | [], _, a, ha => by simp at ha
  | x :: xs, h, a, ha => by
    have h' : plain x = true ∧ plains xs = true := by simpa [plains] using h
    rcases List.mem_cons.mp ha with q | q
    · subst q; exact h'.1
    · exact plains_mem h'.2 a q
theorem deps_mem : ∀ {xs : List D} {n : Nat}, deps xs ≤ n → ∀ a ∈ xs, dep a ≤ n
  | [], _, _, a, ha => by simp at ha
  | x :: xs, n, h, a, ha => by
    simp only [deps] at h
    rcases List.mem_cons.mp ha with q | q
    · subst q; omega
    · exact deps_mem (by omega) a q
structure Ordb (xs : List D) : Prop where
  plain : ∀ a ∈ xs, plain a = true
  alk : ∀ a ∈ xs, ∀ b ∈ xs, alk a b = true
  ne : ∀ a ∈ xs, neTup a = true
theorem ordb_of {xs : List D} (h : allAlk xs = true) : Ordb xs := by
  unfold allAlk at h
  simp only [Bool.and_eq_true, List.all_eq_true] at h
  exact ⟨plains_mem h.1.1, alk1_mem h.1.2, h.2⟩
theorem Ordb.allAlike {β : Type} {bs : List β} {k : β → D} (o : Ordb (bs.map k)) : AllAlike (bs.map fun b => toP (k b)) := by
  intro d hd d' hd'
  obtain ⟨a, ha, rfl⟩ := List.mem_map.mp hd
  obtain ⟨b, hb, rfl⟩ := List.mem_map.mp hd'
  exact (alk_alike _ _ (o.alk _ (List.mem_map_of_mem ha) _ (List.mem_map_of_mem hb))).1
theorem Ordb.sortable {β : Type} {bs : List β} {k : β → D} (o : Ordb (bs.map k)) : Sortable (bs.map fun b => toP (k b)) := by
  by_cases h : ∃ b ∈ bs, isTup (k b) = true
  · obtain ⟨b, hb, ht⟩ := h
    refine .inl fun d hd => ?_
    obtain ⟨a, ha, rfl⟩ := List.mem_map.mp hd
    have h1 := o.alk _ (List.mem_map_of_mem ha) _ (List.mem_map_of_mem hb)
    have h2 := o.ne _ (List.mem_map_of_mem ha)
    cases hk : k b with
    | tup ys =>
      rw [hk] at h1
      cases hka : k a with
      | tup xs =>
        cases xs with
        | nil => rw [hka] at h2; simp [neTup] at h2
        | cons x r => exact ⟨_, _, rfl⟩
      | _ => rw [hka] at h1; simp [Ev.alk] at h1
    | _ => rw [hk] at ht; simp [isTup] at ht
  · refine .inr fun d hd => ?_
    obtain ⟨a, ha, rfl⟩ := List.mem_map.mp hd
    have h1 := o.alk _ (List.mem_map_of_mem ha) _ (List.mem_map_of_mem ha)
    have h2 : isTup (k a) ≠ true := fun q => h ⟨a, ha, q⟩
    cases hka : k a <;> rw [hka] at h1 h2 <;> first | (simp [Ev.alk] at h1; done) | (simp [isTup] at h2; done) | exact ⟨by simp [toP], fun xs => by simp [toP]⟩
theorem Ordb.lt {β : Type} {bs : List β} {k : β → D} (o : Ordb (bs.map k)) : ∀ a ∈ bs, ∀ b ∈ bs, ltD (k a) (k b) = !dataLe false (fun b => toP (k b)) b a := by
  intro a ha b hb
  rw [dataLe_eq]
  simp only [cond_false, Bool.not_not]
  exact (ltD_toP _ _ (o.plain _ (List.mem_map_of_mem ha)) (o.plain _ (List.mem_map_of_mem hb)) (o.alk _ (List.mem_map_of_mem ha) _ (List.mem_map_of_mem hb))).symm
theorem Ordb.sort {β : Type} {bs : List β} {k : β → D} (o : Ordb (bs.map k)) : bs.mergeSort (dataLe false fun b => toP (k b)) = isort (fun a b => ltD (k a) (k b)) bs := (isort_merge (sortLe_total _ _ _) o.lt).symm
theorem each_of {X : Cx} {C : Cst} {pins : List (Addr × Obj)} {σ : L2.St} {H : Hp} {s : Shared} (I : Inv X pins σ H s) (hK : X.K = C.K) : ∀ {vs : List V} {us : List Value} {ds : List D}, Vals vs us → Reps C H vs ds → (∀ d ∈ ds, plain d = true) → EachIs (fun v d => ∃ as, Reads s.heap v (toP d) as) us ds
  | _, _, _, .nil, .nil, _ => .nil
  | _, _, _, .cons r t, .cons h q, hp => by
    have hd := h.dp (hp _ List.mem_cons_self)
    rw [← hK] at hd
    exact .cons (Dp.reads I _ _ _ hd r) (each_of I hK t q fun d hd => hp d (List.mem_cons_of_mem _ hd))
theorem each_rep {C : Cst} {Hf : Hp} : ∀ {vs : List V} {us : List Value} {ds : List D}, Vals vs us → Reps C Hf vs ds → EachIs (fun v d => ∃ x, RelV x v ∧ Rep C Hf x d) us ds
  | _, _, _, .nil, .nil => .nil
  | _, _, _, .cons r t, .cons h q => .cons ⟨_, r, h⟩ (each_rep t q)
theorem rep_each {C : Cst} {Hf : Hp} : ∀ {us : List Value} {ds : List D}, EachIs (fun v d => ∃ x, RelV x v ∧ Rep C Hf x d) us ds → ∃ vs, Vals vs us ∧ Reps C Hf vs ds
  | _, _, .nil => ⟨[], .nil, .nil⟩
  | _, _, .cons ⟨x, r, h⟩ t => by
    obtain ⟨vs, h1, h2⟩ := rep_each t
    exact ⟨x :: vs, .cons r h1, .cons h h2⟩
theorem sorted_any {prog : Program} {w : World} {A : Around} {E : Value → Shared → Prop} {s : Shared} {a : Addr} {T : String} {o : Obj} {items : Array Value} {n : Nat} {kw : List (Str × Value)} {Q : Value → Shared → Prop} (hT : T = "list" ∨ T = "tuple")
    (ho : s.heap.get? a = some o) (hc : o.cls = .type T) (hd : o.data = .seq items n) (hz : items.size ≤ sizeLine) (ha1 : argsOk "sorted" ⟨[.ref a], kw⟩) (ha2 : ∀ x, argsOk "list.sort" ⟨[.ref x], kw⟩)
    (body : ∀ h' : Heap, (∀ b o', s.heap.get? b = some o' → h'.get? b = some o') → ∀ E' : Value → Shared → Prop, wpAny (model prog w) A.in1.in1 (Builtin.«list.sort» ⟨[.ref h'.objs.size], kw⟩) (fun f s' => f = .done (.ret .none) ∧ Q (.ref h'.objs.size) s') E' { s with heap := h'.push (seqObj "list" items 0) }) :
    wpAny (model prog w) A (call (.builtin "sorted") [.ref a] kw) Q E s := by
  refine call_function_entry_kw kind_sorted plain_sorted entry_sorted ha1 ?_
  unfold Builtin.«sorted»
  refine wpAny_bind (m := checkCount "sorted" 1 1 _) (wpAny_pure ?_)
  refine wpAny_bind (wpAny_collect_seq a hT ho hc hd (fun h' hk => ?_) hz)
  have el : items.toList.toArray = items := by simp
  refine wpAny_bind (wpAny_newList ?_ (by simpa using hz))
  refine wpAny_bind (wpAny_holding (wpAny_call_entry_kw slot_list_sort ⟨seqObj "list" items 0, ?_, rfl⟩ entry_list_sort ?body (ha2 _)))
  · show (h'.push _).get? h'.objs.size = _
    rw [el]; exact Heap.get?_push_size _ rfl
  case body =>
    show wpAny (model prog w) A.in1.in1 (Builtin.«list.sort» ⟨[.ref h'.objs.size], kw⟩) _ _ { s with heap := h'.push (seqObj "list" items.toList.toArray 0) }
    rw [el]
    refine wpAny_mono (body h' hk _) (fun f s' hf => ?_) fun _ _ e => e
    obtain ⟨rfl, hq⟩ := hf
    exact ⟨_, rfl, wpAny_pure ⟨_, rfl, hq⟩⟩
/-- what is sorted: its object -/
theorem seq_obj {X : Cx} {C : Cst} {pins : List (Addr × Obj)} {σ : L2.St} {H Hf : Hp} {s : Shared} {v : V} {d : D} {xs : List D} (I : Inv X pins σ H s) (hK : X.K = C.K) (sub : Le Hf H) (hv : Vw C H Hf v d) (hd : seqD d = some xs) :
    ∃ (a : Addr) (T : String) (o : Obj) (its : List Value) (n : Nat) (vs : List V), v = .ref a ∧ (T = "list" ∨ T = "tuple") ∧ s.heap.get? a = some o ∧ o.cls = .type T ∧ o.data = .seq its.toArray n ∧ its.length ≤ sizeLine ∧ Vals vs its ∧ Reps C Hf vs xs := by
  cases d <;> simp only [seqD] at hd <;> try (cases hd; done)
  · cases hd
    obtain ⟨a, vs, rfl, sq, rr⟩ := hv.tup sub
    rw [← hK] at sq
    obtain ⟨its, rv, ⟨o, ho, hc, n, hd⟩, hz⟩ := I.tuple sq
    exact ⟨a, "tuple", o, its, n, vs, rfl, .inr rfl, ho, hc, hd, by rw [← rv.length]; exact hz, rv, rr⟩
  · cases hd
    obtain ⟨a, vs, rfl, sq, rr⟩ := hv.lst sub
    obtain ⟨its, n, rv, hl, hz, ho⟩ := lstX I sq
    exact ⟨a, "list", _, its, n, vs, rfl, .inl rfl, ho, rfl, rfl, by rw [← hl]; exact hz, rv, rr⟩
theorem each_map' {R : Value → D → Prop} : ∀ {us : List Value} {ds : List D}, EachIs R us ds → EachIs (fun v d => R v d) us (ds.map id)
  | _, _, .nil => .nil
  | _, _, .cons h t => .cons h (each_map' t)
theorem collect_dict {prog : Program} {w : World} {A : Around} {E : Value → Shared → Prop} {s : Shared} {d : Addr} {es : Array DictEntry} {ep : Nat} {R : List Value → Shared → Prop} (hh : A.handled = none) (lo : (d == sysModules) = false) (hm : s.heap.DictRaw d es ep) (hn : es.size ≤ sizeLine)
    (h : ∀ (h' : Heap) (tk : Nat), (∀ b o, s.heap.get? b = some o → h'.get? b = some o) → R (es.toList.map (·.key)) { s with heap := h', toks := tk }) : wpAny (model prog w) A (collect (.ref d)) R E s := by
  have hd : d < s.heap.objs.size := hm.lt_size
  unfold collect
  refine wpAny_bind (wpAny_runValue (codeAny_builtin PySem.F.entry_proto_collect ?_))
  rw [Around.under_plainId PySem.F.plain_proto_collect _]
  show wpAny _ A.in1 (newList [] >>= fun l => again (.builtin "list.__iadd__" ⟨[l, .ref d], []⟩)) _ _ s
  refine wpAny_bind (wpAny_newObj_type ?_)
  refine wpAny_pure ⟨plainId_quiet PySem.F.plain_list_iadd _, codeAny_builtin PySem.F.entry_list_iadd ?_⟩
  rw [Around.under_plainId PySem.F.plain_list_iadd _]
  show wpAny _ A.in1 (Builtin.List.listExtendWith (.ref s.heap.objs.size) (.ref d) (.ref s.heap.objs.size)) _ _ _
  have hS₁ : (s.heap.push { cls := .type "list", data := .seq ([] : List Value).toArray }).get? s.heap.objs.size = some { cls := .type "list", data := .seq #[] } := Heap.get?_push_size _ rfl
  have hall : ∀ acc : Array Value, ItemsOf (fun i v => ∃ hi : i < es.size, v = es[i].key) acc es.size → acc.toList = es.toList.map (·.key) := fun acc hacc => by
    refine List.ext_getElem? fun i => ?_
    rw [List.getElem?_map]
    by_cases hi : i < es.size
    · have hia : i < acc.size := by rw [hacc.1]; exact hi
      obtain ⟨_, e⟩ := hacc.2 i acc[i] (by simp [hia])
      simp [hi, hia, e]
    · have hia : ¬ i < acc.size := by rw [hacc.1]; exact hi
      simp [hi, hia]
  have key := kdl_extend (prog := prog) (w := w) (A := A) (s := { s with heap := s.heap.push { cls := .type "list", data := .seq ([] : List Value).toArray } }) (KdlSrc.rawDict (d := d) (es := es) (ep := ep) lo)
    (R := fun (q : Result) (s' : Shared) => ∃ (h' : Heap) (tk : Nat) (acc' : Array Value) (c' : Nat), q = .ok (.ret (.ref s.heap.objs.size)) ∧ s' = { s with heap := h', toks := tk } ∧
      (∀ b o, s.heap.get? b = some o → h'.get? b = some o) ∧ h'.get? s.heap.objs.size = some { cls := .type "list", dict := none, data := .seq acc' c', slots := #[] } ∧ acc'.toList = es.toList.map (·.key))
    hh (hm.push _) s.heap.objs.size (Nat.ne_of_gt hd) (Nat.ne_of_gt hd) (.ref s.heap.objs.size) 0 hS₁
    (fun h' tk acc' c' hk hS' hacc => ⟨h', tk, acc', c', rfl, rfl, fun b o e => hk b o (Nat.ne_of_lt (Heap.lt_size e)) (Heap.get?_push_of_some _ e), hS', hall acc' hacc⟩) hn
  refine wpAny_mono key (fun fin s' x => ?_) fun e s' x => ?_
  · cases fin with
    | done f =>
      obtain ⟨h', tk, acc', c', e, rfl, hk, hS', hacc⟩ := x
      cases e
      show wpAny _ A (load s.heap.objs.size >>= _) _ _ _
      refine wpAny_bind (wpAny_load hS' (wpAny_pure ?_))
      show R acc'.toList _
      rw [hacc]
      exact h h' tk hk
    | again c₁ =>
      refine ⟨x.1, codeAny_mono x.2 fun q s₂ y => ?_⟩
      obtain ⟨h', tk, acc', c', rfl, rfl, hk, hS', hacc⟩ := y
      show wpAny _ A (load s.heap.objs.size >>= _) _ _ _
      refine wpAny_bind (wpAny_load hS' (wpAny_pure ?_))
      show R acc'.toList _
      rw [hacc]
      exact h h' tk hk
  · obtain ⟨_, _, _, _, e', _⟩ := x
    cases e'
theorem sortedD_any {prog : Program} {w : World} {A : Around} {E : Value → Shared → Prop} {s : Shared} {d : Addr} {es : Array DictEntry} {ep : Nat} {Q : Value → Shared → Prop} (hh : A.handled = none) (lo : (d == sysModules) = false) (hm : s.heap.DictRaw d es ep) (hn : es.size ≤ sizeLine)
    (body : ∀ (h' : Heap) (tk : Nat), (∀ b o', s.heap.get? b = some o' → h'.get? b = some o') → ∀ E' : Value → Shared → Prop, wpAny (model prog w) A.in1.in1 (Builtin.«list.sort» ⟨[.ref h'.objs.size], []⟩) (fun f s' => f = .done (.ret .none) ∧ Q (.ref h'.objs.size) s') E' { s with heap := h'.push (seqObj "list" (es.toList.map (·.key)).toArray 0), toks := tk }) :
    wpAny (model prog w) A (call (.builtin "sorted") [.ref d]) Q E s := by
  refine call_function_entry_kw kind_sorted plain_sorted entry_sorted (args_sorted1 _) ?_
  unfold Builtin.«sorted»
  refine wpAny_bind (m := checkCount "sorted" 1 1 _) (wpAny_pure ?_)
  refine wpAny_bind (collect_dict hh lo hm hn fun h' tk hk => ?_)
  refine wpAny_bind (wpAny_newList ?_ (by simpa using hn))
  refine wpAny_bind (wpAny_holding (wpAny_call_entry_kw slot_list_sort ⟨seqObj "list" (es.toList.map (·.key)).toArray 0, ?_, rfl⟩ entry_list_sort ?body (args_list_sort _)))
  · show (h'.push _).get? h'.objs.size = _
    exact Heap.get?_push_size _ rfl
  case body =>
    show wpAny (model prog w) A.in1.in1 (Builtin.«list.sort» ⟨[.ref h'.objs.size], []⟩) _ _ { s with heap := h'.push (seqObj "list" (es.toList.map (·.key)).toArray 0), toks := tk }
    refine wpAny_mono (body h' tk hk _) (fun f s' hf => ?_) fun _ _ e => e
    obtain ⟨rfl, hq⟩ := hf
    exact ⟨_, rfl, wpAny_pure ⟨_, rfl, hq⟩⟩
/-- the new list is put in order -/
theorem srt_list {X : Cx} {C : Cst} {pins : List (Addr × Obj)} {σ : L2.St} {H Hf : Hp} {s : Shared} {its : List Value} {vs : List V} {ys : List D} {Q : VK} {h' : Heap} {tk : Nat} (hK : X.K = C.K) (hu : X.A.units + 100 < cLine) (I : Inv X pins σ H s) (sub : Le Hf H) (hz : its.length ≤ sizeLine) (rvs : Vals vs its) (rr : Reps C Hf vs ys) (hok : allAlk ys = true) (hdp : deps ys ≤ 50)
    (hk : ∀ b o', s.heap.get? b = some o' → h'.get? b = some o') (k : ∀ v H' Hf', Ev.PO C H Hf v (.ow (.lst (isort ltD ys))) H' Hf' → Q v H') (E' : Value → Shared → Prop) :
    wpAny (model X.prog X.w) X.A.in1.in1 (Builtin.«list.sort» ⟨[.ref h'.objs.size], []⟩) (fun f s' => f = .done (.ret .none) ∧ EP X pins σ Q (.ref h'.objs.size) s') E' { s with heap := h'.push (seqObj "list" its.toArray 0), toks := tk } := by
  have hb := ordb_of hok
  have hb' : Ordb (ys.map id) := by rw [List.map_id]; exact hb
  have hl : ys.length = its.length := by rw [← rr.length, rvs.length]
  have er := each_of I hK rvs (rr.le sub) hb.plain
  have hat : (h'.push (seqObj "list" its.toArray 0)).get? h'.objs.size = some (seqObj "list" its.toArray 0) := Heap.get?_push_size _ rfl
  have hold : ∀ b o', s.heap.get? b = some o' → (sortingHeap (h'.push (seqObj "list" its.toArray 0)) h'.objs.size its).get? b = some o' := fun b o' e =>
    sortingHeap_old (Nat.ne_of_lt (Heap.lt_size (hk b o' e))) (Heap.get?_push_of_some _ (hk b o' e))
  have er2 : EachIs (fun v d => ∃ as, Reads (sortingHeap (h'.push (seqObj "list" its.toArray 0)) h'.objs.size its) v (toP d) as) its ys := er.mono fun v d ⟨as, q⟩ => ⟨as, PyProof.Rows.Reads.keeps hold q⟩
  have hdep : ∀ d ∈ ys, (toP d).depth ≤ 50 := fun d hd => Nat.le_trans (dep_toP d) (deps_mem hdp d hd)
  refine list_sort_vals (κ := dataKind (sortingHeap (h'.push (seqObj "list" its.toArray 0)) h'.objs.size its) (ys.map toP)) hat ?_ hz ⟨rfl, ?_⟩
  · exact SortsAt.data (s := { s with heap := sortingHeap (h'.push (seqObj "list" its.toArray 0)) h'.objs.size its, toks := tk }) (each_map (R := fun v d => ∃ as, Reads _ v d as) toP er2) hb'.allAlike hb'.sortable fun d hd => by
      obtain ⟨x, hx, rfl⟩ := List.mem_map.mp hd
      have := hdep x hx
      show X.A.units + 1 + 1 + _ < _
      omega
  · have eo := sortVals_data (enc := toP) false (each_rep rvs rr) er2 hb'.allAlike
    have es : ys.mergeSort (dataLe false toP) = isort ltD ys := hb'.sort
    rw [es] at eo
    obtain ⟨ws, q1, q2⟩ := rep_each eo
    generalize hout : sortVals (dataKind (sortingHeap (h'.push (seqObj "list" its.toArray 0)) h'.objs.size its) (ys.map toP)) false its its = out at q1 q2 ⊢
    have hol : out.length = its.length := by rw [← hout]; exact sortVals_length false rfl
    obtain ⟨e, hx⟩ := sortedHeap_at (h := h'.push (seqObj "list" its.toArray 0)) (a := h'.objs.size) (vs := its) (out := out.toArray) hat
    have keep : ∀ b o', h'.get? b = some o' → (sortedHeap (h'.push (seqObj "list" its.toArray 0)) h'.objs.size its out.toArray).get? b = some o' := fun b o' e => by
      rw [sortedHeap_old (Nat.ne_of_lt (Heap.lt_size e)) (by rw [Heap.size_push]; exact Nat.lt_succ_of_lt (Heap.lt_size e))]
      exact Heap.get?_push_of_some _ e
    have I1 : Inv X pins σ H { s with heap := h', toks := tk } := I.kept (t' := tk) hk
    have hwl : ws.length ≤ sizeLine := by rw [q1.length, hol]; exact hz
    exact ⟨.ref h'.objs.size, upd H h'.objs.size (.lst ws), I1.laid (t' := tk) keep (Nat.le_refl _) ⟨hwl, out, e, q1, hx⟩, rfl, k _ _ Hf (PO.newLst sub (I1.hok.fresh (Nat.le_refl _)) q2)⟩
/-- a dict's keys, as they stand -/
theorem keys_of {C : Cst} {Hf : Hp} : ∀ {es : List DictEntry} {kvs : List (D × D)}, Ents C Hf es kvs → ∃ vs, Vals vs (es.map (·.key)) ∧ Reps C Hf vs (kvs.map (·.1))
  | _, _, .nil => ⟨[], .nil, .nil⟩
  | _, _, .cons (x := x) h1 h2 h3 h4 h5 r => by
    obtain ⟨vs, q1, q2⟩ := keys_of r
    exact ⟨x :: vs, .cons h2 q1, .cons h3 q2⟩
theorem Ents.length {C : Cst} {Hf : Hp} : ∀ {es : List DictEntry} {kvs : List (D × D)}, Ents C Hf es kvs → es.length = kvs.length
  | _, _, .nil => rfl
  | _, _, .cons _ _ _ _ _ r => congrArg (· + 1) (Ents.length r)
/-- a dict that is seen -/
theorem raw_at {X : Cx} {C : Cst} {pins : List (Addr × Obj)} {σ : L2.St} {H Hf : Hp} {s : Shared} {v : V} {kvs : List (D × D)} (I : Inv X pins σ H s) (sub : Le Hf H) (hv : Vw C H Hf v (.dic kvs)) : ∃ (a : Addr) (es : List DictEntry) (ep : Nat), v = .ref a ∧ s.heap.DictRaw a es.toArray ep ∧ (a == sysModules) = false ∧ kvs.length ≤ szL ∧ DKeys kvs ∧ Ents C Hf es kvs := by
  obtain ⟨a, o, es, ep, rfl, h1, h2, h3, h4, h5, h6, h7⟩ := hv.dic sub
  have x : ObjOk X.prog X.w H s.heap a (rawO a o) := I.hok a _ h1
  exact ⟨a, es, ep, rfl, ⟨o, x.1, h2, h3⟩, h4, h5, h6, h7⟩
/-- sorted(x) -/
theorem r_srt {X : Cx} {C : Cst} (hK : X.K = C.K) (hu : X.A.units + 100 < cLine) (hcalm : X.calm = true) : CallR X (.builtin "sorted") (fun vs H Q => rO C .srt vs H Q) := by
  intro pins s σ H xs us Q I r ⟨Hf, ds, rv, sub, hv, ho, k⟩
  simp only [opF] at ho
  unfold fSrt at ho
  split at ho
  · rename_i d
    obtain ⟨v, rfl, h1⟩ := hv.one
    split at ho
    · rename_i ys hys
      split at ho
      · rename_i hok
        simp only [Bool.and_eq_true, decide_eq_true_eq] at hok
        cases ho
        cases r with
        | cons r1 rt =>
          cases rt
          by_cases hd : ∃ kvs, d = .dic kvs
          · obtain ⟨kvs, rfl⟩ := hd
            simp only [seqK] at hys
            cases hys
            obtain ⟨a, es, ep, rfl, hm, lo, hz, hdk, he⟩ := raw_at I sub h1
            obtain rfl := (show _ = Value.ref a from r1)
            obtain ⟨vs, rvs, rr⟩ := keys_of he
            have hle : es.length ≤ sizeLine := by rw [he.length, szL_eq]; exact hz
            refine sortedD_any (I.ok.hd hcalm) lo hm (by simpa using hle) fun h' tk hk E' => ?_
            have := srt_list (Q := Q) (tk := tk) hK hu I sub (by simpa using hle) rvs rr hok.1 hok.2 hk k E'
            simpa using this
          · have hys' : seqD d = some ys := by
              cases d <;> simp only [seqK] at hys <;> first | exact hys | (exact absurd ⟨_, rfl⟩ hd) | cases hys
            obtain ⟨a, T, o, its, n, vs, rfl, hT, hob, hc, hd, hz, rvs, rr⟩ := seq_obj I hK sub h1 hys'
            obtain rfl := (show _ = Value.ref a from r1)
            exact sorted_any hT hob hc hd (by rw [List.size_toArray]; exact hz) (args_sorted1 _) (fun _ => args_list_sort _) fun h' hk E' => srt_list (tk := s.toks) hK hu I sub hz rvs rr hok.1 hok.2 hk k E'
      · cases ho
    · cases ho
  · cases ho
end Ev


set_option maxHeartbeats 4000000
namespace Ev
open PySem PySem.Spec L2 PyProof.Rows
mutual
theorem eqD_nk : ∀ (a b : D), keyOk a = true → keyOk b = true → eqD a b = NestedKey.beq (toNK a) (toNK b)
  | .int i, .int j, _, _ => by
    simp only [eqD, toNK, NestedKey.beq]
    exact Bool.eq_iff_iff.mpr (by simp)
  | .int _, .str _, _, _ => by simp [eqD, toNK, NestedKey.beq]
  | .int _, .tup _, _, _ => by simp [eqD, toNK, NestedKey.beq]
  | .str _, .int _, _, _ => by simp [eqD, toNK, NestedKey.beq]
  | .str x, .str y, _, _ => by
    simp only [eqD, toNK, NestedKey.beq]
    refine Bool.eq_iff_iff.mpr ?_
    simp only [beq_iff_eq, decide_eq_true_eq]
    exact ⟨fun e => by rw [e], fun e => Sx_inj e⟩
  | .str _, .tup _, _, _ => by simp [eqD, toNK, NestedKey.beq]
  | .tup _, .int _, _, _ => by simp [eqD, toNK, NestedKey.beq]
  | .tup _, .str _, _, _ => by simp [eqD, toNK, NestedKey.beq]
  | .tup xs, .tup ys, h1, h2 => by
    simp only [eqD, toNK, NestedKey.beq]
    exact eqDs_nk xs ys (by simpa [keyOk] using h1) (by simpa [keyOk] using h2)
  | .non, _, h, _ | .bl _, _, h, _ | .lst _, _, h, _ | .dic _, _, h, _ | .fn _, _, h, _ | .cls _, _, h, _ | .exc _ _, _, h, _ => by simp [keyOk] at h
  | .int _, .non, _, h | .int _, .bl _, _, h | .int _, .lst _, _, h | .int _, .dic _, _, h | .int _, .fn _, _, h | .int _, .cls _, _, h | .int _, .exc _ _, _, h => by simp [keyOk] at h
  | .str _, .non, _, h | .str _, .bl _, _, h | .str _, .lst _, _, h | .str _, .dic _, _, h | .str _, .fn _, _, h | .str _, .cls _, _, h | .str _, .exc _ _, _, h => by simp [keyOk] at h
  | .tup _, .non, _, h | .tup _, .bl _, _, h | .tup _, .lst _, _, h | .tup _, .dic _, _, h | .tup _, .fn _, _, h | .tup _, .cls _, _, h | .tup _, .exc _ _, _, h => by simp [keyOk] at h
theorem eqDs_nk : ∀ (xs ys : List D), keyOks xs = true → keyOks ys = true → eqDs xs ys = NestedKey.beqAll (toNKs xs) (toNKs ys)
  | [], [], _, _ => by simp [eqDs, toNKs, NestedKey.beqAll]
  | [], _ :: _, _, _ => by simp [eqDs, toNKs, NestedKey.beqAll]
  | _ :: _, [], _, _ => by simp [eqDs, toNKs, NestedKey.beqAll]
  | x :: xs, y :: ys, h1, h2 => by
    simp only [keyOks, Bool.and_eq_true] at h1 h2
    simp only [eqDs, toNKs, NestedKey.beqAll]
    rw [eqD_nk x y h1.1 h2.1, eqDs_nk xs ys h1.2 h2.2]
end
theorem eqD_dec {a b : D} (ha : keyOk a = true) (hb : keyOk b = true) : eqD a b = decide (toNK a = toNK b) := by
  rw [eqD_nk a b ha hb, NestedKey.decide_eq]
mutual
theorem nk_dep : ∀ d : D, (toNK d).depth ≤ dep d
  | .tup xs => by
    simp only [toNK, NestedKey.depth, dep]
    have := nks_dep xs
    omega
  | .int _ | .str _ | .non | .bl _ | .lst _ | .dic _ | .fn _ | .cls _ | .exc _ _ => by simp [toNK, NestedKey.depth]
theorem nks_dep : ∀ ds : List D, NestedKey.depthAll (toNKs ds) ≤ deps ds
  | [] => by simp [toNKs, NestedKey.depthAll]
  | x :: xs => by
    simp only [toNKs, NestedKey.depthAll, deps]
    have := nk_dep x
    have := nks_dep xs
    omega
end
section
variable {X : Cx} {C : Cst} {pins : List (Addr × Obj)} {σ : L2.St} {H Hf : Hp} {s : Shared}
mutual
/-- the value is the key -/
theorem nested_of (I : Inv X pins σ H s) (hK : X.K = C.K) : ∀ {v : V} {d : D} {u : Value}, keyOk d = true → Rep C H v d → RelV v u → NestedIs s.heap (toNK d) u
  | _, .int i, _, _, h, r => by
    cases h
    obtain ⟨t, rfl⟩ := r
    exact .int _ _
  | _, .str l, _, _, h, r => by
    cases h
    obtain ⟨t, rfl⟩ := r
    exact .text _ _
  | _, .tup ds, _, k, h, r => by
    cases h with
    | tup sq rs =>
      cases r
      rw [← hK] at sq
      obtain ⟨its, h1, ⟨o, h2, h3, n, h4⟩, _⟩ := I.tuple sq
      exact .tup h2 h3 h4 (by simpa using nesteds_of I hK (by simpa [keyOk] using k) rs h1)
  | _, .non, _, k, _, _ | _, .bl _, _, k, _, _ | _, .lst _, _, k, _, _ | _, .dic _, _, k, _, _ | _, .fn _, _, k, _, _ | _, .cls _, _, k, _, _ | _, .exc _ _, _, k, _, _ => by simp [keyOk] at k
theorem nesteds_of (I : Inv X pins σ H s) (hK : X.K = C.K) : ∀ {vs : List V} {ds : List D} {us : List Value}, keyOks ds = true → Reps C H vs ds → Vals vs us → NestedAll s.heap (toNKs ds) us
  | _, [], _, _, h, r => by
    cases h
    cases r
    exact .nil
  | _, d :: ds, _, k, h, r => by
    simp only [keyOks, Bool.and_eq_true] at k
    cases h with
    | cons a b =>
      cases r with
      | cons c e => exact .cons (nested_of I hK k.1 a c) (nesteds_of I hK k.2 b e)
end
end
/-- all keys are tuples that can be keys -/
def TKeys (kvs : List (D × D)) : Prop := ∀ p ∈ kvs, isTup p.1 = true ∧ keyOk p.1 = true ∧ dep p.1 ≤ 6
/-- the entries, by their keys' addresses -/
inductive XsR (C : Cst) (Hf : Hp) : List (NestedKey × Addr × Value) → List (D × D) → Prop
  | nil : XsR C Hf [] []
  | cons {k d : D} {a : Addr} {u : Value} {y : V} {xs : List (NestedKey × Addr × Value)} {kvs : List (D × D)} : Rep C Hf (.ref a) k → RelV y u → Rep C Hf y d → XsR C Hf xs kvs → XsR C Hf ((toNK k, a, u) :: xs) ((k, d) :: kvs)
section
variable {C : Cst} {Hf Hf' : Hp} {P : Program}
theorem XsR.keys : ∀ {xs : List (NestedKey × Addr × Value)} {kvs : List (D × D)}, XsR C Hf xs kvs → xs.map (·.1) = kvs.map fun p => toNK p.1
  | _, _, .nil => rfl
  | _, _, .cons _ _ _ r => by simp [XsR.keys r]
theorem XsR.length : ∀ {xs : List (NestedKey × Addr × Value)} {kvs : List (D × D)}, XsR C Hf xs kvs → xs.length = kvs.length
  | _, _, .nil => rfl
  | _, _, .cons _ _ _ r => congrArg (· + 1) (XsR.length r)
theorem ents_xs : ∀ {es : List DictEntry} {kvs : List (D × D)}, Ents C Hf es kvs → TKeys kvs → ∃ xs, XsR C Hf xs kvs ∧ es = xs.map (entryOfKey (nestedKind P C.w))
  | _, _, .nil, _ => ⟨[], .nil, rfl⟩
  | _, _, .cons (e := e) (k := k) (d := d) h1 h2 h3 h4 h5 r, hk => by
    obtain ⟨xs, q1, q2⟩ := ents_xs r fun p hp => hk p (List.mem_cons_of_mem _ hp)
    have hkk := (hk _ List.mem_cons_self).1
    cases k <;> first | (simp [isTup] at hkk; done) | skip
    cases h3 with
    | @tup a _ _ sq rs =>
      have e1 : e.key = .ref a := h2
      refine ⟨(toNK (.tup _), a, e.val) :: xs, .cons (.tup sq rs) h4 h5 q1, ?_⟩
      rw [List.map_cons, q2]
      congr 1
      obtain ⟨eh, ek, ev⟩ := e
      simp only at e1 h1
      subst e1
      rw [h1]
      rfl
theorem XsR.ents : ∀ {xs : List (NestedKey × Addr × Value)} {kvs : List (D × D)}, XsR C Hf xs kvs → Ents C Hf (xs.map (entryOfKey (nestedKind P C.w))) kvs
  | _, _, .nil => .nil
  | _, _, .cons (k := k) (a := a) (u := u) h1 h2 h3 r => by
    rw [List.map_cons]
    exact .cons (e := ⟨NestedKey.hash C.w (toNK k), .ref a, u⟩) rfl (show L2.RelV (V.ref a) (Value.ref a) from rfl) h1 h2 h3 (XsR.ents r)
theorem XsR.is {X : Cx} {pins : List (Addr × Obj)} {σ : L2.St} {H : Hp} {s : Shared} (I : Inv X pins σ H s) (hK : X.K = C.K) (sub : Le Hf H) : ∀ {xs : List (NestedKey × Addr × Value)} {kvs : List (D × D)}, XsR C Hf xs kvs → TKeys kvs → ∀ x ∈ xs, (nestedKind P C.w).is s.heap x.1 x.2.1
  | _, _, .nil, _, x, hx => by simp at hx
  | _, _, .cons (k := k) (a := a) h1 h2 h3 r, hk, x, hx => by
    rcases List.mem_cons.mp hx with q | q
    · subst q
      have := hk _ List.mem_cons_self
      have h6 : dep k ≤ 6 := this.2.2
      exact ⟨nested_of I hK this.2.1 (h1.le sub) rfl, by have := nk_dep k; simp only; omega⟩
    · exact XsR.is I hK sub r (fun p hp => hk p (List.mem_cons_of_mem _ hp)) x q
theorem XsR.at {k : D} (hk : keyOk k = true) : ∀ {xs : List (NestedKey × Addr × Value)} {kvs : List (D × D)}, XsR C Hf xs kvs → TKeys kvs →
    (dget kvs k = none ∧ atKey xs (toNK k) = none) ∨ ∃ d a u y, dget kvs k = some d ∧ atKey xs (toNK k) = some (a, u) ∧ RelV y u ∧ Rep C Hf y d
  | _, _, .nil, _ => .inl ⟨rfl, rfl⟩
  | _, _, .cons (k := k0) (d := d0) (a := a0) (u := u0) (xs := xs) (kvs := kvs) h1 h2 h3 r, ht => by
    have hk0 := (ht _ List.mem_cons_self).2.1
    simp only [dget]
    rw [eqD_dec hk0 hk]
    by_cases q : toNK k0 = toNK k
    · rw [decide_eq_true q, if_pos rfl]
      exact .inr ⟨d0, a0, u0, _, rfl, by simp [atKey, List.find?_cons, q], h2, h3⟩
    · rw [decide_eq_false q, if_neg (by simp)]
      have e : atKey ((toNK k0, a0, u0) :: xs) (toNK k) = atKey xs (toNK k) := by simp [atKey, List.find?_cons, q]
      rw [e]
      exact XsR.at hk r fun p hp => ht p (List.mem_cons_of_mem _ hp)
theorem storedH_cons_eq {k : NestedKey} {a0 a : Addr} {u v : Value} {xs : List (NestedKey × Addr × Value)} (h : k ∉ xs.map (·.1)) : storedH ((k, a0, u) :: xs) k a v = (k, a0, v) :: xs := by
  have e : atKey ((k, a0, u) :: xs) k = some (a0, u) := by simp [atKey, List.find?_cons]
  rw [storedH_old e, List.map_cons, map_putAt_of_not_mem xs k v h]
  simp [PySem.putAt]
theorem storedH_cons_ne {k k' : NestedKey} {a0 a : Addr} {u v : Value} {xs : List (NestedKey × Addr × Value)} (h : k' ≠ k) : storedH ((k', a0, u) :: xs) k a v = (k', a0, u) :: storedH xs k a v := by
  have e : atKey ((k', a0, u) :: xs) k = atKey xs k := by simp [atKey, List.find?_cons, h]
  cases q : atKey xs k with
  | none => rw [storedH_new (e.trans q), storedH_new q]; rfl
  | some p => rw [storedH_old (e.trans q), storedH_old q, List.map_cons]; simp [PySem.putAt, h]
theorem XsR.put {k d : D} {a : Addr} {u : Value} {y : V} (hk : keyOk k = true) (hr : Rep C Hf (.ref a) k) (hy : RelV y u) (hx : Rep C Hf y d) : ∀ {xs : List (NestedKey × Addr × Value)} {kvs : List (D × D)}, XsR C Hf xs kvs → TKeys kvs → (xs.map (·.1)).Nodup → XsR C Hf (storedH xs (toNK k) a u) (dput kvs k d)
  | _, _, .nil, _, _ => .cons hr hy hx .nil
  | _, _, .cons (k := k0) (d := d0) (a := a0) (u := u0) (xs := xs) (kvs := kvs) h1 h2 h3 r, ht, hn => by
    have hk0 := (ht _ List.mem_cons_self).2.1
    rw [List.map_cons, List.nodup_cons] at hn
    simp only [dput]
    rw [eqD_dec hk0 hk]
    by_cases q : toNK k0 = toNK k
    · rw [decide_eq_true q, if_pos rfl, ← q, storedH_cons_eq hn.1]
      exact .cons h1 hy hx r
    · rw [decide_eq_false q, if_neg (by simp), storedH_cons_ne q]
      exact .cons h1 h2 h3 (XsR.put hk hr hy hx r (fun p hp => ht p (List.mem_cons_of_mem _ hp)) hn.2)
theorem dput_mem {kvs : List (D × D)} {k d : D} {p : D × D} (h : p ∈ dput kvs k d) : (∃ q ∈ kvs, q.1 = p.1) ∨ p.1 = k := by
  induction kvs with
  | nil => simp only [dput, List.mem_singleton] at h; subst h; exact .inr rfl
  | cons x r ih =>
    obtain ⟨a, b⟩ := x
    simp only [dput] at h
    split at h
    · rcases List.mem_cons.mp h with q | q
      · subst q; exact .inl ⟨(a, b), List.mem_cons_self, rfl⟩
      · exact .inl ⟨p, List.mem_cons_of_mem _ q, rfl⟩
    · rcases List.mem_cons.mp h with q | q
      · subst q; exact .inl ⟨(a, b), List.mem_cons_self, rfl⟩
      · rcases ih q with ⟨z, hz, e⟩ | e
        · exact .inl ⟨z, List.mem_cons_of_mem _ hz, e⟩
        · exact .inr e
theorem TKeys.put {kvs : List (D × D)} {k d : D} (ht : TKeys kvs) (hk : isTup k = true ∧ keyOk k = true ∧ dep k ≤ 6) : TKeys (dput kvs k d) := fun p hp => by
  rcases dput_mem hp with ⟨q, hq, e⟩ | e
  · rw [← e]; exact ht q hq
  · rw [e]; exact hk
theorem TKeys.dkeys {kvs : List (D × D)} (ht : TKeys kvs) (hn : (kvs.map fun p => toNK p.1).Nodup) : DKeys kvs :=
  ⟨fun p hp => (ht p hp).2, fun p hp q hq => by rw [(ht p hp).1, (ht q hq).1], hn⟩
theorem storedH_nodup {xs : List (NestedKey × Addr × Value)} {k : NestedKey} {a : Addr} {v : Value} (hn : (xs.map (·.1)).Nodup) : ((storedH xs k a v).map (·.1)).Nodup := by
  cases q : atKey xs k with
  | some p => rw [storedH_old q, keys_map_putAt]; exact hn
  | none =>
    rw [storedH_new q, List.map_append, List.nodup_append]
    refine ⟨hn, by simp, fun x hx y hy e2 => ?_⟩
    simp only [List.map_cons, List.map_nil, List.mem_singleton] at hy
    obtain ⟨z, hz, e⟩ := List.mem_map.mp hx
    have h0 : (xs.find? fun x => decide (x.1 = k)) = none := by simpa [atKey] using q
    have := List.find?_eq_none.mp h0 z hz
    exact this (decide_eq_true (e.trans (e2.trans hy)))
end
end Ev


set_option maxHeartbeats 4000000
namespace Ev
open PySem PySem.Spec L2 PyProof.Rows
section
variable {P : Program} {C : Cst} {Hf : Hp}
theorem ents_k : ∀ {es : List DictEntry} {kvs : List (D × D)}, Ents C Hf es kvs → (∀ p ∈ kvs, keyS p.1 = true) → ∃ (ks : List (Key × V)) (vs : List (Key × Value)), KR C Hf ks kvs ∧ KV ks vs ∧ Pairs (mixKind P C.w) es vs ∧ ∀ e ∈ es, ∃ k, (mixKind P C.w).is k e.key = true ∧ e.hash = (mixKind P C.w).hash k
  | _, _, .nil, _ => ⟨[], [], .nil, .nil, .nil, fun _ h => by simp at h⟩
  | _, _, .cons (e := e) (k := k0) (d := d0) (es := es) (kvs := kvs) hh rx hx ry hy r, hk => by
    obtain ⟨ks, vs, h1, h2, h3, h4⟩ := ents_k r fun p hp => hk p (List.mem_cons_of_mem _ hp)
    have hk0 := hk _ List.mem_cons_self
    have his := keyIs_of hx hk0 rx
    have e1 := rep_kV hx hk0
    subst e1
    refine ⟨(toK k0, _) :: ks, (toK k0, e.val) :: vs, .cons hk0 hx hy h1, .cons ⟨rfl, ry⟩ h2, .cons his rfl h3, fun e' he' => ?_⟩
    rcases List.mem_cons.mp he' with q | q
    · subst q; exact ⟨toK k0, his, by rw [hh]; exact toNK_hash hk0⟩
    · exact h4 e' q
theorem KR.val {k : D} (hk : keyS k = true) : ∀ {ks : List (Key × V)} {kvs : List (D × D)}, KR C Hf ks kvs → (dget kvs k = none ∧ valV ks (toK k) = none) ∨ ∃ d y, dget kvs k = some d ∧ valV ks (toK k) = some y ∧ Rep C Hf y d
  | _, _, .nil => .inl ⟨rfl, rfl⟩
  | _, _, .cons (k := k0) (d := d0) (x := x0) (ks := ks) (kvs := kvs) a b c r => by
    simp only [dget]
    rw [eqD_key a hk]
    by_cases q : toK k0 = toK k
    · rw [decide_eq_true q, if_pos rfl]
      exact .inr ⟨d0, x0, rfl, by simp [valV, List.find?_cons, q], c⟩
    · rw [decide_eq_false q, if_neg (by simp)]
      have e : valV ((toK k0, x0) :: ks) (toK k) = valV ks (toK k) := by simp [valV, List.find?_cons, q]
      rw [e]
      exact KR.val hk r
end
/-- the dict at a, in the state -/
structure RawD (C : Cst) (Hf H : Hp) (a : Addr) (kvs : List (D × D)) : Prop where
  at_ : ∃ (o : Obj) (es : List DictEntry) (ep : Nat), H a = some (rawO a o) ∧ o.ExactDict ∧ o.data = .dict es.toArray ep ∧ Ents C Hf es kvs
  sys : (a == sysModules) = false
  few : kvs.length ≤ szL
  keys : DKeys kvs
section
variable {X : Cx} {C : Cst} {pins : List (Addr × Obj)} {σ : L2.St} {H Hf : Hp} {s : Shared} {a : Addr} {kvs : List (D × D)} {k : D} {v : V} {u : Value} {A : Around} {E : Value → Shared → Prop}
theorem skOk_all (h : skOk kvs k = true) : keyS k = true ∧ ∀ p ∈ kvs, keyS p.1 = true := by
  unfold skOk at h
  simpa only [Bool.and_eq_true, List.all_eq_true] using h
theorem tkOk_all (dk : DKeys kvs) (h : tkOk kvs k = true) : (isTup k = true ∧ keyOk k = true ∧ dep k ≤ 6) ∧ TKeys kvs := by
  unfold tkOk at h
  simp only [Bool.and_eq_true, List.all_eq_true, decide_eq_true_eq] at h
  exact ⟨⟨h.1.1.1, h.1.1.2, h.1.2⟩, fun p hp => ⟨h.2 p hp, dk.ok p hp⟩⟩
/-- what the two kinds of keys give -/
theorem rawD_cases (hK : X.K = C.K) (hw : X.w = C.w) (I : Inv X pins σ H s) (sub : Le Hf H) (r : RawD C Hf H a kvs) (hk : dkOk kvs k = true) (hv : Vw C H Hf v k) (rv : RelV v u) :
    (keyS k = true ∧ (∀ p ∈ kvs, keyS p.1 = true) ∧ (mixKind X.prog X.w).is (toK k) u = true ∧ ∃ ks vs, KR C Hf ks kvs ∧ KV ks vs ∧ s.heap.DictOf (mixKind X.prog X.w) a vs) ∨
    ((isTup k = true ∧ keyOk k = true ∧ dep k ≤ 6) ∧ TKeys kvs ∧ ∃ b xs, u = .ref b ∧ Rep C Hf (.ref b) k ∧ (nestedKind X.prog X.w).is s.heap (toNK k) b ∧ XsR C Hf xs kvs ∧ s.heap.DictOfH (nestedKind X.prog X.w) a xs) := by
  obtain ⟨⟨o, es, ep, hH, hc, hd, en⟩, hsys, hz, dk⟩ := r
  have ho : s.heap.get? a = some o := rawO_at I hH
  unfold dkOk at hk
  rw [Bool.or_eq_true] at hk
  rw [hw]
  rcases hk with hk | hk
  · obtain ⟨h1, h2⟩ := skOk_all hk
    obtain ⟨ks, vs, q1, q2, q3, q4⟩ := ents_k (P := X.prog) en h2
    refine .inl ⟨h1, h2, keyIs_of2 hv h1 rv, ks, vs, q1, q2, o, es.toArray, ep, ho, hc, hd, fun e he => q4 e (by simpa using he), by simpa using q3, ?_⟩
    have e : vs.map (·.1) = ks.map (·.1) := by
      clear q1 q3 q4
      unfold KV at q2
      induction q2 with
      | nil => rfl
      | cons h t ih => rw [List.map_cons, List.map_cons, ih, h.1]
    rw [e, q1.keys]
    exact map_nodup dk h2
  · obtain ⟨h1, h2⟩ := tkOk_all dk hk
    obtain ⟨xs, q1, q2⟩ := ents_xs (P := X.prog) en h2
    have hvr : ∃ b, v = .ref b ∧ Rep C Hf (.ref b) k := by
      rcases hv with hv | ⟨b, e, hv⟩
      · have h1' := h1.1
        cases hv <;> first | (simp [isTup] at h1'; done) | (rename_i b _ _ z1 z2; exact ⟨b, rfl, .tup z1 z2⟩)
      · obtain ⟨_, hv⟩ := hv
        have h1' := h1.1
        cases k <;> first | (simp [isTup] at h1'; done) | exact hv.elim
    obtain ⟨b, e, hb⟩ := hvr
    subst e
    have e2 : u = .ref b := rv
    refine .inr ⟨h1, h2, b, xs, e2, hb, ⟨nested_of I hK h1.2.1 (hb.le sub) rfl, by have := nk_dep k; have := h1.2.2; omega⟩, q1, o, es.toArray, ep, ho, hc, hd, by simpa using q2, q1.is I hK sub h2, ?_⟩
    rw [q1.keys]
    exact dk.nd
theorem room_in1 (hu : A.units + 100 < cLine) : (nestedKind X.prog X.w).room A.in1 := by
  show A.in1.units + 8 < cLine
  show A.units + 1 + 8 < cLine
  omega
end
section
variable {X : Cx} {C : Cst} {pins : List (Addr × Obj)} {σ : L2.St} {H Hf : Hp} {s : Shared} {a : Addr} {kvs : List (D × D)} {k : D} {v : V} {u : Value} {A : Around} {E : Value → Shared → Prop}
theorem Vw.rawD {w : V} (h : Vw C H Hf w (.dic kvs)) (sub : Le Hf H) : ∃ a, w = .ref a ∧ RawD C Hf H a kvs := by
  obtain ⟨a, o, es, ep, e, q1, q2, q3, q4, q5, q6, q7⟩ := h.dic sub
  exact ⟨a, e, ⟨⟨o, es, ep, q1, q2, q3, q7⟩, q4, q5, q6⟩⟩
theorem kv_at {ks : List (Key × V)} {vs : List (Key × Value)} (h1 : KR C Hf ks kvs) (h2 : KV ks vs) (hk : keyS k = true) : (dget kvs k = none ∧ valueAt vs (toK k) = none) ∨ ∃ d y w, dget kvs k = some d ∧ valueAt vs (toK k) = some w ∧ RelV y w ∧ Rep C Hf y d := by
  have rel := KV.val h2 (toK k)
  rcases h1.val hk with ⟨q1, q2⟩ | ⟨d, y, q1, q2, q3⟩
  · refine .inl ⟨q1, ?_⟩
    have := rel.isSome_eq
    rw [q2] at this
    cases q : valueAt vs (toK k) with
    | none => rfl
    | some w => rw [q] at this; cases this
  · obtain ⟨w, hw, rw'⟩ := RelO.some_of (v := y) (o := valueAt vs (toK k)) (by rw [← q2]; exact rel)
    exact .inr ⟨d, y, w, q1, hw, rw', q3⟩
theorem raw_getItem {Q : Value → Shared → Prop} {d : D} (hu : A.units + 100 < cLine) (hK : X.K = C.K) (hw : X.w = C.w) (I : Inv X pins σ H s) (sub : Le Hf H) (r : RawD C Hf H a kvs) (hk : dkOk kvs k = true) (hv : Vw C H Hf v k) (rv : RelV v u) (hd : dget kvs k = some d)
    (h : ∀ t y w, RelV y w → Rep C Hf y d → Q w { s with toks := t }) : wpAny (model X.prog X.w) A (getItem (.ref a) u) Q E s := by
  rcases rawD_cases hK hw I sub r hk hv rv with ⟨h1, h2, h3, ks, vs, q1, q2, q3⟩ | ⟨h1, h2, b, xs, h3, h4, h5, q1, q2⟩
  · rcases kv_at q1 q2 h1 with ⟨z, _⟩ | ⟨d', y, w, z1, z2, z3, z4⟩
    · rw [hd] at z; cases z
    · rw [hd] at z1; cases z1
      exact wpAny_getItem_of h3 q3.mapOf z2 (h _ y w z3 z4)
  · subst h3
    rcases q1.at h1.2.1 h2 with ⟨z, _⟩ | ⟨d', a', w, y, z1, z2, z3, z4⟩
    · rw [hd] at z; cases z
    · rw [hd] at z1; cases z1
      exact wpAny_getItem_heap (room_in1 hu) h5 q2 z2 (h _ y w z3 z4)
theorem raw_in {Q : Value → Shared → Prop} (hu : A.units + 100 < cLine) (hK : X.K = C.K) (hw : X.w = C.w) (I : Inv X pins σ H s) (sub : Le Hf H) (r : RawD C Hf H a kvs) (hk : dkOk kvs k = true) (hv : Vw C H Hf v k) (rv : RelV v u)
    (h : ∀ t, Q (.bool (dget kvs k).isSome) { s with toks := t }) : wpAny (model X.prog X.w) A (compareOp .In u (.ref a)) Q E s := by
  have hsys := r.sys
  rcases rawD_cases hK hw I sub r hk hv rv with ⟨h1, h2, h3, ks, vs, q1, q2, q3⟩ | ⟨h1, h2, b, xs, h3, h4, h5, q1, q2⟩
  · refine wpAny_in_of h3 hsys q3.mapOf ?_
    rcases kv_at q1 q2 h1 with ⟨z1, z2⟩ | ⟨d', y, w, z1, z2, z3, z4⟩
    · rw [z2]; rw [z1] at h; exact h _
    · rw [z2]; rw [z1] at h; exact h _
  · subst h3
    refine wpAny_in_heap (room_in1 hu) h5 hsys q2 ?_
    rcases q1.at h1.2.1 h2 with ⟨z1, z2⟩ | ⟨d', a', w, y, z1, z2, z3, z4⟩
    · rw [z2]; rw [z1] at h; exact h _
    · rw [z2]; rw [z1] at h; exact h _
theorem raw_notin {Q : Value → Shared → Prop} (hu : A.units + 100 < cLine) (hK : X.K = C.K) (hw : X.w = C.w) (I : Inv X pins σ H s) (sub : Le Hf H) (r : RawD C Hf H a kvs) (hk : dkOk kvs k = true) (hv : Vw C H Hf v k) (rv : RelV v u)
    (h : ∀ t, Q (.bool (!(dget kvs k).isSome)) { s with toks := t }) : wpAny (model X.prog X.w) A (compareOp .NotIn u (.ref a)) Q E s := by
  have hsys := r.sys
  rcases rawD_cases hK hw I sub r hk hv rv with ⟨h1, h2, h3, ks, vs, q1, q2, q3⟩ | ⟨h1, h2, b, xs, h3, h4, h5, q1, q2⟩
  · refine wpAny_notIn_of h3 hsys q3.mapOf ?_
    rcases kv_at q1 q2 h1 with ⟨z1, z2⟩ | ⟨d', y, w, z1, z2, z3, z4⟩
    · rw [z2]; rw [z1] at h; exact h _
    · rw [z2]; rw [z1] at h; exact h _
  · subst h3
    refine wpAny_notIn_heap (room_in1 hu) h5 hsys q2 ?_
    rcases q1.at h1.2.1 h2 with ⟨z1, z2⟩ | ⟨d', a', w, y, z1, z2, z3, z4⟩
    · rw [z2]; rw [z1] at h; exact h _
    · rw [z2]; rw [z1] at h; exact h _
theorem raw_get {Q : Value → Shared → Prop} {x : Value} {xv : V} {xd : D} (hu : A.units + 100 < cLine) (hK : X.K = C.K) (hw : X.w = C.w) (I : Inv X pins σ H s) (sub : Le Hf H) (r : RawD C Hf H a kvs) (hk : dkOk kvs k = true) (hv : Vw C H Hf v k) (rv : RelV v u) (rx : RelV xv x) (hx : Rep C Hf xv xd)
    (h : ∀ t y w, RelV y w → Rep C Hf y ((dget kvs k).getD xd) → Q w { s with toks := t }) : wpAny (model X.prog X.w) A (call (.builtin "dict.get") [.ref a, u, x]) Q E s := by
  have hsys := r.sys
  rcases rawD_cases hK hw I sub r hk hv rv with ⟨h1, h2, h3, ks, vs, q1, q2, q3⟩ | ⟨h1, h2, b, xs, h3, h4, h5, q1, q2⟩
  · refine call_meetsIn PySem.F.slot_dict_get q3.typeIs PySem.F.entry_dict_get (PySem.F.args_dict_get_3 _ _ _) (meets_dict_get_default (mixKind X.prog X.w) a h3 hsys x) ⟨_, q3.mapOf, ?_⟩
    rcases kv_at q1 q2 h1 with ⟨z1, z2⟩ | ⟨d', y, w, z1, z2, z3, z4⟩
    · rw [z2]; rw [z1] at h; exact h _ xv x rx hx
    · rw [z2]; rw [z1] at h; exact h _ y w z3 z4
  · subst h3
    refine call_meetsIn PySem.F.slot_dict_get q2.typeIs PySem.F.entry_dict_get (PySem.F.args_dict_get_3 _ _ _) (meetsH_dict_get_default (nestedKind X.prog X.w) a b hsys x) ⟨room_in1 hu, _, xs, h5, q2, ?_⟩
    rcases q1.at h1.2.1 h2 with ⟨z1, z2⟩ | ⟨d', a', w, y, z1, z2, z3, z4⟩
    · rw [z2]; rw [z1] at h; exact h _ xv x rx hx
    · rw [z2]; rw [z1] at h; exact h _ y w z3 z4
end
section
variable {X : Cx} {C : Cst}
/-- a[i] -/
theorem r_ix (hK : X.K = C.K) (hw : X.w = C.w) (hu : X.A.units + 100 < cLine) : IxR X (fun x y H Q => rO C .ix [x, y] H Q) := by
  intro value slice pins s σ H x y v u Q I rx ry ⟨Hf, ds, rv, sub, hv, ho, k⟩ hs
  simp only [opF] at ho
  unfold fIx at ho
  split at ho
  · rename_i xs i
    obtain ⟨_, _, e, h1, h2⟩ := hv.two
    cases e
    obtain ⟨a, vs, rfl, sq, r⟩ := h1.lst sub
    obtain rfl := h2.int
    obtain ⟨d, hd, e⟩ := Option.map_eq_some_iff.mp ho
    subst e
    obtain ⟨w, hw, hr⟩ := ixL_reps (H := H) r hd
    exact ix_seq value slice pins s σ H _ _ v u Q I rx ry (.inl ⟨a, vs, i, w, rfl, rfl, .inl sq, hw, k w H Hf (PO.same sub hr)⟩) hs
  · rename_i xs i
    obtain ⟨_, _, e, h1, h2⟩ := hv.two
    cases e
    obtain ⟨a, vs, rfl, sq, r⟩ := h1.tup sub
    obtain rfl := h2.int
    obtain ⟨d, hd, e⟩ := Option.map_eq_some_iff.mp ho
    subst e
    obtain ⟨w, hw, hr⟩ := ixL_reps (H := H) r hd
    exact ix_seq value slice pins s σ H _ _ v u Q I rx ry (.inr (.inl ⟨a, vs, i, w, rfl, rfl, by rw [hK]; exact sq, hw, k w H Hf (PO.same sub hr)⟩)) hs
  · rename_i l i
    obtain ⟨_, _, e, h1, h2⟩ := hv.two
    cases e
    obtain ⟨rfl, hz⟩ := h1.str
    obtain rfl := h2.int
    obtain ⟨c, hc, e⟩ := Option.map_eq_some_iff.mp ho
    subst e
    refine ix_seq value slice pins s σ H _ _ v u Q I rx ry (.inr (.inr ⟨Sx l, i, c, rfl, rfl, by rw [Sx_len, szL_eq]; exact hz, by rw [Sx_cps]; exact ixL_atI hc, ?_⟩)) hs
    exact k _ H Hf (PO.same sub (.str (l := [c]) (show 1 ≤ szL by decide)))
  · rename_i kvs k0
    obtain ⟨_, _, e, h1, h2⟩ := hv.two
    cases e
    split at ho
    · rename_i hk0
      obtain ⟨d, hd, e⟩ := Option.map_eq_some_iff.mp ho
      subst e
      obtain ⟨a, rfl, rd⟩ := h1.rawD sub
      obtain rfl : v = Value.ref a := rx
      have hT : s.TypeIs (.ref a) "dict" := by
        obtain ⟨o, es, ep, hH, hc, hdat, en⟩ := rd.at_
        exact ⟨o, rawO_at I hH, hc.1⟩
      exact tail_any hT slot_dict_getitem.lookup (raw_getItem hu hK hw I sub rd hk0 h2 ry hd fun t y w r1 r2 => ⟨y, H, I.tok _, r1, k y H Hf (PO.same sub r2)⟩) hs
    · cases ho
  · cases ho
theorem v_in (hK : X.K = C.K) (hw : X.w = C.w) (hu : X.A.units + 100 < cLine) : OpV X C (compareOp .In) .in_ := by
  intro pins s σ H Hf x y v u da db r I sub rx ry hx hy ho
  simp only [opF] at ho
  unfold fIn at ho
  split at ho
  · rename_i dx ys e
    cases e
    split at ho
    · rename_i hp
      simp only [Bool.and_eq_true, decide_eq_true_eq] at hp
      cases ho
      obtain ⟨as, r1⟩ := hx.reads hK I sub hp.1.1 rx
      have hpy : plain (.lst ys) = true := by simpa [plain] using hp.1.2
      obtain ⟨bs, r2⟩ := hy.reads hK I sub hpy ry
      have r2' : Reads s.heap u (.list (toPs ys)) bs := by simpa [toP] using r2
      exact PySem.SeqAt.in_list_data r2' r1 (plains_toP _ hp.1.2) (plain_toP _ hp.1.1) (in_room hp.2 hu) (ep_bl sub I (any_toP da hp.1.1 ys hp.1.2))
    · cases ho
  · rename_i dx ys e
    cases e
    split at ho
    · rename_i hp
      simp only [Bool.and_eq_true, decide_eq_true_eq] at hp
      cases ho
      obtain ⟨as, r1⟩ := hx.reads hK I sub hp.1.1 rx
      have hpy : plain (.tup ys) = true := by simpa [plain] using hp.1.2
      obtain ⟨bs, r2⟩ := hy.reads hK I sub hpy ry
      have r2' : Reads s.heap u (.tuple (toPs ys)) bs := by simpa [toP] using r2
      exact PySem.SeqAt.in_tuple_data r2' r1 (plains_toP _ hp.1.2) (plain_toP _ hp.1.1) (in_room hp.2 hu) (ep_bl sub I (any_toP da hp.1.1 ys hp.1.2))
    · cases ho
  · rename_i c l e
    cases e
    obtain ⟨rfl, _⟩ := hx.str
    obtain ⟨rfl, _⟩ := hy.str
    cases ho
    exact op_in_sign pins s σ H _ _ v u _ I rx ry ⟨c, Sx l, rfl, rfl, by rw [contains_sign]; exact ⟨Hf, PO.same sub (.bl _)⟩⟩
  · rename_i k0 kvs e
    cases e
    split at ho
    · rename_i hk0
      cases ho
      obtain ⟨a, rfl, rd⟩ := hy.rawD sub
      obtain rfl : u = Value.ref a := ry
      exact raw_in hu hK hw I sub rd hk0 hx rx fun t => ⟨.bl _, H, I.tok _, rfl, Hf, PO.same sub (.bl _)⟩
    · cases ho
  · cases ho
theorem v_notin (hK : X.K = C.K) (hw : X.w = C.w) (hu : X.A.units + 100 < cLine) : OpV X C (compareOp .NotIn) .notin := by
  intro pins s σ H Hf x y v u da db r I sub rx ry hx hy ho
  simp only [opF] at ho
  unfold fNotin at ho
  split at ho
  · rename_i dx ys e
    cases e
    split at ho
    · rename_i hp
      simp only [Bool.and_eq_true, decide_eq_true_eq] at hp
      cases ho
      obtain ⟨as, r1⟩ := hx.reads hK I sub hp.1.1 rx
      have hpy : plain (.lst ys) = true := by simpa [plain] using hp.1.2
      obtain ⟨bs, r2⟩ := hy.reads hK I sub hpy ry
      have r2' : Reads s.heap u (.list (toPs ys)) bs := by simpa [toP] using r2
      exact PySem.SeqAt.notIn_list_data r2' r1 (plains_toP _ hp.1.2) (plain_toP _ hp.1.1) (in_room hp.2 hu) (ep_bl sub I (by rw [any_toP da hp.1.1 ys hp.1.2]))
    · cases ho
  · rename_i dx ys e
    cases e
    split at ho
    · rename_i hp
      simp only [Bool.and_eq_true, decide_eq_true_eq] at hp
      cases ho
      obtain ⟨as, r1⟩ := hx.reads hK I sub hp.1.1 rx
      have hpy : plain (.tup ys) = true := by simpa [plain] using hp.1.2
      obtain ⟨bs, r2⟩ := hy.reads hK I sub hpy ry
      have r2' : Reads s.heap u (.tuple (toPs ys)) bs := by simpa [toP] using r2
      exact PySem.SeqAt.notIn_tuple_data r2' r1 (plains_toP _ hp.1.2) (plain_toP _ hp.1.1) (in_room hp.2 hu) (ep_bl sub I (by rw [any_toP da hp.1.1 ys hp.1.2]))
    · cases ho
  · rename_i c l e
    cases e
    obtain ⟨rfl, _⟩ := hx.str
    obtain ⟨rfl, _⟩ := hy.str
    cases ho
    exact op_notIn_sign pins s σ H _ _ v u _ I rx ry ⟨c, Sx l, rfl, rfl, by rw [contains_sign]; exact ⟨Hf, PO.same sub (.bl _)⟩⟩
  · rename_i k0 kvs e
    cases e
    split at ho
    · rename_i hk0
      cases ho
      obtain ⟨a, rfl, rd⟩ := hy.rawD sub
      obtain rfl : u = Value.ref a := ry
      exact raw_notin hu hK hw I sub rd hk0 hx rx fun t => ⟨.bl _, H, I.tok _, rfl, Hf, PO.same sub (.bl _)⟩
    · cases ho
  · cases ho
end
end Ev


set_option maxHeartbeats 4000000
namespace Ev
open PySem PySem.Spec L2 PyProof.Rows
section
variable {X : Cx} {C : Cst} {pins : List (Addr × Obj)} {σ : L2.St} {H Hf : Hp} {s : Shared} {a : Addr} {kvs : List (D × D)} {k d : D} {v : V} {u : Value} {A : Around} {E : Value → Shared → Prop}
theorem dput_len (k d : D) : ∀ (kvs : List (D × D)), (dput kvs k d).length ≤ kvs.length + 1
  | [] => Nat.le_refl _
  | (a, b) :: r => by
    simp only [dput]
    split
    · simp
    · have := dput_len k d r
      simp only [List.length_cons]; omega
theorem kv_keys : ∀ {ks : List (Key × V)} {vs : List (Key × Value)}, KV ks vs → ks.map (·.1) = vs.map (·.1)
  | _, _, .nil => rfl
  | _, _, .cons h t => by rw [List.map_cons, List.map_cons, kv_keys t, h.1]
/-- the store -/
theorem raw_setItem {Q : Unit → Shared → Prop} {y : V} {w : Value} (hu : A.units + 100 < cLine) (hK : X.K = C.K) (hw : X.w = C.w) (I : Inv X pins σ H s) (sub : Le Hf H) (r : RawD C Hf H a kvs) (hz : kvs.length < szL) (hk : dkOk kvs k = true) (hv : Rep C Hf v k) (rv : RelV v u) (ry : RelV y w) (hy : Rep C Hf y d)
    (h : ∀ o s', Inv X pins σ (upd H a (rawO a o)) s' → RawD C Hf (upd H a (rawO a o)) a (dput kvs k d) → Q () s') : wpAny (model X.prog X.w) A (setItem (.ref a) u w) Q E s := by
  have hsys := r.sys
  obtain ⟨o, _, _, hH, _⟩ := r.at_
  have hmu : Mut (H a) := by rw [hH]; exact True.intro
  have hlen : (dput kvs k d).length ≤ szL := by have := dput_len k d kvs; omega
  have fin : ∀ (h' : Heap) (o' : Obj) (es' : Array DictEntry) (ep' t : Nat), h'.get? a = some o' → Heap.SameBut a s.heap h' → o'.ExactDict → o'.data = .dict es' ep' → Ents C Hf es'.toList (dput kvs k d) → DKeys (dput kvs k d) → Q () { s with heap := h', toks := t } := by
    intro h' o' es' ep' t ho' hs hc' hd' hen hdk
    have new : ObjOk X.prog X.w (upd H a (rawO a o')) h' a (rawO a o') := ⟨ho', ⟨o', ho'⟩, fun h1 h2 z k => k _ z⟩
    have I2 : Inv X pins σ (upd H a (rawO a o')) { s with heap := h', toks := t } := I.write (x := a) (e := a) hmu (.inl rfl) (fun b q hb z => (hs.2 b hb).trans z) ⟨o', ho'⟩ new
    exact h o' _ I2 ⟨⟨o', es'.toList, ep', upd_same, hc', by rw [hd'], hen⟩, hsys, hlen, hdk⟩
  rcases rawD_cases hK hw I sub r hk (.inl hv) rv with ⟨h1, h2, h3, ks, vs, q1, q2, q3⟩ | ⟨h1, h2, b, xs, h3, h4, h5, q1, q2⟩
  · have hl : vs.length ≤ sizeLine := by
      have e1 := q1.length
      have e2 := q2.length
      rw [szL_eq]; omega
    refine wpAny_setItem_pairs (hsz := hl) h3 q3 fun h' dd' hs => ?_
    obtain ⟨o', es', ep', ho', hc', hd', hk', hp', hn'⟩ := dd'
    have hkv := rep_kV hv h1
    have hnd : (ks.map (·.1)).Nodup := by
      rw [kv_keys q2]
      obtain ⟨_, _, _, _, _, _, _, _, z⟩ := q3
      exact z
    have kr := KR.put h1 (hkv ▸ hv) hy q1 hnd
    have kv := q2.put (toK k) ry
    refine fin h' o' es' ep' _ ho' hs hc' hd' ?_ (kr.dkeys ?_)
    · exact ents_of (entK_of (P := X.prog) (by rw [← hw]; simpa using hp') (fun e he => by rw [← hw]; exact hk' e (by simpa using he)) kv) kr
    · rw [kv_keys kv]; exact hn'
  · subst h3
    have hl : xs.length ≤ sizeLine := by rw [q1.length, szL_eq]; omega
    have hn : (xs.map (·.1)).Nodup := by
      obtain ⟨_, _, _, _, _, _, _, _, z⟩ := q2
      exact z
    refine wpAny_setItem_heap (hsz := hl) (room_in1 hu) h5 q2 fun h' dd' hs => ?_
    obtain ⟨o', es', ep', ho', hc', hd', he', _, hn'⟩ := dd'
    have xp := XsR.put (a := b) h1.2.1 h4 ry hy q1 h2 hn
    refine fin h' o' es' ep' _ ho' hs hc' hd' ?_ ((h2.put h1).dkeys ?_)
    · rw [he', hw]; exact xp.ents
    · rw [← xp.keys]; exact hn'
/-- name[k] = v, a dict -/
def rSetD (C : Cst) : V → V → V → Hp → (Hp → Prop) → Prop := fun o i v H Q => ∃ (Hf : Hp) (a : Addr) (kvs : List (D × D)) (k d : D), o = .ref a ∧ Le Hf H ∧ RawD C Hf H a kvs ∧ kvs.length < szL ∧ dkOk kvs k = true ∧ Rep C Hf i k ∧ Rep C Hf v d ∧
  ∀ o', RawD C Hf (upd H a (rawO a o')) a (dput kvs k d) → Q (upd H a (rawO a o'))
theorem set_dict (hK : X.K = C.K) (hw : X.w = C.w) (hu : X.A.units + 100 < cLine) : PSet X (rSetD C) := by
  intro pins s σ H o i v ov iv u Q I ro ri rv h
  obtain ⟨Hf, a, kvs, k, d, rfl, sub, r, hz, hk, hi, hv, q⟩ := h
  obtain rfl : ov = Value.ref a := ro
  exact raw_setItem hu hK hw I sub r hz hk hi ri rv hv fun o' s' I' r' => ⟨_, I', q o' r'⟩
theorem heap_with (a : Addr) (o : Obj) (hf : (match o with | ⟨_, _, .freed, _⟩ => true | _ => false) = false) : ∃ h : Heap, h.get? a = some o := by
  refine ⟨({ objs := Array.replicate a default } : Heap).push o, ?_⟩
  have := Heap.get?_push_size ({ objs := Array.replicate a default } : Heap) (o := o) (by obtain ⟨c, dd, dt, sl⟩ := o; cases dt <;> first | rfl | cases hf)
  have e : ({ objs := Array.replicate a default } : Heap).objs.size = a := by simp
  rw [e] at this; exact this
theorem raw_nocode {o : Obj} {es : Array DictEntry} {ep : Nat} (hd : o.data = .dict es ep) : ∀ q, rawO a o ≠ LamX.CodeO a q := fun q h => by
  unfold rawO LamX.CodeO at h
  injection h with h
  obtain ⟨hp, e⟩ := heap_with a o (by obtain ⟨c, dd, dt, sl⟩ := o; cases hd; rfl)
  have := congrFun h hp
  rw [eq_iff_iff] at this
  obtain ⟨oc, vs, t, h1, h2, _⟩ := this.mp e
  rw [e] at h1
  cases h1
  rw [hd] at h2
  cases h2
end
end Ev


set_option maxHeartbeats 4000000
namespace Ev
open PySem L2
section
variable {z : Z} {g : G} {σ : L2.St} {H Hf : Hp} {ρ : Rho} {C : Cst}
/-- what a name owns is written -/
theorem SR.writeO {i : Nat} {d0 d' : D} {o o' : HO} {a : Addr} (s : SR C g σ H Hf ρ) (e : ownAt ρ i = .ok d0) (hi : σ[i]? = some (some (V.ref a))) (ha : H a = some o) (nt : NoTab o) (nc : ∀ q, o ≠ LamX.CodeO a q) (hown : Own C (upd H a o') Hf a d') : SR C g σ (upd H a o') Hf (putAt ρ i d') := by
  obtain ⟨a', h1, h2, h3⟩ := s.own e
  rw [hi] at h1; injection h1 with h1; injection h1 with h1; injection h1 with h1; subst h1
  have h1 := hi
  have hn := h2.1
  have hnb : ∀ b o, g.H0 b = some o → (∀ p ∈ g.IO, p.2 ≠ b) → b ≠ a := fun b o e1 hio q => by
    subst q
    rcases h3 with ⟨_, q⟩ | ⟨_, q⟩
    · rw [e1] at q; cases q
    · exact hio _ q rfl
  have other : ∀ {j : Nat} {d : D} {b : Addr}, j ≠ i → ownAt ρ j = .ok d → σ[j]? = some (some (V.ref b)) → Own C H Hf b d → Own C (upd H a o') Hf b d := fun {j d b} hj hd hs ho => by
    have hb : b ≠ a := fun q => s.apart hd e hj hs (by rw [q]; exact h1)
    exact ho.le (Le.refl _) ho.1 (fun o e _ => by rw [upd_ne hb]; exact e)
  refine ⟨by rw [putAt_length]; exact s.len, fun b u q => ?_, fun b o e1 nt hio => ?_, fun b e1 => ?_, s.fz0, tabs_upd s.tabs ha nt nc, s.nft, fun j d q => ?_, fun j d q => ?_, fun j d q => ?_, fun j k d1 d2 b hjk q1 q2 q3 q4 => ?_, s.lent, s.newf, s.lone⟩
  · have hb : b ≠ a := fun q2 => by rw [q2, hn] at q; cases q
    rw [upd_ne hb]; exact s.sub b u q
  · rw [upd_ne (hnb b o e1 hio)]; exact s.base b o e1 nt hio
  · by_cases hb : b = a
    · subst hb; rw [upd_same]; simp
    · rw [upd_ne hb]; exact s.dom b e1
  · rcases putAt_get q with ⟨hj, q⟩ | ⟨hj, q | q⟩
    · exact s.fz j d q
    · cases q
    · cases q
  · rcases putAt_get q with ⟨hj, q⟩ | ⟨hj, q' | q'⟩
    · obtain ⟨b, k1, k2, k3⟩ := s.ow j d q
      exact ⟨b, k1, other hj (by unfold ownAt; rw [q]) k1 k2, k3⟩
    · cases q'
    · subst hj
      cases q'
      rcases h3 with ⟨r1, r2⟩ | ⟨r1, r2⟩
      · exact ⟨a, h1, hown, r2⟩
      · exfalso
        have := putAt_io (d := d') r1
        rw [q] at this; cases this
  · rcases putAt_get q with ⟨hj, q⟩ | ⟨hj, q' | q'⟩
    · obtain ⟨b, k1, k2, k3⟩ := s.io j d q
      exact ⟨b, k1, other hj (by unfold ownAt; rw [q]) k1 k2, k3⟩
    · subst hj
      cases q'
      rcases h3 with ⟨r1, r2⟩ | ⟨r1, r2⟩
      · exfalso
        have := putAt_ow (d := d') r1
        rw [q] at this; cases this
      · exact ⟨a, h1, hown, r2⟩
    · cases q'
  · have own1 : ∃ e1, ownAt ρ j = .ok e1 := by
      rcases putAt_get q1 with ⟨_, q⟩ | ⟨hj, _⟩
      · exact ⟨_, by unfold ownAt; rw [q]⟩
      · subst hj; exact ⟨_, e⟩
    have own2 : ∃ e1, ownAt ρ k = .ok e1 := by
      rcases putAt_get q2 with ⟨_, q⟩ | ⟨hj, _⟩
      · exact ⟨_, by unfold ownAt; rw [q]⟩
      · subst hj; exact ⟨_, e⟩
    obtain ⟨e1, o1⟩ := own1
    obtain ⟨e2, o2⟩ := own2
    exact s.apart o1 o2 hjk q3 q4
/-- name[k] = v, a list or a dict -/
def rSetA (C : Cst) : V → V → V → Hp → (Hp → Prop) → Prop := fun o i v H Q => rSetL o i v H Q ∨ rSetD C o i v H Q
theorem set_any {X : Cx} (hK : X.K = C.K) (hw : X.w = C.w) (hu : X.A.units + 100 < cLine) : PSet X (rSetA C) := fun pins s σ H o i v ov iv u Q I ro ri rv h =>
  h.elim (set_list pins s σ H o i v ov iv u Q I ro ri rv) (set_dict hK hw hu pins s σ H o i v ov iv u Q I ro ri rv)
/-- name[k] = e -/
theorem tS_six {i : Nat} {e ke : Ex} {D : Ends} (h : tS z (.six i ke e) D σ H) : tAsg (tE z e) (gSub (tVar i) (tE z ke) (rSetA z.C)) D σ H := by
  obtain ⟨g, hg, Hf, ρ, s, h⟩ := h
  simp only [evS] at h
  refine ⟨g, hg, Hf, ρ, s, (OutS.bindE h).imp fun r ρ1 H1 Hf1 s1 l1 k v hv => ?_⟩
  obtain ⟨Hf2, s2, l2, hr⟩ := s1.freeze hv
  obtain ⟨d0, hd0, k⟩ := OutS.bind' k slotD_noexc
  obtain ⟨v0, hv0, vw⟩ := s2.view hd0
  refine ⟨v0, hv0, g, hg, Hf2, ρ1, s2, (OutS.bindE (k.le l2)).imp fun q ρ2 H3 Hf3 s3 l3 k u hu => ?_⟩
  obtain ⟨o, ho, k⟩ := OutS.bind' k ownAt_noexc
  cases o with
  | lst ds =>
    cases hq : q.d with
    | int j =>
      rw [hq] at k
      obtain ⟨Hf4, s4, l4, hu2⟩ := s3.freeze hu
      rw [hq] at hu2
      cases hu2
      obtain ⟨a', xs, h1, h2, h3, h4⟩ := s4.writeL ho
      rw [hv0] at h1; injection h1 with h1; injection h1 with h1; subst h1
      dsimp only at k
      split at k
      · rename_i hz
        simp only [Bool.and_eq_true, decide_eq_true_eq] at hz
        refine .inl ⟨a', xs, j, j.toNat, rfl, rfl, h2, ?_, ?_⟩
        · unfold ixN
          rw [if_pos hz.1, if_pos (by rw [h3.length]; exact hz.2)]
        · exact k σ _ Hf4 (h4 _ _ (h3.set (hr.le (l3.trans l4)) j.toNat)) rfl l4
      · exact k.elim
    | _ => rw [hq] at k; exact k.elim
  | dic kvs =>
    dsimp only at k
    split at k
    · rename_i hz
      simp only [Bool.and_eq_true, decide_eq_true_eq] at hz
      obtain ⟨Hf4, s4, l4, hu2⟩ := s3.freeze hu
      obtain ⟨a', h1, h2, _⟩ := s4.own ho
      have h1' := h1
      rw [hv0] at h1; injection h1 with h1; injection h1 with h1; subst h1
      obtain ⟨hn, oo, es, ep, q1, q2, q3, q4, q5, q6, q7⟩ := h2
      refine .inr ⟨Hf4, a', kvs, q.d, r.d, rfl, s4.sub, ⟨⟨oo, es, ep, q1, q2, q3, q7⟩, q4, q5, q6⟩, hz.2, hz.1, hu2, hr.le (l3.trans l4), fun o' rd => ?_⟩
      refine k σ _ Hf4 (s4.writeO ho h1' q1 (fun _ z => by cases z) (raw_nocode q3) ⟨hn, ?_⟩) rfl l4
      obtain ⟨⟨o2, es2, ep2, w1, w2, w3, w4⟩, w5, w6, w7⟩ := rd
      exact ⟨o2, es2, ep2, w1, w2, w3, w5, w6, w7, w4⟩
    · exact k.elim
  | _ => exact k.elim
end
end Ev


set_option maxHeartbeats 4000000
namespace Ev
open PySem PySem.Spec L2 PyProof.Rows PySem.W
section
variable {X : Cx} {C : Cst} {pins : List (Addr × Obj)} {σ : L2.St} {H Hf : Hp} {s : Shared}
theorem reads_ints {h : Heap} : ∀ {ns : List Int} {us : List Value}, Vals (ns.map V.int) us → ∃ as, ReadsAll h us (ns.map PyData.int) as
  | [], _, r => by cases r; exact ⟨[], .nil⟩
  | n :: ns, _, r => by
    cases r with
    | cons r1 rt =>
      obtain ⟨t, rfl⟩ := r1
      obtain ⟨as, q⟩ := reads_ints rt
      exact ⟨_, .cons (.int n t) q⟩
theorem alike_ints (ns : List Int) : AlikeAll (ns.map PyData.int) := by
  refine ⟨fun a ha b hb => ?_, fun a ha => ?_⟩
  · obtain ⟨i, _, rfl⟩ := List.mem_map.mp ha
    obtain ⟨j, _, rfl⟩ := List.mem_map.mp hb
    rfl
  · obtain ⟨i, _, rfl⟩ := List.mem_map.mp ha
    intro z; cases z
theorem depth_ints : ∀ (ns : List Int), PyData.depthAll (ns.map PyData.int) = 0
  | [] => rfl
  | n :: ns => by simp [PyData.depthAll, PyData.depth, depth_ints ns]
theorem fold_max (i : Int) : ∀ is : List Int, is.foldl (fun a y => if a < y then y else a) i = is.foldl max i := fun is => by
  congr 1; funext a y
  rw [Int.max_def]
  split <;> split <;> omega
theorem fold_min (i : Int) : ∀ is : List Int, is.foldl (fun a y => if y < a then y else a) i = is.foldl min i := fun is => by
  congr 1; funext a y
  rw [Int.min_def]
  split <;> split <;> omega
theorem r_max1 (hu : X.A.units + 100 < cLine) (hc : X.calm = true) : CallR X (.builtin "max") (fun vs H Q => rO C .max1 vs H Q) := by
  intro pins s σ H xs us Q I r ⟨Hf, ds, rv, sub, hv, ho, k⟩
  simp only [opF] at ho
  unfold fMax1 at ho
  split at ho
  · split at ho
    · rename_i ys i is hq
      cases ho
      obtain ⟨v, rfl, h1⟩ := hv.one
      obtain ⟨a, vs, rfl, sq, rr⟩ := h1.lst sub
      obtain rfl := ints_reps rr hq
      cases r with
      | cons r1 rt =>
      cases rt
      obtain rfl := (show _ = Value.ref a from r1)
      obtain ⟨its, n, rvv, hl, hz, hob⟩ := lstX I sq
      obtain ⟨as, hr⟩ := reads_ints (h := s.heap) rvv
      refine max_list_data (vs := its.toArray) (I.ok.hd hc) ⟨_, hob, rfl, n, rfl⟩ (by simpa using hr) (alike_ints (i :: is)) (by have := depth_ints (i :: is); simp only [List.map_cons] at this; rw [this]; omega) fun j v h' tk bs _ hv2 hk => ?_
      rw [maxD_ints] at hv2
      cases hv2 with
      | int _ t => exact ⟨.int (is.foldl max i), H, I.kept (t' := tk) hk, ⟨t, rfl⟩, by rw [← fold_max]; exact k _ H Hf (PO.same sub (.int _))⟩
    · cases ho
  · cases ho
theorem r_min1 (hu : X.A.units + 100 < cLine) (hc : X.calm = true) : CallR X (.builtin "min") (fun vs H Q => rO C .min1 vs H Q) := by
  intro pins s σ H xs us Q I r ⟨Hf, ds, rv, sub, hv, ho, k⟩
  simp only [opF] at ho
  unfold fMin1 at ho
  split at ho
  · split at ho
    · rename_i ys i is hq
      cases ho
      obtain ⟨v, rfl, h1⟩ := hv.one
      obtain ⟨a, vs, rfl, sq, rr⟩ := h1.lst sub
      obtain rfl := ints_reps rr hq
      cases r with
      | cons r1 rt =>
      cases rt
      obtain rfl := (show _ = Value.ref a from r1)
      obtain ⟨its, n, rvv, hl, hz, hob⟩ := lstX I sq
      obtain ⟨as, hr⟩ := reads_ints (h := s.heap) rvv
      refine min_list_data (vs := its.toArray) (I.ok.hd hc) ⟨_, hob, rfl, n, rfl⟩ (by simpa using hr) (alike_ints (i :: is)) (by have := depth_ints (i :: is); simp only [List.map_cons] at this; rw [this]; omega) fun j v h' tk bs _ hv2 hk => ?_
      rw [minD_ints] at hv2
      cases hv2 with
      | int _ t => exact ⟨.int (is.foldl min i), H, I.kept (t' := tk) hk, ⟨t, rfl⟩, by rw [← fold_min]; exact k _ H Hf (PO.same sub (.int _))⟩
    · cases ho
  · cases ho
def tGetD (C : Cst) (i : Nat) (tk tx : TE) : TE := fun σ H Q => ∃ a, σ[i]? = some (some (.ref a)) ∧ (∃ (o : Obj), H a = some (rawO a o) ∧ o.ExactDict) ∧ tk σ H fun kv H1 => tx σ H1 fun xv H2 =>
  ∃ (Hf : Hp) (kvs : List (D × D)) (k x : D), Le Hf H2 ∧ RawD C Hf H2 a kvs ∧ dkOk kvs k = true ∧ Vw C H2 Hf kv k ∧ Rep C Hf xv x ∧ ∀ v, Rep C Hf v ((dget kvs k).getD x) → Q v H2
theorem pe_getD {x : Str} {i : Nat} {ek ex : Expr} {p apos cpos : Pos} {tk tx : TE} (hu : X.A.units + 100 < cLine) (hK : X.K = C.K) (hw : X.w = C.w) (hx : PE X (.Name x p) (tVar i)) (hk : PE X ek tk) (he : PE X ex tx) (m : M2 X (.Name x p) "get" apos ek ex cpos) :
    PE X (.Call (.Attribute (.Name x p) "get" apos) [ek, ex] [] cpos) (tGetD C i tk tx) := by
  refine ⟨fun pins s σ H Q I h => ?_⟩
  obtain ⟨a, ha, ⟨o, hH, hD⟩, h⟩ := h
  refine wpAny_Call_method m.base m.few m.line PySem.F.plainAttrs_dict PySem.F.slot_dict_get PySem.F.type_dict_get (thn (hx.run pins s σ H (fun v H1 => v = .ref a ∧ H1 = H) I ⟨.ref a, ha, rfl, rfl⟩) fun u s1 ⟨v, H1, I1, rx, e1, e2⟩ => ?_)
  subst e1 e2
  obtain rfl : u = Value.ref a := rx
  have hat : ObjOk X.prog X.w H1 s1.heap a (rawO a o) := I1.hok a _ hH
  refine ⟨⟨o, hat.1, hD.1⟩, fun b e => ?_, ?_⟩
  · cases e
    exact ⟨o, hat.1, hD.2.1⟩
  rw [m.trees]
  refine Calls.callWith_builtin rfl (Calls.evalArgs_plain (Calls.spliced_cons (thn (hk.run pins s1 σ H1 _ I1 h) fun iv s2 ⟨y, H2, I2, ry, q2⟩ =>
    Calls.spliced_cons (thn (he.run pins s2 σ H2 _ I2 q2) fun fv s3 ⟨z, H3, I3, rz, Hf, kvs, k, xd, sub, hR, hd, hkv, hxv, q3⟩ => Calls.spliced_nil ?_))))
  exact raw_get hu hK hw I3 sub hR hd hkv ry rz hxv fun t y w ryw hr => ⟨y, H3, I3.tok t, ryw, q3 y hr⟩
def emptyD (o : Obj) : Prop := o.ExactDict ∧ ∃ ep, o.data = .dict #[] ep
theorem rawO_nt {a : Addr} {o : Obj} : NoTab (rawO a o) := fun _ z => by cases z
theorem rawO_nc {a : Addr} {o : Obj} : ∀ b q, rawO a o ≠ LamX.CodeO b q ∨ True := fun _ _ => .inr trivial
def tDic0 : TE := fun _ H Q => ∀ a o, H a = none → emptyD o → (a == sysModules) = false → Q (.ref a) (upd H a (rawO a o))
theorem new_sys (I : Inv X pins σ H s) : (s.heap.objs.size == sysModules) = false := beq_eq_false_iff_ne.mpr (Nat.ne_of_gt I.big)
theorem raw_obj {P : Program} {w : World} {H' : Hp} {h : Heap} {a : Addr} {o : Obj} (e : h.get? a = some o) : ObjOk P w H' h a (rawO a o) := ⟨e, ⟨o, e⟩, fun _ _ z k => k _ z⟩
theorem pe_dict0 {pos : Pos} : PE X (.Dict [] [] pos) tDic0 := by
  refine ⟨fun pins s σ H Q I h => wpAny_Dict_empty ?_⟩
  have I2 : Inv X pins σ (upd H s.heap.objs.size (rawO s.heap.objs.size { cls := .type "dict", data := .dict #[] })) { s with heap := s.heap.push { cls := .type "dict", data := .dict #[] } } :=
    I.laid (t' := s.toks) (fun b u e => Heap.get?_push_of_some _ e) (Nat.le_refl _) (raw_obj (Heap.get?_push_size _ rfl))
  exact ⟨.ref s.heap.objs.size, _, I2, rfl, h _ { cls := .type "dict", data := .dict #[] } (I.hok.fresh (Nat.le_refl _)) ⟨⟨rfl, rfl, rfl⟩, 0, rfl⟩ (new_sys I)⟩
def tDic1 (C : Cst) (tk tv : TE) : TE := fun σ H Q => ∀ a o, H a = none → emptyD o → (a == sysModules) = false → tk σ (upd H a (rawO a o)) fun kv H1 => tv σ H1 fun xv H2 =>
  ∃ (Hf : Hp) (k x : D), Le Hf H2 ∧ H2 a = some (rawO a o) ∧ isTup k = true ∧ keyOk k = true ∧ dep k ≤ 6 ∧ Rep C Hf kv k ∧ Rep C Hf xv x ∧ ∀ o', RawD C Hf (upd H2 a (rawO a o')) a [(k, x)] → Q (.ref a) (upd H2 a (rawO a o'))
theorem pe_dict1 {ek ex : Expr} {pos : Pos} {tk tv : TE} (hu : X.A.units + 100 < cLine) (hK : X.K = C.K) (hw : X.w = C.w) (hk : PE X ek tk) (hv : PE X ex tv) : PE X (.Dict [some ek] [ex] pos) (tDic1 C tk tv) := by
  refine ⟨fun pins s σ H Q I h => wpAny_Dict_any rfl rfl (by simp) (by show 1 ≤ 15; decide) ?_⟩
  have I1 : Inv X pins σ (upd H s.heap.objs.size (rawO s.heap.objs.size { cls := .type "dict", data := .dict #[] })) { s with heap := s.heap.push { cls := .type "dict", data := .dict #[] } } :=
    I.laid (t' := s.toks) (fun b u e => Heap.get?_push_of_some _ e) (Nat.le_refl _) (raw_obj (Heap.get?_push_size _ rfl))
  have sys := new_sys I
  have h1 := h _ { cls := .type "dict", data := .dict #[] } (I.hok.fresh (Nat.le_refl _)) ⟨⟨rfl, rfl, rfl⟩, 0, rfl⟩ sys
  generalize s.heap.objs.size = a at I1 sys h1 ⊢
  show wpAny _ _ (do
    let kv ← eval ek X.env
    let vv ← holding [kv] (do let x ← eval ex X.env; standAt pos; pure x)
    return (kv, vv) :: (← holding [kv, vv] (evalPairs []))) _ _ _
  refine wpAny_bind (thn (hk.run pins _ σ _ _ I1 h1) fun u s2 ⟨kv, H2, I2, ru, q2⟩ => ?_)
  refine wpAny_bind (wpAny_holding (wpAny_bind (thn (hv.run pins s2 σ H2 _ I2 q2) fun w s3 ⟨xv, H3, I3, rw', q3⟩ => wpAny_bind (wpAny_standAt (wpAny_pure ?_)))))
  refine wpAny_bind (wpAny_holding (wpAny_pure (wpAny_pure ?_)))
  obtain ⟨Hf, k, x, sub, hat, ht, hko, hdp, hkr, hxr, q⟩ := q3
  have x0 : ObjOk X.prog X.w H3 s3.heap a (rawO a { cls := .type "dict", data := .dict #[] }) := I3.hok a _ hat
  have dm : s3.heap.DictOfH (nestedKind X.prog X.w) a [] := ⟨_, #[], _, x0.1, ⟨rfl, rfl, rfl⟩, rfl, rfl, (fun y hy => by cases hy), List.nodup_nil⟩
  cases k <;> first | (simp [isTup] at ht; done) | skip
  rename_i ks
  cases hkr with
  | @tup b _ _ sq rs =>
  cases ru
  have hkey : (nestedKind X.prog X.w).is s3.heap (toNK (.tup ks)) b := ⟨nested_of I3 hK hko ((Rep.tup sq rs).le sub) rfl, by have := nk_dep (.tup ks); omega⟩
  refine wpAny_storeAllH (knd := nestedKind X.prog X.w) (by show X.A.units + 8 < cLine; omega) [(.ref b, w)] [(toNK (.tup ks), b, w)] [] s3 _ ⟨rfl, rfl, hkey, trivial⟩ dm (by show 0 + 1 ≤ sizeLine; decide) fun h' tk' dm' hs => ?_
  obtain ⟨o', es', ep', ho', hc', hd', he', _, hn'⟩ := dm'
  have xr : XsR C Hf [(toNK (.tup ks), b, w)] [(.tup ks, x)] := .cons (.tup sq rs) rw' hxr .nil
  have new : ObjOk X.prog X.w (upd H3 a (rawO a o')) h' a (rawO a o') := raw_obj ho'
  have I4 : Inv X pins σ (upd H3 a (rawO a o')) { s3 with heap := h', toks := tk' } := I3.write (x := a) (e := a) (by rw [hat]; exact True.intro) (.inl rfl) (fun c z hc e => (hs.2 c hc).trans e) ⟨o', ho'⟩ new
  refine ⟨.ref a, _, I4, rfl, q o' ⟨⟨o', es'.toList, ep', upd_same, hc', by rw [hd'], ?_⟩, sys, by show 1 ≤ szL; decide, ?_⟩⟩
  · have e1 : storedAllH [] [(toNK (.tup ks), b, w)] = [(toNK (.tup ks), b, w)] := rfl
    rw [he', e1, hw]
    exact xr.ents
  · exact TKeys.dkeys (fun p hp => by rw [List.mem_singleton.mp hp]; exact ⟨rfl, hko, hdp⟩) (by simp)
end
section
variable {z : Z} {g : G} {σ : L2.St} {H Hf : Hp} {ρ : Rho}
theorem own_new {C : Cst} {a : Addr} {o : Obj} (ho : emptyD o) (hs : (a == sysModules) = false) (hf : Hf a = none) : Own C (upd H a (rawO a o)) Hf a (.dic []) := by
  obtain ⟨h1, ep, h2⟩ := ho
  exact ⟨hf, o, [], ep, upd_same, h1, h2, hs, Nat.zero_le _, ⟨(fun p hp => by cases hp), (fun p hp => by cases hp), List.nodup_nil⟩, .nil⟩
theorem frz_new (s : SR z.C g σ H Hf ρ) {a : Addr} (ha : H a = none) : g.H0 a = none ∧ Hf a = none ∧ g.Hf0 a = none ∧ ∀ (i : Nat) (d : D), ρ[i]? = some (.ow d) → σ[i]? ≠ some (some (V.ref a)) := by
  have hF : Hf a = none := by
    cases q : Hf a with
    | none => rfl
    | some o => rw [s.sub _ _ q] at ha; cases ha
  refine ⟨?_, hF, ?_, fun i d e q => ?_⟩
  · cases q : g.H0 a with
    | none => rfl
    | some o => exact absurd ha (s.dom a (by rw [q]; simp))
  · cases q : g.Hf0 a with
    | none => rfl
    | some o => rw [s.fz0 _ _ q] at hF; cases hF
  · obtain ⟨b, h1, h2, _⟩ := s.ow i d e
    rw [q] at h1; injection h1 with h1; injection h1 with h1; injection h1 with h1; subst h1
    obtain ⟨o, h3, _⟩ := h2.there
    rw [ha] at h3; cases h3
theorem tE_dic0 {Q : VK} (h : tE z (.dic .n) σ H Q) : tDic0 σ H Q := by
  obtain ⟨g, hg, Hf, ρ, s, h⟩ := h
  simp only [ev, evFs] at h
  intro a o ha ho hs
  obtain ⟨h0, hF, _, _⟩ := frz_new s ha
  have po : Ev.PO z.C H Hf (.ref a) (.ow (.dic [])) (upd H a (rawO a o)) Hf := ⟨fun b u e => by rw [upd_ne (ne_of_none e ha)]; exact e, Le.refl _, fun b u e => by rw [upd_ne (ne_of_none e hF)]; exact s.sub b u e, fun b e => .inl e, ⟨a, rfl, ha, own_new ho hs hF⟩⟩
  obtain ⟨s2, rv⟩ := s.po po
  exact h _ Hf s2 (Le.refl _) _ rv
theorem tE_dic1 {k v : Ex} {Q : VK} (h : tE z (.dic (.c k (.c v .n))) σ H Q) : tDic1 z.C (tE z k) (tE z v) σ H Q := by
  obtain ⟨g, hg, Hf, ρ, s, h⟩ := h
  simp only [ev] at h
  intro a o ha ho hs
  obtain ⟨h0, hF, hF0, hns⟩ := frz_new s ha
  have s1 : SR z.C (g.guard a (rawO a o)) σ (upd H a (rawO a o)) Hf ρ := (s.other h0 hF hns (tabs_new s.tabs ha)).guard h0 upd_same hF hns
  have key : tFs z (.c k (.c v .n)) σ (upd H a (rawO a o)) (fun vs H2 => match vs with
    | [kv, xv] => ∃ (Hf : Hp) (k x : D), Le Hf H2 ∧ H2 a = some (rawO a o) ∧ isTup k = true ∧ keyOk k = true ∧ dep k ≤ 6 ∧ Rep z.C Hf kv k ∧ Rep z.C Hf xv x ∧ ∀ o', RawD z.C Hf (upd H2 a (rawO a o')) a [(k, x)] → Q (.ref a) (upd H2 a (rawO a o'))
    | _ => True) := by
    refine tFs_of hg.guard s1 ((Out.bind h).toGuard h0 fun ds ρ1 H3 Hf3 s3 l3 k3 vs hvs => ?_)
    have u := s3.unguard rawO_nt h0 hF0 s.lent
    have k4 := k3 u.sr
    dsimp only at k4
    split at k4
    · cases hvs; trivial
    · rename_i d1 d2
      cases hvs with
      | cons r1 t =>
      cases t with
      | cons r2 t =>
      cases t
      split at k4
      · rename_i hc
        simp only [Bool.and_eq_true, decide_eq_true_eq] at hc
        refine ⟨Hf3, d1, d2, u.sr.sub, u.at_, hc.1.1, hc.1.2, hc.2, r1, r2, fun o' R' => ?_⟩
        obtain ⟨_, ep, hd⟩ := ho
        have s4 : SR z.C g σ (upd H3 a (rawO a o')) Hf3 ρ1 := u.sr.other h0 u.hf u.ns (tabs_upd u.sr.tabs u.at_ rawO_nt (raw_nocode (es := #[]) hd))
        obtain ⟨⟨o2, es2, ep2, e1, e2, e3, e4⟩, e5, e6, e7⟩ := R'
        exact k4 _ Hf3 s4 (Le.refl _) (.ref a) ⟨a, rfl, ⟨u.hf, o2, es2, ep2, e1, e2, e3, hs, e6, e7, e4⟩, h0, u.ns⟩
      · exact k4.elim
    · exact k4.elim
  exact key
/-- a name's dict, told twice -/
theorem view_dic {i : Nat} {kvs : List (D × D)} (s : SR z.C g σ H Hf ρ) (e : slotD ρ i = .ok (.dic kvs)) : ∃ a, σ[i]? = some (some (.ref a)) ∧ RawD z.C Hf H a kvs := by
  obtain ⟨v, h1, h2⟩ := s.view e
  obtain ⟨a, o, es, ep, rfl, e1, e2, e3, e4, e5, e6, e7⟩ := h2.dic s.sub
  exact ⟨a, h1, ⟨⟨o, es, ep, e1, e2, e3, e7⟩, e4, e5, e6⟩⟩
theorem tE_get {i : Nat} {k x : Ex} {Q : VK} (h : tE z (.get i k x) σ H Q) : tGetD z.C i (tE z k) (tE z x) σ H Q := by
  obtain ⟨g, hg, Hf, ρ, s, h⟩ := h
  simp only [ev] at h
  obtain ⟨d0, h0, h⟩ := Out.bind' h slotD_noexc
  cases d0 with
  | dic kvs0 =>
    obtain ⟨a, ha, R0⟩ := view_dic s h0
    obtain ⟨o0, es0, ep0, q1, q2, q3, q4⟩ := R0.at_
    refine ⟨a, ha, ⟨o0, q1, q2⟩, g, hg, Hf, ρ, s, (Out.bind h).imp fun r ρ1 H1 Hf1 s1 l1 k1 kv hkv => ?_⟩
    obtain ⟨Hf2, s2, l2, hr⟩ := s1.freeze hkv
    refine ⟨g, hg, Hf2, ρ1, s2, (Out.bind (k1.le l2)).imp fun r' ρ2 H3 Hf3 s3 l3 k3 xv hxv => ?_⟩
    obtain ⟨Hf4, s4, l4, hr'⟩ := s3.freeze hxv
    obtain ⟨d1, e1, k4⟩ := Out.bind' (k3.le l4) slotD_noexc
    dsimp only at k4
    cases d1 with
    | dic kvs =>
      dsimp only at k4
      split at k4
      · rename_i hk
        obtain ⟨b, hb, R⟩ := view_dic s4 e1
        have : b = a := by rw [ha] at hb; injection hb with hb; injection hb with hb; injection hb with hb; exact hb.symm
        subst this
        exact ⟨Hf4, kvs, r.d, r'.d, s4.sub, R, hk, .inl (hr.le (l3.trans l4)), hr', fun v hv => k4 H3 Hf4 s4 (Le.refl _) v hv⟩
      · exact k4.elim
    | _ => exact k4.elim
  | _ => exact h.elim
end
end Ev


set_option maxHeartbeats 4000000
namespace Ev
open PySem PySem.Spec PySem.Calls PyProof.Rows L2
/-- what that __init__ promises -/
def spSup (C : Addr) : Sp := fun vs H Q _ => ∃ (a : Addr) (i : Int), vs = [.ref a, .int i] ∧ (i.natAbs.log2 < 1000 ∧ (strI i).length ≤ 2000) ∧ H a = some (exo a C none) ∧ ∀ dx, H dx = none → dx ≠ a → Q .non (upd (upd H dx (exd dx [(("limit" : Str), .int i)])) a (exo a C (some dx)))
structure SupS (scope : Scope) : Prop where
  kind : scope.kind = .function
  co : scope.isCoroutine = false
  gen : scope.isGenerator = false
  self_ : scope.names.lookup ("self" : Str) = some .local
  lim : scope.names.lookup ("limit" : Str) = some .local
  cls : scope.names.lookup ("__class__" : Str) = some .free
  sup : scope.names.lookup ("super" : Str) = some .globalImplicit
  str : scope.names.lookup ("str" : Str) = some .globalImplicit
  nocell : ∀ y ∈ scope.names, y.2 ≠ .cell
  free : ∀ y ∈ scope.names, y.2 = .free → y.1 = ("__class__" : Str)
structure SupF (P : Program) (K : PySem.W.Frag) (mg : Str → Option Value) (C : Addr) : Prop where
  cls : OexC K C
  sup : PySem.W.ks_superIn K C C "__init__" = some (some (.builtin "ValueError.__init__"))
  mro : PySem.W.mroIn K C (.ref C) = some true
  sub : PySem.W.subIn K (.ref C) (.type "ValueError") = some true
  opq : PySem.W.nsIn K PySem.cStatics "thirdparty.any" = some none
  nolim : PySem.W.findIn K (.ref C) "limit" = some none
  msup : mg "super" = none
  mstr : mg "str" = none
  top : (P.main.scope.names.lookup ("super" : Str)).isSome = false
section
variable {P : Program} {w : World} {K : PySem.W.Frag} {mg : Str → Option Value} {base : Heap} {CX : CXT} {k : Nat} {C fI cc cda : Addr} {name qual : Str} {params : Arguments} {scope : Scope} {dV kV doc pm ct oc : Value} {an od : Option Addr} {osl : Array (Option Value)}
theorem method_he {o : Expr} {name : Str} {apos pos : Pos} {args : List Expr} {env : Env} (hl : (apos.endLine == pos.line) = true) (hf : methodCallForm (args.length + 0) (backTo pos (starEach args env)) [] = true) :
    eval (.Call (.Attribute o name apos) args [] pos) env = (do
      let ov ← attributeBase o name env (eval o env)
      standAt apos.atName
      let (f, first) ← holding [ov] (getMethod ov name (do return (← importBound o env).getD true))
      callWith pos f first (backTo pos (starEach args env)) []) := by
  rw [arm_eval_Call]
  show (do
    let ov ← attributeBase o name env (eval o env)
    standAt apos.atName
    methodCall o name apos pos env ov (args.length + 0) (backTo pos (starEach args env)) []) = _
  unfold methodCall methodCallPos calleeOf
  rw [hf, hl]
  rfl
theorem boot_super : bootBuiltins "super" = some (.type "super") := by first | rfl | kernel_rfl | decide +kernel
theorem fnok_sup {m : Str} {j : Nat} {p1 p2 p3 p4 p5 p6 p7 p8 p9 p10 p11 p12 p13 p14 : Pos} {ar : Arg} {cl ccl : Value} {cld cdd : Option Addr} {csl ccs : Array (Option Value)} {vs : Array Value} {file : Str} {tf : Tok} (S : SupS scope) (F : SupF P K mg C)
    (lk : K.lookup fI = some ⟨oc, od, .func (PySem.W.ksFn name qual params [.Expr (.Call (.Attribute (.Call (.Name "super" p1) [] [] p2) "__init__" p3) [.BinOp (.Constant (.str m) j p4) .Add (.Call (.Name "str" p5) [.Name "limit" p6] [] p7) p8] [] p9) p10, .Assign [.Attribute (.Name "self" p11) "limit" p12] (.Name "limit" p13) p14] scope dV kV doc pm an (.ref cda) ct cc), osl⟩)
    (hcd : PySem.W.codeIn K (.ref cda) qual = true) (hcda : K.lookup cda = some ⟨ccl, cdd, .fields vs, ccs⟩) (hvs : vs[2]? = some (.str file tf)) (hfile : ((P.main.file : Str) == file) = true)
    (hcell : K.lookup cc = some ⟨cl, cld, .cell (some (.ref C)), csl⟩) (hp : (params.posonlyargs ++ params.args).head? = some ar) (har : ar.arg = "self") (hline : (p3.endLine == p9.line) = true) (hm : m.length ≤ 1000) :
    FnOk P w K mg base CX (k + 1) fI (PySem.W.ksFn name qual params [.Expr (.Call (.Attribute (.Call (.Name "super" p1) [] [] p2) "__init__" p3) [.BinOp (.Constant (.str m) j p4) .Add (.Call (.Name "str" p5) [.Name "limit" p6] [] p7) p8] [] p9) p10, .Assign [.Attribute (.Name "self" p11) "limit" p12] (.Name "limit" p13) p14] scope dV kV doc pm an (.ref cda) ct cc) ["self", "limit"] (spSup C) := by
  refine ⟨fun vs H Q E h => ?_, fun A outer s H args us vs0 Q E hr e0 hb r hsp => ?_⟩
  · obtain ⟨a, i, rfl, _⟩ := h; rfl
  obtain ⟨a, i, rfl, hi, ha, hq⟩ := hsp
  have KX : K.In s.heap := e0.mod.kin.keeps fun b o e => (e0.bs b o e).1
  have lim : s.heap.NoLimit := e0.mod.nolimit.keeps fun b o e => (e0.bs b o e).1
  cases r with
  | @cons _ u0 _ us1 ra r =>
  cases r with
  | @cons _ u1 _ us2 ri r =>
  cases r
  obtain rfl : u0 = .ref a := ra
  obtain ⟨t, rfl⟩ : ∃ t, u1 = .int i t := ri
  have hccb : ∀ b o, K.lookup b = some o → base.get? b = some o := fun b o e => e0.mod.kin _ _ e
  refine PySem.ks_codeAny_call_defAt (fd := PySem.W.ksFn name qual params _ scope dV kV doc pm an (.ref cda) ct cc) (binds := [(("self" : Str), .ref a), (("limit" : Str), .int i t)]) hr.depth (KX _ _ lk) rfl lim (PySem.W.codeRec_of KX hcd) rfl hb S.nocell (fun x hx => ?_) (fun h₁ hns k1 => ?_) S.co S.gen S.kind
  · rcases List.mem_cons.mp hx with e | hx
    · subst e; exact S.self_
    rcases List.mem_cons.mp hx with e | hx
    · subst e; exact S.lim
    · cases hx
  obtain ⟨hh, g, d, tk, os⟩ := s
  let env : Env := PySem.W.ksEnv qual scope hh.objs.size fI (.ref cda) cc
  let X : Cx := Cx.mk P w K mg base (A.deeper env) ["self", "limit"] ⟨hh, g, d, tk, os⟩ H env outer (env :: outer) [] (fun x => !(x == ("__class__" : Str))) true []
    ( fun e s' => wpAny (model P w) (A.deeper env) (leaving env e) (fun _ s'' => CX outer H ⟨hh, g, d, tk, os⟩ E e s'') (fun e' s'' => CX outer H ⟨hh, g, d, tk, os⟩ E e' s'') s')
  have celltop : ∀ x c, X.env.cells.lookup x = some c → x = ("__class__" : Str) ∧ c = cc := fun x c e => by
    have e' : ([(("__class__" : Str), cc)] : List (Str × Addr)).lookup x = some c := e
    by_cases hx : x = ("__class__" : Str)
    · subst hx
      rw [List.lookup_cons, beq_self_eq_true] at e'
      cases e'
      exact ⟨rfl, rfl⟩
    · have : (x == ("__class__" : Str)) = false := by simpa using hx
      rw [List.lookup_cons, this] at e'
      cases e'
  have I : Inv X [] [some (.ref a), some (.int i)] H ⟨h₁, g, d, tk + 2, os⟩ := by
    refine ⟨⟨e0.mod, S.kind, rfl, rfl, Nat.le_refl _, fun y z c h1 h2 => ?_, fun y hy => ?_, fun y c hf h => ?_, fun _ => hr.hd, Around.frames_deeper e0.frames, .inr ⟨rfl, rfl⟩, fun b z => absurd (show b ∈ ([] : List Addr) from z) (by simp), e0.bs, e0.bsz, fun b _ _ => by show b ∉ ([] : List Addr); simp, fun b z => absurd (show b ∈ ([] : List Addr) from z) (by simp), e0.funs, e0.frf⟩,
      rfl, e0.bare, Un.kept k1, ⟨_, hns, fun n y v h1 h2 h3 => ?_⟩, fun y c h => ?_, e0.hok.fresh (Nat.le_refl _), fun y c h => ?_, fun p hp => absurd (show p ∈ ([] : List (Addr × Obj)) from hp) (by simp), e0.hok.kept k1, rfl⟩
    · rw [(celltop y c h1).1, (celltop z c h2).1]
    · have hy : scope.names.lookup y = some .cell ∨ scope.names.lookup y = some .free := hy
      rcases hy with hy | hy
      · exact absurd rfl (S.nocell _ (PySem.mem_of_lookup hy))
      · obtain rfl := S.free _ (PySem.mem_of_lookup hy) rfl
        exact ⟨cc, rfl⟩
    · rw [(celltop y c h).1] at hf; cases hf
    · have key : ∀ (x : Str) (v : V) (u : Value), scope.names.lookup x = some .local → RelV v u → (fun x => ([(("self" : Str), .ref a), (("limit" : Str), .int i t)] : List (Str × Value)).reverse.lookup x) x = some u → ∃ u, RelV v u ∧ Look X.env h₁ (fun x => ([(("self" : Str), .ref a), (("limit" : Str), .int i t)] : List (Str × Value)).reverse.lookup x) x u :=
        fun x v u hl hr he => ⟨u, hr, .inl ⟨hl, he⟩⟩
      match n, h1, h2 with
      | 0, h1, h2 =>
        cases h1; cases h2
        exact key _ _ (.ref a) S.self_ rfl rfl
      | 1, h1, h2 =>
        cases h1; cases h2
        exact key _ _ (.int i t) S.lim ⟨t, rfl⟩ rfl
    · rw [(celltop y c h).2]
      exact ⟨some (.ref C), _, k1 _ _ (KX _ _ hcell), rfl⟩
    · rw [(celltop y c h).2]
      exact (e0.bs _ _ (hccb _ _ hcell)).2
  obtain ⟨nm, q, N, bs, bm, sn, sub, ab, col, dd, j0, j1, j2, j3, j5, hC, hbm⟩ := F.cls.cls
  have hclsC : PySem.W.clsIn K C = some { name := nm, bases := bs, mro := .ref C :: bm, ns := N, qualname := q, hasDict := true, slotNames := sn, subclasses := sub, abstract := ab, collection := col, hasDel := false } := by unfold PySem.W.clsIn; rw [hC] <;> rfl
  have K1 : K.In h₁ := KX.keeps k1
  obtain ⟨t1, ho⟩ := exo_at I.hok ha
  have gl : ∀ {x : Str}, scope.names.lookup x = some .globalImplicit → Gl X x := fun h => h
  have hinter : interactive env = false := by
    unfold interactive
    simp [env, PySem.W.ksEnv, PySem.W.envX, S.kind]
  refine PySem.ks_wpAt_execs_cons (PySem.ks_wpAt_Expr_any (PySem.ks_wpAt_MethodCall ?_ (method_he hline rfl)) hinter rfl)
  refine PySem.ks_wpAt_super_base (env := env) S.sup S.cls (by decide) rfl (K1 _ _ lk) rfl hp rfl (K1 _ _ hcda) rfl hvs hfile F.top ?_
  obtain ⟨mb, hb1, hb2⟩ := I.mod.blt
  refine PySem.W.ks_loadName_global S.kind S.sup (Calls.loadGlobal_builtin (e0.mod.glob.keeps I.bk) F.msup (hb1.keeps I.bk) ((hb2 _ (by decide)).trans boot_super) ⟨rfl, ?_⟩)
  refine wpAny_loadName_free S.kind S.cls rfl ⟨_, K1 _ _ hcell, rfl⟩ ?_
  rw [har]
  refine wpAny_loadName_local S.kind S.self_ hns rfl ?_
  refine PySem.ks_wpAny_isType_cls (K1 _ _ hC) rfl ⟨rfl, ?_⟩
  refine PySem.ks_wpAny_call_super (K1 _ _ hC) rfl ho rfl (fun c e => by cases e) (PySem.W.looks_mroIn K1 F.mro) fun h2 e2 k2 => ?_
  have I2 : Inv X [] [some (.ref a), some (.int i)] H ⟨h2, g, d, tk + 2, os⟩ := I.kept (t' := tk + 2) k2
  have hI : PySem.W.InstAt h2 a { cls := .ref C, dict := none, data := .fields #[.ref t1, .none, .none, .none, .bool false, .none] } C none := ⟨k2 _ _ ho, rfl, rfl, trivial⟩
  refine PySem.W.kxs_getMethod PySem.W.kxs_ValueError e2 (PySem.W.looks_opaque I2.kIn F.opq) (l₀ := .ref C :: bm) (fun A Q E s k q => wpAny_bind ((PySem.W.looks_clsIn I2.kIn hclsC) A _ E s k (wpAny_pure q))) rfl I2.kIn (by
    have := F.sup
    unfold PySem.W.ks_superIn at this
    rw [hclsC] at this
    exact this) (hI.type.andThen (PySem.W.looks_subIn I2.kIn F.sub)) (PySem.W.ks_ne I2.kIn hI hclsC) (by decide) ?_
  -- the wrapper stands
  have ku : (h2.push (PySem.W.kxs_mw "ValueError.__init__" a)).get? h2.objs.size = some (PySem.W.kxs_mw "ValueError.__init__" a) := Heap.get?_push_at rfl rfl
  have I3' : Inv X [] [some (.ref a), some (.int i)] H ⟨h2.push (PySem.W.kxs_mw "ValueError.__init__" a), g, d, tk + 2 + 1, os⟩ := I2.kept (t' := tk + 2 + 1) fun b u e => Heap.get?_push_of_some _ e
  have I3 : Inv X [(h2.objs.size, PySem.W.kxs_mw "ValueError.__init__" a)] [some (.ref a), some (.int i)] H ⟨h2.push (PySem.W.kxs_mw "ValueError.__init__" a), g, d, tk + 2 + 1, os⟩ := I3'.pins_of fun p hp => by
    obtain rfl := List.mem_singleton.mp hp
    exact ⟨ku, I2.hok.fresh (Nat.le_refl _), Nat.ne_of_gt I2.lt, I2.nofs (Nat.le_refl _), fun v e => by cases e⟩
  have pv : PE X (.Name "limit" p6) (tVar 1) := pe_var (i := 1) rfl (.inl S.lim) (by decide) (by decide)
  have pstr := pe_callTy (p := p5) (pos := p7) call_str_int (gl S.str) F.mstr PyProof.Rows.boot_str (pa_cons pv pa_nil) (by decide) (by decide)
  have pm : PE X (.Constant (.str m) j p4) (tC (.str m)) := pe_str
  have parg := pe_op (pos := p8) op_add_str pm pstr
  have pa := pa_cons parg pa_nil
  refine PySem.W.kxs_callWith (i := "ValueError.__init__") (x := a) rfl (evalArgs_plain (thn (pa.run p9 _ _ _ H (fun vs H1 => H1 = H ∧ ∃ z, vs = [.str z]) I3 ?_) fun us s4 ⟨vs4, H4, I4, r4, e4, z4, ev4⟩ => ?_))
  · refine ⟨.int i, rfl, ⟨i, rfl, by have := hi.1; omega, m, _, rfl, rfl, ?_, rfl, _, rfl⟩⟩
    have e1 : (Str.ofString (toString i)).length = (strI i).length := by
      unfold strI Str.length; simp
    have : (3000 : Nat) ≤ sizeLine := by decide
    rw [e1]
    have := hi.2
    omega
  obtain rfl := e4
  subst ev4
  cases r4 with
  | @cons _ z5 _ us5 rz rn =>
  cases rn
  have pin4 := (I4.pin _ (List.mem_append_right _ (List.mem_singleton.mpr rfl))).1
  refine ⟨pin4, ?_⟩
  -- the wrapper is called
  obtain ⟨t5, ho5⟩ := exo_at I4.hok ha
  obtain ⟨h5, g5, d5, tk5, os5⟩ := s4
  have FB := PySem.F.excBase_ValueError
  refine wpAny_call (codeAny_of_tree ?_)
  show wpAny _ (A.deeper env).in1 (callAny (.ref h2.objs.size) ⟨[z5], []⟩) _ _ _
  simp only [callAny]
  refine wpAny_bind (wpAny_load pin4 ?_)
  simp only [PySem.W.kxs_mw, show (Value.type "method-wrapper" == Value.type "method" || Value.type "method-wrapper" == Value.type "builtin_function_or_method" || Value.type "method-wrapper" == Value.type "method-wrapper") = true by decide, if_true]
  refine PySem.W.KFB.if_so (by decide) ?_
  refine wpAny_bind (PySem.W.check_bound_init FB.toExcCallFacts (I4.kIn _ _ hC) ho5 rfl ?_)
  refine wpAny_bind (wpAny_pure (wpAny_pure ?_))
  refine ⟨plainId_quiet FB.init.plain _, codeAny_builtin FB.initEntry ?_⟩
  refine PySem.W.exc_init_tree (cls := .ref C) (t0 := t5) (dv := none) (c2 := .none) (c3 := .none) (b4 := .bool false) ho5 (by show 1 ≤ sizeLine; decide) fun h6 k6 e6 _ => ?_
  have J := I4.write (t' := tk5) (h' := h6) (x := a) (e := a) (o := exo a C none) (by rw [ha]; exact True.intro) (.inl rfl) k6 ⟨_, e6⟩ (exo_ok e6)
  have eu : upd H4 a (exo a C none) = H4 := by
    funext b
    by_cases hb : b = a
    · rw [hb, upd_same, ha]
    · rw [upd_ne hb]
  rw [eu] at J
  -- the field is stored
  have ps : PS X (.Assign [.Attribute (.Name "self" p11) "limit" p12] (.Name "limit" p13) p14) (tOst K "limit" (tVar 0) (tVar 1)) :=
    ps_ost (pe_var (i := 0) rfl (.inl S.self_) (by decide) (by decide)) (pe_var (i := 1) rfl (.inl S.lim) (by decide) (by decide))
  refine wpAt_of_wpAny (wpAny_mono ((pss_one ps).run _ _ _ H4 { nx := fun _ H' => Q .non H', rt := Q } J ?_) (fun fl s7 hs => ?_) fun e s7 hs => hs)
  · exact ⟨.int i, rfl, .ref a, rfl, a, C, rfl, F.cls, F.nolim, .inl ⟨ha, fun dx n ne => hq dx n ne⟩⟩
  · cases fl with
    | next =>
      obtain ⟨σ', H', J', q'⟩ := hs
      exact ⟨.non, H', J'.os, J'.bare, J'.base, J'.hok, rfl, q'⟩
    | brk => obtain ⟨_, _, _, q'⟩ := hs; exact q'.elim
    | cont => obtain ⟨_, _, _, q'⟩ := hs; exact q'.elim
    | ret u =>
      obtain ⟨v, σ', H', J', r', q'⟩ := hs
      exact ⟨v, H', J'.os, J'.bare, J'.base, J'.hok, r', q'⟩
end
end Ev


set_option maxHeartbeats 4000000
namespace Ev
open PySem PySem.Spec PySem.Calls PyProof.Rows L2 LamX
/-- C(e), C's __init__ being such -/
theorem pmk_sup {X : Cx} {CX : CXT} {x : Str} {C fI : Addr} {k : Nat} {fd : FuncData} {ps : List Str} {sp : Sp} {e : Expr} {es : List Expr} {ta : TA} {p pos : Pos} (T : OexC X.K C) (iC : PySem.W.findIn X.K (.ref C) "__init__" = some (some (.ref fI))) (tI : PySem.W.typeIn X.K (.ref fI) = some (.type "function"))
    (F1 : FnOk X.prog X.w X.K X.mg X.base CX k fI fd ps sp) (hr : Room (k + 1) X.A) (hb : Binds X.K fd ps []) (hx : Passes CX X (fun _ _ _ => False)) (hg : Gl X x) (hm : X.mg x = some (.ref C)) (ha : PA X (e :: es) ta) (hdb : (x == ("__debug__" : Str)) = false)
    (he : starEach (e :: es) X.env = (false, eval e X.env) :: starEach es X.env) (hpl : (backTo pos (starEach es X.env)).any (·.1) = false) : L2N.PMk X (.Call (.Name x p) (e :: es) [] pos) (tMkO C sp [] ta) := by
  intro pins s σ H Q I h
  obtain ⟨nm, q, N, bs, bm, sn, sub, ab, col, dd, j0, j1, j2, j3, j5, hC, hbm⟩ := T.cls
  refine wpAny_Call_Name_kw (ld_glob I hg hm (PySem.W.callWith_K (h₀ := X.base) I.ok.mod.kin T.kC (thn (ha.run pos pins s σ H _ I h) fun us s1 hh => ?_) he hpl) hdb)
  obtain ⟨vs, H1, I1, r1, hz, q1⟩ := hh
  refine ⟨I1.kIn, ?_⟩
  show wpAny _ _ (call (.ref C) us) _ _ _
  obtain ⟨hp, gs, dr, tk, os⟩ := s1
  -- where the new exception will stand
  generalize ea : hp.objs.size + 1 = A1
  have hA : hp.objs.size ≤ A1 := by omega
  have hq := q1 A1 (I1.hok.fresh hA)
  rw [List.append_nil] at hq
  have grown : ∀ b o, hp.get? b = some o → ((hp.push (PySem.W.kdv_tup us)).push (PySem.HandSPX.excO C hp.objs.size)).get? b = some o := fun b o z => Heap.get?_push_of_some _ (Heap.get?_push_of_some _ z)
  have stands : ((hp.push (PySem.W.kdv_tup us)).push (PySem.HandSPX.excO C hp.objs.size)).get? A1 = some (PySem.HandSPX.excO C hp.objs.size) := by subst ea; heap_get
  have I2 := I1.laid (t' := tk) (a := A1) (o := exo A1 C none) grown hA (exo_ok stands)
  have r2 : Vals (V.ref A1 :: vs) (Value.ref A1 :: us) := .cons rfl r1
  have hlen : (Value.ref A1 :: us).length = ps.length := by
    have := r2.length
    rw [F1.len _ _ _ _ hq] at this
    exact this.symm
  have husz : us.length ≤ sizeLine := by
    rw [← Paired.length r1, sizeLine_eq]; omega
  have bnd := hb _ (Value.ref A1 :: us) I2.kIn (by rw [List.append_nil]; exact hlen)
  rw [List.append_nil] at bnd
  have made := codeAny_mono (F1.run _ X.stack _ _ ⟨Value.ref A1 :: us, []⟩ (Value.ref A1 :: us) _ _ (fun _ _ _ => False) (hr.make C us []) (I2.env0.make C us []) bnd r2 hq) (R' := PySem.W.InitBack A1 (fun r s' => match r with | .ok (.ret u) => L2N.MkP X pins σ Q u s' | .ok _ => False | .error er => X.xe er s')) fun r s' hq' => ?_
  · subst ea
    refine wpAny_call (codeAny_mono (PySem.HandSPX.call_own F.excBase_ValueError (fun Y => PySem.HandSPX.refsVE_contains Y bm hbm) (I1.kIn _ _ hC) (PySem.W.looks_findIn I1.kIn iC) (fun self => PySem.W.bind_fn I1.kIn self tI) husz made) fun r s' z => ?_)
    exact z
  · cases r with
    | error er => exact hx pins σ _ _ er s' I2 hq'
    | ok fl =>
      cases fl with
      | ret u =>
        obtain ⟨v, H2, os2, bare2, un2, hok2, rv, rfl, d, fs, e1, e2, e3, q2⟩ := hq'
        obtain ⟨h2, gg, dd2, tt, oo⟩ := s'
        obtain ⟨t0, G0, J, kG, ge, hoe, na⟩ := mk_end0 (d2 := dd2) (t2 := tt) I1 hA grown un2 hok2 os2 bare2 e1 e2 e3
        exact ⟨rv, A1, _, _, ⟨G0, gg, dd2, tt, oo⟩, _, .ref C, some d, rfl, J, kG, ge, hoe, ⟨rfl, rfl, fun ws hw => by cases hw; rfl⟩, rfl, rfl, na, rfl, bare2, raises_own T.exC T.tyC, q2⟩
      | next => exact False.elim hq'
      | brk => exact False.elim hq'
      | cont => exact False.elim hq'
/-- an exception that has come down to the def's frame, as the clauses meet it -/
structure Come (X : Cx) (pins : List (Addr × Obj)) (a : Addr) (B : Heap) (cls : Value) (d : Option Addr) (σ : L2.St) (H : Hp) (s : Shared) : Prop where
  inv : Inv X pins σ H s
  fly : HandSPX.FlyingZ B (X.env :: X.outer) a (L2N.Zn cls d) s.heap
  nH : H a = none
  nL : a ≠ X.env.locals
  nF : a ∉ X.fs
  up : ∀ h', HandSPX.FlyingZ B (X.env :: X.outer) a (L2N.Zn cls d) h' → s.heap.UpToSlots h' → Inv X pins σ H { s with heap := h' }
  out : ∀ (W : WX) (h' : Heap), L2N.Takes X W → W cls d σ H → HandSPX.HeldZ B (X.env :: X.outer) a (L2N.Zn cls d) X.env.locals h' → s.heap.UpToSlots h' → X.xe (.ref a) { s with heap := h' }
section
variable {X : Cx} {pins : List (Addr × Obj)} {a : Addr} {B : Heap} {cls : Value} {d : Option Addr} {σ : L2.St} {H : Hp} {s : Shared} {D : Ends} {i : Nat} {n : Str}
/-- no clause is left -/
theorem Come.none (c : Come X pins a B cls d σ H s) (hf : X.env.frame = some X.env.locals) {W : WX} (tk : L2N.Takes X W) (w : W cls d σ H) : wpAny (model X.prog X.w) X.A (handleBy (.ref a) X.env []) (SP X pins D) X.xe s := by
  refine wpAny_handleBy_nil ?_
  obtain ⟨_, _, _, oe, vs, T, oT, ts', he, _, hd, h1, _⟩ := id c.fly
  unfold PySem.passOn
  refine wpAny_bind (wpAny_field he hd h1 ?_)
  rw [if_neg (by simp)]
  have leave : wpAny (model X.prog X.w) X.A (setFlight (.ref a) X.env.frame) (fun _ s4 => wpAny (model X.prog X.w) X.A (throw (.ref a) : Sem Flow) (SP X pins D) X.xe s4) X.xe s := by
    rw [hf]
    exact HandSPX.setFlight_upZ c.fly fun h4 held up => wpAny_throw (c.out W h4 tk w held up)
  first
    | exact wpAny_bind (wpAny_pure (wpAny_bind leave))
    | exact wpAny_bind leave
/-- one clause, then those behind it -/
theorem Come.clause (c : Come X pins a B cls d σ H s) (hN : X.N.Nodup) (hi : X.N[i]? = some n) (hln : X.env.kindOf n = some .local) {x : Str} {k : Value} {ts : Addr → Value → Option Addr → TS} {W : WX} {b0 : Stmt} {suite : List Stmt} {np hp : Pos} {rest : List ExceptHandler} (hc : Names X x k)
    (hsu : ∀ (oe : Obj) (pn : List (Addr × Obj)), L2N.Zn cls d oe → (∃ vs, oe.data = .fields vs) → PSs (X.suite a ((a, oe) :: pn)) (b0 :: suite) (ts a cls d))
    (hw : wAs X.K k i ts W D cls d σ H) (hrest : W cls d σ H → wpAny (model X.prog X.w) X.A (handleBy (.ref a) X.env rest) (SP X pins D) X.xe s) :
    wpAny (model X.prog X.w) X.A (handleBy (.ref a) X.env (.ExceptHandler (some (.Name x np)) (some n) (b0 :: suite) hp :: rest)) (SP X pins D) X.xe s := by
  obtain ⟨b, hb, yes, no⟩ := hw
  have ok := c.inv.ok
  obtain ⟨oe, vs, he, hz, hd⟩ := c.fly.there
  have inside : ∀ {s' : Shared} {oe' : Obj}, Inv X pins σ H s' → s'.heap.get? a = some oe' → (∃ ws, oe'.data = .fields ws) → Inv (X.suite a ((a, oe') :: (X.pn ++ pins))) [] σ H s' := fun {s' oe'} J e ⟨ws, q⟩ => J.suite e q c.nH c.nL c.nF
  refine wpAny_handleBy_cons (codeAny_handlers_test ?_) (by intro q; cases q)
  have isClass := PySem.W.exm_one (M := model X.prog X.w) (h := s.heap) c.inv.kIn (fun A Q E s k q => wpAny_typeOf_ref (k _ _ he) (by rw [hz.1]; exact q)) hb
  have S0 := inside c.inv he ⟨_, hd⟩
  have named : ∀ {Q E : Value → Shared → Prop}, Q k s → wpAny (model X.prog X.w) (X.A.mark (some (.ref a))) (eval (.Name x np) X.env) Q E s := fun {Q E} q => by
    obtain ⟨g1, g2, m | ⟨m, v, ne⟩⟩ := hc
    · exact ld_glob (X := X.suite a ((a, oe) :: (X.pn ++ pins))) S0 g1 m q g2
    · exact ld_blt (X := X.suite a ((a, oe) :: (X.pn ++ pins))) S0 g1 m v q ne g2
  refine named (isClass.here ?_)
  cases b with
  | false => exact hrest (no rfl)
  | true =>
    refine codeAny_handlers_suite_as (HandSPX.lands_againZ c.fly fun h4 fly4 up4 => ?_)
    obtain ⟨oe4, vs4, he4, hz4, hd4⟩ := fly4.there
    have S4 := inside (c.up h4 fly4 up4) he4 ⟨_, hd4⟩
    refine store_ok (X := X.suite a ((a, oe4) :: (X.pn ++ pins))) (v := .ref a) S4 hN hi (.inl hln) rfl (fun s5 S5 => ?_) (.inr hln)
    have gone : ∀ {σ6 : L2.St} {H6 : Hp} {s6 : Shared} {Q : Shared → Prop}, Inv (X.suite a ((a, oe4) :: (X.pn ++ pins))) [] σ6 H6 s6 → (∀ s7, Inv X pins (σ6.set i .none) H6 s7 → Q s7) →
        wpAny (model X.prog X.w) X.A (do bindName X.env n .none; unbindBehindTheSuite X.env n hp) (fun _ s7 => Q s7) X.xe s6 := fun {σ6 H6 s6 Q} S6 hq => gone_ok (S6.unsuite ok) hN hi hln hq
    refine wpAny_mono ((hsu oe4 (X.pn ++ pins) hz4 ⟨_, hd4⟩).run [] s5 _ H _ S5 (yes rfl a c.nH)) (fun f s6 e6 => ?_) (fun _ _ q => False.elim q)
    cases f with
    | ret u => obtain ⟨v6, _, _, S6, r6, q6⟩ := e6; exact gone S6 fun s7 J7 => ⟨v6, _, _, J7, r6, q6⟩
    | next => obtain ⟨_, _, S6, q6⟩ := e6; exact gone S6 fun s7 J7 => ⟨_, _, J7, q6⟩
    | cont => obtain ⟨_, _, S6, q6⟩ := e6; exact gone S6 fun s7 J7 => ⟨_, _, J7, q6⟩
    | brk => obtain ⟨_, _, S6, q6⟩ := e6; exact gone S6 fun s7 J7 => ⟨_, _, J7, q6⟩
end
theorem ps_try_as2 {X : Cx} {body : List Stmt} {pos : Pos} {i : Nat} {n x1 x2 : Str} {k1 k2 : Value} {ts1 ts2 : Addr → Value → Option Addr → TS} {tb : WX → TS} {Wout : WX} {b1 b2 : Stmt} {r1 r2 : List Stmt} {np1 np2 hp1 hp2 : Pos}
    (hs : X.stack = X.env :: X.outer) (hf : X.env.frame = some X.env.locals) (hN : X.N.Nodup) (hi : X.N[i]? = some n) (hln : X.env.kindOf n = some .local) (h1 : Names X x1 k1) (h2 : Names X x2 k2) (tk : L2N.Takes X Wout)
    (hb : ∀ (W : WX) (pn : List (Addr × Obj)) (xe : Value → Shared → Prop), L2N.Takes (X.tr pn xe) W → PassesOwn (model X.prog X.w) X.A X.env xe → PSs (X.tr pn xe) body (tb W))
    (s1 : ∀ (a : Addr) (oe : Obj) (cls : Value) (d : Option Addr) (pn : List (Addr × Obj)), L2N.Zn cls d oe → (∃ vs, oe.data = .fields vs) → PSs (X.suite a ((a, oe) :: pn)) (b1 :: r1) (ts1 a cls d))
    (s2 : ∀ (a : Addr) (oe : Obj) (cls : Value) (d : Option Addr) (pn : List (Addr × Obj)), L2N.Zn cls d oe → (∃ vs, oe.data = .fields vs) → PSs (X.suite a ((a, oe) :: pn)) (b2 :: r2) (ts2 a cls d)) :
    PS X (.Try body [.ExceptHandler (some (.Name x1 np1)) (some n) (b1 :: r1) hp1, .ExceptHandler (some (.Name x2 np2)) (some n) (b2 :: r2) hp2] [] [] pos) (fun D σ H => tb (wAs X.K k1 i ts1 (wAs X.K k2 i ts2 Wout D) D) D σ H) := by
  refine ⟨fun pins s σ H D I h => ?_⟩
  have ok := I.ok
  have hfr : X.A.frames = some (X.env :: X.outer) := by rw [ok.frames, hs]
  refine wpAny_Try_except (wpAny_mono ((hb _ (X.pn ++ pins) (fun e s₁ => wpAny (model X.prog X.w) X.A (noteFrame e X.env) (fun _ s₂ => wpAny (model X.prog X.w) X.A (setFlight e none) (fun _ s₃ =>
    wpAny (model X.prog X.w) X.A (handleBy e X.env [.ExceptHandler (some (.Name x1 np1)) (some n) (b1 :: r1) hp1, .ExceptHandler (some (.Name x2 np2)) (some n) (b2 :: r2) hp2]) (SP X pins D) X.xe s₃) X.xe s₂) X.xe s₁)
    (fun u s' air => ?_) PassesOwn.looking).run [] s σ H D (I.toTry _) h) (fun f s1' e1 => ?_) (fun _ _ e => e))
  · obtain ⟨a, B, sI, pins', σ', H', cls, d, rfl, J0, nb, up, sky, na, os, ag, w⟩ := air
    have J := J0.ofTry ok
    rw [show (X.tr (X.pn ++ pins) _).stack = X.env :: X.outer from hs] at sky
    show wpAny (model X.prog X.w) X.A (noteFrame (.ref a) X.env) _ _ _
    refine L2N.Sky.land L2N.Zn.steady hfr hf sky fun h3 fly3 up3 => ?_
    have J3 : Inv X pins σ' H' { s' with heap := h3 } := J.landed nb fly3.1 (up.trans up3) os ag
    obtain ⟨oe3, vs3, he3, hz3, hd3⟩ := fly3.there
    have far : a ∉ frs (X.env :: X.outer) := fun hm => by
      obtain ⟨_, o', e', nf⟩ := fly3.2.2.1.mem hm
      rw [he3] at e'; cases e'
      exact nf _ hd3
    have c : Come X pins a B cls d σ' H' { s' with heap := h3 } := ⟨J3, fly3, na, fun q => far (List.mem_filterMap.mpr ⟨X.env, List.mem_cons_self, by rw [hf, q]⟩), fun hm => by
        obtain ⟨e, he, q⟩ := List.mem_filterMap.mp hm
        exact far (List.mem_filterMap.mpr ⟨e, List.mem_cons_of_mem _ he, q⟩),
      fun h4 fly4 up4 => J.landed nb fly4.1 ((up.trans up3).trans up4) os ag,
      fun W h4 tkW hW held up4 => tkW _ _ ⟨a, B, sI, pins, σ', H', cls, d, rfl, J, nb, (up.trans up3).trans up4, .inr (.inr (by rw [hs]; exact held)), na, os, ag, hW⟩⟩
    exact c.clause hN hi hln h1 (fun oe pn => s1 a oe cls d pn) w fun w2 => c.clause hN hi hln h2 (fun oe pn => s2 a oe cls d pn) w2 fun w3 => c.none hf tk w3
  · cases f with
    | next => obtain ⟨_, _, J', q⟩ := e1; exact wpAny_execs_nil ⟨_, _, J'.ofTry ok, q⟩
    | ret u => obtain ⟨v, _, _, J', r, q⟩ := e1; exact ⟨v, _, _, J'.ofTry ok, r, q⟩
    | brk => obtain ⟨_, _, J', q⟩ := e1; exact ⟨_, _, J'.ofTry ok, q⟩
    | cont => obtain ⟨_, _, J', q⟩ := e1; exact ⟨_, _, J'.ofTry ok, q⟩
end Ev


set_option maxHeartbeats 4000000
namespace Ev
open PySem L2 PyProof.Rows
inductive GK where | fn (j : Nat) | cls (c : Nat) | con (g : Nat) | clsM (c : Nat)
  deriving DecidableEq
/-- where a piece of text stands: the module's names, the scope, the names whose cells are the block's, the names of the def -/
structure MC where
  nm : List (Str × GK)
  sc : Scope
  fnb : Str → Bool
  N : List Str
  lam : Bool
  flt : Option Str
def bltL : List Str := ["len", "abs", "int", "max", "min", "list", "tuple", "all", "any", "isinstance", "range", "enumerate", "zip", "sum", "sorted", "set", "str", "dict", "bool"]
def MC.isG (m : MC) (x : Str) : Bool := decide (m.sc.names.lookup x = some .globalImplicit)
def visB (sc : Scope) (x : Str) : Bool := match sc.names.lookup x with
  | some .local => true | some .cell => true | some .free => true | _ => false
def MC.isV (m : MC) (i : Nat) (x : Str) : Bool := decide (m.N[i]? = some x) && visB m.sc x && !(x == ("__debug__" : Str)) && !(x == ("__classdict__" : Str))
/-- a name that may be stored -/
def MC.isL (m : MC) (i : Nat) (x : Str) : Bool := decide (m.N[i]? = some x) && (decide (m.sc.names.lookup x = some .local) || (decide (m.sc.names.lookup x = some .cell) && m.fnb x))
theorem visB_ok {sc : Scope} {x : Str} (h : visB sc x = true) : Vis sc x := by
  unfold visB at h
  split at h
  · rename_i q; exact .inl q
  · rename_i q; exact .inr (.inl q)
  · rename_i q; exact .inr (.inr q)
  · cases h
structure XF (m : MC) (X : Cx) (C : Cst) : Prop where
  sc : X.env.scope = m.sc
  N : X.N = m.N
  fn : X.fn = m.fnb
  K : X.K = C.K
  w : X.w = C.w
  calm : X.calm = true
  nd : X.N.Nodup
  blt : ∀ x ∈ bltL, X.mg x = none
  un : X.A.units + 100 < cLine
section
variable {m : MC} {X : Cx} {C : Cst}
theorem XF.gl (f : XF m X C) {x : Str} (h : m.isG x = true) : Gl X x := by
  unfold MC.isG at h
  show X.env.scope.names.lookup x = _
  rw [f.sc]; exact of_decide_eq_true h
theorem XF.vis (f : XF m X C) {i : Nat} {x : Str} (h : m.isV i x = true) : X.N[i]? = some x ∧ Vis X.env.scope x ∧ (x == ("__debug__" : Str)) = false ∧ (x == ("__classdict__" : Str)) = false := by
  unfold MC.isV at h
  simp only [Bool.and_eq_true, Bool.not_eq_true', decide_eq_true_eq] at h
  exact ⟨by rw [f.N]; exact h.1.1.1, by rw [f.sc]; exact visB_ok h.1.1.2, h.1.2, h.2⟩
theorem XF.loc (f : XF m X C) {i : Nat} {x : Str} (h : m.isL i x = true) : X.N[i]? = some x ∧ Loc X.env.scope x ∧ (X.fn x = true ∨ X.env.scope.names.lookup x = some .local) := by
  unfold MC.isL at h
  simp only [Bool.and_eq_true, Bool.or_eq_true, decide_eq_true_eq] at h
  obtain ⟨h1, h2⟩ := h
  rw [f.N, f.sc, f.fn]
  rcases h2 with q | ⟨q, r⟩
  · exact ⟨h1, .inl q, .inr q⟩
  · exact ⟨h1, .inr q, .inl r⟩
end
def notStar : Expr → Bool | .Starred .. => false | _ => true
theorem star_cons {e : Expr} {es : List Expr} {env : Env} (h : notStar e = true) : starEach (e :: es) env = (false, eval e env) :: starEach es env := by
  cases e <;> first | rfl | cases h
theorem star_any {pos : Pos} {env : Env} : ∀ {es : List Expr}, es.all notStar = true → (backTo pos (starEach es env)).any (·.1) = false
  | [], _ => rfl
  | e :: es, h => by
    have h' : notStar e = true ∧ es.all notStar = true := by simpa using h
    rw [star_cons h'.1]
    show (false || (backTo pos (starEach es env)).any (·.1)) = false
    rw [star_any h'.2]; rfl
inductive PEs (X : Cx) : List Expr → List TE → Prop
  | nil : PEs X [] []
  | cons {e : Expr} {es : List Expr} {t : TE} {ts : List TE} : PE X e t → PEs X es ts → PEs X (e :: es) (t :: ts)
def tL : List TE → TA
  | [] => tNil
  | t :: ts => tCons t (tL ts)
theorem PEs.pa {X : Cx} : ∀ {es : List Expr} {ts : List TE}, PEs X es ts → es.all notStar = true → PA X es (tL ts)
  | _, _, .nil, _ => pa_nil
  | e :: es, _, .cons h r, hs => by
    have h' : notStar e = true ∧ es.all notStar = true := by simpa using hs
    exact pa_cons h (r.pa h'.2) (star_cons h'.1)
theorem PE.imp {X : Cx} {e : Expr} {t t' : TE} (h : PE X e t) (k : ∀ σ H Q, t' σ H Q → t σ H Q) : PE X e t' := ⟨fun pins s σ H Q I q => h.run pins s σ H Q I (k σ H Q q)⟩
theorem PT.imp {X : Cx} {e : Expr} {t t' : TT} (h : PT X e t) (k : ∀ σ H Q, t' σ H Q → t σ H Q) : PT X e t' := ⟨fun pins s σ H Q I q => h.run pins s σ H Q I (k σ H Q q)⟩
theorem PS.imp {X : Cx} {e : Stmt} {t t' : TS} (h : PS X e t) (k : ∀ D σ H, t' D σ H → t D σ H) : PS X e t' := ⟨fun pins s σ H D I q => h.run pins s σ H D I (k D σ H q)⟩
theorem PSs.imp {X : Cx} {e : List Stmt} {t t' : TS} (h : PSs X e t) (k : ∀ D σ H, t' D σ H → t D σ H) : PSs X e t' := ⟨fun pins s σ H D I q => h.run pins s σ H D I (k D σ H q)⟩
theorem PI.imp {X : Cx} {tg e : Expr} {t t' : TI} (h : PI X tg e t) (k : ∀ σ H R, t' σ H R → t σ H R) : PI X tg e t' := ⟨fun pins s σ H R I q => h.run pins s σ H R I (k σ H R q)⟩
theorem PI.or {X : Cx} {tg e : Expr} {t t' : TI} (h : PI X tg e t) (h' : PI X tg e t') : PI X tg e (fun σ H R => t σ H R ∨ t' σ H R) :=
  ⟨fun pins s σ H R I q => q.elim (h.run pins s σ H R I) (h'.run pins s σ H R I)⟩
def opTag : Operator → Operator → Bool
  | .Add, .Add => true | .Sub, .Sub => true | .Mult, .Mult => true | .FloorDiv, .FloorDiv => true | .Mod, .Mod => true | .Pow, .Pow => true | _, _ => false
theorem opTag_eq {a b : Operator} (h : opTag a b = true) : a = b := by cases a <;> cases b <;> first | rfl | cases h
def binForm (op : Operator) : Expr → Option (List Expr)
  | .BinOp a o b _ => if opTag o op then some [a, b] else none
  | _ => none
def cmpTag : CmpOp → CmpOp → Bool
  | .Eq, .Eq => true | .NotEq, .NotEq => true | .Lt, .Lt => true | .LtE, .LtE => true | .Gt, .Gt => true | .GtE, .GtE => true
  | .Is, .Is => true | .IsNot, .IsNot => true | .In, .In => true | .NotIn, .NotIn => true | _, _ => false
theorem cmpTag_eq {a b : CmpOp} (h : cmpTag a b = true) : a = b := by cases a <;> cases b <;> first | rfl | cases h
def notSet : Expr → Bool | .Set .. => false | _ => true
theorem notSet_mark {op : CmpOp} {e : Expr} (h : notSet e = true) : behindInMarks op e = false := by
  cases e <;> first | rfl | cases h
def cmpForm (op : CmpOp) : Expr → Option (List Expr)
  | .Compare a [o] [b] _ => if cmpTag o op && notSet b then some [a, b] else none
  | _ => none
def unForm : Expr → Option (List Expr)
  | .UnaryOp .USub a _ => some [a]
  | _ => none
def notSlice : Expr → Bool | .Slice .. => false | _ => true
def ixForm : Expr → Option (List Expr)
  | .Subscript a b _ => if notSlice b then some [a, b] else none
  | _ => none
def callForm (m : MC) (f : Str) : Expr → Option (List Expr)
  | .Call (.Name x _) (e :: es) [] _ => if decide (x = f) && m.isG x && (e :: es).all notStar then some (e :: es) else none
  | _ => none
def tyB : Ty → Bool | .tOwn _ => false | _ => true
def isiForm (m : MC) (t : Ty) : Expr → Option (List Expr)
  | .Call (.Name x _) [a, .Name y _] [] _ => if decide (x = "isinstance") && m.isG x && notStar a && decide (y = Str.ofString (tyN t)) && m.isG y && tyB t then some [a] else none
  | _ => none
def lsetForm (m : MC) : Expr → Option (List Expr)
  | .Call (.Name x _) [.Call (.Name y _) [a] [] _] [] _ => if decide (x = "len") && m.isG x && decide (y = "set") && m.isG y && notStar a then some [a] else none
  | _ => none
def rgForm (m : MC) (f : Str) : Expr → Option (List Expr)
  | .Call (.Name x _) [.Call (.Name y _) [a] [] _] [] _ => if decide (x = f) && m.isG x && decide (y = "range") && m.isG y && notStar a then some [a] else none
  | _ => none
def opForm (m : MC) (o : Op) (ex : Expr) : Option (List Expr) := match o with
  | .add => binForm .Add ex | .sub => binForm .Sub ex | .mul => binForm .Mult ex | .fdiv => binForm .FloorDiv ex | .mod => binForm .Mod ex | .pow => binForm .Pow ex
  | .eq => cmpForm .Eq ex | .ne => cmpForm .NotEq ex | .lt => cmpForm .Lt ex | .le => cmpForm .LtE ex | .gt => cmpForm .Gt ex | .ge => cmpForm .GtE ex | .is => cmpForm .Is ex | .isnot => cmpForm .IsNot ex | .in_ => cmpForm .In ex | .notin => cmpForm .NotIn ex
  | .neg => unForm ex
  | .ix => ixForm ex
  | .len => callForm m "len" ex | .abs => callForm m "abs" ex | .int => callForm m "int" ex | .max2 => callForm m "max" ex | .min2 => callForm m "min" ex
  | .lst => callForm m "list" ex | .tup => callForm m "tuple" ex | .all => callForm m "all" ex | .any => callForm m "any" ex | .sum => callForm m "sum" ex | .str => callForm m "str" ex
  | .isi t => isiForm m t ex
  | .lset => lsetForm m ex
  | .srt => callForm m "sorted" ex
  | .max1 => callForm m "max" ex | .min1 => callForm m "min" ex
  | .lrg => rgForm m "list" ex
  | .trg => rgForm m "tuple" ex
  | _ => none
section
variable {m : MC} {X : Cx} {C : Cst} {ts : List TE} {ex : Expr} {xs : List Expr}
/-- an operation's reading by its operands' -/
def tOpL (C : Cst) (o : Op) (ts : List TE) : TE := fun σ H Q => tL ts σ H fun vs H1 => rO C o vs H1 Q
theorem bin_ok {o : Op} {op : Operator} (h : OpV X C (binaryOp op) o) (hf : binForm op ex = some xs) (hp : PEs X xs ts) : PE X ex (tOpL C o ts) := by
  unfold binForm at hf
  split at hf
  · split at hf
    · rename_i ht
      cases hf
      obtain rfl := opTag_eq ht
      cases hp with
      | cons h1 r => cases r with
        | cons h2 r => cases r; exact pe_op h.opr h1 h2
    · cases hf
  · cases hf
theorem cmp_ok {o : Op} {op : CmpOp} (h : OpV X C (compareOp op) o) (hf : cmpForm op ex = some xs) (hp : PEs X xs ts) : PE X ex (tOpL C o ts) := by
  unfold cmpForm at hf
  split at hf
  · split at hf
    · rename_i ht
      cases hf
      simp only [Bool.and_eq_true] at ht
      obtain rfl := cmpTag_eq ht.1
      cases hp with
      | cons h1 r => cases r with
        | cons h2 r => cases r; exact pe_cmpR h.opr h1 h2 (notSet_mark ht.2)
    · cases hf
  · cases hf
theorem call_ok {o : Op} {f : Str} {id : String} (F : XF m X C) (h : CallR X (.builtin id) (fun vs H Q => rO C o vs H Q)) (hv : bootBuiltins f = some (.builtin id)) (hm : X.mg f = none) (hn : f ≠ "__name__") (hdb : (f == ("__debug__" : Str)) = false)
    (hf : callForm m f ex = some xs) (hp : PEs X xs ts) : PE X ex (tOpL C o ts) := by
  unfold callForm at hf
  split at hf
  · split at hf
    · rename_i ht
      cases hf
      simp only [Bool.and_eq_true, decide_eq_true_eq] at ht
      obtain ⟨⟨rfl, hg⟩, hs⟩ := ht
      have hs' := hs
      simp only [List.all_cons, Bool.and_eq_true] at hs'
      exact pe_callB h (F.gl hg) hm hv (hp.pa hs) hn hdb (star_cons hs'.1) (star_any hs'.2)
    · cases hf
  · cases hf
theorem ty_ok {o : Op} {f : Str} {T : String} (F : XF m X C) (h : CallR X (.type T) (fun vs H Q => rO C o vs H Q)) (hv : bootBuiltins f = some (.type T)) (hm : X.mg f = none) (hn : f ≠ "__name__") (hdb : (f == ("__debug__" : Str)) = false)
    (hf : callForm m f ex = some xs) (hp : PEs X xs ts) : PE X ex (tOpL C o ts) := by
  unfold callForm at hf
  split at hf
  · split at hf
    · rename_i ht
      cases hf
      simp only [Bool.and_eq_true, decide_eq_true_eq] at ht
      obtain ⟨⟨rfl, hg⟩, hs⟩ := ht
      have hs' := hs
      simp only [List.all_cons, Bool.and_eq_true] at hs'
      exact pe_callTy h (F.gl hg) hm hv (hp.pa hs) hn hdb (star_cons hs'.1) (star_any hs'.2)
    · cases hf
  · cases hf
theorem ix_ok (F : XF m X C) (hf : ixForm ex = some xs) (hp : PEs X xs ts) : PE X ex (tOpL C .ix ts) := by
  unfold ixForm at hf
  split at hf
  · rename_i a b pos
    split at hf
    · rename_i ht
      cases hf
      cases hp with
      | cons h1 r => cases r with
        | cons h2 r =>
          cases r
          exact pe_ix (r_ix F.K F.w F.un) h1 h2 (fun o i => by cases b <;> first | rfl | cases ht)
    · cases hf
  · cases hf
theorem un_ok (hf : unForm ex = some xs) (hp : PEs X xs ts) : PE X ex (tOpL C .neg ts) := by
  unfold unForm at hf
  split at hf
  · cases hf
    cases hp with
    | cons h1 r => cases r; exact pe_un r_neg h1
  · cases hf
theorem ty_boot : ∀ t : Ty, (∀ c, t ≠ .tOwn c) → bootBuiltins (Str.ofString (tyN t)) = some (.type (tyN t)) ∧ (Str.ofString (tyN t)) ∈ bltL ∧ Str.ofString (tyN t) ≠ ("__name__" : Str) ∧ (Str.ofString (tyN t) == ("__debug__" : Str)) = false := by
  intro t ht
  cases t with
  | tOwn c => exact absurd rfl (ht c)
  | _ => exact ⟨by with_unfolding_all rfl, by decide, by decide, by decide⟩
def Mono (t : TE) : Prop := ∀ σ H (Q Q' : VK), (∀ v H, Q v H → Q' v H) → t σ H Q → t σ H Q'
theorem isi_ok {t : Ty} (F : XF m X C) (hmo : ∀ t ∈ ts, Mono t) (hf : isiForm m t ex = some xs) (hp : PEs X xs ts) : PE X ex (tOpL C (.isi t) ts) := by
  unfold isiForm at hf
  split at hf
  · rename_i x p a y p2 pos
    split at hf
    · rename_i ht
      cases hf
      simp only [Bool.and_eq_true, decide_eq_true_eq] at ht
      obtain ⟨⟨⟨⟨⟨rfl, hg⟩, hs⟩, rfl⟩, hgy⟩, hown⟩ := ht
      cases hp with
      | cons h1 r =>
        cases r
        obtain ⟨b1, b2, b3, b4⟩ := ty_boot t fun c e => by subst e; cases hown
        have hy : PE X (.Name (Str.ofString (tyN t)) p2) (tC (.ty (tyN t))) := pe_bltn (F.gl hgy) (F.blt _ b2) b1 rfl b3 b4
        have := pe_callB (pos := pos) (p := p) (r_isi F.K (t := t)) (F.gl hg) (F.blt _ (by decide)) (by with_unfolding_all rfl) (pa_cons h1 (pa_cons hy pa_nil) (star_cons hs)) (by decide) (by decide) (star_cons hs) rfl
        exact PE.imp this fun σ H Q q => hmo _ List.mem_cons_self σ H _ _ (fun v H k => ⟨v, rfl, k⟩) q
    · cases hf
  · cases hf
theorem lset_ok (F : XF m X C) (hf : lsetForm m ex = some xs) (hp : PEs X xs ts) : PE X ex (tOpL C .lset ts) := by
  unfold lsetForm at hf
  split at hf
  · split at hf
    · rename_i ht
      cases hf
      simp only [Bool.and_eq_true, decide_eq_true_eq] at ht
      obtain ⟨⟨⟨⟨rfl, hg⟩, rfl⟩, hgy⟩, hs⟩ := ht
      cases hp with
      | cons h1 r =>
        cases r
        exact pe_lset F.K F.calm (F.gl hg) (F.blt _ (by decide)) (F.gl hgy) (F.blt _ (by decide)) h1 (star_cons hs)
    · cases hf
  · cases hf
theorem lrg_ok (F : XF m X C) (hmo : ∀ t ∈ ts, Mono t) (hf : rgForm m "list" ex = some xs) (hp : PEs X xs ts) : PE X ex (tOpL C .lrg ts) := by
  unfold rgForm at hf
  split at hf
  · split at hf
    · rename_i ht
      cases hf
      simp only [Bool.and_eq_true, decide_eq_true_eq] at ht
      obtain ⟨⟨⟨⟨rfl, hg⟩, rfl⟩, hgy⟩, hs⟩ := ht
      cases hp with
      | cons h1 r =>
        cases r
        exact pe_lrg F.calm (F.gl hg) (F.blt _ (by decide)) (F.gl hgy) (F.blt _ (by decide)) h1 (hmo _ List.mem_cons_self) (star_cons hs)
    · cases hf
  · cases hf
theorem trg_ok (F : XF m X C) (hmo : ∀ t ∈ ts, Mono t) (hf : rgForm m "tuple" ex = some xs) (hp : PEs X xs ts) : PE X ex (tOpL C .trg ts) := by
  unfold rgForm at hf
  split at hf
  · split at hf
    · rename_i ht
      cases hf
      simp only [Bool.and_eq_true, decide_eq_true_eq] at ht
      obtain ⟨⟨⟨⟨rfl, hg⟩, rfl⟩, hgy⟩, hs⟩ := ht
      cases hp with
      | cons h1 r =>
        cases r
        exact pe_trg F.calm (F.gl hg) (F.blt _ (by decide)) (F.gl hgy) (F.blt _ (by decide)) h1 (hmo _ List.mem_cons_self) (star_cons hs)
    · cases hf
  · cases hf
theorem op_ok {o : Op} (F : XF m X C) (hmo : ∀ t ∈ ts, Mono t) (hf : opForm m o ex = some xs) (hp : PEs X xs ts) : PE X ex (tOpL C o ts) := by
  have hu := F.un
  cases o <;> simp only [opForm] at hf <;> try (cases hf; done)
  case add => exact bin_ok (v_add F.K) hf hp
  case sub => exact bin_ok v_sub hf hp
  case mul => exact bin_ok (v_mul F.K) hf hp
  case fdiv => exact bin_ok v_fdiv hf hp
  case mod => exact bin_ok v_mod hf hp
  case pow => exact bin_ok v_pow hf hp
  case neg => exact un_ok hf hp
  case eq => exact cmp_ok (v_eq F.K hu) hf hp
  case ne => exact cmp_ok (v_ne F.K hu) hf hp
  case lt => exact cmp_ok (v_lt F.K hu) hf hp
  case le => exact cmp_ok (v_le F.K hu) hf hp
  case gt => exact cmp_ok (v_gt F.K hu) hf hp
  case ge => exact cmp_ok (v_ge F.K hu) hf hp
  case is => exact cmp_ok v_is hf hp
  case isnot => exact cmp_ok v_isnot hf hp
  case in_ => exact cmp_ok (v_in F.K F.w hu) hf hp
  case notin => exact cmp_ok (v_notin F.K F.w hu) hf hp
  case max1 => exact call_ok F (r_max1 hu F.calm) (by with_unfolding_all rfl) (F.blt _ (by decide)) (by decide) (by decide) hf hp
  case min1 => exact call_ok F (r_min1 hu F.calm) (by with_unfolding_all rfl) (F.blt _ (by decide)) (by decide) (by decide) hf hp
  case str => exact ty_ok F r_str (by with_unfolding_all rfl) (F.blt _ (by decide)) (by decide) (by decide) hf hp
  case sum => exact call_ok F (r_sum F.calm) (by with_unfolding_all rfl) (F.blt _ (by decide)) (by decide) (by decide) hf hp
  case ix => exact ix_ok F hf hp
  case len => exact call_ok F (r_len F.K) (by with_unfolding_all rfl) (F.blt _ (by decide)) (by decide) (by decide) hf hp
  case abs => exact call_ok F r_abs (by with_unfolding_all rfl) (F.blt _ (by decide)) (by decide) (by decide) hf hp
  case max2 => exact call_ok F (r_max2 F.calm) (by with_unfolding_all rfl) (F.blt _ (by decide)) (by decide) (by decide) hf hp
  case min2 => exact call_ok F (r_min2 F.calm) (by with_unfolding_all rfl) (F.blt _ (by decide)) (by decide) (by decide) hf hp
  case all => exact call_ok F (r_all F.calm) (by with_unfolding_all rfl) (F.blt _ (by decide)) (by decide) (by decide) hf hp
  case any => exact call_ok F (r_any F.calm) (by with_unfolding_all rfl) (F.blt _ (by decide)) (by decide) (by decide) hf hp
  case int => exact ty_ok F r_int (by with_unfolding_all rfl) (F.blt _ (by decide)) (by decide) (by decide) hf hp
  case lst => exact ty_ok F (r_lst F.K) (by with_unfolding_all rfl) (F.blt _ (by decide)) (by decide) (by decide) hf hp
  case tup => exact ty_ok F (r_tup F.K) (by with_unfolding_all rfl) (F.blt _ (by decide)) (by decide) (by decide) hf hp
  case isi t => exact isi_ok F hmo hf hp
  case lset => exact lset_ok F hf hp
  case srt => exact call_ok F (r_srt F.K hu F.calm) (by with_unfolding_all rfl) (F.blt _ (by decide)) (by decide) (by decide) hf hp
  case lrg => exact lrg_ok F hmo hf hp
  case trg => exact trg_ok F hmo hf hp
end
end Ev


set_option maxHeartbeats 4000000
namespace Ev
open PySem L2 PyProof.Rows
theorem sIx_eq (n d : Nat) (o : Option Int) : sIx n d o = HT.sIx n d o := by cases o <;> rfl
def rCut (C : Cst) (x : V) (l u : Option Int) (H : Hp) (Q : VK) : Prop := ∃ Hf d rv, Le Hf H ∧ Vw C H Hf x d ∧ cutD d l u = some rv ∧ ∀ v H' Hf', PO C H Hf v rv H' Hf' → Q v H'
section
variable {X : Cx} {C : Cst}
theorem Reps.cut {H : Hp} {vs : List V} {ds : List D} (r : Reps C H vs ds) (lo hi : Option Int) : Reps C H (cutV vs lo hi) (cutL ds lo hi) := by
  unfold cutV cutL
  rw [sIx_eq, sIx_eq, r.length]
  exact (r.drop _).take _
theorem cutL_whole {α : Type} {xs : List α} {lo hi : Option Int} (h : HT.sIx xs.length 0 lo = 0 ∧ HT.sIx xs.length xs.length hi = xs.length) : cutL xs lo hi = xs := by
  unfold cutL
  rw [sIx_eq, sIx_eq, h.1, h.2]
  simp
theorem r_cut (hK : X.K = C.K) : SlR X (fun x l u H Q => rCut C x l u H Q) := by
  intro pins s σ H x v vl vu lo hi sl Q I rx hs pl pu ⟨Hf, d, rv, sub, hv, ho, k⟩
  unfold cutD at ho
  split at ho
  · rename_i xs
    cases ho
    have hv' : Rep C Hf x (.tup xs) := by
      rcases hv with h | ⟨_, _, h⟩
      · exact h
      · exact h.2.elim
    obtain ⟨a, vs, rfl, sq, r⟩ := hv.tup sub
    refine sl_tupA pins s σ H _ v vl vu lo hi sl Q I rx hs pl pu ⟨a, vs, rfl, by rw [hK]; exact sq, fun hw => ?_, fun _ p hp => ?_⟩
    · have hw' := hw
      rw [r.length] at hw'
      have := k (.ref a) H Hf
      rw [cutL_whole hw'] at this
      exact this (PO.same sub hv')
    · exact k _ _ _ (PO.newTup sub hp (r.cut lo hi))
  · rename_i xs
    cases ho
    obtain ⟨a, vs, rfl, sq, r⟩ := hv.lst sub
    exact sl_list pins s σ H _ v vl vu lo hi sl Q I rx hs pl pu ⟨a, vs, rfl, .inl sq, fun p hp => k _ _ _ (PO.newLst sub hp (r.cut lo hi))⟩
  · rename_i l
    cases ho
    obtain ⟨rfl, hz⟩ := hv.str
    refine sl_str pins s σ H _ v vl vu lo hi sl Q I rx hs pl pu ⟨Sx l, rfl, by rw [Sx_len, szL_eq]; exact hz, ?_⟩
    have e : cutS (Sx l) lo hi = Sx (cutL l lo hi) := by
      unfold cutS cutL
      rw [Sx_cps, Sx_len, sIx_eq, sIx_eq]; rfl
    rw [e]
    refine k _ H Hf (PO.same sub (.str ?_))
    have := cutS_length (Sx l) lo hi
    rw [e, Sx_len, Sx_len] at this
    omega
  · cases ho
end
def tP (z : Z) : Exs → TO
  | .n => tNoPart
  | .c e _ => tPart (tE z e)
section
variable {z : Z} {g : G} {σ : L2.St} {H Hf : Hp} {ρ : Rho}
theorem asInt_noexc {r : RV} : ∀ c d, asInt r ≠ .exc c d := by
  intro c d h; unfold asInt at h; split at h <;> cases h
theorem asInt_ok {r : RV} {k : Int} (h : asInt r = .ok k) : r = .fz (.int k) := by
  unfold asInt at h
  split at h
  · cases h; rfl
  · cases h
theorem tP_of {e : Exs} {K : Option Int → Hp → Prop} (hg : z.ok g) (s : SR z.C g σ H Hf ρ) (h : Out z g σ Hf (evP z.tb z.F e ρ) fun o _ H1 _ => K o H1) : tP z e σ H K := by
  cases e with
  | n => simp only [evP] at h; exact h H Hf s (Le.refl _)
  | c e es =>
    simp only [evP] at h
    refine ⟨g, hg, Hf, ρ, s, (Out.bind h).imp fun r ρ1 H1 Hf1 s1 l1 k v hv => ?_⟩
    obtain ⟨b, hb, k2⟩ := Out.bind' k asInt_noexc
    obtain rfl := asInt_ok hb
    have hv' : Rep z.C Hf1 v (.int b) := hv
    cases hv'
    exact ⟨b, rfl, k2 H1 Hf1 s1 (Le.refl _)⟩
theorem tE_slc {a : Ex} {lo hi : Exs} {Q : VK} (h : tE z (.slc a lo hi) σ H Q) : tSl (fun x l u H Q => rCut z.C x l u H Q) (tO z a) (tP z lo) (tP z hi) σ H Q := by
  obtain ⟨g, hg, Hf, ρ, s, h⟩ := h
  simp only [ev] at h
  refine tO_of hg s ((Out.bind h).imp fun ox ρ1 H1 Hf1 s1 l1 k v hv => ?_)
  refine tP_of hg s1 (?_ : Out z g σ Hf1 _ _)
  have k2 := Out.bind k
  revert k2
  generalize evP z.tb z.F lo ρ1 = x
  intro k2
  refine k2.imp fun l ρ2 H2 Hf2 s2 l2 k => ?_
  refine tP_of hg s2 ((Out.bind k).imp fun u ρ3 H3 Hf3 s3 l3 k => ?_)
  obtain ⟨d, ed, k⟩ := Out.bind' k get_noexc
  have vx := get_view s3 ((hv.le l2).le l3) ed
  cases q : cutD d l u with
  | none => rw [q] at k; exact k.elim
  | some r =>
    rw [q] at k
    refine ⟨Hf3, d, r, s3.sub, vx, q, fun v H' Hf' po => ?_⟩
    obtain ⟨s4, rv⟩ := s3.po po
    exact k H' Hf' s4 po.le v rv
def tCav (z : Z) (i : Nat) (es : Exs) : TE := fun σ H Q => ∃ j f, σ[i]? = some (some (.ref f)) ∧ z.C.fnA j = some f ∧ tFs z es σ H fun vs H1 => ∃ fx, z.tb.fns[j]? = some fx ∧ spF z.C z.lim z.T z.Hb z.F fx.params j vs H1 Q z.EW
theorem SR.enterF {vs : List V} {ds : List D} (s : SR z.C g σ H Hf ρ) (r : Reps z.C Hf vs ds) : SR z.C ⟨H, [], Hf, g.T⟩ (vs.map some) H Hf (ds.map .fz) := by
  have fzs : ∀ (i : Nat) (sl : Slot), (ds.map Slot.fz)[i]? = some sl → ∃ d, sl = .fz d ∧ ds[i]? = some d := fun i sl e => by
    rw [List.getElem?_map] at e
    obtain ⟨d, h1, h2⟩ := Option.map_eq_some_iff.mp e
    exact ⟨d, h2.symm, h1⟩
  refine ⟨by rw [List.length_map, List.length_map, r.length], s.sub, fun _ _ e _ _ => e, fun _ e => e, Le.refl _, s.tabs, s.nft, fun i d e => ?_, fun i d e => ?_, fun i d e => ?_, fun i j d e a _ h => ?_, fun p hp => ?_, fun a e => .inl e, fun p hp => ?_⟩
  · obtain ⟨d', h1, h2⟩ := fzs i _ e
    cases h1
    obtain ⟨v, h3, h4⟩ := r.get h2
    exact ⟨v, by rw [List.getElem?_map, h3]; rfl, h4⟩
  · obtain ⟨d', h1, _⟩ := fzs i _ e; cases h1
  · obtain ⟨d', h1, _⟩ := fzs i _ e; cases h1
  · obtain ⟨d', h1, _⟩ := fzs i _ h; cases h1
  · cases hp
  · cases hp
theorem SR.behindF {H' Hf' : Hp} {τ : L2.St} {outs : List Slot} (s : SR z.C g σ H Hf ρ) (c : SR z.C ⟨H, [], Hf, g.T⟩ τ H' Hf' outs) : SR z.C g σ H' Hf' ρ :=
  s.grow (fun a o e nt => c.base a o e nt (fun p hp => by cases hp)) c.dom c.tabs c.fz0 c.sub c.newf
theorem RVok.behindF {H' Hf' : Hp} {τ : L2.St} {outs : List Slot} {v : V} {r : RV} (s : SR z.C g σ H Hf ρ) (c : SR z.C ⟨H, [], Hf, g.T⟩ τ H' Hf' outs) (h : RVok z.C ⟨H, [], Hf, g.T⟩ τ H' Hf' outs v r) : RVok z.C g σ H' Hf' ρ v r := by
  cases r with
  | fz d => exact h
  | ow d =>
    obtain ⟨a, rfl, ho, h0, _⟩ := h
    have h0' : H a = none := h0
    refine ⟨a, rfl, ho, ?_, fun i e hi hs => ?_⟩
    · cases q : g.H0 a with
      | none => rfl
      | some o => exact absurd h0' (s.dom a (by rw [q]; simp))
    · obtain ⟨b, k1, k2, _⟩ := s.ow i e hi
      rw [hs] at k1; injection k1 with k1; injection k1 with k1; injection k1 with k1; subst k1
      obtain ⟨o, ho2, _⟩ := k2.there
      rw [h0'] at ho2; cases ho2
theorem tE_cav {i : Nat} {es : Exs} {Q : VK} (h : tE z (.cav i es) σ H Q) : tCav z i es σ H Q := by
  obtain ⟨g, hg, Hf, ρ, s, h⟩ := h
  simp only [ev] at h
  obtain ⟨d, hd, h⟩ := Out.bind' h slotD_noexc
  obtain ⟨v, hv, vw⟩ := s.view hd
  cases d with
  | fn j =>
    have : ∃ f, v = .ref f ∧ z.C.fnA j = some f := by
      rcases vw with w | ⟨_, _, w⟩
      · cases w with
        | fn e => exact ⟨_, rfl, e⟩
      · exact w.2.elim
    obtain ⟨f, rfl, hf⟩ := this
    dsimp only at h
    cases hj : z.tb.fns[j]? with
    | none => rw [hj] at h; exact h.elim
    | some fx =>
      rw [hj] at h
      refine ⟨j, f, hv, hf, tFs_of hg s ((Out.bind h).imp fun ds ρ1 H1 Hf1 s1 l1 k vs hvs => ?_)⟩
      dsimp only at k
      split at k
      · rename_i hlen
        refine ⟨fx, hj, by rw [hvs.length, hlen], [], Hf1, ds.map .fz, hg.hb.trans s1.fz0, hg.t ▸ s1.enterF hvs, (fun p hp => by cases hp), ?_⟩
        revert k
        cases z.F j (ds.map .fz) with
        | ok p =>
          obtain ⟨r, outs⟩ := p
          intro k v H' Hf' s' l' rv
          have s'' := hg.t.symm ▸ s'
          exact k H' Hf' (s1.behindF s'') l' v (RVok.behindF s1 s'' rv)
        | exc c d =>
          intro k cls dct H' hx hk
          exact k cls dct H' hx ⟨fun a o e nt hio => hk.base a o (s1.base a o e nt hio) nt (fun p hp => by cases hp), fun a e => hk.dom a (s1.dom a e), fun a o e => hk.fz0 a o (s1.fz0 a o e), hg.t.symm ▸ hk.tabs⟩
        | bad n => exact fun k => k
      · exact k.elim
  | _ => exact h.elim
end
end Ev


set_option maxHeartbeats 4000000
namespace Ev
open PySem PySem.Spec PyProof.Rows L2 HotX L2H
section
variable {prog : Program} {w : World} {A : Around} {E : Value → Shared → Prop} {s : Shared}
/-- a list's iterator at its end -/
theorem hot_nextL {it l x1 : Addr} {i : Nat} {items : Array Value} {Q : Value → Shared → Prop} (hot : HotAt A x1 s.heap) (hne : x1 ≠ it) (hit : s.heap.IsListIter it l i) (hl : s.heap.IsList l items) (hx : items[i]? = none)
    (hE : ∀ h' e, Heap.ExtBut it s.heap h' → (∃ o, h'.get? e = some o ∧ o.cls = .type "StopIteration") → E (.ref e) { s with heap := h' }) :
    wpAny (model prog w) A (Builtin.SmallTypes.nextOf (.ref it)) Q E s := by
  obtain ⟨hh, o1, vs1, h1, d1, c1⟩ := hot
  obtain ⟨o, ho, hc, hd⟩ := id hit
  obtain ⟨ol, hol, _, nl, hdl⟩ := hl
  unfold Builtin.SmallTypes.nextOf
  refine wpAny_bind (wpAny_callSpecial?_slot (name := Str.ofString "__next__") hit.typeIs slot_listiter_next
    (wpAny_call_entry slot_listiter_next hit.typeIs entry_listiter_next ?_ (args_listiter_next _)))
  show wpAny _ _ (field (.ref it) 0 >>= _) _ _ s
  refine wpAny_bind (wpAny_field ho hd (x := .ref l) rfl ?_)
  show wpAny _ _ (if (Value.ref l == Value.none) = true then _ else _) _ _ s
  rw [if_neg (show ¬ ((Value.ref l == Value.none) = true) from Bool.false_ne_true)]
  show wpAny _ _ (field (.ref it) 1 >>= _) _ _ s
  refine wpAny_bind (wpAny_field ho hd (x := .int i 0) rfl ?_)
  show wpAny _ _ (seqItems? (.ref l) >>= _) _ _ s
  refine wpAny_bind (wpAny_seqItems hol hdl ?_)
  simp only [Int.toNat_natCast, hx]
  refine wpAny_bind (wpAny_rule (wpAny_bind (wpAny_setField ho hd (by simp) ?_)))
  show wpAny _ _ (newExc (.type "StopIteration") [] >>= _) _ _ _
  refine wpAny_bind ?_
  simp only [newExc, newTuple]
  refine wpAny_bind (wpAny_newObj_type ?_ (by size_fits))
  refine wpAny_bind (m := firstArgMember _ _) (wpAny_of_eq (a := Value.none) (by first | rfl | (simp only [firstArgMember]; rfl)) ?_)
  refine wpAny_newObj_type ?_ (by size_fits)
  have keep1 : ∀ b o, b ≠ it → s.heap.get? b = some o → (s.heap.update it (Obj.mapFields (·.setIfInBounds 0 Value.none))).get? b = some o := fun b o hb e => (Heap.get?_update_other _ _ (Ne.symm hb)).trans e
  have hx1 := Heap.get?_push_of_some { cls := .type "tuple", data := .seq #[] } (keep1 x1 o1 hne h1)
  refine raiseNew_hot ⟨hh, o1, vs1, Heap.get?_push_of_some _ hx1, d1, c1⟩ (Nat.ne_of_lt (Heap.lt_size hx1)) (Heap.get?_push_size _ rfl) rfl (by first | (simp; done) | (simp; omega) | (simp only [Array.size_append]; simp; omega)) ?_
  refine hE _ _ (fun b o hb e => ?_) ⟨_, Heap.get?_update_self _ (Heap.get?_push_size _ rfl) rfl, rfl⟩
  have q := Heap.get?_push_of_some { cls := .type "tuple", data := .seq #[] } (keep1 b o hb e)
  rw [Heap.get?_update_other _ _ (Nat.ne_of_gt (Heap.lt_size q))]
  exact Heap.get?_push_of_some _ q
/-- a tuple's iterator at its end -/
theorem hot_nextT {it t x1 : Addr} {i : Nat} {items : Array Value} {Q : Option Value → Shared → Prop} (hot : HotAt A x1 s.heap) (hne : x1 ≠ it) (hit : IsTupIter s.heap it t i) (ht : IsTup s.heap t items) (hx : items[i]? = none)
    (hQ : ∀ h', Heap.ExtBut it s.heap h' → Q none { s with heap := h' }) : wpAny (model prog w) A (pyNext (.ref it)) Q E s := by
  obtain ⟨hh, o1, vs1, h1, d1, c1⟩ := hot
  obtain ⟨o, ho, hc, hd⟩ := id hit
  obtain ⟨ol, hol, _, nl, hdl⟩ := ht
  unfold pyNext
  refine wpAny_bind (wpAny_attempt (wpAny_callSpecial?_slot (name := Str.ofString "__next__") hit.typeIs F.slot_tuple_iterator_next
    (wpAny_call_entry F.slot_tuple_iterator_next hit.typeIs F.entry_tuple_iterator_next ?_ (F.args_tuple_iterator_next_1 _))))
  show wpAny _ _ (field (.ref it) 0 >>= _) _ _ s
  refine wpAny_bind (wpAny_field ho hd (x := .ref t) rfl ?_)
  show wpAny _ _ (if (Value.ref t == Value.none) = true then _ else _) _ _ s
  rw [if_neg (show ¬ ((Value.ref t == Value.none) = true) from Bool.false_ne_true)]
  show wpAny _ _ (field (.ref it) 1 >>= _) _ _ s
  refine wpAny_bind (wpAny_field ho hd (x := .int i 0) rfl ?_)
  show wpAny _ _ (seqItems? (.ref t) >>= _) _ _ s
  refine wpAny_bind (wpAny_seqItems hol hdl ?_)
  simp only [Int.toNat_natCast, hx]
  refine wpAny_bind (wpAny_rule (wpAny_bind (wpAny_setField ho hd (by simp) ?_)))
  show wpAny _ _ (newExc (.type "StopIteration") [] >>= _) _ _ _
  refine wpAny_bind ?_
  simp only [newExc, newTuple]
  refine wpAny_bind (wpAny_newObj_type ?_ (by size_fits))
  refine wpAny_bind (m := firstArgMember _ _) (wpAny_of_eq (a := Value.none) (by first | rfl | (simp only [firstArgMember]; rfl)) ?_)
  refine wpAny_newObj_type ?_ (by size_fits)
  have keep1 : ∀ b o, b ≠ it → s.heap.get? b = some o → (s.heap.update it (Obj.mapFields (·.setIfInBounds 0 Value.none))).get? b = some o := fun b o hb e => (Heap.get?_update_other _ _ (Ne.symm hb)).trans e
  have hx1 := Heap.get?_push_of_some { cls := .type "tuple", data := .seq #[] } (keep1 x1 o1 hne h1)
  refine raiseNew_hot ⟨hh, o1, vs1, Heap.get?_push_of_some _ hx1, d1, c1⟩ (Nat.ne_of_lt (Heap.lt_size hx1)) (Heap.get?_push_size _ rfl) rfl (by first | (simp; done) | (simp; omega) | (simp only [Array.size_append]; simp; omega)) ?_
  refine wpAny_bind (wpAny_isInstance (T := "StopIteration") (b := true) ⟨_, Heap.get?_update_self _ (Heap.get?_push_size _ rfl) rfl, rfl⟩ isSubtype_stop ?_)
  refine wpAny_pure (hQ _ fun b o hb e => ?_)
  have q := Heap.get?_push_of_some { cls := .type "tuple", data := .seq #[] } (keep1 b o hb e)
  rw [Heap.get?_update_other _ _ (Nat.ne_of_gt (Heap.lt_size q))]
  exact Heap.get?_push_of_some _ q
theorem hotKeeps {x1 : Addr} {h h' : Heap} (hot : HotAt A x1 h) (k : ∀ o, h.get? x1 = some o → h'.get? x1 = some o) : HotAt A x1 h' := by
  obtain ⟨hh, o1, vs1, h1, d1, c1⟩ := hot
  exact ⟨hh, o1, vs1, k _ h1, d1, c1⟩
theorem hotLt {x1 : Addr} {h : Heap} (hot : HotAt A x1 h) : x1 < h.objs.size := by
  obtain ⟨_, _, _, h1, _⟩ := hot
  exact Heap.lt_size h1
/-- (a, b, ..) = a tuple of that length -/
theorem hot_assignT {env : Env} {elts : List Expr} {k : Nat} {pos : Pos} {t x1 : Addr} {items : Array Value} {Q : Unit → Shared → Prop} (hot : HotAt A x1 s.heap) (ht : IsTup s.heap t items)
    (hn : (assignEach elts env).length = items.size) (hstar : (assignEach elts env).findIdx? (·.1) = none)
    (h : ∀ h', Heap.ExtBut s.heap.objs.size s.heap h' → wpAny (model prog w) A (assignInOrder ((assignEach elts env).map (·.2)) items.toList) Q E { s with heap := h' }) :
    wpAny (model prog w) A (assign (.Tuple elts k pos) env (.ref t)) Q E s := by
  rw [assign_Tuple]
  refine wpAny_bind (wpAny_standAt ?_)
  unfold unpack
  rw [hn, hstar]
  refine wpAny_bind (wpAny_holding ?_)
  have hlt : t ≠ s.heap.objs.size := by obtain ⟨o, ho, _⟩ := ht; exact Nat.ne_of_lt (Heap.lt_size ho)
  have hx1 := hotLt hot
  unfold unpackItems
  refine wpAny_bind ?_
  unfold notIterableAtAll
  refine wpAny_bind (wpAny_specialOf ht.typeIs F.slot_tuple_iter.lookup ?_)
  refine wpAny_pure ?_
  simp only [Bool.false_eq_true, if_false]
  refine wpAny_bind (wpAny_holding (iter_tuple ht ?_))
  refine wpAny_bind (wpAny_holding (draw_tuple hlt items.size 0 _ _ ⟨_, Heap.get?_push_size _ rfl, rfl, rfl⟩ (ht.push _) (by omega) fun h₁ hit₁ hs₁ => ?_))
  have hall : List.take items.size (List.drop 0 items.toList) = items.toList := by
    rw [List.drop_zero]; exact List.take_of_length_le (by simp)
  rw [hall]
  rw [if_neg (by simp)]
  have ht₁ : IsTup h₁ t items := (ht.push _).extBut hs₁.extBut hlt
  refine wpAny_bind (wpAny_holding (hot_nextT (hotKeeps hot fun o e => hs₁.extBut _ o (Nat.ne_of_lt hx1) (Heap.get?_push_of_some _ e)) (Nat.ne_of_lt hx1) hit₁ ht₁ (by simp) fun h₂ he₂ => ?_))
  simp only [Option.isSome_none, Bool.false_eq_true, if_false]
  exact wpAny_pure (h h₂ fun b o hb e => he₂ b o hb (hs₁.extBut b o hb (Heap.get?_push_of_some _ e)))
/-- a zip of two lists at its end -/
theorem hot_zip {z TI TO i1 i2 l1 l2 x1 : Addr} {k1 k2 : Nat} {xs ys : Array Value} {a b : Value} {Q : Option Value → Shared → Prop} (hot : HotAt A x1 s.heap) (n1 : x1 ≠ z) (n2 : x1 ≠ TO) (n3 : x1 ≠ i1) (n4 : x1 ≠ i2) (D : ZipApart z TI TO i1 i2 l1 l2)
    (hz : IsZip s.heap z TI TO .none) (hTI : IsPair s.heap TI (.ref i1) (.ref i2)) (hTO : IsPair s.heap TO a b)
    (h1 : s.heap.IsListIter i1 l1 k1) (h2 : s.heap.IsListIter i2 l2 k2) (hl1 : s.heap.IsList l1 xs) (hl2 : s.heap.IsList l2 ys) (hend : xs[k1]? = none ∨ ys[k2]? = none)
    (hQ : ∀ h', (∀ c o, c ≠ z → c ≠ TO → c ≠ i1 → c ≠ i2 → s.heap.get? c = some o → h'.get? c = some o) → Q none { s with heap := h' }) : wpAny (model prog w) A (pyNext (.ref z)) Q E s := by
  have hT : s.TypeIs (.ref z) "zip" := ⟨_, hz, rfl⟩
  have fin : ∀ h' e, (∀ c o, c ≠ z → c ≠ TO → c ≠ i1 → c ≠ i2 → s.heap.get? c = some o → h'.get? c = some o) → (∃ o, h'.get? e = some o ∧ o.cls = .type "StopIteration") →
      wpAny (model prog w) A (do if ← isInstance (Value.ref e) (.type "StopIteration") then pure none else throw (Value.ref e)) Q E { s with heap := h' } := fun h' e hk ⟨o, ho, hc⟩ =>
    wpAny_bind (wpAny_isInstance (T := "StopIteration") (b := true) ⟨o, ho, hc⟩ isSubtype_stop (wpAny_pure (hQ _ hk)))
  unfold pyNext
  refine wpAny_bind (wpAny_attempt (wpAny_callSpecial?_slot (name := Str.ofString "__next__") hT F.slot_zip_next
    (wpAny_call_entry F.slot_zip_next hT F.entry_zip_next ?_ (F.args_zip_next_1 _))))
  show wpAny _ _ (field (.ref z) 2 >>= _) _ _ _
  refine wpAny_bind (wpAny_field hz rfl (x := .bool false) rfl ?_)
  show wpAny _ _ (field (.ref z) 3 >>= _) _ _ _
  refine wpAny_bind (wpAny_field hz rfl (x := .ref TI) rfl ?_)
  refine wpAny_bind (wpAny_seqItems hTI rfl ?_)
  show wpAny _ _ (Builtin.SmallTypes.ownedTupleIsFree (.ref z) >>= _) _ _ _
  refine wpAny_bind ?_
  unfold Builtin.SmallTypes.ownedTupleIsFree
  refine wpAny_bind (wpAny_field hz rfl (x := .none) rfl (wpAny_pure ?_))
  simp only [if_true]
  refine wpAny_bind (wpAny_rule ?_)
  refine wpAny_bind (wpAny_field hz rfl (x := .ref TO) rfl ?_)
  refine wpAny_bind (wpAny_setField_rec hz (by simp) fun h₁ hz₁ hs₁ => ?_)
  replace hz₁ : IsZip h₁ z TI TO .ellipsis := hz₁
  refine wpAny_bind ?_
  simp only [List.zipIdx_cons, List.zipIdx_nil, List.forIn_cons, List.forIn_nil]
  refine wpAny_bind (wpAny_bind (wpAny_onRaise ?_))
  show wpAny _ _ (Builtin.SmallTypes.nextOf (.ref i1) >>= _) _ _ _
  have hot₁ : HotAt A x1 h₁ := hotKeeps hot fun o e => hs₁.extBut _ o n1 e
  cases hx : xs[k1]? with
  | none =>
    refine wpAny_bind (hot_nextL (s := { s with heap := h₁ }) hot₁ n3 (h1.extBut hs₁.extBut D.i1z) (hl1.extBut hs₁.extBut D.l1z) hx fun h₂ e hs₂ he => ?_)
    obtain ⟨oe, hoe, hce⟩ := he
    have hz₂ : IsZip h₂ z TI TO .ellipsis := hs₂ _ _ D.i1z.symm hz₁
    have hez : e ≠ z := fun x => by subst x; rw [hz₂] at hoe; cases hoe; simp at hce
    refine wpAny_setField_rec hz₂ (by simp) fun h₃ _ hs₃ => fin h₃ e (fun c o c1 _ c3 _ x => hs₃.extBut _ _ c1 (hs₂ _ _ c3 (hs₁.extBut _ _ c1 x))) ⟨oe, hs₃.extBut _ _ hez hoe, hce⟩
  | some x =>
    have hy : ys[k2]? = none := by rcases hend with h | h; rw [hx] at h; cases h; exact h
    refine wpAny_bind (wpAny_nextOf_list_item (h1.extBut hs₁.extBut D.i1z) (hl1.extBut hs₁.extBut D.l1z) hx fun h₂ h1₂ hs₂ => wpAny_pure ?_)
    have hTO₂ : IsPair h₂ TO a b := hs₂.extBut _ _ D.TOi1 (hs₁.extBut _ _ D.TOz hTO)
    refine wpAny_bind (wpAny_seqItems hTO₂ rfl ?_)
    refine wpAny_bind (wpAny_updateSeq_pair hTO₂ fun h₃ hTO₃ hs₃ => ?_)
    refine wpAny_bind (wpAny_letGo (wpAny_pure ?_))
    refine wpAny_bind (wpAny_bind (wpAny_onRaise ?_))
    show wpAny _ _ (Builtin.SmallTypes.nextOf (.ref i2) >>= _) _ _ _
    have hot₃ : HotAt A x1 h₃ := hotKeeps hot₁ fun o e => hs₃.extBut _ o n2 (hs₂.extBut _ o n3 e)
    refine wpAny_bind (hot_nextL (s := { s with heap := h₃ }) hot₃ n4 (((h2.extBut hs₁.extBut D.i2z).extBut hs₂.extBut D.i12.symm).extBut hs₃.extBut D.TOi2.symm)
      (((hl2.extBut hs₁.extBut D.l2z).extBut hs₂.extBut D.l2i1).extBut hs₃.extBut D.l2TO) hy fun h₄ e hs₄ he => ?_)
    obtain ⟨oe, hoe, hce⟩ := he
    have hz₄ : IsZip h₄ z TI TO .ellipsis := hs₄ _ _ D.i2z.symm (hs₃.extBut _ _ D.TOz.symm (hs₂.extBut _ _ D.i1z.symm hz₁))
    have hez : e ≠ z := fun x => by subst x; rw [hz₄] at hoe; cases hoe; simp at hce
    refine wpAny_setField_rec hz₄ (by simp) fun h₅ _ hs₅ => fin h₅ e (fun c o c1 c2 c3 c4 x => hs₅.extBut _ _ c1 (hs₄ _ _ c4 (hs₃.extBut _ _ c2 (hs₂.extBut _ _ c3 (hs₁.extBut _ _ c1 x))))) ⟨oe, hs₅.extBut _ _ hez hoe, hce⟩
end
end Ev


set_option maxHeartbeats 4000000
namespace Ev
open PySem PySem.Spec PyProof.Rows L2 HotX L2H
/-- the iterator's objects at turn i -/
def ZipSt (z TI TO i1 i2 a b : Addr) (i : Nat) (h : Heap) : Prop := IsZip h z TI TO .none ∧ IsPair h TI (.ref i1) (.ref i2) ∧ (∃ x y, IsPair h TO x y) ∧ h.IsListIter i1 a i ∧ h.IsListIter i2 b i
section
variable {X : Cx} {pins : List (Addr × Obj)} {σ : L2.St} {H : Hp} {s : Shared} {E : Value → Shared → Prop} {z TI TO i1 i2 a b : Addr}
theorem ZipSt.obj {i : Nat} {h : Heap} (st : ZipSt z TI TO i1 i2 a b i h) : ∀ c ∈ [z, TI, TO, i1, i2], ∃ o, h.get? c = some o ∧ ∀ v, o.data ≠ .cell v := fun c hc => by
  obtain ⟨hz, hTI, ⟨x, y, hTO⟩, ⟨o1, e1, _, d1⟩, ⟨o2, e2, _, d2⟩⟩ := st
  simp only [List.mem_cons, List.not_mem_nil, or_false] at hc
  rcases hc with q | q | q | q | q <;> subst q
  · exact ⟨_, hz, fun v q => nomatch q⟩
  · exact ⟨_, hTI, fun v q => nomatch q⟩
  · exact ⟨_, hTO, fun v q => nomatch q⟩
  · exact ⟨o1, e1, fun v q => by rw [d1] at q; cases q⟩
  · exact ⟨o2, e2, fun v q => by rw [d2] at q; cases q⟩
theorem ZipSt.keep {i : Nat} {h h' : Heap} (st : ZipSt z TI TO i1 i2 a b i h) (k : ∀ c ∈ [z, TI, TO, i1, i2], ∀ o, h.get? c = some o → h'.get? c = some o) : ZipSt z TI TO i1 i2 a b i h' := by
  obtain ⟨hz, hTI, ⟨x, y, hTO⟩, h1, h2⟩ := st
  exact ⟨k z (by simp) _ hz, k TI (by simp) _ hTI, ⟨x, y, k TO (by simp) _ hTO⟩, h1.at fun o q => k i1 (by simp) o q, h2.at fun o q => k i2 (by simp) o q⟩
theorem zip_item {elts : List Expr} {kk : Nat} {tpos : Pos} {i : Nat} {xs ys : List V} {x y : V} (D : ZipApart z TI TO i1 i2 a b) (I : Inv X pins σ H s) (hf : ∀ c ∈ [z, TI, TO, i1, i2], FpOk X pins H c) (st : ZipSt z TI TO i1 i2 a b i s.heap)
    (hqx : SqL X.K H a xs) (hqy : SqL X.K H b ys) (hx : xs[i]? = some x) (hy : ys[i]? = some y) :
    wpAny (model X.prog X.w) X.A (pyNext (.ref z)) (fun r s1 => ∃ u, r = some u ∧ wpAny (model X.prog X.w) X.A (letOwnedTupleGo (.Tuple elts kk tpos) (.ref z) u) (fun _ s2 => ∃ T, u = .ref T ∧ H T = none ∧ Inv X pins σ (upd H T (.tup [x, y])) s2 ∧ ZipSt z TI TO i1 i2 a b (i + 1) s2.heap ∧ ∀ c ∈ [z, TI, TO, i1, i2], upd H T (.tup [x, y]) c = none) E s1) E s := by
  obtain ⟨hz, hTI, ⟨x0, y0, hTO⟩, h1, h2⟩ := st
  obtain ⟨its, rv, p, _⟩ := I.list hqx
  obtain ⟨its2, rv2, p2, _⟩ := I.list hqy
  obtain ⟨u, hu, ru⟩ := rv.get hx
  obtain ⟨u2, hu2, ru2⟩ := rv2.get hy
  have hzl : z < s.heap.objs.size := Heap.lt_size hz
  refine wpAny_pyNext_zip_item D hz hTI hTO h1 h2 p.isList p2.isList (x := u) (y := u2) (by simpa using hu) (by simpa using hu2) fun h' z' TO' h1' h2' hT hsz hk => ?_
  refine ⟨_, rfl, wpAny_letOwnedTupleGo_zip (s := { s with heap := h' }) z' fun h'' z'' sb => ?_⟩
  have hT2 : h''.get? s.heap.objs.size = some { cls := .type "tuple", data := .seq #[u, u2] } := (sb.2 _ (Nat.ne_of_gt hzl)).trans hT
  have keepAll : ∀ c o, c ∉ [z, TI, TO, i1, i2] → s.heap.get? c = some o → h''.get? c = some o := fun c o hb q => by
    have n1 : c ≠ z := fun q' => hb (by simp [q'])
    have n2 : c ≠ TO := fun q' => hb (by simp [q'])
    have n3 : c ≠ i1 := fun q' => hb (by simp [q'])
    have n4 : c ≠ i2 := fun q' => hb (by simp [q'])
    exact (sb.2 c n1).trans (hk c o n1 n2 n3 n4 q)
  have I1 : Inv X pins σ (upd H s.heap.objs.size (.tup [x, y])) { s with heap := h'' } :=
    I.turnedNew (t' := s.toks) (ch := [z, TI, TO, i1, i2]) keepAll hf (Nat.le_refl _) ⟨by show 2 ≤ sizeLine; decide, [u, u2], .cons ru (.cons ru2 .nil), ⟨_, hT2, rfl, _, rfl⟩⟩
  refine ⟨s.heap.objs.size, rfl, I.hok.fresh (Nat.le_refl _), I1, ⟨z'', ?_, ⟨u, u2, ?_⟩, ?_, ?_⟩, fun c hcm => ?_⟩
  · exact (sb.2 _ D.TIz).trans (hk _ _ D.TIz D.TITO D.TIi1 D.TIi2 hTI)
  · exact (sb.2 _ D.TOz).trans TO'
  · exact h1'.at fun o q => (sb.2 _ D.i1z).trans q
  · exact h2'.at fun o q => (sb.2 _ D.i2z).trans q
  · obtain ⟨o, e, _⟩ := ZipSt.obj (i := i) (h := s.heap) ⟨hz, hTI, ⟨x0, y0, hTO⟩, h1, h2⟩ c hcm
    rw [upd_ne (Nat.ne_of_lt (Heap.lt_size e))]
    exact (hf c hcm).1
theorem zip_done {i : Nat} {xs ys : List V} {p : Addr × Obj} (hot : Hot1 X.A p) (hp : p ∈ X.pn ++ pins) (D : ZipApart z TI TO i1 i2 a b) (I : Inv X pins σ H s) (hf : ∀ c ∈ [z, TI, TO, i1, i2], FpOk X pins H c) (st : ZipSt z TI TO i1 i2 a b i s.heap)
    (hqx : SqL X.K H a xs) (hqy : SqL X.K H b ys) (hend : xs.length ≤ i ∨ ys.length ≤ i) :
    wpAny (model X.prog X.w) X.A (pyNext (.ref z)) (fun r s1 => r = none ∧ Inv X pins σ H s1) E s := by
  obtain ⟨hz, hTI, ⟨x0, y0, hTO⟩, h1, h2⟩ := st
  obtain ⟨its, rv, p1, _⟩ := I.list hqx
  obtain ⟨its2, rv2, p2, _⟩ := I.list hqy
  have l1 := rv.length
  have l2 := rv2.length
  have he : its.toArray[i]? = none ∨ its2.toArray[i]? = none := by
    rcases hend with q | q
    · exact .inl (by simp; omega)
    · exact .inr (by simp; omega)
  obtain ⟨hh, v1, e1, c1⟩ := hot
  have hot' : HotAt X.A p.1 s.heap := ⟨hh, p.2, v1, (I.pin p hp).1, e1, c1⟩
  have ne : ∀ c ∈ [z, TI, TO, i1, i2], p.1 ≠ c := fun c hc => (hf c hc).2.2.2.2.2 p hp
  exact hot_zip hot' (ne z (by simp)) (ne TO (by simp)) (ne i1 (by simp)) (ne i2 (by simp)) D hz hTI hTO h1 h2 p1.isList p2.isList he fun h' hk => ⟨rfl, I.turnedL (t' := s.toks) (ch := [z, TI, TO, i1, i2]) (fun c o hb q =>
    hk c o (fun q' => hb (by simp [q'])) (fun q' => hb (by simp [q'])) (fun q' => hb (by simp [q'])) (fun q' => hb (by simp [q'])) q) hf⟩
end
/-- the words whose mark is true -/
def selW : List Str → List Bool → List Str
  | w :: ws, b :: bs => if b then w :: selW ws bs else selW ws bs
  | _, _ => []
theorem selW_step : ∀ (ws : List Str) (bs : List Bool) (i : Nat) (w : Str) (b : Bool), ws[i]? = some w → bs[i]? = some b → selW (ws.take (i + 1)) (bs.take (i + 1)) = selW (ws.take i) (bs.take i) ++ (if b then [w] else [])
  | w :: ws, b :: bs, 0, w', b', h1, h2 => by
    simp at h1 h2; subst h1; subst h2
    cases b <;> simp [selW]
  | w :: ws, b :: bs, i + 1, w', b', h1, h2 => by
    have ih := selW_step ws bs i w' b' (by simpa using h1) (by simpa using h2)
    simp only [List.take_succ_cons, selW]
    cases b
    · simpa using ih
    · simp only [if_true]; rw [ih]; rfl
  | [], _, _, _, _, h1, _ => by simp at h1
  | _ :: _, [], _, _, _, _, h2 => by simp at h2
theorem selW_le : ∀ (ws : List Str) (bs : List Bool), (selW ws bs).length ≤ ws.length
  | [], _ => by simp [selW]
  | _ :: _, [] => by simp [selW]
  | w :: ws, b :: bs => by
    have := selW_le ws bs
    cases b <;> simp [selW] <;> omega
def tWords (K : PySem.W.Frag) (iw : Nat) (ta : TA) : TS := fun D σ H => ta σ H fun vs H1 => ∃ (a b : Addr) (ws : List Str) (bs : List Bool), vs = [.ref a, .ref b] ∧ SqL K H1 a (ws.map V.str) ∧ SqL K H1 b (bs.map V.bl) ∧ ws.length = bs.length ∧
  ∀ (p : Addr) (H' : Hp), (∀ c o, H1 c = some o → H' c = some o) → H1 p = none → H' p = some (.lst ((selW ws bs).map V.str)) → D.nx (σ.set iw (some (.ref p))) H'
theorem SqL.grow {K : PySem.W.Frag} {H H' : Hp} {a : Addr} {xs : List V} (h : SqL K H a xs) (k : ∀ c o, H c = some o → H' c = some o) : SqL K H' a xs := SqL.le (fun c o e => k c o e) h
section
variable {X : Cx} {p : Addr × Obj} {iw i1 i2 kt : Nat} {y w1 g1 : Str} {py pe pt q0 q1 q2 q3 pz pc pos spos : Pos} {scope : Scope} {e1 e2 : Expr} {ta : TA}
/-- the place of what the block keeps -/
theorem pin_ok {pins : List (Addr × Obj)} {σ : L2.St} {H : Hp} {s : Shared} {scope : Scope} {cenv : Env} {fp : List Addr} {s0 : Shared} {H0 : Hp} {σ' : L2.St} {s' : Shared} (I : Inv X pins σ H s) (hp : p ∈ X.pn) (J : Inv (X.blk s0 H0 scope cenv fp) [] σ' H s') (k : ∀ o, s.heap.get? p.1 = some o → s'.heap.get? p.1 = some o) (hL : p.1 ≠ cenv.locals) (hfs : p.1 ∉ frs X.stack) :
    Inv (X.blk s0 H0 scope cenv fp) [p] σ' H s' := by
  obtain ⟨e, n, ne, nf, d⟩ := I.pin p (List.mem_append_left _ hp)
  refine J.pins_of fun q hq => ?_
  have e' : q = p := by simpa using hq
  subst e'
  exact ⟨k _ e, n, hL, hfs, d⟩
theorem ps_words (hot : Hot1 X.A p) (hp : p ∈ X.pn) (hN : X.N.Nodup) (hy : X.N[iw]? = some y) (hyl : X.env.scope.names.lookup y = some .local)
    (hsw : swapsWith (.ListComp (.Name w1 pe) [⟨.Tuple [.Name w1 q1, .Name g1 q2] kt pt, .Call (.Name "zip" pz) [e1, e2] [] pc, [.Name g1 q3], 0⟩] scope pos) (some (.Name y py)) spos.line X.env = pure true)
    (hg : Gl X "zip") (hm : X.mg "zip" = none) (ha : PA X [e1, e2] ta) (hs1 : starEach [e1, e2] X.env = (false, eval e1 X.env) :: starEach [e2] X.env) (hs2 : (backTo pc (starEach [e2] X.env)).any (·.1) = false)
    (ok : BlkOk X.N X.env.scope scope [(w1, i1), (g1, i2)]) (n1 : X.N[i1]? = some w1) (n2 : X.N[i2]? = some g1) (n12 : i1 ≠ i2) (l1 : scope.names.lookup w1 = some .local) (l2 : scope.names.lookup g1 = some .local)
    (d1 : (w1 == ("__debug__" : Str)) = false) (d2 : (w1 == ("__classdict__" : Str)) = false) (d3 : (g1 == ("__debug__" : Str)) = false) (d4 : (g1 == ("__classdict__" : Str)) = false) :
    PS X (.Assign [.Name y py] (.ListComp (.Name w1 pe) [⟨.Tuple [.Name w1 q1, .Name g1 q2] kt pt, .Call (.Name "zip" pz) [e1, e2] [] pc, [.Name g1 q3], 0⟩] scope pos) spos) (tWords X.K iw ta) := by
  refine ⟨fun pins s σ H D I h => ?_⟩
  rw [exec_Assign_Name_used _ _ _ _ hsw]
  refine wpAny_bind (wpAny_standAt (wpAny_bind ?_))
  show wpAny _ X.A (do let _ ← comprehension (.ListComp (.Name w1 pe) [⟨.Tuple [.Name w1 q1, .Name g1 q2] kt pt, .Call (.Name "zip" pz) [e1, e2] [] pc, [.Name g1 q3], 0⟩] scope pos) scope X.env (firstIterPos [⟨.Tuple [.Name w1 q1, .Name g1 q2] kt pt, .Call (.Name "zip" pz) [e1, e2] [] pc, [.Name g1 q3], 0⟩] pos) (newList []) false (eval (.Call (.Name "zip" pz) [e1, e2] [] pc) X.env) (some (assign (.Name y py) X.env))) _ _ s
  have hfree : ∀ y ∈ scope.names, y.2 = .free → ∃ c, X.env.cells.lookup y.1 = some c := fun y hy e => by
    rcases ok.free y hy e with k | k
    · exact I.ok.has _ (.inl k)
    · exact I.ok.has _ (.inr k)
  refine wpAny_bind (wpAny_mono (Q := fun _ s' => SP X pins D .next s') ?_ (fun _ s' hq => wpAny_pure (wpAny_pure hq)) fun _ _ x => x)
  refine wpAny_comprehension_free (use := some (assign (.Name y py) X.env)) rfl (fun _ => rfl) (closure_ok hfree) ok.kind (fun y hy e => by rw [ok.uniq y hy, e]) ?_
  refine Call_ (ld_blt I hg hm PyProof.Rows.boot_zip (PyProof.Rows.callWith_type1 (thn (ha.run pc pins s σ H _ I h) fun us s1 ⟨vs, H1, I1, r1, q⟩ => ?_) hs1 hs2))
  obtain ⟨a, b, ws, bs, ex, hqx, hqy, hlen, q⟩ := q
  subst ex
  cases r1 with
  | cons r rr =>
    cases rr with
    | cons r' rr =>
      cases rr
      cases r
      cases r'
      obtain ⟨its, rv, p1, hsz1⟩ := I1.list hqx
      obtain ⟨its2, rv2, p2, _⟩ := I1.list hqy
      generalize hn : s1.heap.objs.size = n at *
      refine call_zip_2 p1.isList p2.isList fun h' hz hTI hTO h1 h2 hsz hk => wpAny_pyIter_zip hz ?_
      rw [hn] at hz hTI hTO h1 h2 hsz
      have I2 : Inv X pins σ H1 { s1 with heap := h' } := I1.kept (t' := s1.toks) hk
      have D0 : ZipApart (n + 4) (n + 2) (n + 3) n (n + 1) a b := PySem.W.ktu_apart n a b (by rw [← hn]; exact p1.lt) (by rw [← hn]; exact p2.lt)
      have st2 : ZipSt (n + 4) (n + 2) (n + 3) n (n + 1) a b 0 h' := ⟨hz, hTI, ⟨_, _, hTO⟩, h1, h2⟩
      have fx : ∀ c ∈ [n + 4, n + 2, n + 3, n, n + 1], n ≤ c ∧ c < h'.objs.size := fun c hc => by
        rw [hsz]
        simp only [List.mem_cons, List.not_mem_nil, or_false] at hc
        omega
      have f2 : ∀ c ∈ [n + 4, n + 2, n + 3, n, n + 1], FpOk X pins H1 c := fun c hc => I1.fpOk (by rw [hn]; exact (fx c hc).1) (I1.hok.fresh (by rw [hn]; exact (fx c hc).1))
      generalize hs2' : ({ s1 with heap := h' } : Shared) = s2 at I2 ⊢
      have hh2 : s2.heap = h' := by rw [← hs2']
      rw [← hh2] at st2 fx
      generalize hfp : [n + 4, n + 2, n + 3, n, n + 1] = fp at f2 fx
      rw [hn]
      refine wpAny_newObj_type (newEnv_comp ?_) (by show 0 ≤ sizeLine; decide)
      generalize hDd : s2.heap.objs.size = dst
      have hDn : H1 dst = none := I2.hok.fresh (Nat.le_of_eq hDd)
      generalize hs3 : ({ s2 with heap := s2.heap.push { cls := .type "list", data := .seq ([] : List Value).toArray } } : Shared) = s3
      have h3 : s3.heap = s2.heap.push { cls := .type "list", data := .seq ([] : List Value).toArray } := by rw [← hs3]
      have I3 : Inv X pins σ (upd H1 dst (.lst [])) s3 := by
        rw [← hs3]
        refine I2.laid (t' := s2.toks) (fun b o e => Heap.get?_push_of_some _ e) (Nat.le_of_eq hDd) ⟨Nat.zero_le _, [], 0, .nil, ?_⟩
        rw [← hDd]
        exact Heap.get?_push_size _ rfl
      have f3 : ∀ c ∈ fp, FpOk X pins (upd H1 dst (.lst [])) c ∧ c < s3.heap.objs.size := fun c hc => by
        have hlt := (fx c hc).2
        refine ⟨⟨?_, (f2 c hc).2⟩, by rw [h3, Heap.size_push]; exact Nat.lt_succ_of_lt hlt⟩
        rw [upd_ne (by rw [← hDd]; exact Nat.ne_of_lt hlt)]
        exact (f2 c hc).1
      have st3 : ZipSt (n + 4) (n + 2) (n + 3) n (n + 1) a b 0 s3.heap := st2.keep fun c _ o e => by rw [h3]; exact Heap.get?_push_of_some _ e
      have I4 := block_start I3 ok hN f3
      show codeAny _ _ (.compStart (.ListComp (.Name w1 pe) [⟨.Tuple [.Name w1 q1, .Name g1 q2] kt pt, .Call (.Name "zip" pz) [e1, e2] [] pc, [.Name g1 q3], 0⟩] scope pos) 0 (.ref (n + 4)) (.ref dst) (compEnvC scope (cellsFrom (s3.heap.objs.size + 1) scope.names (cloFrom X.env.cells scope.names [])) s3.heap.objs.size X.env)) (compPost (model X.prog X.w) X.A X.xe (some (assign (.Name y py) X.env)) (fun _ s' => SP X pins D .next s') (.ref dst) s3.heap.objs.size) { s3 with heap := pushCells (s3.heap.push { cls := .type "dict", data := .dict #[] }) scope.names }
      have kC : ∀ {x : Str}, scope.names.lookup x = some .local → (compEnvC scope (cellsFrom (s3.heap.objs.size + 1) scope.names (cloFrom X.env.cells scope.names [])) s3.heap.objs.size X.env).scope.names.lookup x = some .local := fun {x} e => lookup_relS_keep (by decide) e
      have kF : ∀ x : Str, (compEnvC scope (cellsFrom (s3.heap.objs.size + 1) scope.names (cloFrom X.env.cells scope.names [])) s3.heap.objs.size X.env).scope.names.lookup x = some .local → True := fun _ _ => trivial
      generalize hce : compEnvC scope (cellsFrom (s3.heap.objs.size + 1) scope.names (cloFrom X.env.cells scope.names [])) s3.heap.objs.size X.env = ce at I4 kC ⊢
      have cL : ce.locals = s3.heap.objs.size := by subst hce; rfl
      have lB1 := kC l1
      have lB2 := kC l2
      generalize hH3 : upd H1 dst (.lst []) = H3 at I3 I4 f3
      generalize hs4 : ({ s3 with heap := pushCells (s3.heap.push { cls := .type "dict", data := .dict #[] }) scope.names } : Shared) = s4 at I4 ⊢
      have k34 : ∀ c o, s3.heap.get? c = some o → s4.heap.get? c = some o := fun c o e => by rw [← hs4]; exact pushCells_keeps _ _ _ _ (Heap.get?_push_of_some _ e)
      have st4 : ZipSt (n + 4) (n + 2) (n + 3) n (n + 1) a b 0 s4.heap := st3.keep fun c _ o e => k34 c o e
      have P3 := I3.pin p (List.mem_append_left _ hp)
      have pfs : p.1 ∉ frs X.stack := fun hm => (List.mem_cons.mp (I3.stkSub p.1 hm)).elim P3.2.2.1 P3.2.2.2.1
      have I4p : Inv (X.blk s3 H3 scope ce fp) [p] (L2.wipe σ [i1, i2]) H3 s4 := pin_ok I3 hp I4 (fun o e => k34 _ o e) (by rw [cL]; exact Nat.ne_of_lt (Heap.lt_size P3.1)) pfs
      have nfp : ∀ c ∈ fp, H3 c = none := fun c hc => (f3 c hc).1.1
      have stat : ∀ {σ' : L2.St} {H' : Hp} {s' : Shared}, Inv (X.blk s3 H3 scope ce fp) [p] σ' H' s' → (∀ c ∈ fp, H' c = none) → ∀ c ∈ fp, FpOk (X.blk s3 H3 scope ce fp) [p] H' c := fun {σ' H' s'} I' hn c hc =>
        ⟨hn c hc, (I'.ok.exf c hc).1, I'.ok.exfs c hc, .inl hc, fun x d e => (I'.ok.exf c hc).2 x d e, fun q hq => by
          have e' : q = p := by simpa using (show q ∈ ([] : List (Addr × Obj)) ++ [p] from hq)
          subst e'
          exact (f2 c hc).2.2.2.2.2 q (List.mem_append_left _ hp)⟩
      have loop : codeAny (model X.prog X.w) X.A (.compLoop (.ListComp (.Name w1 pe) [⟨.Tuple [.Name w1 q1, .Name g1 q2] kt pt, .Call (.Name "zip" pz) [e1, e2] [] pc, [.Name g1 q3], 0⟩] scope pos) 0 (.ref (n + 4)) (.ref dst) ce) (compPost (model X.prog X.w) X.A X.xe (some (assign (.Name y py) X.env)) (fun _ s' => SP X pins D .next s') (.ref dst) s3.heap.objs.size) s4 := by
        have k13 : ∀ c o, H1 c = some o → H3 c = some o := fun c o e => by rw [← hH3, upd_ne (ne_of_none e hDn)]; exact e
        have hd3 : H3 dst = some (.lst ((selW (ws.take 0) (bs.take 0)).map V.str)) := by rw [← hH3, upd_same]; rfl
        refine compLoop_any (fun m s' => ∃ i H', m = ws.length - i ∧ i ≤ ws.length ∧ Inv (X.blk s3 H3 scope ce fp) [p] (L2.wipe σ [i1, i2]) H' s' ∧ ZipSt (n + 4) (n + 2) (n + 3) n (n + 1) a b i s'.heap ∧ (∀ c ∈ fp, H' c = none) ∧ (∀ c o, H1 c = some o → H' c = some o) ∧ H' dst = some (.lst ((selW (ws.take i) (bs.take i)).map V.str))) ?_ ws.length ⟨0, H3, rfl, Nat.zero_le _, I4p, st4, nfp, k13, hd3⟩
        rintro m s5 ⟨i, H5, rfl, hi, I5, st5, n5, k5, hd5⟩
        have qx5 : SqL (X.blk s3 H3 scope ce fp).K H5 a (ws.map V.str) := SqL.grow hqx k5
        have qy5 : SqL (X.blk s3 H3 scope ce fp).K H5 b (bs.map V.bl) := SqL.grow hqy k5
        by_cases hlt : i < ws.length
        · have hlt2 : i < bs.length := by omega
          have hw : ws[i]? = some ws[i] := List.getElem?_eq_getElem hlt
          have hb : bs[i]? = some bs[i] := List.getElem?_eq_getElem hlt2
          have hstep := selW_step ws bs i _ _ hw hb
          generalize ws[i] = w0 at hw hstep
          generalize bs[i] = b0 at hb hstep
          have ff5 : ∀ c ∈ [n + 4, n + 2, n + 3, n, n + 1], FpOk (X.blk s3 H3 scope ce fp) [p] H5 c := fun c hc => stat I5 n5 c (by rw [← hfp]; exact hc)
          refine thnF (zip_item (X := X.blk s3 H3 scope ce fp) (elts := [.Name w1 q1, .Name g1 q2]) (kk := kt) (tpos := pt) (x := .str w0) (y := .bl b0) D0 I5 ff5 st5 qx5 qy5 (by rw [List.getElem?_map, hw]; rfl) (by rw [List.getElem?_map, hb]; rfl)) fun r s6 ⟨u, hr, h6⟩ => ?_
          subst hr
          refine thnF h6 fun _ s7 ⟨T, hu, hT, I7, st7, n7⟩ => ?_
          subst hu
          rw [hfp] at n7
          have nT : ∀ c o, H5 c = some o → c ≠ T := fun c o e => ne_of_none e hT
          have I7' := I7.pinned (stat I7 n7) (fun c hc => st7.obj c (by rw [hfp]; exact hc))
          generalize hpl : [p] ++ pinsAt fp s7.heap = pl at I7'
          obtain ⟨_, its7, r7, t7⟩ := I7'.hok T _ upd_same
          obtain ⟨v1, v2, e7, rw1, rb1⟩ := vals2 r7
          obtain ⟨hh, vs1, e1', c1⟩ := id hot
          have pin7 := I7'.pin p (by rw [← hpl]; simp)
          refine hot_assignT (x1 := p.1) ⟨hh, p.2, vs1, pin7.1, e1', c1⟩ t7 (by rw [e7]; rfl) rfl fun h8 hx8 => ?_
          have I8 : Inv (X.blk s3 H3 scope ce fp) pl (L2.wipe σ [i1, i2]) (upd H5 T (.tup [.str w0, .bl b0])) { s7 with heap := h8 } := I7'.kept (t' := s7.toks) fun c o e => hx8 c o (Nat.ne_of_lt (Heap.lt_size e)) e
          rw [e7]
          show wpAny _ _ (assignInOrder [assign (.Name w1 q1) ce, assign (.Name g1 q2) ce] [v1, v2]) _ _ _
          refine assignInOrder_cons (wpAny_assign_Name (store_ok (X := X.blk s3 H3 scope ce fp) (v := .str w0) I8 hN n1 (.inl lB1) rw1 (fun s9 I9 => ?_) (.inr lB1)))
          refine assignInOrder_cons (wpAny_assign_Name (store_ok (X := X.blk s3 H3 scope ce fp) (v := .bl b0) I9 hN n2 (.inl lB2) rb1 (fun s10 I10 => assignInOrder_nil ?_) (.inr lB2)))
          have hl1 : i1 < (L2.wipe σ [i1, i2]).length := by rw [I5.len]; exact (List.getElem?_eq_some_iff.mp n1).1
          have hl2 : i2 < (L2.wipe σ [i1, i2]).length := by rw [I5.len]; exact (List.getElem?_eq_some_iff.mp n2).1
          generalize hσ8 : ((L2.wipe σ [i1, i2]).set i1 (some (.str w0))).set i2 (some (.bl b0)) = σ8 at I10
          have g2 : σ8[i2]? = some (some (.bl b0)) := by rw [← hσ8]; exact List.getElem?_set_self (by simpa using hl2)
          have g1' : σ8[i1]? = some (some (.str w0)) := by rw [← hσ8, List.getElem?_set_ne (Ne.symm n12)]; exact List.getElem?_set_self hl1
          have back : ∀ (j : Nat) (v : V), (L2.wipe σ [i1, i2])[j]? = some (some v) → σ8[j]? = some (some v) := fun j v e => by
            have e' := (wipe_some e).2
            simp only [List.mem_cons, List.not_mem_nil, or_false, not_or] at e'
            rw [← hσ8, List.getElem?_set_ne (fun z => e'.2 z.symm), List.getElem?_set_ne (fun z => e'.1 z.symm)]
            exact e
          have fin : ∀ {s' : Shared} {H' : Hp}, Inv (X.blk s3 H3 scope ce fp) pl σ8 H' s' → (∀ c o, H1 c = some o → H' c = some o) → H' dst = some (.lst ((selW (ws.take (i + 1)) (bs.take (i + 1))).map V.str)) →
              ∃ m', m' < ws.length - i ∧ ∃ i H', m' = ws.length - i ∧ i ≤ ws.length ∧ Inv (X.blk s3 H3 scope ce fp) [p] (L2.wipe σ [i1, i2]) H' s' ∧ ZipSt (n + 4) (n + 2) (n + 3) n (n + 1) a b i s'.heap ∧ (∀ c ∈ fp, H' c = none) ∧ (∀ c o, H1 c = some o → H' c = some o) ∧ H' dst = some (.lst ((selW (ws.take i) (bs.take i)).map V.str)) := fun {s' H'} I' kk hd' => by
            rw [← hpl] at I'
            have pin' : ∀ c ∈ fp, ∀ o, s7.heap.get? c = some o → s'.heap.get? c = some o ∧ H' c = none := fun c hc o e =>
              let z := I'.pin (c, o) (List.mem_append_right _ (List.mem_append_right _ (mem_pinsAt hc e)))
              ⟨z.1, z.2.1⟩
            refine ⟨ws.length - (i + 1), by omega, i + 1, H', rfl, hlt, (I'.unpinned (pins := [p])).weak (by rw [← hσ8]; simp) back, st7.keep fun c hc o e => (pin' c (by rw [← hfp]; exact hc) o e).1, fun c hc => ?_, kk, hd'⟩
            obtain ⟨o, e, _⟩ := st7.obj c (by rw [hfp]; exact hc)
            exact (pin' c hc o e).2
          have k10 : ∀ c o, H1 c = some o → upd H5 T (.tup [.str w0, .bl b0]) c = some o := fun c o e => by rw [upd_ne (nT c o (k5 c o e))]; exact k5 c o e
          have hd10 : upd H5 T (.tup [.str w0, .bl b0]) dst = some (.lst ((selW (ws.take i) (bs.take i)).map V.str)) := by rw [upd_ne (nT dst _ hd5)]; exact hd5
          have pv2 : PE (X.blk s3 H3 scope ce fp) (.Name g1 q3) (tVar i2) := pe_var n2 (.inl lB2) d3 d4
          have pv1 : PE (X.blk s3 H3 scope ce fp) (.Name w1 pe) (tVar i1) := pe_var n1 (.inl lB1) d1 d2
          refine thnF ((pts_one (pt_val pv2)).run _ s10 σ8 _ (fun k H' => k = b0 ∧ H' = upd H5 T (.tup [.str w0, .bl b0])) I10 ⟨_, g2, b0, rfl, rfl, rfl⟩) fun k s11 ⟨H11, I11, hk, hH⟩ => ?_
          subst hk; subst hH
          cases k with
          | false =>
            rw [if_neg (by simp)]
            exact fin I11 k10 (by rw [hd10, hstep]; simp)
          | true =>
            rw [if_pos rfl]
            refine thnF (pv1.run _ s11 σ8 _ (fun v H' => v = .str w0 ∧ H' = upd H5 T (.tup [.str w0, .bl true])) I11 ⟨_, g1', rfl, rfl⟩) fun x s12 ⟨v12, H12, I12, r12, hv, hH⟩ => ?_
            subst hv; subst hH
            refine app_ok (X := X.blk s3 H3 scope ce fp) I12 hd10 ?_ r12 fun s13 I13 => fin I13 (fun c o e => ?_) ?_
            · have q1 := selW_le (ws.take i) (bs.take i)
              rw [List.length_take] at q1
              rw [List.length_map]
              rw [List.length_map] at hsz1
              omega
            · have : c ≠ dst := fun z => by rw [z, hDn] at e; cases e
              rw [upd_ne this]; exact k10 c o e
            · rw [upd_same, hstep]; simp
        · have hie : i = ws.length := by omega
          have ff5 : ∀ c ∈ [n + 4, n + 2, n + 3, n, n + 1], FpOk (X.blk s3 H3 scope ce fp) [p] H5 c := fun c hc => stat I5 n5 c (by rw [← hfp]; exact hc)
          refine thnF (zip_done (X := X.blk s3 H3 scope ce fp) hot (by simp) D0 I5 ff5 st5 qx5 qy5 (.inl (by rw [List.length_map]; omega))) fun r s6 ⟨hr, I6⟩ => ?_
          subst hr
          have I7 : Inv X pins σ H5 s6 := I3.call' (ch := fp) I6.os I6.base I6.hok I6.bare fun c hc => ⟨(f3 c hc).1.2.2.2.1, (f3 c hc).1.2.1, (f3 c hc).1.2.2.2.2.1, (f3 c hc).1.2.2.2.2.2⟩
          have nC : H5 s3.heap.objs.size = none := by
            have z : H5 ce.locals = none := I6.free
            rw [cL] at z
            exact z
          obtain ⟨m, hns, _⟩ := I6.loc
          have hns : s6.heap.Ns ce.locals m := hns
          rw [cL] at hns
          have ff := I3.fpOk (b := s3.heap.objs.size) (Nat.le_refl _) nC
          have qq := q dst H5 k5 hDn (by rw [hd5, hie, List.take_length, hlen, List.take_length])
          show wpAny _ _ (assign (.Name y py) X.env (.ref dst)) _ _ _
          refine wpAny_assign_Name (store_ok2 (v := V.ref dst) I7 hN hy (.inl hyl) rfl (fun s8 I8 ⟨c, sb, hc⟩ => ?_) (.inr hyl))
          obtain ⟨f0, f1, f2', f3', f4, f5⟩ := ff
          have haC : s3.heap.objs.size ≠ c := by
            rcases hc with z | z
            · rw [z]; exact f1
            · exact fun e => f4 y c z e.symm
          exact ⟨m, hns.sameBut sb haC, fun h9 sb9 => ⟨_, H5, I8.turned (t' := s8.toks) (fun d o hd e => (sb9.2 d hd).trans e) f0 f1 f3' f4 f5, qq⟩⟩
      exact codeAny_compStart_list loop (wpAny_pyIter_zip st4.1 loop)
end
end Ev


set_option maxHeartbeats 4000000
namespace Ev
open PySem PySem.Spec PyProof.Rows L2 LamX
section
variable {X : Cx} {pins : List (Addr × Obj)} {σ : L2.St} {H : Hp} {s : Shared}
/-- the lambda is made; nothing that is tracked goes -/
theorem lam_make3 {T : List (Addr × Str)} {c P : Addr} {params : Arguments} {body : Expr} {scope : Scope} {pos : Pos} {E : Value → Shared → Prop} {Q : Value → Shared → Prop} (I : Inv X pins σ H s) (TB : TabB X.base X.mg c P) (hcode : X.env.code = .ref c)
    (hm : (P, X.env.qual ++ "<lambda>") ∈ T) (hu : ∀ p ∈ T, p.1 = P → p.2 = X.env.qual ++ "<lambda>") (hT : Tabs T H) (hdef : defaultsOf params X.env = ([], [])) (hfree : ∀ y ∈ scope.names, y.2 = .free → ∃ c, X.env.cells.lookup y.1 = some c)
    (h : ∀ (f c' : Addr) (pm ctv : Value) (H1 : Hp) (s' : Shared), Inv X pins σ H1 s' → (∀ b o, H b = some o → (∀ p ∈ T, p.1 ≠ b) → H1 b = some o) → (∀ b, H b ≠ none → H1 b ≠ none) → Tabs T H1 →
      s'.heap.get? f = some (PySem.W.kla_obj "<lambda>" (X.env.qual ++ "<lambda>") params body scope (cloFrom X.env.cells scope.names []) pm c' ctv) → H1 f = none → f ∉ frs X.stack → H1 c' = some (CodeO c' (X.env.qual ++ "<lambda>")) → FpOk X pins H1 f → Q (.ref f) s') :
    wpAny (model X.prog X.w) X.A (eval (.Lambda params body scope pos) X.env) Q E s := by
  obtain ⟨ps, hP, ht, ha⟩ := hT _ hm
  have bP : s.heap.BuiltinsAt X.mg P := TB.bm.keeps I.bk
  have hP' : s.heap.get? P = some { cls := .none, data := .fields ps } := I.hok P _ hP
  have away : ∀ f, s.heap.objs.size ≤ f → f ∉ frs X.stack := fun f hf z => by
    rcases List.mem_cons.mp (I.stkSub _ z) with e | e
    · have h1 := I.lt
      rw [← e] at h1
      exact Nat.lt_irrefl _ (Nat.lt_of_lt_of_le h1 hf)
    · exact I.nofs hf e
  refine PySem.W.kla_eval hdef ?_
  cases hc : codeAmong pos ps.toList with
  | some cv =>
    obtain ⟨c', e, hco⟩ := ha pos cv hc
    subst e
    exact PySem.W.kla_makeFunctionHit (mg := X.mg) (c := c) (P := P) (ps := ps) (closure_ok hfree) I.ok.glob (I.mod.glob.keeps I.bk) hcode (TB.code.keeps I.bk) hP' ht hc bP fun ctv h' tk hx hsz =>
      h h'.objs.size c' ((X.mg "__name__").getD .none) ctv H _ (I.kept fun b o e => Heap.get?_push_of_some _ (hx b o e)) (fun _ _ e _ => e) (fun _ z => z) hT (Heap.get?_push_size _ rfl) (I.hok.fresh hsz) (away _ hsz) hco (I.fpOk hsz (I.hok.fresh hsz))
  | none =>
    refine PySem.W.kla_makeFunction (mg := X.mg) (c := c) (P := P) (ps := ps) (closure_ok hfree) I.ok.glob (I.mod.glob.keeps I.bk) hcode (TB.code.keeps I.bk) hP' ht hc TB.gP bP fun c' ctv h' tk hx hge hlt hrec htb => ?_
    obtain ⟨c2, oc, vs, t, e2, hoc, hd, hv⟩ := hrec
    cases e2
    have hsz : s.heap.objs.size ≤ h'.objs.size := Nat.le_trans hge (Nat.le_of_lt hlt)
    have nC : H c' = none := I.hok.fresh hge
    have nPC : P ≠ c' := ne_of_none hP nC
    generalize hmore : (#[rawInt pos.line, rawInt pos.col, .ref c'] : Array Value) = more at htb
    have eL : (ps ++ more).toList = ps.toList ++ [rawInt pos.line, rawInt pos.col, .ref c'] := by rw [← hmore]; simp
    have at_ : ∀ b, b ≠ c' → b ≠ P → upd (upd H P (.tbl (ps ++ more))) c' (CodeO c' (X.env.qual ++ "<lambda>")) b = H b := fun b h1 h2 => by rw [upd_ne h1, upd_ne h2]
    have atP : upd (upd H P (.tbl (ps ++ more))) c' (CodeO c' (X.env.qual ++ "<lambda>")) P = some (.tbl (ps ++ more)) := by rw [upd_ne nPC, upd_same]
    have hE : ExtN H (upd (upd H P (.tbl (ps ++ more))) c' (CodeO c' (X.env.qual ++ "<lambda>"))) := fun b o e n => by
      rw [at_ b (ne_of_none e nC) (fun z => n ps (Option.some.inj (e.symm.trans (by rw [z]; exact hP))))]
      exact e
    have fN : upd (upd H P (.tbl (ps ++ more))) c' (CodeO c' (X.env.qual ++ "<lambda>")) h'.objs.size = none := by
      rw [at_ _ (Nat.ne_of_gt hlt) (Nat.ne_of_gt (Nat.lt_of_lt_of_le (Heap.lt_size hP') hsz))]
      exact I.hok.fresh hsz
    refine h h'.objs.size c' ((X.mg "__name__").getD .none) ctv _ _ (inv_table (t' := tk) (more := more) (h' := h'.push _) I hP (fun b o hb e => Heap.get?_push_of_some _ (hx b o hb e)) (Heap.get?_push_of_some _ htb) hge ⟨oc, vs, t, Heap.get?_push_of_some _ hoc, hd, hv⟩) (fun b o e n => by rw [at_ b (ne_of_none e nC) (fun z => n _ hm z.symm)]; exact e) (fun b hb => ?_) (fun p hp => ?_) (Heap.get?_push_size _ rfl) fN (away _ hsz) upd_same (I.fpOk hsz fN)
    · by_cases h1 : b = c'
      · rw [h1, upd_same]; simp
      · by_cases h2 : b = P
        · rw [h2, atP]; simp
        · rw [at_ b h1 h2]; exact hb
    · by_cases hb : p.1 = P
      · rw [hu p hp hb, hb]
        refine ⟨_, atP, by rw [eL]; exact PySem.TriplesOk_snoc _ _ _ _ ht, fun p' cv hcv => ?_⟩
        rw [eL] at hcv
        rcases among_app _ ht hcv with z | z
        · obtain ⟨c0, e1, e2⟩ := ha p' cv z
          exact ⟨c0, e1, hE _ _ e2 codeO_ne⟩
        · exact ⟨c', z, upd_same⟩
      · obtain ⟨ps', a1, a2, a3⟩ := hT p hp
        refine ⟨ps', by rw [at_ _ (ne_of_none a1 nC) hb]; exact a1, a2, fun p' cv hcv => ?_⟩
        obtain ⟨c0, e1, e2⟩ := a3 p' cv hcv
        exact ⟨c0, e1, hE _ _ e2 codeO_ne⟩
end
/-- the lambda's body, entered at s from the frames outer: what leaves has no context -/
abbrev lamN (X : Cx) (A : Around) (outer : List Env) (s : Shared) (H : Hp) (E : XK) (scope : Scope) (f c' : Addr) : Cx :=
  { lamCx X A outer s H E scope f c' with
    xe := fun e s' => wpAny (model X.prog X.w) (A.deeper (lamEnv X scope s.heap.objs.size f c')) (leaving (lamEnv X scope s.heap.objs.size f c') e) (fun _ s'' => L2N.CX X.prog X.w outer H s E e s'') (fun e' s'' => L2N.CX X.prog X.w outer H s E e' s'') s' }
theorem Inv.toN {X : Cx} {A : Around} {outer : List Env} {s0 : Shared} {H0 : Hp} {E : XK} {scope : Scope} {f c' : Addr} {pins : List (Addr × Obj)} {σ : L2.St} {H : Hp} {s : Shared} (I : Inv (lamCx X A outer s0 H0 E scope f c') pins σ H s) : Inv (lamN X A outer s0 H0 E scope f c') pins σ H s :=
  ⟨⟨I.ok.mod, I.ok.kind, I.ok.glob, I.ok.blt, I.ok.above, I.ok.inj, I.ok.has, I.ok.cab, I.ok.hd, I.ok.frames, I.ok.stk, I.ok.exf, I.ok.bs, I.ok.bsz, I.ok.noex, I.ok.exfs, I.ok.funs, I.ok.frf⟩, I.os, I.bare, I.base, I.loc, I.cell, I.free, I.freeC, I.pin, I.hok, I.len⟩
section
variable {X : Cx} {pins : List (Addr × Obj)} {σ : L2.St} {H : Hp} {s : Shared}
/-- x(), in the def that got the lambda: Z is that def's context, entered at s -/
theorem pe_actN {CXg : CXT} {Eg : XK} {Ng : List Str} {qg : Str} {sg : Scope} {g f c' : Addr} {cdg pm ctv : Value} {params : Arguments} {body : Expr} {scope : Scope} {k i : Nat} {a : Str} {pn : List (Addr × Obj)} {xe : Value → Shared → Prop} {W : WX} {E : XK} {tb : TE} {p1 p2 : Pos}
    (I : Inv X pins σ H s) (L : LamS X.env.scope scope) (hf : s.heap.get? f = some (PySem.W.kla_obj "<lambda>" (X.env.qual ++ "<lambda>") params body scope (cloFrom X.env.cells scope.names []) pm c' ctv)) (hfn : H f = none) (hfr : f ∉ frs X.stack)
    (hbind : bindArgs (PySem.W.kla_fn "<lambda>" (X.env.qual ++ "<lambda>") params body scope (cloFrom X.env.cells scope.names []) pm (.ref c') ctv) ⟨[], []⟩ = pure [])
    (tk : L2N.Takes ((cxOf CXg X.prog X.w X.K X.mg X.base Ng qg sg g cdg X.A X.stack s H Eg).tr pn xe) W) (hW : ∀ cls d σ' H', E cls d H' → W cls d σ' H') (hr : Room (k + 1) (X.A.deeper (envOfC qg sg s.heap.objs.size g cdg)))
    (hbody : ∀ (A : Around) (outer : List Env) (s : Shared) (H : Hp), Room k (A.deeper (lamEnv X scope s.heap.objs.size f c')) → PE (lamN X A outer s H E scope f c') body tb)
    (hN : Ng[i]? = some a) (hv : Vis sg a) (hd : (a == ("__debug__" : Str)) = false) (hcd : (a == ("__classdict__" : Str)) = false) :
    PE ((cxOf CXg X.prog X.w X.K X.mg X.base Ng qg sg g cdg X.A X.stack s H Eg).tr pn xe) (.Call (.Name a p1) [] [] p2)
      (fun σZ HZ Q => σZ[i]? = some (some (.ref f)) ∧ HZ c' = some (CodeO c' (X.env.qual ++ "<lambda>")) ∧ tb σ HZ Q) := by
  generalize hZ : (cxOf CXg X.prog X.w X.K X.mg X.base Ng qg sg g cdg X.A X.stack s H Eg).tr pn xe = Z at tk ⊢
  refine ⟨fun pinsZ sZ σZ HZ Q IZ h => ?_⟩
  obtain ⟨hs, hc, ht⟩ := h
  subst hZ
  refine wpAny_Call_Name_kw (thn ((pe_var (pos := p1) (i := i) hN hv hd hcd).run pinsZ sZ σZ HZ (fun v H1 => v = .ref f ∧ H1 = HZ) IZ ⟨.ref f, hs, rfl, rfl⟩) fun u s1 ⟨v, H1, I1, r1, q1⟩ => ?_)
  obtain ⟨ev, eH⟩ := q1
  subst ev
  rw [eH] at I1
  obtain rfl : u = Value.ref f := r1
  have of1 := I1.base.keep f _ hf hfn hfr (fun z => nomatch (show f ∈ ([] : List Addr) from z))
  have un : Un (frs X.stack) [] H HZ s.heap s1.heap := I1.base
  obtain ⟨⟨oc, vs, t, hoc, hdc, hvc⟩, _, _⟩ := I1.hok c' _ hc
  refine PySem.W.callWith_F0 ⟨_, _, _, _, of1⟩ ?_
  have rc : codeAny (model X.prog X.w) (X.A.deeper (envOfC qg sg s.heap.objs.size g cdg)) (.call (.ref f) ⟨[], []⟩) (CR (L2N.CX X.prog X.w) (envOfC qg sg s.heap.objs.size g cdg :: X.stack) X.prog X.w HZ s1 Q E) s1 := by
    refine PySem.W.kla_callFunE hr.depth of1 rfl L.co L.gen rfl ⟨c', oc, vs, t, rfl, hoc, hdc, hvc⟩ ?_
    rw [hbind]
    refine wpAny_pure (wpAny_newFunctionEnv (fun y hy => (L.own y hy).2) (fun y hy => absurd hy (by simp)) (fun h₁ hns hsb => ⟨I1.nolimit.fresh _ hsb, ?_⟩) L.kind)
    show codeAny _ _ (.expr body (lamEnv X scope s1.heap.objs.size f c')) _ _
    have kp : ∀ b o, s1.heap.get? b = some o → h₁.get? b = some o := fun b o e => hsb.extBut b o (Nat.ne_of_lt (Heap.lt_size e)) (Heap.get?_push_of_some _ e)
    have J := Inv.toN (lam_start2 (E := E) (scope := scope) (f := f) (c' := c') (tk := s1.toks + ([] : List (Str × Value)).length) I L I1.env0 hr.hd un hns kp)
    refine PySem.W.kla_codeExpr (wpAny_mono ((hbody _ _ s1 HZ (hr.deeper _)).run [] _ _ HZ Q J ht) (fun v s' hq => ?_) fun e s' hq => hq)
    obtain ⟨w', H', J', rv, q⟩ := hq
    exact ⟨w', H', J'.os, J'.bare, J'.base, J'.hok, rv, q⟩
  have hx := L2N.passes_call (E := E) tk fun cls d σ' H' h => hW cls d σ' H' h
  refine wpAny_call (codeAny_mono rc fun r s' hq => ?_)
  cases r with
  | error e => exact hx pinsZ σZ HZ s1 e s' I1 hq
  | ok fl =>
    cases fl with
    | ret u => exact I1.after hq
    | next => exact False.elim hq
    | brk => exact False.elim hq
    | cont => exact False.elim hq
end
end Ev


set_option maxHeartbeats 4000000
namespace Ev
open PySem PySem.Spec PyProof.Rows L2 LamX L2H
abbrev fltCx (X : Cx) (Ng : List Str) (x : Str) (sg : Scope) (g : Addr) (cdg : Value) (s : Shared) (H : Hp) : Cx := cxOf C8.CX0 X.prog X.w X.K X.mg X.base Ng x sg g cdg X.A X.stack s H C8.E0
def GivesN (X : Cx) (Ng : List Str) (x : Str) (sg : Scope) (g : Addr) (cdg : Value) (bg : List Stmt) (a : Str) (q : Str) (TT : (XK → Hp → VK → Prop) → Hp → VK → Prop) : Prop :=
  ∀ (f c' : Addr) (s : Shared) (H : Hp) (Q : VK) (tl : XK → Hp → VK → Prop),
    (∀ (W : WX) (pn : List (Addr × Obj)) (xe : Value → Shared → Prop) (E : XK) (p1 p2 : Pos), L2N.Takes ((fltCx X Ng x sg g cdg s H).tr pn xe) W → (∀ cls d σ' H', E cls d H' → W cls d σ' H') →
      PE ((fltCx X Ng x sg g cdg s H).tr pn xe) (.Call (.Name a p1) [] [] p2) (fun σZ HZ Q => σZ[0]? = some (some (.ref f)) ∧ HZ c' = some (CodeO c' q) ∧ tl E HZ Q)) →
    H c' = some (CodeO c' q) → TT tl H Q →
    ∃ t, PSs (fltCx X Ng x sg g cdg s H).nox bg t ∧ t { nx := fun _ H' => Q .non H', rt := Q } (L2.start Ng [.ref f]) H
def tLamN (T : List (Addr × Str)) (TT : (XK → Hp → VK → Prop) → Hp → VK → Prop) (t : XK → TE) : TE := fun σ H Q => Tabs T H ∧ ∀ H1, (∀ b o, H b = some o → (∀ p ∈ T, p.1 ≠ b) → H1 b = some o) → (∀ b, H b ≠ none → H1 b ≠ none) → Tabs T H1 → TT (fun E H' Q' => t E σ H' Q') H1 Q
theorem pe_lamcallN {X : Cx} {T : List (Addr × Str)} {TT : (XK → Hp → VK → Prop) → Hp → VK → Prop} {x a : Str} {g c P : Addr} {k : Nat} {pg : Arguments} {bg : List Stmt} {sg : Scope} {dV kV doc pm cdv ct oc : Value} {an od : Option Addr} {osl : Array (Option Value)} {Ng : List Str}
    {params : Arguments} {body : Expr} {scope : Scope} {t : XK → TE} {p lpos pos : Pos} (hg : Gl X x) (hm : X.mg x = some (.ref g)) (hk : PySem.W.keepIn X.K (.ref g) = true)
    (lk : X.K.lookup g = some ⟨oc, od, .func (PySem.W.fnOf x x pg bg sg dV kV doc pm an cdv ct), osl⟩) (hcg : PySem.W.codeIn X.K cdv x = true) (hb : L2.Binds X.K (PySem.W.fnOf x x pg bg sg dV kV doc pm an cdv ct) [a] []) (Sg : FnScope Ng [a] sg) (hNg : Ng[0]? = some a) (hva : Vis sg a)
    (hG : GivesN X Ng x sg g cdv bg a (X.env.qual ++ "<lambda>") TT)
    (TB : TabB X.base X.mg c P) (hcode : X.env.code = .ref c) (hmT : (P, X.env.qual ++ "<lambda>") ∈ T) (hu : ∀ p ∈ T, p.1 = P → p.2 = X.env.qual ++ "<lambda>") (hr : Room (k + 2) X.A) (L : LamS X.env.scope scope) (hdef : defaultsOf params X.env = ([], []))
    (hbind : ∀ (q : Str) (cl : List (Str × Addr)) (pm cv ctv : Value), bindArgs (PySem.W.kla_fn "<lambda>" q params body scope cl pm cv ctv) ⟨[], []⟩ = pure [])
    (hbody : ∀ (A : Around) (outer : List Env) (s : Shared) (H : Hp) (E : XK) (f c' : Addr), Room k (A.deeper (lamEnv X scope s.heap.objs.size f c')) → PE (lamN X A outer s H E scope f c') body (t E))
    (hdb : (x == ("__debug__" : Str)) = false) (hd : (a == ("__debug__" : Str)) = false) (hcd : (a == ("__classdict__" : Str)) = false) :
    PE X (.Call (.Name x p) [.Lambda params body scope lpos] [] pos) (tLamN T TT t) := by
  refine ⟨fun pins s σ H Q I h => ?_⟩
  obtain ⟨hT, h⟩ := h
  refine wpAny_Call_Name_kw (ld_glob I hg hm ?_ hdb)
  refine PySem.W.callWith_K (h₀ := X.base) I.ok.mod.kin hk ?_ (by rfl) (by rfl)
  show wpAny _ _ (spliced ((false, eval (.Lambda params body scope lpos) X.env) :: backTo pos (starEach [] X.env))) _ _ s
  refine Calls.spliced_cons (lam_make3 I TB hcode hmT hu hT hdef (L.has I.ok) fun f c' pm' ctv H1 s' I1 eN dm T1 hf hfn hfr hco _ => ?_)
  refine Calls.spliced_nil ⟨I1.kIn, ?_⟩
  have rc : codeAny (model X.prog X.w) X.A (.call (.ref g) ⟨[.ref f], []⟩) (CR C8.CX0 X.stack X.prog X.w H1 s' Q C8.E0) s' := by
    refine run_ofS (N := Ng) (ps := [a]) (us := [.ref f]) (vs := [.ref f]) lk hcg Sg hr I1.env0 (hb s' [.ref f] I1.kIn rfl) (.cons rfl .nil) rfl fun hr' => ?_
    obtain ⟨t', ht', hq'⟩ := hG f c' s' H1 Q (fun E H' Q' => t E σ H' Q') (fun W pn xe E p1 p2 tk hW => pe_actN (i := 0) I1 L hf hfn hfr (hbind _ _ _ _ _) tk hW hr' (fun A outer s H hr2 => hbody A outer s H E f c' hr2) hNg hva hd hcd) hco (h H1 eN dm T1)
    exact ⟨t', ht'.nox, hq'⟩
  refine wpAny_call (codeAny_mono rc fun r s2 hq => ?_)
  cases r with
  | error e => exact (show False from hq).elim
  | ok fl =>
    cases fl with
    | ret u => exact I1.after hq
    | next => exact False.elim hq
    | brk => exact False.elim hq
    | cont => exact False.elim hq
theorem takesN0 {X : Cx} : L2N.Takes X (fun _ _ _ _ => False) := fun _ _ x => by
  obtain ⟨_, _, _, _, _, _, _, _, _, _, _, _, _, _, _, _, z⟩ := x
  exact z.elim
def glB (sc : Scope) (x : Str) : Bool := decide (sc.names.lookup x = some .globalImplicit)
def loB (sc : Scope) (x : Str) : Bool := decide (sc.names.lookup x = some .local)
/-- isinstance(error, C) -/
def isiE (sc : Scope) : Expr → Option Str
  | .Call (.Name x _) [.Name e _, .Name c _] [] _ => if decide (x = "isinstance") && decide (e = "error") && glB sc c && !(c == ("__debug__" : Str)) then some c else none
  | _ => none
def isiEs (sc : Scope) : List Expr → Option (List Str)
  | [] => some []
  | e :: es => match isiE sc e, isiEs sc es with
    | some c, some cs => some (c :: cs)
    | _, _ => none
/-- what the def's text says: the class that it catches, the classes that it asks (in the statements' order), the words, the word otherwise -/
structure FS where
  err : Str
  m1 : List Str
  m2 : Option (List Str)
  ws : Str
  other : Str
def FS.marks (f : FS) : List Str := f.m1 ++ (f.m2.getD [])
def lastW : List Str → Bool → Str → Str
  | [w], bv, o => if bv then w else o
  | [], _, o => o
  | _ :: _ :: _, _, o => o
def wordF (ws : List Str) (bs : List Bool) (bv : Bool) (other : Str) : Str := lastW (selW ws bs) bv other
def Ng : List Str := ["call", "error", "marks", "words", "word", "good"]
/-- words = [..] -/
def asWords (sc : Scope) : Stmt → Option Str
  | .Assign [.Name y py] (.ListComp (.Name w1 pe) [⟨.Tuple [.Name w2 q1, .Name g1 q2] kt pt, .Call (.Name z pz) [.Call (.Attribute (.Constant (.str W) j1 p1) sp ap) [.Constant (.str sep) j2 p2] [] cp, .Name m pm] [] pc, [.Name g2 q3], 0⟩] scope pos) spos =>
    if decide (y = "words") && decide (w1 = "word") && decide (w2 = "word") && decide (g1 = "good") && decide (g2 = "good") && decide (z = "zip") && decide (sp = "split") && decide (sep = " ") && decide (m = "marks") && (ap.endLine == cp.line) && (py.line == pos.line) &&
      blkC Ng sc scope [("word", 4), ("good", 5)] && decide (scope.names.lookup ("word" : Str) = some .local) && decide (scope.names.lookup ("good" : Str) = some .local) && !(scope.names.any fun (n, k) => n == ("words" : Str) && (k == .local || k == .cell)) && decide (W.length + 2 ≤ sizeLine) then some W else none
  | _ => none
/-- return words[0] if len(words) == 1 and isinstance(error, ValueError) else 'other' -/
def asLastF (sc : Scope) : Stmt → Option Str
  | .Return (some (.IfExp (.BoolOp .And [.Compare (.Call (.Name l _) [.Name w1 _] [] _) [.Eq] [.Constant (.int 1) _ _] _, .Call (.Name i _) [.Name e _, .Name v _] [] _] _) (.Subscript (.Name w2 _) (.Constant (.int 0) _ _) _) (.Constant (.str o) _ _) _)) _ =>
    if decide (l = "len") && decide (w1 = "words") && decide (i = "isinstance") && decide (e = "error") && decide (v = "ValueError") && decide (w2 = "words") then some o else none
  | _ => none
def asMarks (sc : Scope) : Stmt → Option (List Str)
  | .Assign [.Name m _] (.List es _) _ => if decide (m = "marks") && es.all notStar then isiEs sc es else none
  | _ => none
def asMore (sc : Scope) : Stmt → Option (List Str)
  | .Assign [.Name m _] (.BinOp (.Name m2 _) .Add (.List es _) _) _ => if decide (m = "marks") && decide (m2 = "marks") && es.all notStar then isiEs sc es else none
  | _ => none
def asSuite (sc : Scope) : List Stmt → Option (List Str × Option (List Str) × Str × Str)
  | [a, b, c] => match asMarks sc a, asWords sc b, asLastF sc c with
    | some m, some w, some o => some (m, none, w, o)
    | _, _, _ => none
  | [a, a2, b, c] => match asMarks sc a, asMore sc a2, asWords sc b, asLastF sc c with
    | some m, some m2, some w, some o => some (m, some m2, w, o)
    | _, _, _, _ => none
  | _ => none
def scF (sc : Scope) : Bool := loB sc "error" && loB sc "marks" && loB sc "words" && loB sc "call" && glB sc "isinstance" && glB sc "zip" && glB sc "len" && glB sc "ValueError" && decide (sc.kind = .function)
def asFault (sc : Scope) : List Stmt → Option FS
  | [.Try [.Expr (.Call (.Name a _) [] [] _) _] [.ExceptHandler (some (.Name xe _)) (some en) (s0 :: suite) _] [] [] _, .Return (some (.Constant (.str r) _ _)) _] =>
    if decide (a = "call") && decide (en = "error") && decide (r = "") && glB sc xe && !(xe == ("__debug__" : Str)) && scF sc && C8.scC Ng ["call"] sc then
      match asSuite sc (s0 :: suite) with
      | some (m, m2, w, o) => some ⟨xe, m, m2, w, o⟩
      | none => none
    else none
  | _ => none
/-- what is known of the class D: its marks -/
inductive MarksOk (K : PySem.W.Frag) (mg : Str → Option Value) (D : Addr) : List Str → List Bool → Prop
  | nil : MarksOk K mg D [] []
  | cons {c : Str} {cs : List Str} {a : Addr} {b : Bool} {bs : List Bool} : mg c = some (.ref a) → PySem.W.kitOne K (.ref D) (.ref a) = some b → MarksOk K mg D cs bs → MarksOk K mg D (c :: cs) (b :: bs)
structure ClsF (K : PySem.W.Frag) (mg : Str → Option Value) (f : FS) (D : Addr) (w : Str) : Prop where
  exc : ExcC K D
  bs : ∃ b1 b2 bv, MarksOk K mg D f.m1 b1 ∧ MarksOk K mg D (f.m2.getD []) b2 ∧ PySem.W.kitOne K (.ref D) (.type "ValueError") = some bv ∧ (b1 ++ b2).length = (Txt.split f.ws " ").length ∧ w = wordF (Txt.split f.ws " ") (b1 ++ b2) bv f.other
theorem MarksOk.length {K : PySem.W.Frag} {mg : Str → Option Value} {D : Addr} {cs : List Str} {bs : List Bool} (h : MarksOk K mg D cs bs) : cs.length = bs.length := by
  induction h with
  | nil => rfl
  | cons _ _ _ ih => simp [ih]
end Ev


set_option maxHeartbeats 4000000
namespace Ev
open PySem PySem.Spec PyProof.Rows L2 LamX L2H
/-- the def's context -/
structure SuX (X : Cx) (sc : Scope) : Prop where
  N : X.N = Ng
  sc : X.env.scope = sc
  isi : X.mg "isinstance" = none
  zip : X.mg "zip" = none
  len : X.mg "len" = none
  val : X.mg "ValueError" = none
theorem loB_ok {X : Cx} {sc : Scope} {x : Str} (e : X.env.scope = sc) (h : loB sc x = true) : X.env.scope.names.lookup x = some .local := by
  rw [e]; exact of_decide_eq_true h
theorem glB_ok {X : Cx} {sc : Scope} {x : Str} (e : X.env.scope = sc) (h : glB sc x = true) : Gl X x := by
  show X.env.scope.names.lookup x = _
  rw [e]; exact of_decide_eq_true h
theorem ba2 {a b : Bool} (h : (a && b) = true) : a = true ∧ b = true := Bool.and_eq_true_iff.mp h
section
variable {X : Cx} {sc : Scope} {a D : Addr} {oe : Obj} {pn : List (Addr × Obj)}
structure ScF (sc : Scope) : Prop where
  err : loB sc "error" = true
  mar : loB sc "marks" = true
  wor : loB sc "words" = true
  cal : loB sc "call" = true
  isi : glB sc "isinstance" = true
  zip : glB sc "zip" = true
  len : glB sc "len" = true
  val : glB sc "ValueError" = true
  knd : sc.kind = .function
theorem scF_ok {sc : Scope} (h : scF sc = true) : ScF sc := by
  unfold scF at h
  simp only [Bool.and_eq_true, decide_eq_true_eq] at h
  obtain ⟨⟨⟨⟨⟨⟨⟨⟨h1, h2⟩, h3⟩, h4⟩, h5⟩, h6⟩, h7⟩, h8⟩, h9⟩ := h
  exact ⟨h1, h2, h3, h4, h5, h6, h7, h8, h9⟩
/-- a slot of the def's, seen -/
theorem pe_slot (S : SuX X sc) {x : Str} {i : Nat} {p : Pos} (hi : Ng[i]? = some x) (hl : loB sc x = true) (hd : (x == ("__debug__" : Str)) = false) (hc : (x == ("__classdict__" : Str)) = false) : PE (X.suite a ((a, oe) :: pn)) (.Name x p) (tVar i) :=
  pe_var (X := X.suite a ((a, oe) :: pn)) (by show X.N[i]? = _; rw [S.N]; exact hi) (.inl (loB_ok (X := X) S.sc hl)) hd hc
theorem pe_isi (S : SuX X sc) (hs : ScF sc) (C : ExcC X.K D) (hz : Zc (.ref D) none oe) (hf : ∃ vs, oe.data = .fields vs) {e : Expr} {c : Str} {b : Addr} {k : Bool} (h : isiE sc e = some c) (hm : X.mg c = some (.ref b)) (hk : PySem.W.kitOne X.K (.ref D) (.ref b) = some k) :
    PE (X.suite a ((a, oe) :: pn)) e (fun σ H Q => σ[1]? = some (some (.ref a)) ∧ Q (.bl k) H) := by
  unfold isiE at h
  split at h
  · split at h
    · rename_i hh
      cases h
      simp only [Bool.and_eq_true, Bool.not_eq_true', decide_eq_true_eq] at hh
      obtain ⟨⟨⟨rfl, rfl⟩, h3⟩, h4⟩ := hh
      have g1 : Gl (X.suite a ((a, oe) :: pn)) "isinstance" := glB_ok (X := X) S.sc hs.isi
      have g2 : Gl (X.suite a ((a, oe) :: pn)) c := glB_ok (X := X) S.sc h3
      refine PE.imp (pe_callB (call_isE (pn := pn) C hz hf) g1 S.isi boot_isinstance (pa_cons (pe_slot S (i := 1) (x := "error") rfl hs.err (by decide) (by decide)) (pa_cons (pe_glob g2 hm (v := .ref b) rfl h4) pa_nil)) (by decide) (by decide)) fun σ H Q q => ?_
      exact ⟨.ref a, q.1, .ref b, .ref b, k, rfl, fun u hu => hu, hk, q.2⟩
    · cases h
  · cases h
theorem pe_isis (S : SuX X sc) (hs : ScF sc) (C : ExcC X.K D) (hz : Zc (.ref D) none oe) (hf : ∃ vs, oe.data = .fields vs) : ∀ {es : List Expr} {cs : List Str} {bs : List Bool}, isiEs sc es = some cs → MarksOk X.K X.mg D cs bs →
    ∃ ts, PEs (X.suite a ((a, oe) :: pn)) es ts ∧ ∀ (σ : L2.St) (H : Hp) (K' : List V → Hp → Prop), σ[1]? = some (some (.ref a)) → K' (bs.map V.bl) H → tL ts σ H K'
  | [], cs, bs, h, m => by
    cases h
    cases m
    exact ⟨[], .nil, fun σ H K' _ k => k⟩
  | e :: es, cs, bs, h, m => by
    unfold isiEs at h
    split at h
    · rename_i c cs' h1 h2
      cases h
      cases m with
      | cons hm hk mr =>
        obtain ⟨ts, p, q⟩ := pe_isis S hs C hz hf h2 mr
        exact ⟨_, .cons (pe_isi S hs C hz hf h1 hm hk) p, fun σ H K' hσ k => ⟨hσ, q σ H _ hσ k⟩⟩
    · cases h
/-- the new list of marks -/
theorem pe_marks (S : SuX X sc) (hs : ScF sc) (C : ExcC X.K D) (hz : Zc (.ref D) none oe) (hf : ∃ vs, oe.data = .fields vs) {es : List Expr} {pos : Pos} {cs : List Str} {bs : List Bool} (h : isiEs sc es = some cs) (hn : es.all notStar = true) (m : MarksOk X.K X.mg D cs bs) (hl : bs.length ≤ 1000) :
    PE (X.suite a ((a, oe) :: pn)) (.List es pos) (fun σ H Q => σ[1]? = some (some (.ref a)) ∧ ∀ p, H p = none → Q (.ref p) (upd H p (.lst (bs.map V.bl)))) := by
  obtain ⟨ts, p, q⟩ := pe_isis S hs C hz hf h m
  refine PE.imp (pe_lst (p.pa hn)) fun σ H Q ⟨h1, h2⟩ => q σ H _ h1 ⟨?_, h2⟩
  rw [List.length_map]
  have : (1000 : Nat) ≤ sizeLine := by decide
  omega
theorem ps_marks (hN : X.N.Nodup) (S : SuX X sc) (hs : ScF sc) (C : ExcC X.K D) (hz : Zc (.ref D) none oe) (hf : ∃ vs, oe.data = .fields vs) {st : Stmt} {cs : List Str} {bs : List Bool} (h : asMarks sc st = some cs) (m : MarksOk X.K X.mg D cs bs) (hl : bs.length ≤ 1000) :
    PS (X.suite a ((a, oe) :: pn)) st (fun E σ H => σ[1]? = some (some (.ref a)) ∧ ∀ p, H p = none → E.nx (σ.set 2 (some (.ref p))) (upd H p (.lst (bs.map V.bl)))) := by
  unfold asMarks at h
  split at h
  · split at h
    · rename_i hh
      obtain ⟨h1, h2⟩ := ba2 hh
      obtain rfl := of_decide_eq_true h1
      have hx := loB_ok (X := X) S.sc hs.mar
      exact PS.imp (ps_set (X := X.suite a ((a, oe) :: pn)) (i := 2) hN (by show X.N[2]? = _; rw [S.N]; rfl) (.inl hx) (pe_marks S hs C hz hf h h2 m hl) (by rfl) (.inr hx)) fun E σ H q => q
    · cases h
  · cases h
theorem ps_more (hN : X.N.Nodup) (S : SuX X sc) (hs : ScF sc) (C : ExcC X.K D) (hz : Zc (.ref D) none oe) (hf : ∃ vs, oe.data = .fields vs) {st : Stmt} {cs : List Str} {b1 bs : List Bool} (h : asMore sc st = some cs) (m : MarksOk X.K X.mg D cs bs) (hl : bs.length ≤ 1000) (hl1 : b1.length ≤ 1000) :
    PS (X.suite a ((a, oe) :: pn)) st (fun E σ H => σ[1]? = some (some (.ref a)) ∧ ∃ l, σ[2]? = some (some (.ref l)) ∧ H l = some (.lst (b1.map V.bl)) ∧ ∀ p q, H p = none → p ≠ q → H q = none → E.nx (σ.set 2 (some (.ref q))) (upd (upd H p (.lst (bs.map V.bl))) q (.lst ((b1 ++ bs).map V.bl)))) := by
  unfold asMore at h
  split at h
  · split at h
    · rename_i hh
      simp only [Bool.and_eq_true, decide_eq_true_eq] at hh
      obtain ⟨⟨rfl, rfl⟩, h2⟩ := hh
      have hx := loB_ok (X := X) S.sc hs.mar
      refine PS.imp (ps_set (X := X.suite a ((a, oe) :: pn)) (i := 2) hN (by show X.N[2]? = _; rw [S.N]; rfl) (.inl hx) (pe_op op_catL (pe_slot (a := a) (oe := oe) (pn := pn) S (i := 2) (x := "marks") rfl hs.mar (by decide) (by decide)) (pe_marks S hs C hz hf h h2 m hl)) (by rfl) (.inr hx)) fun E σ H q => ?_
      obtain ⟨h1, l, hl2, hH, k⟩ := q
      refine ⟨.ref l, hl2, h1, fun p hp => ⟨l, p, b1.map V.bl, bs.map V.bl, rfl, rfl, .inl ?_, .inl upd_same, ?_, fun q hq => ?_⟩⟩
      · rw [upd_ne (ne_of_none hH hp)]; exact hH
      · rw [List.length_map, List.length_map]
        have : (2000 : Nat) ≤ sizeLine := by decide
        omega
      · have hpq : p ≠ q := fun z => by rw [← z, upd_same] at hq; cases hq
        have := k p q hp hpq (by rw [upd_ne (Ne.symm hpq)] at hq; exact hq)
        rw [List.map_append] at this
        exact this
    · cases h
  · cases h
/-- the words whose mark is true -/
theorem ps_wordsF (hot : Hot1 (X.A.mark (some (.ref a))) (a, oe)) (hN : X.N.Nodup) (S : SuX X sc) (hs : ScF sc) {st : Stmt} {W : Str} (h : asWords sc st = some W) {bs : List Bool} :
    PS (X.suite a ((a, oe) :: pn)) st (fun E σ H => ∃ l, σ[2]? = some (some (.ref l)) ∧ H l = some (.lst (bs.map V.bl)) ∧ bs.length = (Txt.split W " ").length ∧
      ∀ p H', (∀ c o, H c = some o → H' c = some o) → H' p = some (.lst ((selW (Txt.split W " ") bs).map V.str)) → E.nx (σ.set 3 (some (.ref p))) H') := by
  unfold asWords at h
  split at h
  · split at h
    · rename_i hh
      cases h
      simp only [Bool.and_eq_true, Bool.not_eq_true', decide_eq_true_eq] at hh
      obtain ⟨⟨⟨⟨⟨⟨⟨⟨⟨⟨⟨⟨⟨⟨⟨rfl, rfl⟩, rfl⟩, rfl⟩, rfl⟩, rfl⟩, rfl⟩, rfl⟩, rfl⟩, hline⟩, hline2⟩, hblk⟩, hl1⟩, hl2⟩, hany⟩, hsz⟩ := hh
      have hx := loB_ok (X := X) S.sc hs.wor
      have hm := loB_ok (X := X) S.sc hs.mar
      have eN : (X.suite a ((a, oe) :: pn)).N = Ng := S.N
      have eS : (X.suite a ((a, oe) :: pn)).env.scope = sc := S.sc
      refine PS.imp (ps_words (X := X.suite a ((a, oe) :: pn)) (p := (a, oe)) (iw := 3) (i1 := 4) (i2 := 5) hot List.mem_cons_self hN (by rw [eN]; rfl) hx (sw_true (by rw [eS]; exact hs.knd) hx hline2 hany) (glB_ok (X := X) S.sc hs.zip) S.zip
        (pa_cons (pe_split pe_str pe_str rfl rfl hline) (pa_cons (pe_slot S (i := 2) (x := "marks") rfl hs.mar (by decide) (by decide)) pa_nil)) rfl rfl (by rw [eN, eS]; exact blkOk_by hblk) (by rw [eN]; rfl) (by rw [eN]; rfl) (by decide) hl1 hl2 (by decide) (by decide) (by decide) (by decide)) fun E σ H q => ?_
      obtain ⟨l, h1, h2, h3, k⟩ := q
      refine ⟨⟨_, rfl⟩, _, _, rfl, rfl, by decide, hsz, fun p hp => ⟨.ref l, h1, p, l, _, bs, rfl, .inl (.inl upd_same), .inl (.inl ?_), h3.symm, fun p' H' hk hp' hq => k p' H' (fun c o e => ?_) hq⟩⟩
      · rw [upd_ne (ne_of_none h2 hp)]; exact h2
      · refine hk c o ?_
        rw [upd_ne (ne_of_none e hp)]; exact e
    · cases h
  · cases h
/-- what the def hands back -/
theorem ps_lastF (S : SuX X sc) (hs : ScF sc) (C : ExcC X.K D) (hz : Zc (.ref D) none oe) (hf : ∃ vs, oe.data = .fields vs) {st : Stmt} {o : Str} (h : asLastF sc st = some o) {ws : List Str} {bv : Bool} (hv : PySem.W.kitOne X.K (.ref D) (.type "ValueError") = some bv) (hl : ws.length ≤ 1000) :
    PS (X.suite a ((a, oe) :: pn)) st (fun E σ H => σ[1]? = some (some (.ref a)) ∧ ∃ l, σ[3]? = some (some (.ref l)) ∧ H l = some (.lst (ws.map V.str)) ∧ E.rt (.str (lastW ws bv o)) H) := by
  unfold asLastF at h
  split at h
  · split at h
    · rename_i hh
      cases h
      simp only [Bool.and_eq_true, decide_eq_true_eq] at hh
      obtain ⟨⟨⟨⟨⟨rfl, rfl⟩, rfl⟩, rfl⟩, rfl⟩, rfl⟩ := hh
      have pw := fun p => pe_slot (a := a) (oe := oe) (pn := pn) S (i := 3) (x := "words") (p := p) rfl hs.wor (by decide) (by decide)
      have pe := fun p => pe_slot (a := a) (oe := oe) (pn := pn) S (i := 1) (x := "error") (p := p) rfl hs.err (by decide) (by decide)
      have gl : Gl (X.suite a ((a, oe) :: pn)) "len" := glB_ok (X := X) S.sc hs.len
      have gi : Gl (X.suite a ((a, oe) :: pn)) "isinstance" := glB_ok (X := X) S.sc hs.isi
      have gv : Gl (X.suite a ((a, oe) :: pn)) "ValueError" := glB_ok (X := X) S.sc hs.val
      have t1 := fun p1 p2 p3 j4 p4 p5 => pt_cmpR (pos := p5) op_eq (pe_callB (p := p1) (pos := p3) call_len_seq gl S.len boot_len (pa_cons (pw p2) pa_nil) (by decide) (by decide)) (pe_int (X := X.suite a ((a, oe) :: pn)) (i := 1) (j := j4) (pos := p4)) (by rfl)
      have t2 := fun p1 p2 p3 p4 => pt_val (pe_callB (p := p1) (pos := p4) (call_isE (pn := pn) C hz hf) gi S.isi boot_isinstance (pa_cons (pe p2) (pa_cons (pe_bltn (pos := p3) (v := .ty "ValueError") (u := .type "ValueError") gv S.val (by decide +kernel) rfl (by decide) (by decide)) pa_nil)) (by decide) (by decide))
      refine PS.imp (ps_ret (pe_ifExp (PW.pt (pw_and (t1 _ _ _ _ _ _) (pw_and1 (t2 _ _ _ _)))) (pe_ix ix_list (pw _) pe_int (fun _ _ => rfl)) pe_str)) fun E σ H q => ?_
      obtain ⟨h1, l, h3, hH, k⟩ := q
      have hq : SqL X.K H l (ws.map V.str) := .inl (.inl hH)
      refine ⟨.ref l, h3, l, ws.map V.str, rfl, .inl hq, rfl, ?_⟩
      rw [List.length_map]
      refine ⟨_, rfl, ?_⟩
      cases ws with
      | nil => exact k
      | cons w r =>
        cases r with
        | cons w2 r => 
          have e : decide (V.int ((w :: w2 :: r).length : Int) = V.int 1) = false := by
            simp only [decide_eq_false_iff_not, V.int.injEq, List.length_cons]
            omega
          rw [if_neg (by rw [e]; exact Bool.false_ne_true)]
          exact k
        | nil =>
          rw [if_pos (show decide (V.int (([w] : List Str).length : Int) = V.int 1) = true from rfl)]
          refine ⟨.ref a, h1, .ty "ValueError", .type "ValueError", bv, rfl, fun u hu => hu, hv, bv, rfl, ?_⟩
          cases bv with
          | false => exact k
          | true => exact ⟨.ref l, h3, l, _, 0, .str w, rfl, rfl, hq, rfl, k⟩
    · cases h
  · cases h
/-- the whole suite: class D gives the word w -/
theorem pss_suite (hot : Hot1 (X.A.mark (some (.ref a))) (a, oe)) (hN : X.N.Nodup) (S : SuX X sc) (hs : ScF sc) (hz : Zc (.ref D) none oe) (hf : ∃ vs, oe.data = .fields vs) {ss : List Stmt} {m : List Str} {m2 : Option (List Str)} {W o w xe : Str} (h : asSuite sc ss = some (m, m2, W, o)) (C : ClsF X.K X.mg ⟨xe, m, m2, W, o⟩ D w) (hl : (Txt.split W " ").length ≤ 1000) :
    PSs (X.suite a ((a, oe) :: pn)) ss (fun E σ H => σ.length = 6 ∧ σ[1]? = some (some (.ref a)) ∧ ∀ H', (∀ c u, H c = some u → H' c = some u) → E.rt (.str w) H') := by
  obtain ⟨hE, b1, b2, bv, k1, k2, hv, hlen, hw⟩ := C
  have sel_le := selW_le (Txt.split W " ") (b1 ++ b2)
  have l1 : (b1 ++ b2).length ≤ 1000 := by rw [hlen]; exact hl
  rw [List.length_append] at l1
  have keep : ∀ {H : Hp} {p : Addr} {u : HO}, H p = none → ∀ c v, H c = some v → upd H p u c = some v := fun {H p u} hp c v e => by rw [upd_ne (ne_of_none e hp)]; exact e
  unfold asSuite at h
  split at h
  · rename_i s1 s2 s3
    split at h
    · rename_i mm ww oo q1 q2 q3
      cases h
      have p1 := ps_marks (a := a) (oe := oe) (pn := pn) hN S hs hE hz hf q1 k1 (by omega)
      have p2 := ps_wordsF (pn := pn) hot hN S hs q2 (bs := b1)
      have p3 := ps_lastF (a := a) (oe := oe) (pn := pn) S hs hE hz hf q3 (ws := selW (Txt.split W " ") b1) hv (by have := selW_le (Txt.split W " ") b1; omega)
      cases k2
      refine PSs.imp (pss_cons p1 (pss_cons p2 (pss_one p3))) fun E σ H ⟨hσ, h1, k⟩ => ?_
      refine ⟨h1, fun p hp => ⟨p, List.getElem?_set_self (by omega), upd_same, by simpa using hlen, fun p' H' hk hp' => ?_⟩⟩
      refine ⟨by rw [List.getElem?_set_ne (by decide), List.getElem?_set_ne (by decide)]; exact h1, p', List.getElem?_set_self (by simp; omega), hp', ?_⟩
      have := k H' fun c u e => hk c u (keep hp c u e)
      rw [hw] at this
      unfold wordF at this
      rw [List.append_nil] at this
      exact this
    · cases h
  · rename_i s1 s12 s2 s3
    split at h
    · rename_i mm mm2 ww oo q1 q12 q2 q3
      cases h
      have p1 := ps_marks (a := a) (oe := oe) (pn := pn) hN S hs hE hz hf q1 k1 (by omega)
      have p12 := ps_more (a := a) (oe := oe) (pn := pn) (b1 := b1) hN S hs hE hz hf q12 k2 (by omega) (by omega)
      have p2 := ps_wordsF (pn := pn) hot hN S hs q2 (bs := b1 ++ b2)
      have p3 := ps_lastF (a := a) (oe := oe) (pn := pn) S hs hE hz hf q3 (ws := selW (Txt.split W " ") (b1 ++ b2)) hv (by omega)
      refine PSs.imp (pss_cons p1 (pss_cons p12 (pss_cons p2 (pss_one p3)))) fun E σ H ⟨hσ, h1, k⟩ => ?_
      refine ⟨h1, fun p hp => ⟨by rw [List.getElem?_set_ne (by decide)]; exact h1, p, List.getElem?_set_self (by omega), upd_same, fun q r hq hqr hr => ?_⟩⟩
      refine ⟨r, List.getElem?_set_self (by simp; omega), upd_same, hlen, fun p' H' hk hp' => ?_⟩
      refine ⟨by rw [List.getElem?_set_ne (by decide), List.getElem?_set_ne (by decide), List.getElem?_set_ne (by decide)]; exact h1, p', List.getElem?_set_self (by simp; omega), hp', ?_⟩
      have := k H' fun c u e => hk c u (keep (by rw [upd_ne (Ne.symm hqr)]; exact hr) c u (keep hq c u (keep hp c u e)))
      rw [hw] at this
      exact this
    · cases h
  · cases h
end
end Ev


set_option maxHeartbeats 4000000
namespace Ev
open PySem PySem.Spec PyProof.Rows L2 LamX L2H
/-- the word w is told of an exception of the class D -/
def TellW (K : PySem.W.Frag) (mg : Str → Option Value) (f : FS) (VE : Addr) (cls : Value) (d : Option Addr) (w : Str) : Prop := ∃ D : Addr, cls = .ref D ∧ d = none ∧ PySem.W.exmOne K (.ref D) (.ref VE) = some true ∧ ClsF K mg f D w
def TTg (Tell : Value → Option Addr → Hp → Str → Prop) : (XK → Hp → VK → Prop) → Hp → VK → Prop := fun tl H Q =>
  tl (fun cls d H' => ∃ w, Tell cls d H' w ∧ ∀ H'', (∀ c o, H' c = some o → H'' c = some o) → Q (.str w) H'') H (fun _ H' => Q (.str "") H')
def Tell1 (K : PySem.W.Frag) (mg : Str → Option Value) (f : FS) (VE : Addr) : Value → Option Addr → Hp → Str → Prop := fun cls d _ w => TellW K mg f VE cls d w
theorem asFault_eq {sc : Scope} {b : List Stmt} {f : FS} (h : asFault sc b = some f) : ∃ p1 p2 p3 p4 p5 p6 j p7 p8 s0 suite, b = [.Try [.Expr (.Call (.Name "call" p1) [] [] p2) p3] [.ExceptHandler (some (.Name f.err p4)) (some "error") (s0 :: suite) p5] [] [] p6, .Return (some (.Constant (.str "") j p7)) p8] ∧
    glB sc f.err = true ∧ (f.err == ("__debug__" : Str)) = false ∧ ScF sc ∧ C8.scC Ng ["call"] sc = true ∧ asSuite sc (s0 :: suite) = some (f.m1, f.m2, f.ws, f.other) := by
  unfold asFault at h
  split at h
  · split at h
    · rename_i hh
      simp only [Bool.and_eq_true, Bool.not_eq_true', decide_eq_true_eq] at hh
      obtain ⟨⟨⟨⟨⟨⟨rfl, rfl⟩, rfl⟩, h4⟩, h5⟩, h6⟩, h7⟩ := hh
      split at h
      · rename_i q
        cases h
        exact ⟨_, _, _, _, _, _, _, _, _, _, _, rfl, h4, h5, scF_ok h6, h7, q⟩
      · cases h
    · cases h
  · cases h
theorem fault_gives {X : Cx} {x : Str} {sg : Scope} {g VE : Addr} {cdg : Value} {bg : List Stmt} {q : Str} {f : FS} (h : asFault sg bg = some f) (hve : X.mg f.err = some (.ref VE)) (b1 : X.mg "isinstance" = none) (b2 : X.mg "zip" = none) (b3 : X.mg "len" = none) (b4 : X.mg "ValueError" = none) (hl : (Txt.split f.ws " ").length ≤ 1000) :
    GivesN X Ng x sg g cdg bg "call" q (TTg (Tell1 X.K X.mg f VE)) := by
  obtain ⟨p1, p2, p3, p4, p5, p6, j, p7, p8, s0, suite, rfl, hg, hd, hs, hsc, hsu⟩ := asFault_eq h
  have Sg : FnScope Ng ["call"] sg := C8.fnScope_by hsc
  intro fa c' s H Q tl act hc ht
  have S : SuX (fltCx X Ng x sg g cdg s H).nox sg := ⟨rfl, rfl, b1, b2, b3, b4⟩
  have hgl : Gl (fltCx X Ng x sg g cdg s H).nox f.err := glB_ok (X := (fltCx X Ng x sg g cdg s H).nox) rfl hg
  have hel : (fltCx X Ng x sg g cdg s H).nox.env.scope.names.lookup ("error" : Str) = some .local := loB_ok (X := (fltCx X Ng x sg g cdg s H).nox) rfl hs.err
  refine ⟨_, pss_cons (L2N.ps_try_as (X := (fltCx X Ng x sg g cdg s H).nox) (c := .ref VE) (i := 1) (n := "error")
      (tb := fun W D σ H => ∃ Ech : XK, (∀ cls d σ' H', Ech cls d H' → W cls d σ' H') ∧ σ[0]? = some (some (.ref fa)) ∧ H c' = some (CodeO c' q) ∧ tl Ech H fun _ H' => D.nx σ H')
      (ts := fun a cls d E σ H => ∃ w, TellW X.K X.mg f VE cls d w ∧ (σ.length = 6 → σ[1]? = some (some (.ref a))) ∧ ∀ H', (∀ c u, H c = some u → H' c = some u) → E.rt (.str w) H')
      (Wout := fun _ _ _ _ => False) rfl rfl Sg.nd rfl hel ⟨hgl, hd, .inl hve⟩ takesN0 (fun W pn xe tk _ => ?_) (fun a oe cls d pn hz hf => ?_)) (pss_one (ps_ret pe_str)), ?_⟩
  · refine ⟨fun pins s' σ H' D I h' => ?_⟩
    obtain ⟨Ech, hW, h1, h2, h3⟩ := h'
    exact (pss_one (ps_expr (pos := p3) (act W pn xe Ech p1 p2 tk hW) (by rfl))).run pins s' σ H' D I ⟨h1, h2, h3⟩
  · refine ⟨fun pins s' σ H' D I h' => ?_⟩
    obtain ⟨w, ⟨DD, rfl, rfl, _, hC⟩, h1, h2⟩ := h'
    have hlen : σ.length = 6 := I.len
    have hot : Hot1 ((fltCx X Ng x sg g cdg s H).nox.A.mark (some (.ref a))) (a, oe) := by
      obtain ⟨vs, hv⟩ := hf
      exact ⟨rfl, vs, hv, hz.2.2 vs hv⟩
    exact (pss_suite (xe := f.err) hot Sg.nd S hs hz.zc hf hsu hC hl).run pins s' σ H' D I ⟨hlen, h1 hlen, h2⟩
  · refine ⟨fun cls d H' => ∃ w, TellW X.K X.mg f VE cls d w ∧ ∀ H'', (∀ c o, H' c = some o → H'' c = some o) → Q (.str w) H'', fun cls d σ' H' ⟨w, hT, hQ⟩ => ?_, rfl, hc, ht⟩
    have hT' := hT
    obtain ⟨DD, rfl, rfl, hm, hC⟩ := hT
    exact ⟨true, hm, fun _ a _ => ⟨w, hT', fun hl6 => by
      have : 1 < σ'.length := by simpa using (show 1 < (σ'.set 1 (some (V.ref a))).length by omega)
      exact List.getElem?_set_self this, hQ⟩, fun z => by cases z⟩
/-- that clause's class, its word, and the other clause -/
structure F2 where
  err : Str
  w : Str
  fs : FS
def asMany (sc : Scope) : List Stmt → Option Str
  | [.Return (some (.BinOp (.Constant (.str W) _ _) .Add (.Call (.Name y _) [.Attribute (.Name e ep) l lp] [] _) _)) _] => if decide (y = "str") && decide (e = "error") && decide (l = "limit") && glB sc y && decide (W.length ≤ 1000) then some W else none
  | _ => none
def asFault2 (sc : Scope) : List Stmt → Option F2
  | [.Try [.Expr (.Call (.Name a _) [] [] _) _] [.ExceptHandler (some (.Name xm _)) (some em) (m0 :: ms) _, .ExceptHandler (some (.Name xe _)) (some en) (s0 :: suite) _] [] [] _, .Return (some (.Constant (.str r) _ _)) _] =>
    if decide (a = "call") && decide (en = "error") && decide (em = "error") && decide (r = "") && glB sc xe && !(xe == ("__debug__" : Str)) && glB sc xm && !(xm == ("__debug__" : Str)) && scF sc && C8.scC Ng ["call"] sc then
      match asMany sc (m0 :: ms), asSuite sc (s0 :: suite) with
      | some W, some (m, m2, w, o) => some ⟨xm, W, ⟨xe, m, m2, w, o⟩⟩
      | _, _ => none
    else none
  | _ => none
theorem asFault2_eq {sc : Scope} {b : List Stmt} {f : F2} (h : asFault2 sc b = some f) : ∃ p1 p2 p3 p4 p5 p6 p9 p10 j p7 p8 m0 ms s0 suite, b = [.Try [.Expr (.Call (.Name "call" p1) [] [] p2) p3] [.ExceptHandler (some (.Name f.err p9)) (some "error") (m0 :: ms) p10, .ExceptHandler (some (.Name f.fs.err p4)) (some "error") (s0 :: suite) p5] [] [] p6, .Return (some (.Constant (.str "") j p7)) p8] ∧
    (glB sc f.fs.err = true ∧ (f.fs.err == ("__debug__" : Str)) = false) ∧ (glB sc f.err = true ∧ (f.err == ("__debug__" : Str)) = false) ∧ ScF sc ∧ C8.scC Ng ["call"] sc = true ∧ asMany sc (m0 :: ms) = some f.w ∧ asSuite sc (s0 :: suite) = some (f.fs.m1, f.fs.m2, f.fs.ws, f.fs.other) := by
  unfold asFault2 at h
  split at h
  · split at h
    · rename_i hh
      simp only [Bool.and_eq_true, Bool.not_eq_true', decide_eq_true_eq] at hh
      obtain ⟨⟨⟨⟨⟨⟨⟨⟨⟨rfl, rfl⟩, rfl⟩, rfl⟩, h4⟩, h5⟩, h8⟩, h9⟩, h6⟩, h7⟩ := hh
      split at h
      · rename_i q1 q2
        cases h
        exact ⟨_, _, _, _, _, _, _, _, _, _, _, _, _, _, _, rfl, ⟨h4, h5⟩, ⟨h8, h9⟩, scF_ok h6, h7, q1, q2⟩
      · cases h
    · cases h
  · cases h
/-- an error that bears the number i -/
def Bears (K : PySem.W.Frag) (cls : Value) (d : Option Addr) (H : Hp) (i : Int) : Prop := ∃ D dx : Addr, cls = .ref D ∧ XfC K D ∧ PySem.W.findIn K (.ref D) "limit" = some none ∧ d = some dx ∧ H dx = some (.xd [(("limit" : Str), .int i)]) ∧ i.natAbs.log2 < 1000 ∧ (strI i).length ≤ 2000
def Tell2 (K : PySem.W.Frag) (mg : Str → Option Value) (f : F2) (TM VE : Addr) : Value → Option Addr → Hp → Str → Prop := fun cls d H w =>
  (PySem.W.exmOne K cls (.ref TM) = some false ∧ TellW K mg f.fs VE cls d w) ∨ (PySem.W.exmOne K cls (.ref TM) = some true ∧ ∃ i, Bears K cls d H i ∧ w = f.w ++ Str.ofString (toString i))
theorem strI_len (i : Int) : (Str.ofString (toString i)).length = (strI i).length := by unfold strI Str.length; simp
theorem pss_many {X : Cx} {sc : Scope} {a : Addr} {oe : Obj} {cls : Value} {d : Option Addr} {pn : List (Addr × Obj)} {ss : List Stmt} {W : Str} (S : SuX X sc) (hs : ScF sc) (hm : X.mg "str" = none) (hz : L2N.Zn cls d oe) (hf : ∃ vs, oe.data = .fields vs) (h : asMany sc ss = some W) :
    PSs (X.suite a ((a, oe) :: pn)) ss (fun E σ H => σ[1]? = some (some (.ref a)) ∧ ∃ i, Bears X.K cls d H i ∧ E.rt (.str (W ++ Str.ofString (toString i))) H) := by
  unfold asMany at h
  split at h
  · split at h
    · rename_i hh
      cases h
      simp only [Bool.and_eq_true, decide_eq_true_eq] at hh
      obtain ⟨⟨⟨⟨rfl, rfl⟩, rfl⟩, hg⟩, hlen⟩ := hh
      refine ⟨fun pins s σ H D I q => ?_⟩
      obtain ⟨h1, i, ⟨DD, dx, rfl, T, hno, rfl, hx, hl, hl2⟩, k⟩ := q
      have gl : Gl (X.suite a ((a, oe) :: pn)) "str" := glB_ok (X := X) S.sc hg
      have pe := fun p => pe_slot (a := a) (oe := oe) (pn := pn) S (p := p) (i := 1) (x := "error") rfl hs.err (by decide) (by decide)
      have px := fun ep lp => pe_xf (X := X) (pos := lp) T hno hz.zc hf (pe ep)
      have ps := fun ep lp q1 q2 => pe_callTy (p := q1) (pos := q2) call_str_int gl hm PyProof.Rows.boot_str (pa_cons (px ep lp) pa_nil) (by decide) (by decide)
      refine (pss_one (ps_ret (pe_op op_add_str pe_str (ps _ _ _ _)))).run pins s σ H D I ?_
      refine ⟨.ref a, h1, rfl, rfl, dx, _, .int i, rfl, hx, rfl, i, rfl, by omega, _, _, rfl, rfl, ?_, k⟩
      rw [strI_len]
      have : (3000 : Nat) ≤ sizeLine := by decide
      omega
    · cases h
  · cases h
theorem fault_gives2 {X : Cx} {x : Str} {sg : Scope} {g VE TM : Addr} {cdg : Value} {bg : List Stmt} {q : Str} {f : F2} (h : asFault2 sg bg = some f) (hve : X.mg f.fs.err = some (.ref VE)) (htm : X.mg f.err = some (.ref TM)) (b1 : X.mg "isinstance" = none) (b2 : X.mg "zip" = none) (b3 : X.mg "len" = none) (b4 : X.mg "ValueError" = none) (b5 : X.mg "str" = none) (hl : (Txt.split f.fs.ws " ").length ≤ 1000) :
    GivesN X Ng x sg g cdg bg "call" q (TTg (Tell2 X.K X.mg f TM VE)) := by
  obtain ⟨p1, p2, p3, p4, p5, p6, p9, p10, j, p7, p8, m0, ms, s0, suite, rfl, ⟨hg, hd⟩, ⟨hg2, hd2⟩, hs, hsc, hmu, hsu⟩ := asFault2_eq h
  have Sg : FnScope Ng ["call"] sg := C8.fnScope_by hsc
  intro fa c' s H Q tl act hc ht
  have S : SuX (fltCx X Ng x sg g cdg s H).nox sg := ⟨rfl, rfl, b1, b2, b3, b4⟩
  have hel : (fltCx X Ng x sg g cdg s H).nox.env.scope.names.lookup ("error" : Str) = some .local := loB_ok (X := (fltCx X Ng x sg g cdg s H).nox) rfl hs.err
  refine ⟨_, pss_cons (ps_try_as2 (X := (fltCx X Ng x sg g cdg s H).nox) (k1 := .ref TM) (k2 := .ref VE) (i := 1) (n := "error")
      (tb := fun W D σ H => ∃ Ech : XK, (∀ cls d σ' H', Ech cls d H' → W cls d σ' H') ∧ σ[0]? = some (some (.ref fa)) ∧ H c' = some (CodeO c' q) ∧ tl Ech H fun _ H' => D.nx σ H')
      (ts1 := fun a cls d E σ H => ∃ i, Bears X.K cls d H i ∧ (σ.length = 6 → σ[1]? = some (some (.ref a))) ∧ E.rt (.str (f.w ++ Str.ofString (toString i))) H)
      (ts2 := fun a cls d E σ H => ∃ w, TellW X.K X.mg f.fs VE cls d w ∧ (σ.length = 6 → σ[1]? = some (some (.ref a))) ∧ ∀ H', (∀ c u, H c = some u → H' c = some u) → E.rt (.str w) H')
      (Wout := fun _ _ _ _ => False) rfl rfl Sg.nd rfl hel ⟨glB_ok (X := (fltCx X Ng x sg g cdg s H).nox) rfl hg2, hd2, .inl htm⟩ ⟨glB_ok (X := (fltCx X Ng x sg g cdg s H).nox) rfl hg, hd, .inl hve⟩ takesN0 (fun W pn xe tk _ => ?_) (fun a oe cls d pn hz hf => ?_) (fun a oe cls d pn hz hf => ?_)) (pss_one (ps_ret pe_str)), ?_⟩
  · refine ⟨fun pins s' σ H' D I h' => ?_⟩
    obtain ⟨Ech, hW, h1, h2, h3⟩ := h'
    exact (pss_one (ps_expr (pos := p3) (act W pn xe Ech p1 p2 tk hW) (by rfl))).run pins s' σ H' D I ⟨h1, h2, h3⟩
  · refine ⟨fun pins s' σ H' D I h' => ?_⟩
    obtain ⟨i, hB, h1, h2⟩ := h'
    have hlen : σ.length = 6 := I.len
    exact (pss_many S hs b5 hz hf hmu).run pins s' σ H' D I ⟨h1 hlen, i, hB, h2⟩
  · refine ⟨fun pins s' σ H' D I h' => ?_⟩
    obtain ⟨w, ⟨DD, rfl, rfl, _, hC⟩, h1, h2⟩ := h'
    have hlen : σ.length = 6 := I.len
    have hot : Hot1 ((fltCx X Ng x sg g cdg s H).nox.A.mark (some (.ref a))) (a, oe) := by
      obtain ⟨vs, hv⟩ := hf
      exact ⟨rfl, vs, hv, hz.2.2 vs hv⟩
    exact (pss_suite (xe := f.fs.err) hot Sg.nd S hs hz.zc hf hsu hC hl).run pins s' σ H' D I ⟨hlen, h1 hlen, h2⟩
  · have slot : ∀ {σ' : L2.St} {a : Addr}, (σ'.set 1 (some (V.ref a))).length = 6 → (σ'.set 1 (some (V.ref a)))[1]? = some (some (V.ref a)) := fun {σ' a} hl6 => List.getElem?_set_self (by
      have : (σ'.set 1 (some (V.ref a))).length = σ'.length := List.length_set
      omega)
    refine ⟨fun cls d H' => ∃ w, Tell2 X.K X.mg f TM VE cls d H' w ∧ ∀ H'', (∀ c o, H' c = some o → H'' c = some o) → Q (.str w) H'', fun cls d σ' H' ⟨w, hT, hQ⟩ => ?_, rfl, hc, ht⟩
    rcases hT with ⟨hno, hT⟩ | ⟨hyes, i, hB, rfl⟩
    · have hT' := hT
      obtain ⟨DD, rfl, rfl, hm, hC⟩ := hT
      exact ⟨false, hno, (fun z => by cases z), fun _ => ⟨true, hm, fun _ a _ => ⟨w, hT', slot, hQ⟩, fun z => by cases z⟩⟩
    · exact ⟨true, hyes, fun _ a _ => ⟨i, hB, slot, hQ H' fun _ _ e => e⟩, fun z => by cases z⟩
/-- the module's facts of that def -/
structure FltF (C : Cst) (lim : Nat → Option Str) (tbl : List (Nat × FW)) (mg : Str → Option Value) (x : Str) : Prop where
  ex : ∃ (g : Addr) (fd : FuncData) (st : Stmt) (Tell : Value → Option Addr → Hp → Str → Prop), mg x = some (.ref g) ∧ PySem.W.keepIn C.K (.ref g) = true ∧ C8.Fun C.K x x st g fd ∧ L2.Binds C.K fd ["call"] [] ∧ (loB (C8.fnScope st) "call" = true ∧ C8.scC Ng ["call"] (C8.fnScope st) = true) ∧
    (∀ (X : Cx) (q : Str), X.K = C.K → X.mg = mg → GivesN X Ng x (C8.fnScope st) g fd.code (C8.fnBody st) "call" q (TTg Tell)) ∧
    (∀ (c : Nat) (w : List Nat), tbl.lookup c = some (.word w) → w.length ≤ szL ∧ ∀ cls dct H d, ExcRel C lim c d cls dct H → Tell cls dct H (Sx w)) ∧
    ∀ (c : Nat) (w : List Nat), tbl.lookup c = some (.many w) → w.length ≤ 1000 ∧ ∀ cls dct H (i : Int), ExcRel C lim c (.int i) cls dct H → i.natAbs.log2 < 1000 → (strI i).length ≤ 2000 → Tell cls dct H (Sx (w ++ strI i))
end Ev


set_option maxHeartbeats 4000000
namespace Ev
open PySem L2 PyProof.Rows
theorem frzFrom_get {fv : List Nat} : ∀ {ρ : Rho} {i j : Nat}, (frzFrom fv i ρ)[j]? = ρ[j]?.map fun s => if fv.contains (i + j) then s.frz else s
  | [], i, j => by simp [frzFrom]
  | s :: r, i, 0 => by simp [frzFrom]
  | s :: r, i, j + 1 => by
    have := frzFrom_get (fv := fv) (ρ := r) (i := i + 1) (j := j)
    simp only [frzFrom, List.getElem?_cons_succ, this]
    rw [show i + 1 + j = i + (j + 1) by omega]
theorem captFrom_get {fv : List Nat} : ∀ {ρ : Rho} {i j : Nat}, (captFrom fv i ρ)[j]? = ρ[j]?.map fun s => if fv.contains (i + j) then s.seen else .non
  | [], i, j => by simp [captFrom]
  | s :: r, i, 0 => by simp [captFrom]
  | s :: r, i, j + 1 => by
    have := captFrom_get (fv := fv) (ρ := r) (i := i + 1) (j := j)
    simp only [captFrom, List.getElem?_cons_succ, this]
    rw [show i + 1 + j = i + (j + 1) by omega]
theorem frzIn_get {fv : List Nat} {ρ : Rho} {j : Nat} : (frzIn ρ fv)[j]? = ρ[j]?.map fun s => if fv.contains j then s.frz else s := by
  have := frzFrom_get (fv := fv) (ρ := ρ) (i := 0) (j := j)
  rw [Nat.zero_add] at this; exact this
theorem capt_get {fv : List Nat} {ρ : Rho} {j : Nat} : (capt ρ fv)[j]? = ρ[j]?.map fun s => if fv.contains j then s.seen else .non := by
  have := captFrom_get (fv := fv) (ρ := ρ) (i := 0) (j := j)
  rw [Nat.zero_add] at this; exact this
theorem capt_length {fv : List Nat} : ∀ {ρ : Rho} {i : Nat}, (captFrom fv i ρ).length = ρ.length
  | [], _ => rfl
  | s :: r, i => by simp [captFrom, capt_length (ρ := r)]
theorem frz_length {fv : List Nat} : ∀ {ρ : Rho} {i : Nat}, (frzFrom fv i ρ).length = ρ.length
  | [], _ => rfl
  | s :: r, i => by simp [frzFrom, frz_length (ρ := r)]
section
variable {C : Cst} {g : G} {σ : L2.St} {H H1 Hf : Hp} {ρ : Rho} {z : Z}
theorem SR.growT (s : SR C g σ H Hf ρ) (k : ∀ b o, H b = some o → (∀ p ∈ g.T, p.1 ≠ b) → H1 b = some o) (dm : ∀ b, H b ≠ none → H1 b ≠ none) (tb : LamX.Tabs g.T H1) : SR C g σ H1 Hf ρ :=
  s.grow (fun a o e nt => k a o e fun p hp q => by
    obtain ⟨ps, h1, _⟩ := s.tabs p hp
    rw [q, e] at h1; cases h1
    exact nt ps rfl) dm tb (Le.refl _) (fun a o e => k a o (s.sub a o e) fun p hp q => by
    have := s.nft p hp
    rw [q, e] at this; cases this) (fun a h => .inl h)
/-- the captured names' things are frozen -/
theorem SR.frzIn {fv : List Nat} (s : SR C g σ H Hf ρ) : ∃ Hf', SR C g σ H Hf' (frzIn ρ fv) ∧ Le Hf Hf' := by
  have key : ∀ k, k ≤ ρ.length → ∃ (Hf' : Hp) (ρ' : Rho), SR C g σ H Hf' ρ' ∧ Le Hf Hf' ∧ ρ'.length = ρ.length ∧ (∀ j, j < k → ρ'[j]? = (Ev.frzIn ρ fv)[j]?) ∧ ∀ j, k ≤ j → ρ'[j]? = ρ[j]? := by
    intro k
    induction k with
    | zero => exact fun _ => ⟨Hf, ρ, s, Le.refl _, rfl, fun j hj => by omega, fun j _ => rfl⟩
    | succ k ih =>
      intro hk
      obtain ⟨Hf', ρ', s', l', n', h1, h2⟩ := ih (by omega)
      have hkk := h2 k (Nat.le_refl _)
      have done : (ρ'[k]? = (Ev.frzIn ρ fv)[k]?) → ∃ (Hf' : Hp) (ρ' : Rho), SR C g σ H Hf' ρ' ∧ Le Hf Hf' ∧ ρ'.length = ρ.length ∧ (∀ j, j < k + 1 → ρ'[j]? = (Ev.frzIn ρ fv)[j]?) ∧ ∀ j, k + 1 ≤ j → ρ'[j]? = ρ[j]? := fun e =>
        ⟨Hf', ρ', s', l', n', fun j hj => by
          by_cases hj2 : j = k
          · rw [hj2]; exact e
          · exact h1 j (by omega), fun j hj => h2 j (by omega)⟩
      cases hs : ρ[k]? with
      | none => exact done (by rw [frzIn_get, hkk, hs]; rfl)
      | some sl =>
        cases hc : fv.contains k with
        | false => exact done (by rw [frzIn_get, hkk, hs, Option.map_some, hc]; rfl)
        | true =>
          cases sl with
          | ow d =>
            obtain ⟨v, Hf2, _, s2, l2, _⟩ := s'.freezeAt (i := k) (d := d) (by rw [hkk, hs])
            refine ⟨Hf2, _, s2, l'.trans l2, by simp [n'], fun j hj => ?_, fun j hj => ?_⟩
            · by_cases hj2 : j = k
              · rw [hj2, List.getElem?_set_self (by rw [n']; omega), frzIn_get, hs, Option.map_some, hc]; rfl
              · rw [List.getElem?_set_ne (Ne.symm hj2)]; exact h1 j (by omega)
            · rw [List.getElem?_set_ne (by omega)]; exact h2 j (by omega)
          | fz d => exact done (by rw [frzIn_get, hkk, hs, Option.map_some, hc]; rfl)
          | io d => exact done (by rw [frzIn_get, hkk, hs, Option.map_some, hc]; rfl)
          | non => exact done (by rw [frzIn_get, hkk, hs, Option.map_some, hc]; rfl)
  obtain ⟨Hf', ρ', s', l', n', h1, h2⟩ := key ρ.length (Nat.le_refl _)
  have : ρ' = Ev.frzIn ρ fv := List.ext_getElem? fun j => by
    by_cases hj : j < ρ.length
    · exact h1 j hj
    · rw [List.getElem?_eq_none (by omega), List.getElem?_eq_none (by unfold Ev.frzIn; rw [frz_length]; omega)]
  subst this
  exact ⟨Hf', s', l'⟩
/-- what the lambda sees -/
theorem SR.capt {fv : List Nat} {Hf' : Hp} (s : SR C g σ H Hf' (Ev.frzIn ρ fv)) : SR C ⟨H, [], Hf', g.T⟩ σ H Hf' (Ev.capt ρ fv) := by
  have low : ∀ {i : Nat} {sl : Slot}, (Ev.capt ρ fv)[i]? = some sl → sl = .non ∨ ∃ d, sl = .fz d ∧ (Ev.frzIn ρ fv)[i]? = some (.fz d) := fun {i sl} e => by
    rw [capt_get] at e
    rw [frzIn_get]
    cases hs : ρ[i]? with
    | none => rw [hs] at e; cases e
    | some s0 =>
      rw [hs] at e
      simp only [Option.map_some, Option.some.injEq] at e ⊢
      cases hc : fv.contains i with
      | false => rw [hc] at e; exact .inl e.symm
      | true =>
        rw [hc] at e
        cases s0 with
        | non => exact .inl e.symm
        | fz d => exact .inr ⟨d, e.symm, rfl⟩
        | ow d => exact .inr ⟨d, e.symm, rfl⟩
        | io d => exact .inl e.symm
  refine ⟨?_, s.sub, fun _ _ e _ _ => e, fun _ e => e, Le.refl _, s.tabs, s.nft, fun i d e => ?_, fun i d e => ?_, fun i d e => ?_, fun i j d e a _ h => ?_, fun p hp => ?_, fun a e => .inl e, fun p hp => ?_⟩
  · have := s.len
    unfold Ev.capt
    unfold Ev.frzIn at this
    rw [capt_length]; rw [frz_length] at this; exact this
  · rcases low e with q | ⟨d', q, q2⟩
    · cases q
    · cases q; exact s.fz i d q2
  · rcases low e with q | ⟨d', q, _⟩ <;> cases q
  · rcases low e with q | ⟨d', q, _⟩ <;> cases q
  · rcases low h with q | ⟨d', q, _⟩ <;> cases q
  · cases hp
  · cases hp
theorem faultW_noexc {T : List (Nat × FW)} {c : Nat} {d : D} : ∀ c' d', faultW T c d ≠ .exc c' d' := by
  intro c' d' h
  unfold faultW at h
  split at h
  · cases h
  · split at h
    · split at h <;> cases h
    · cases h
  · cases h
theorem Sx_nil : Sx [] = (Str.ofString "") := by rfl
theorem tE_flt {Tell : Value → Option Addr → Hp → Str → Prop} {fv : List Nat} {e : Ex} {Q : VK} (hw : ∀ (c : Nat) (w : List Nat), z.tb.flt.lookup c = some (.word w) → w.length ≤ szL ∧ ∀ cls dct H d, ExcRel z.C z.lim c d cls dct H → Tell cls dct H (Sx w))
    (hm : ∀ (c : Nat) (w : List Nat), z.tb.flt.lookup c = some (.many w) → w.length ≤ 1000 ∧ ∀ cls dct H (i : Int), ExcRel z.C z.lim c (.int i) cls dct H → i.natAbs.log2 < 1000 → (strI i).length ≤ 2000 → Tell cls dct H (Sx (w ++ strI i)))
    (h : tE z (.flt fv e) σ H Q) : tLamN z.T (TTg Tell) (fun E => tE { z with EW := E } e) σ H Q := by
  obtain ⟨g, hg, Hf, ρ, s, h⟩ := h
  simp only [ev] at h
  refine ⟨hg.t ▸ s.tabs, fun H1 k dm tb => ?_⟩
  have s1 : SR z.C g σ H1 Hf ρ := s.growT (by rw [hg.t]; exact k) dm (by rw [hg.t]; exact tb)
  obtain ⟨Hf', s2, l2⟩ := s1.frzIn (fv := fv)
  have s3 := s2.capt
  refine ⟨⟨H1, [], Hf', g.T⟩, ⟨(hg.hb.trans s.fz0).trans l2, hg.t⟩, Hf', Ev.capt ρ fv, s3, ?_⟩
  revert h
  show Out z g σ Hf (match ev z.tb z.F e (Ev.capt ρ fv) with | .ok _ => _ | .exc c d => _ | .bad n => _) _ → _
  cases ev z.tb z.F e (Ev.capt ρ fv) with
  | bad n => exact fun h => h
  | ok p =>
    intro h H2 Hf2 s4 l4 v rv
    exact h H2 Hf2 (s2.behindF s4) (l2.trans l4) (.str (Sx [])) (.str (l := []) (by decide))
  | exc c d =>
    intro h
    obtain ⟨w, hw1, h⟩ := Out.bind' h faultW_noexc
    have after : ∀ (wl : List Nat) (H2 : Hp), KeepG ⟨H1, [], Hf', g.T⟩ H2 → w = .str wl → wl.length ≤ szL → ∀ H3, (∀ c o, H2 c = some o → H3 c = some o) → Q (.str (Sx wl)) H3 := fun wl H2 hk ew hz H3 h3 => by
      have s5 : SR z.C g σ H3 Hf' (Ev.frzIn ρ fv) := s2.grow (fun a o e nt => h3 a o (hk.base a o e nt fun p hp => by cases hp)) (fun a e => by
        have := hk.dom a e
        cases q : H2 a with
        | none => exact absurd q this
        | some o => rw [h3 a o q]; simp) (hk.tabs.ext h3) (Le.refl _) (fun a o e => h3 a o (hk.fz0 a o e)) (fun a e => .inl e)
      subst ew
      exact h H3 Hf' s5 l2 (.str (Sx wl)) (.str hz)
    unfold faultW at hw1
    split at hw1
    · rename_i wl q
      cases hw1
      obtain ⟨hz, hT⟩ := hw c wl q
      intro cls dct H2 hxr hk
      exact ⟨Sx wl, hT cls dct H2 d hxr, after wl H2 hk rfl hz⟩
    · rename_i wl q
      split at hw1
      · rename_i i
        split at hw1
        · rename_i hc
          simp only [Bool.and_eq_true, decide_eq_true_eq] at hc
          cases hw1
          obtain ⟨hz, hT⟩ := hm c wl q
          intro cls dct H2 hxr hk
          refine ⟨Sx (wl ++ strI i), hT cls dct H2 i hxr hc.1 hc.2, after _ H2 hk rfl ?_⟩
          rw [List.length_append]
          have : (3000 : Nat) ≤ szL := by decide
          omega
        · cases hw1
      · cases hw1
    · cases hw1
end
end Ev


set_option maxHeartbeats 4000000
namespace Ev
open PySem PySem.Spec PyProof.Rows L2 LamX
/-- one parameter x; captured names and globals -/
structure LamS1 (sc scope : Scope) (x : Str) : Prop where
  kind : scope.kind = .function
  co : scope.isCoroutine = false
  gen : scope.isGenerator = false
  own : ∀ y ∈ scope.names, y.2 ≠ .cell ∧ (y.2 = .local → y.1 = x)
  par : scope.names.lookup x = some .local
  free : ∀ y ∈ scope.names, y.2 = .free → sc.names.lookup y.1 = some .cell ∨ sc.names.lookup y.1 = some .free
def lamS1B (sc scope : Scope) (x : Str) : Bool :=
  decide (scope.kind = .function) && !scope.isCoroutine && !scope.isGenerator && decide (scope.names.lookup x = some .local) && scope.names.all fun y => !decide (y.2 = .cell) && (!decide (y.2 = .local) || decide (y.1 = x)) && (!decide (y.2 = .free) || decide (sc.names.lookup y.1 = some .cell) || decide (sc.names.lookup y.1 = some .free))
theorem lamS1_by {sc scope : Scope} {x : Str} (h : lamS1B sc scope x = true) : LamS1 sc scope x := by
  unfold lamS1B at h
  simp only [Bool.and_eq_true, Bool.or_eq_true, Bool.not_eq_true', decide_eq_true_eq, decide_eq_false_iff_not, List.all_eq_true] at h
  obtain ⟨⟨⟨⟨h1, h2⟩, h3⟩, h5⟩, h4⟩ := h
  refine ⟨h1, h2, h3, fun y hy => ⟨(h4 y hy).1.1, fun e => ?_⟩, h5, fun y hy e => ?_⟩
  · rcases (h4 y hy).1.2 with z | z
    · exact absurd e z
    · exact z
  · rcases (h4 y hy).2 with (z | z) | z
    · exact absurd e z
    · exact .inl z
    · exact .inr z
theorem LamS1.has {X : Cx} {scope : Scope} {x : Str} (L : LamS1 X.env.scope scope x) (ok : X.Ok) : ∀ y ∈ scope.names, y.2 = .free → ∃ c, X.env.cells.lookup y.1 = some c := fun y hy e => by
  rcases L.free y hy e with k | k
  · exact ok.has _ (.inl k)
  · exact ok.has _ (.inr k)
section
variable {X : Cx} {pins : List (Addr × Obj)} {σ : L2.St} {H HZ : Hp} {s s1 : Shared}
theorem lam_start1 {A : Around} {outer : List Env} {E : XK} {scope : Scope} {f c' : Addr} {h₁ : Heap} {tk : Nat} {x : Str} {i : Nat} {v : V} {u : Value} (hN : X.N.Nodup) (hi : X.N[i]? = some x) (rv : RelV v u)
    (I : Inv X pins σ H s) (L : LamS1 X.env.scope scope x) (e0 : Env0 X.prog X.w X.K X.mg X.base A outer s1 HZ) (hd : A.handled = none)
    (un : Un (frs X.stack) [] H HZ s.heap s1.heap) (hns : h₁.Ns s1.heap.objs.size fun y => [(x, u)].reverse.lookup y) (kp : ∀ b o, s1.heap.get? b = some o → h₁.get? b = some o) :
    Inv (lamN X A outer s1 HZ E scope f c') [] (σ.set i (some v)) HZ { s1 with heap := h₁, toks := tk } := by
  have hfree := L.has I.ok
  have cm : ∀ {y c}, (cloFrom X.env.cells scope.names []).lookup y = some c → X.env.cells.lookup y = some c := fun {y c} e => by
    rcases cloFrom_mem (PySem.mem_of_lookup e) with hm | ⟨h1, h2⟩
    · cases hm
    · obtain ⟨c1, hc⟩ := hfree _ h1 rfl
      have hc : X.env.cells.lookup y = some c1 := hc
      have e2 : c = c1 := by
        rw [h2, hc] <;> rfl
      rw [e2]
      exact hc
  have look : ∀ {y}, scope.names.lookup y = some .free → ∃ c, (cloFrom X.env.cells scope.names []).lookup y = some c := fun {y} hl => by
    have hy : (y, NameKind.free) ∈ scope.names := PySem.mem_of_lookup hl
    exact mem_lookup (cloFrom_has (cells := X.env.cells) (acc := []) hy)
  have cellK : ∀ {c : Addr} {v : Option Value}, H c = none → s.heap.IsCell c v → h₁.IsCell c v := fun {c v} n ⟨o, ho, hd⟩ => by
    obtain ⟨sl, q⟩ := un.any ho n (by simp)
    exact ⟨_, kp _ _ q, hd⟩
  have noA : ∀ b : Addr, b ∉ (lamN X A outer s1 HZ E scope f c').ex := fun b z => absurd (show b ∈ ([] : List Addr) from z) (by simp)
  refine ⟨⟨e0.mod, L.kind, rfl, rfl, Nat.le_refl _, fun y z c e1 e2 => I.ok.inj y z c (cm e1) (cm e2), fun y hy => ?_, fun y c z _ => ?_, fun _ => hd, Around.frames_deeper e0.frames, .inr ⟨rfl, rfl⟩, fun b z => absurd z (noA b), e0.bs, e0.bsz, fun b _ _ => noA b,
      fun b z => absurd z (noA b), e0.funs, e0.frf⟩,
    rfl, e0.bare, Un.kept kp, ⟨_, hns, fun j y w e1 e2 e3 => ?_⟩, fun y c e => ?_, e0.hok.fresh (Nat.le_refl _), fun y c e => ?_, fun q hq => absurd (show q ∈ ([] : List (Addr × Obj)) ++ [] from hq) (by simp), e0.hok.kept kp, by rw [List.length_set]; exact I.len⟩
  · have hy : scope.names.lookup y = some .cell ∨ scope.names.lookup y = some .free := hy
    rcases hy with hy | hy
    · exact absurd rfl (L.own _ (PySem.mem_of_lookup hy)).1
    · exact look hy
  · have z : false = true := z
    cases z
  · have e3 : Vis scope y := e3
    by_cases hj : i = j
    · subst hj
      have hyx : y = x := by
        have e1' : X.N[i]? = some y := e1
        rw [hi] at e1'; exact (Option.some.inj e1').symm
      subst hyx
      have hil : i < σ.length := by rw [I.len]; exact (List.getElem?_eq_some_iff.mp hi).1
      rw [List.getElem?_set_self hil] at e2
      cases e2
      exact ⟨u, rv, .inl ⟨L.par, by simp⟩⟩
    · rw [List.getElem?_set_ne hj] at e2
      rcases e3 with k | k | k
      · have := (L.own _ (PySem.mem_of_lookup k)).2 rfl
        simp only at this
        exact absurd (nodup_ix hN hi (this ▸ e1)) hj
      · exact absurd rfl (L.own _ (PySem.mem_of_lookup k)).1
      · obtain ⟨m, hn, hl⟩ := I.loc
        have hvis : Vis X.env.scope y := (L.free _ (PySem.mem_of_lookup k) rfl).elim (fun k => .inr (.inl k)) (fun k => .inr (.inr k))
        obtain ⟨w', r, q⟩ := hl j y w e1 e2 hvis
        obtain ⟨c2, h2⟩ := look k
        refine ⟨w', r, .inr ⟨.inr k, c2, h2, ?_⟩⟩
        have c1 := cm h2
        rcases q with ⟨k', _⟩ | ⟨_, c3, e', z⟩
        · have k' : X.env.scope.names.lookup y = some .local := k'
          rcases L.free _ (PySem.mem_of_lookup k) rfl with k2 | k2 <;> rw [show X.env.scope.names.lookup y = _ from k2] at k' <;> cases k'
        · rw [c1] at e'
          cases e'
          exact cellK (I.freeC y _ c1) z
  · obtain ⟨w', z⟩ := I.cell y c (cm e)
    exact ⟨w', cellK (I.freeC y c (cm e)) z⟩
  · obtain ⟨v, o, ho, hd⟩ := I.cell y c (cm e)
    exact un.free c o ho (I.freeC y c (cm e)) (by simp)
/-- it is called, with frames as they are -/
theorem lam_call1 {A : Around} {scope : Scope} {f c' : Addr} {x : Str} {i : Nat} {v : V} {u : Value} {params : Arguments} {body : Expr} {pm ctv : Value} {k : Nat} {tb : TE} {Q : VK} (hN : X.N.Nodup) (hi : X.N[i]? = some x) (rv : RelV v u) (I : Inv X pins σ H s) (L : LamS1 X.env.scope scope x)
    (hA : A.frames = X.A.frames) (hr : Room (k + 1) A) (hf : s.heap.get? f = some (PySem.W.kla_obj "<lambda>" (X.env.qual ++ "<lambda>") params body scope (cloFrom X.env.cells scope.names []) pm c' ctv)) (hc : H c' = some (CodeO c' (X.env.qual ++ "<lambda>")))
    (hbind : bindArgs (PySem.W.kla_fn "<lambda>" (X.env.qual ++ "<lambda>") params body scope (cloFrom X.env.cells scope.names []) pm (.ref c') ctv) ⟨[u], []⟩ = pure [(x, u)])
    (hbody : PE (lamN X A X.stack s H C8.E0 scope f c') body tb) (ht : tb (σ.set i (some v)) H Q) :
    wpAny (model X.prog X.w) A (call (.ref f) [u]) (EP X pins σ Q) (fun _ _ => False) s := by
  have e0 : Env0 X.prog X.w X.K X.mg X.base A X.stack s H := by
    have := I.env0
    exact ⟨by rw [hA]; exact this.frames, this.mod, this.bs, this.bsz, this.funs, this.frf, this.hok, this.bare⟩
  obtain ⟨⟨oc, vs, t, hoc, hdc, hvc⟩, _, _⟩ := I.hok c' _ hc
  have un : Un (frs X.stack) [] H H s.heap s.heap := Un.kept fun _ _ e => e
  have rc : codeAny (model X.prog X.w) A (.call (.ref f) ⟨[u], []⟩) (CR (L2N.CX X.prog X.w) X.stack X.prog X.w H s Q C8.E0) s := by
    refine PySem.W.kla_callFunE hr.depth hf rfl L.co L.gen rfl ⟨c', oc, vs, t, rfl, hoc, hdc, hvc⟩ ?_
    rw [hbind]
    refine wpAny_pure (wpAny_newFunctionEnv (fun y hy => (L.own y hy).1) (fun y hy => by
      have : y = (x, u) := by simpa using hy
      subst this; exact L.par) (fun h₁ hns hsb => ⟨I.nolimit.fresh _ hsb, ?_⟩) L.kind)
    show codeAny _ _ (.expr body (lamEnv X scope s.heap.objs.size f c')) _ _
    have kp : ∀ b o, s.heap.get? b = some o → h₁.get? b = some o := fun b o e => hsb.extBut b o (Nat.ne_of_lt (Heap.lt_size e)) (Heap.get?_push_of_some _ e)
    have J := lam_start1 (E := C8.E0) (scope := scope) (f := f) (c' := c') (tk := s.toks + [(x, u)].length) hN hi rv I L e0 hr.hd un hns kp
    refine PySem.W.kla_codeExpr (wpAny_mono (hbody.run [] _ _ H Q J ht) (fun v s' hq => ?_) fun e s' hq => hq)
    · obtain ⟨w', H', J', rv, q⟩ := hq
      exact ⟨w', H', J'.os, J'.bare, J'.base, J'.hok, rv, q⟩
  refine wpAny_call (codeAny_mono rc fun r s' hq => ?_)
  cases r with
  | error e =>
    obtain ⟨_, _, _, _, _, _, _, _, _, _, _, _, z⟩ := (show L2N.CX X.prog X.w X.stack H s C8.E0 e s' from hq)
    exact z.elim
  | ok fl =>
    cases fl with
    | ret u => exact I.after hq
    | next => exact False.elim hq
    | brk => exact False.elim hq
    | cont => exact False.elim hq
end
end Ev


set_option maxHeartbeats 4000000
namespace Ev
open PySem PySem.Spec PyProof.Rows L2 LamX PySem.W
section
variable {X : Cx} {pins : List (Addr × Obj)} {σ : L2.St} {H : Hp} {s : Shared}
/-- a thing that nobody knew of is known from now on -/
theorem inv_adopt {a : Addr} {o : HO} (I : Inv X pins σ H s) (f : FpOk X pins H a) (ok : ObjOk X.prog X.w (upd H a o) s.heap a o) : Inv X pins σ (upd H a o) s := by
  obtain ⟨f0, f1, f2, f3, f4, f5⟩ := f
  have ne : ∀ {b : Addr} {u : HO}, H b = some u → b ≠ a := fun e z => by rw [z, f0] at e; cases e
  refine ⟨I.ok, I.os, I.bare, ⟨I.base.keep, I.base.slot, fun b u e n hx => ?_, I.base.there, fun b xs e => ?_, fun b u x e => ?_, fun b ps e => ?_⟩, I.loc, I.cell, ?_, fun x c e => ?_, fun p hp => ?_, fun b u e => ?_, I.len⟩
  · have hb : b ≠ a := fun z => by
      rcases f3 with q | q
      · rw [z] at hx; exact hx q
      · rw [z] at e; exact absurd (Nat.lt_of_lt_of_le (Heap.lt_size e) q) (Nat.lt_irrefl _)
    rw [upd_ne hb]; exact I.base.free b u e n hx
  · have q := I.base.tups b xs e
    rw [upd_ne (ne q)]; exact q
  · have q := I.base.frzs b u x e
    rw [upd_ne (ne q)]; exact q
  · obtain ⟨m, q⟩ := I.base.tbls b ps e
    exact ⟨m, by rw [upd_ne (ne q)]; exact q⟩
  · rw [upd_ne (Ne.symm f1)]; exact I.free
  · rw [upd_ne (f4 x c e)]; exact I.freeC x c e
  · obtain ⟨e, n, r⟩ := I.pin p hp
    exact ⟨e, by rw [upd_ne (f5 p hp)]; exact n, r⟩
  · by_cases hb : b = a
    · subst hb; rw [upd_same] at e; cases e; exact ok
    · rw [upd_ne hb] at e
      exact (I.hok b u e).stay (fun c v _ q => q) (fun c q => by rw [upd_ne (ne q)]; exact q) fun c xs q => by rw [upd_ne (ne q)]; exact q
theorem key_loop {A : Around} {a kS f : Addr} {e1 : Nat} {its : List Value} {W : Nat → List V → Hp → Prop} {fo : Obj} {E : Value → Shared → Prop} {P : PySem.Fin → Shared → Prop}
    (I : Inv X pins σ H s) (hf : ∀ b ∈ [a, kS, f], FpOk X pins H b) (ha : s.heap.get? a = some (seqObj "list" #[] e1)) (hk : s.heap.get? kS = some (seqObj "list" #[] 0)) (hfo : s.heap.get? f = some fo) (hfc : ∀ v, fo.data ≠ .cell v) (hka : kS ≠ a) (hkf : kS ≠ f)
    (hZ : its.length ≤ sizeLine) (w0 : W 0 [] H)
    (turn : ∀ (j : Nat) (u : Value) (kv : List V) (H : Hp) (pl : List (Addr × Obj)) (s' : Shared), its[j]? = some u → W j kv H → Inv X (pins ++ pl) σ H s' → s'.heap.get? f = some fo →
      wpAny (model X.prog X.w) A (call (.ref f) [u]) (EP X (pins ++ pl) σ fun y H' => W (j + 1) (kv ++ [y]) H') (fun _ _ => False) s')
    (fin : ∀ (H : Hp) (s' : Shared) (kA : Array Value) (e : Nat) (kv : List V), Inv X pins σ H s' → (∀ b ∈ [a, kS, f], FpOk X pins H b) → s'.heap.get? a = some (seqObj "list" #[] e1) → s'.heap.get? kS = some (seqObj "list" kA e) → Vals kv kA.toList → kA.size = its.length → W its.length kv H →
      wpAny (model X.prog X.w) A (ksk_end a false its.toArray e1 (.ref kS) kA) P E s') :
    wpAny (model X.prog X.w) A (ksk_rest a (.ref f) false its.toArray e1 (.ref kS)) P E s := by
  unfold ksk_rest
  refine wpAny_bind (wpAny_rule ?_)
  first
    | rw [List.forIn_toArray]
    | (rw [← Array.forIn_toList]; simp only [List.toList_toArray])
  refine wpAny_bind (ksk_fold (fun i s' => ∃ (H : Hp) (kA : Array Value) (e : Nat) (kv : List V), Inv X pins σ H s' ∧ (∀ b ∈ [a, kS, f], FpOk X pins H b) ∧ s'.heap.get? a = some (seqObj "list" #[] e1) ∧ s'.heap.get? kS = some (seqObj "list" kA e) ∧ s'.heap.get? f = some fo ∧ Vals kv kA.toList ∧ kA.size = i ∧ W i kv H) its 0 s
    ⟨H, #[], 0, [], I, hf, ha, hk, hfo, .nil, rfl, w0⟩ ?step ?done)
  case step =>
    rintro j x s' hx ⟨H', kA, e, kv, I', hfp, ha', hk', hf', rv, hsz, w⟩
    simp only [Nat.zero_add] at hsz w ⊢
    have hj : j < its.length := (List.getElem?_eq_some_iff.mp hx).1
    have Ip := I'.pinned (fp := [a, kS, f]) hfp fun b hb => by
      rcases List.mem_cons.mp hb with q | hb
      · subst q; exact ⟨_, ha', fun v z => by cases z⟩
      rcases List.mem_cons.mp hb with q | hb
      · subst q; exact ⟨_, hk', fun v z => by cases z⟩
      rcases List.mem_cons.mp hb with q | hb
      · subst q; exact ⟨_, hf', hfc⟩
      · cases hb
    refine wpAny_bind (wpAny_attempt (wpAny_mono (turn j x kv H' _ s' hx w Ip hf') (fun v s'' he => ?_) fun _ _ hF => hF.elim))
    obtain ⟨y, H2, I2, ry, w'⟩ := he
    have pin : ∀ b ∈ [a, kS, f], ∀ o, s'.heap.get? b = some o → s''.heap.get? b = some o ∧ H2 b = none := fun b hb o e =>
      let z := I2.pin (b, o) (List.mem_append_right _ (List.mem_append_right _ (mem_pinsAt hb e)))
      ⟨z.1, z.2.1⟩
    have I3 := I2.unpinned
    obtain ⟨a2, an⟩ := pin a (by simp) _ ha'
    obtain ⟨k2, kn⟩ := pin kS (by simp) _ hk'
    obtain ⟨f2, fn⟩ := pin f (by simp) _ hf'
    have hfp2 : ∀ b ∈ [a, kS, f], FpOk X pins H2 b := fun b hb => by
      refine ⟨?_, (hfp b hb).2⟩
      rcases List.mem_cons.mp hb with q | hb
      · subst q; exact an
      rcases List.mem_cons.mp hb with q | hb
      · subst q; exact kn
      rcases List.mem_cons.mp hb with q | hb
      · subst q; exact fn
      · cases hb
    try dsimp only
    have s1 := Heap.SameBut.update s''.heap kS (Obj.mapSeq (·.push v))
    obtain ⟨c2, hc2⟩ : ∃ c2, (s''.heap.update kS (Obj.mapSeq (·.push v))).get? kS = some (seqObj "list" (kA.push v) c2) := ⟨_, get?_update_seq k2 (·.push v)⟩
    have hz : kA.size ≤ sizeLine := by rw [hsz]; omega
    refine wpAny_bind (listUpdate_at k2 rfl ?_ hz (by rw [Array.size_push]; omega))
    obtain ⟨g0, g1, g2, g3, g4, g5⟩ := hfp2 kS (by simp)
    refine wpAny_pure ⟨rfl, H2, kA.push v, c2, kv ++ [y], I3.turned (t' := s''.toks) (fun b o hb e => (s1.2 b hb).trans e) g0 g1 g3 g4 g5, hfp2, (s1.2 a (Ne.symm hka)).trans a2, hc2, (s1.2 f (Ne.symm hkf)).trans f2, ?_, by rw [Array.size_push, hsz], w'⟩
    rw [Array.toList_push]
    exact rv.append (.cons ry .nil)
  case done =>
    rintro s' ⟨H', kA, e, kv, I', hfp, ha', hk', hf', rv, hsz, w⟩
    rw [Nat.zero_add] at hsz w
    refine wpAny_bind (listItems_at hk' rfl ?_)
    exact fin H' s' kA e kv I' hfp ha' hk' rv hsz w
theorem map_fst_zip {α β : Type} : ∀ {xs : List α} {ys : List β}, xs.length = ys.length → (xs.zip ys).map (·.1) = xs
  | [], [], _ => rfl
  | x :: xs, y :: ys, h => by simp [map_fst_zip (xs := xs) (ys := ys) (by simpa using h)]
theorem each_zip : ∀ {its : List Value} {vs : List V} {ks : List D}, Vals vs its → ks.length = vs.length → EachIs (fun v (b : D × V) => RelV b.2 v) its (ks.zip vs)
  | _, _, [], .nil, _ => .nil
  | _, _, k :: ks, .cons r t, h => .cons r (each_zip t (by simpa using h))
theorem vals_each : ∀ {out : List Value} {bs : List (D × V)}, EachIs (fun v (b : D × V) => RelV b.2 v) out bs → Vals (bs.map (·.2)) out
  | _, _, .nil => .nil
  | _, _, .cons h t => .cons h (vals_each t)
/-- the keys are there: the list is sorted -/
theorem key_fin {C : Cst} {A : Around} {a kS f : Addr} {e1 e : Nat} {its : List Value} {kA : Array Value} {kv vs : List V} {ks : List D} {E : Value → Shared → Prop} {P : PySem.Fin → Shared → Prop} (hK : X.K = C.K) (hu : A.units + 60 < cLine)
    (I : Inv X pins σ H s) (hfp : ∀ b ∈ [a, kS, f], FpOk X pins H b) (ha : s.heap.get? a = some (seqObj "list" #[] e1)) (hk : s.heap.get? kS = some (seqObj "list" kA e)) (hka : kS ≠ a) (rv : Vals kv kA.toList) (hsz : kA.size = its.length) (hZ : its.length ≤ sizeLine)
    (rr : Reps C H kv ks) (ob : Ordb ks) (hd : deps ks ≤ 50) (hv : Vals vs its)
    (h : ∀ s', Inv X pins σ (upd H a (.lst ((isort (fun (p q : D × V) => ltD p.1 q.1) (ks.zip vs)).map (·.2)))) s' → P (.done (.ret .none)) s') :
    wpAny (model X.prog X.w) A (ksk_end a false its.toArray e1 (.ref kS) kA) P E s := by
  have hkl : ks.length = its.length := by rw [← rr.length, rv.length, Array.length_toList]; exact hsz
  have hvl : vs.length = its.length := hv.length
  have hz : (ks.zip vs).map (·.1) = ks := map_fst_zip (by omega)
  have ob' : Ordb ((ks.zip vs).map (·.1)) := by rw [hz]; exact ob
  have hal : AllAlike (ks.map toP) := by
    have := ob'.allAlike
    rw [show (ks.zip vs).map (fun b => toP b.1) = ((ks.zip vs).map (·.1)).map toP by rw [List.map_map]; rfl, hz] at this
    exact this
  have hso : Sortable (ks.map toP) := by
    have := ob'.sortable
    rw [show (ks.zip vs).map (fun b => toP b.1) = ((ks.zip vs).map (·.1)).map toP by rw [List.map_map]; rfl, hz] at this
    exact this
  have er : EachIs (fun v d => ∃ as, Reads s.heap v d as) kA.toList (ks.map toP) := each_map (R := fun v d => ∃ as, Reads s.heap v d as) toP (each_of I hK rv rr ob.plain)
  have kp : KeepsBut a (hideAll s.heap [kS, a]) s.heap := fun b o _ e => of_hideAll _ e
  refine keyH_end (κ := dataKind s.heap (ks.map toP)) (h₁ := hideAll s.heap [kS, a]) kp (hideAll_none _ (by simp)) hk ha hka (SortsAt.data er hal hso fun d hd' => ?_) hsz hZ fun h' tk c kp' hD => ?_
  · obtain ⟨x, hx, rfl⟩ := List.mem_map.mp hd'
    have h1 := dep_toP x
    have h2 := deps_mem hd x hx
    omega
  · generalize hout : sortVals (dataKind s.heap (ks.map toP)) false kA.toList its = out at hD
    have ko : KeyedOut false (ks.map toP) its out := ⟨s.heap, kA.toList, hal, hout.symm, er⟩
    have ko' : KeyedOut false ((ks.zip vs).map fun b => toP b.1) its out := by
      rw [show (ks.zip vs).map (fun b => toP b.1) = ((ks.zip vs).map (·.1)).map toP by rw [List.map_map]; rfl, hz]
      exact ko
    have eo := keyedOut_each (fun b : D × V => toP b.1) ko' (each_zip hv (by omega))
    have es := ob'.sort
    rw [es] at eo
    have hvals := vals_each eo
    have hol : out.length = its.length := ko.length (by rw [List.length_map]; exact hkl)
    have J : Inv X pins σ H { s with heap := h', toks := tk } := I.turnedL (ch := [a, kS]) (fun b o hb e => by
      have h1 : b ≠ a := fun z => hb (by simp [z])
      exact kp' b o h1 (hideAll_get _ e fun z => hb (by
        rcases List.mem_cons.mp z with q | q
        · simp [q]
        · rcases List.mem_cons.mp q with q | q
          · exact absurd q h1
          · cases q))) fun b hb => hfp b (by
        rcases List.mem_cons.mp hb with q | q
        · simp [q]
        · rcases List.mem_cons.mp q with q | q
          · simp [q]
          · cases q)
    exact h _ (inv_adopt J (hfp a (by simp)) ⟨by rw [hvals.length, hol]; exact hZ, out, c, hvals, hD⟩)
end
/-- sorted(x, key=lambda v: body): the reading -/
def tKey (C : Cst) (T : List (Addr × Str)) (q : Str) (i : Nat) (ta tb : TE) : TE := fun σ H Q => ta σ H fun x H1 => Tabs T H1 ∧ ∀ (H2 : Hp) (c' : Addr), (∀ b o, H1 b = some o → (∀ p ∈ T, p.1 ≠ b) → H2 b = some o) → (∀ b, H1 b ≠ none → H2 b ≠ none) → Tabs T H2 → H2 c' = some (CodeO c' q) →
  ∃ (d : D) (xs : List D) (Hf : Hp), Le Hf H2 ∧ Vw C H2 Hf x d ∧ seqD d = some xs ∧ ∃ W : Nat → List V → Hp → Prop, W 0 [] H2 ∧ ∀ vs, Reps C Hf vs xs →
    (∀ (j : Nat) (xv : V) (kv : List V) (H : Hp), vs[j]? = some xv → W j kv H → H c' = some (CodeO c' q) ∧ tb (σ.set i (some xv)) H fun y H' => W (j + 1) (kv ++ [y]) H') ∧
    ∀ kv H, W vs.length kv H → ∃ ks : List D, Reps C H kv ks ∧ Ordb ks ∧ deps ks ≤ 50 ∧ ∀ a, H a = none → Q (.ref a) (upd H a (.lst ((isort (fun (p q : D × V) => ltD p.1 q.1) (ks.zip vs)).map (·.2))))
section
variable {X : Cx}
theorem pe_keyed {C : Cst} {T : List (Addr × Str)} {c P : Addr} {i k : Nat} {xp : Str} {e : Expr} {ta tb : TE} {params : Arguments} {body : Expr} {scope : Scope} {p lpos kpos pos : Pos} (hK : X.K = C.K) (hN : X.N.Nodup) (hi : X.N[i]? = some xp) (hg : Gl X "sorted") (hm : X.mg "sorted" = none) (ha : PE X e ta) (na : starEach [e] X.env = (false, eval e X.env) :: starEach [] X.env)
    (TB : TabB X.base X.mg c P) (hcode : X.env.code = .ref c) (hmT : (P, X.env.qual ++ "<lambda>") ∈ T) (hu : ∀ p ∈ T, p.1 = P → p.2 = X.env.qual ++ "<lambda>") (hr : Room (k + 2) X.A) (L : LamS1 X.env.scope scope xp) (hdef : defaultsOf params X.env = ([], []))
    (hbind : ∀ (q : Str) (cl : List (Str × Addr)) (pm cv ctv u : Value), bindArgs (PySem.W.kla_fn "<lambda>" q params body scope cl pm cv ctv) ⟨[u], []⟩ = pure [(xp, u)])
    (hbody : ∀ (A : Around) (outer : List Env) (s : Shared) (H : Hp) (f c' : Addr), Room k (A.deeper (lamEnv X scope s.heap.objs.size f c')) → PE (lamN X A outer s H C8.E0 scope f c') body tb) :
    PE X (.Call (.Name "sorted" p) [e] [⟨some "key", .Lambda params body scope lpos, kpos⟩] pos) (tKey C T (X.env.qual ++ "<lambda>") i ta tb) := by
  refine ⟨fun pins s σ H Q I h => ?_⟩
  have hr2 : Room (k + 1) X.A.in1.in1 := ⟨hr.hd, by have := hr.dp; show X.A.depth + 3 * (k + 1) + 5 < _; omega, by have := hr.un; show X.A.units + 1 + 1 + 16 * (k + 1) + 200 < _; omega⟩
  refine wpAny_Call_Name_kw (ld_blt I hg hm (by with_unfolding_all rfl) ?_)
  refine PyProof.Rows.callWith_kw (e := e) (rest := []) (kws := [⟨some "key", .Lambda params body scope lpos, kpos⟩]) (PyProof.Rows.args_cons (thn (ha.run pins s σ H _ I h) fun v s1 ⟨x, H1, I1, r1, hT, q1⟩ => PyProof.Rows.args_nil ?_) na) (by rw [na]; rfl) (by rw [na]; rfl) (by rfl) (by rfl)
  show wpAny _ _ (evalAll ((do let v ← eval (.Lambda params body scope lpos) X.env; standAt pos; pure v) :: [])) _ _ s1
  refine wpAny_evalAll_cons (wpAny_bind (lam_make3 I1 TB hcode hmT hu hT hdef (L.has I1.ok) fun f c' pm ctv H2 s2 I2 eN dm T2 hf hfn hfr hco hfp => wpAny_bind (wpAny_standAt (wpAny_pure (wpAny_evalAll_nil ?_)))))
  obtain ⟨d, xs, Hf, sub, hv, hd, W, w0, q2⟩ := q1 H2 c' eN dm T2 hco
  obtain ⟨a, T', o, its, n, vs, rfl, hT', hob, hc, hdt, hz, rvs, rr⟩ := seq_obj I2 hK sub hv hd
  obtain rfl := (show v = Value.ref a from r1)
  obtain ⟨step, fin⟩ := q2 vs rr
  show wpAny _ _ (call (.builtin "sorted") [.ref a] [(Str.ofString "key", .ref f)]) _ _ s2
  refine sorted_any hT' hob hc hdt (by rw [List.size_toArray]; exact hz) (ksk_s1 _ _) (fun x => ksk_l1 _ _) fun h' hk E' => ?_
  rw [ksk_t1]
  have hat : (h'.push (seqObj "list" its.toArray 0)).get? h'.objs.size = some (seqObj "list" its.toArray 0) := Heap.get?_push_size _ rfl
  obtain ⟨e1, ho1⟩ : ∃ e1, ((h'.push (seqObj "list" its.toArray 0)).update h'.objs.size (Obj.mapSeq fun _ => (#[] : Array Value))).get? h'.objs.size = some (seqObj "list" #[] e1) := ⟨_, get?_update_seq hat fun _ => #[]⟩
  unfold ksk_tree
  refine wpAny_bind (listItems_at hat rfl ?_)
  refine wpAny_bind (listUpdate_at hat rfl ?_ (by rw [List.size_toArray]; exact hz) (Nat.zero_le _))
  refine wpAny_bind (seqEpoch_at ho1 rfl ?_)
  have el : its.toArray.toList = its := by simp
  refine wpAny_bind (wpAny_newTuple ?_ (by rw [el]; exact hz))
  refine wpAny_bind (wpAny_newList ?_ (Nat.zero_le _))
  refine wpAny_holding ?_
  rw [el]
  generalize hh1 : (h'.push (seqObj "list" its.toArray 0)).update h'.objs.size (Obj.mapSeq fun _ => (#[] : Array Value)) = h1 at ho1 ⊢
  have hs1 : h1.objs.size = h'.objs.size + 1 := by rw [← hh1, Heap.size_update, Heap.size_push]
  have k1 : ∀ b u, h'.get? b = some u → h1.get? b = some u := fun b u e => by
    rw [← hh1, Heap.get?_update_ne _ _ _ _ (Nat.ne_of_lt (Heap.lt_size e))]
    exact Heap.get?_push_of_some _ e
  generalize hh2 : h1.push (seqObj "tuple" its.toArray 0) = h2
  have hs2 : h2.objs.size = h'.objs.size + 2 := by rw [← hh2, Heap.size_push, hs1]
  have k2 : ∀ b u, h1.get? b = some u → h2.get? b = some u := fun b u e => by rw [← hh2]; exact Heap.get?_push_of_some _ e
  show wpAny (model X.prog X.w) X.A.in1.in1 (ksk_rest h'.objs.size (.ref f) false its.toArray e1 (.ref h2.objs.size)) _ E' { s2 with heap := h2.push (seqObj "list" #[] 0) }
  have kAll : ∀ b u, h'.get? b = some u → (h2.push (seqObj "list" #[] 0)).get? b = some u := fun b u e => Heap.get?_push_of_some _ (k2 b u (k1 b u e))
  have Ih : Inv X pins σ H2 { s2 with heap := h' } := I2.kept (t' := s2.toks) hk
  have I3 : Inv X pins σ H2 { s2 with heap := h2.push (seqObj "list" #[] 0) } := Ih.kept (t' := s2.toks) kAll
  have fpA : FpOk X pins H2 h'.objs.size := Ih.fpOk (Nat.le_refl _) (Ih.hok.fresh (Nat.le_refl _))
  have leS : h'.objs.size ≤ h2.objs.size := by omega
  have fpS : FpOk X pins H2 h2.objs.size := Ih.fpOk leS (Ih.hok.fresh leS)
  have hfl : f < h'.objs.size := Heap.lt_size (hk f _ hf)
  have nSA : h2.objs.size ≠ h'.objs.size := by omega
  have nSF : h2.objs.size ≠ f := Nat.ne_of_gt (Nat.lt_of_lt_of_le hfl leS)
  refine key_loop (a := h'.objs.size) (kS := h2.objs.size) (f := f) (W := W) I3 (fun b hb => ?_) (Heap.get?_push_of_some _ (k2 _ _ ho1)) (Heap.get?_push_size _ rfl) (kAll f _ (hk f _ hf)) (fun v z => by cases z) nSA nSF hz w0 (fun j u kv H' pl s' hu' hw I' hf' => ?_) fun H' s' kA e kv I' hfp' ha' hk' rv hsz hw => ?_
  · rcases List.mem_cons.mp hb with q | hb
    · subst q; exact fpA
    rcases List.mem_cons.mp hb with q | hb
    · subst q; exact fpS
    rcases List.mem_cons.mp hb with q | hb
    · subst q; exact hfp
    · cases hb
  · have hj : j < its.length := (List.getElem?_eq_some_iff.mp hu').1
    have hjv : j < vs.length := by rw [rvs.length]; exact hj
    obtain ⟨u2, hu2, ru⟩ := rvs.get (List.getElem?_eq_getElem hjv)
    rw [hu'] at hu2
    cases hu2
    obtain ⟨hcc, ht⟩ := step j vs[j] kv H' (List.getElem?_eq_getElem hjv) hw
    exact lam_call1 hN hi ru I' L rfl hr2 hf' hcc (hbind _ _ _ _ _ _) (hbody _ _ _ _ _ _ (hr2.deeper _)) ht
  · rw [← rvs.length] at hw
    obtain ⟨ks, rr2, ob, hdp, fq⟩ := fin kv H' hw
    exact key_fin hK (by have := hr.un; show X.A.units + 1 + 1 + 60 < _; omega) I' hfp' ha' hk' nSA rv hsz hz rr2 ob hdp rvs fun s'' I'' => ⟨rfl, .ref h'.objs.size, _, I'', rfl, fq _ (hfp' _ (by simp)).1⟩
end
end Ev


set_option maxHeartbeats 4000000
namespace Ev
open PySem L2 PyProof.Rows LamX
theorem keysR_noexc {f : D → Res D} (h : ∀ x c d, f x ≠ .exc c d) : ∀ {xs : List D} (c : Nat) (d : D), keysR f xs ≠ .exc c d
  | [], _, _, e => by cases e
  | x :: xs, c, d, e => by
    simp only [keysR] at e
    cases q : f x with
    | ok k =>
      rw [q] at e
      cases q2 : keysR f xs with
      | ok ks => simp only [Res.bind, q2] at e; cases e
      | exc c' d' => exact keysR_noexc h c' d' q2
      | bad n => simp only [Res.bind, q2] at e; cases e
    | exc c' d' => exact h x c' d' q
    | bad n => rw [q] at e; cases e
theorem keysR_get {f : D → Res D} : ∀ {xs ks : List D}, keysR f xs = .ok ks → ks.length = xs.length ∧ ∀ (j : Nat) (x : D), xs[j]? = some x → ∃ k, ks[j]? = some k ∧ f x = .ok k
  | [], ks, h => by simp only [keysR] at h; cases h; exact ⟨rfl, fun j x e => by simp at e⟩
  | x :: xs, ks, h => by
    simp only [keysR] at h
    obtain ⟨k, h1, h⟩ := bind_ok h
    obtain ⟨ks', h2, h⟩ := bind_ok h
    cases h
    obtain ⟨l, g⟩ := keysR_get h2
    refine ⟨by simp [l], fun j y e => ?_⟩
    cases j with
    | zero => simp at e; subst e; exact ⟨k, rfl, h1⟩
    | succ j => exact g j y (by simpa using e)
/-- pairs, the keys alike -/
inductive ZR (C : Cst) (Hf : Hp) : List (D × V) → List (D × D) → Prop
  | nil : ZR C Hf [] []
  | cons {k d : D} {v : V} {ps : List (D × V)} {qs : List (D × D)} : Rep C Hf v d → ZR C Hf ps qs → ZR C Hf ((k, v) :: ps) ((k, d) :: qs)
section
variable {C : Cst} {Hf : Hp}
theorem ZR.ins {k d : D} {v : V} (h : Rep C Hf v d) : ∀ {ps : List (D × V)} {qs : List (D × D)}, ZR C Hf ps qs → ZR C Hf (Ev.ins (fun (p q : D × V) => ltD p.1 q.1) (k, v) ps) (Ev.ins (fun (p q : D × D) => ltD p.1 q.1) (k, d) qs)
  | _, _, .nil => .cons h .nil
  | _, _, .cons (k := k0) h0 t => by
    simp only [Ev.ins]
    by_cases q : ltD k0 k = true
    · rw [if_pos q, if_pos q]; exact .cons h0 (ZR.ins h t)
    · rw [if_neg q, if_neg q]; exact .cons h (.cons h0 t)
theorem ZR.sort : ∀ {ps : List (D × V)} {qs : List (D × D)}, ZR C Hf ps qs → ZR C Hf (isort (fun (p q : D × V) => ltD p.1 q.1) ps) (isort (fun (p q : D × D) => ltD p.1 q.1) qs)
  | _, _, .nil => .nil
  | _, _, .cons h t => ZR.ins h (ZR.sort t)
theorem ZR.reps : ∀ {ps : List (D × V)} {qs : List (D × D)}, ZR C Hf ps qs → Reps C Hf (ps.map (·.2)) (qs.map (·.2))
  | _, _, .nil => .nil
  | _, _, .cons h t => .cons h (ZR.reps t)
theorem zr_zip : ∀ {ks : List D} {vs : List V} {ds : List D}, Reps C Hf vs ds → ZR C Hf (ks.zip vs) (ks.zip ds)
  | [], _, _, _ => by simp; exact .nil
  | _ :: _, _, _, .nil => .nil
  | k :: ks, _, _, .cons h t => .cons h (zr_zip t)
end
section
variable {z : Z} {σ : L2.St} {H : Hp}
theorem tE_key {q : Str} {a k : Ex} {v : Nat} {fv : List Nat} {Q : VK} (h : tE z (.key .srt a v fv k) σ H Q) : tKey z.C z.T q v (tE z a) (tE { z with EW := C8.E0 } k) σ H Q := by
  obtain ⟨g, hg, Hf, ρ, s, h⟩ := h
  simp only [ev] at h
  refine ⟨g, hg, Hf, ρ, s, (Out.bind h).imp fun r ρ1 H1 Hf1 s1 l1 h x hx => ?_⟩
  obtain ⟨Hf2, s2, l2, hr⟩ := s1.freeze hx
  dsimp only at h
  split at h
  · rename_i xs hxs
    obtain ⟨ks, hks, h⟩ := Out.bind' h (keysR_noexc fun x c d e => by
      cases q : (ev z.tb z.F k ((capt ρ1 fv).set v (.fz x))).okOnly with
      | ok p => rw [q] at e; cases e
      | exc c' d' => exact okOnly_noexc c' d' q
      | bad n => rw [q] at e; cases e)
    split at h
    · rename_i hc
      simp only [Bool.and_eq_true, decide_eq_true_eq] at hc
      obtain ⟨⟨⟨hal, hdp⟩, hv⟩, _⟩ := hc
      obtain ⟨hlen, hget⟩ := keysR_get hks
      refine ⟨hg.t ▸ s2.tabs, fun H2 c' keep dm tb hco => ?_⟩
      have s3 : SR z.C g σ H2 Hf2 ρ1 := s2.growT (by rw [hg.t]; exact keep) dm (by rw [hg.t]; exact tb)
      obtain ⟨Hf3, s4, l3⟩ := s3.frzIn (fv := fv)
      refine ⟨r.d, xs, Hf3, s4.sub, .inl (hr.le l3), hxs, fun j kv H => H c' = some (CodeO c' q) ∧ ∃ Hf, Le Hf3 Hf ∧ SR z.C g σ H Hf (Ev.frzIn ρ1 fv) ∧ Reps z.C Hf kv (ks.take j), ⟨hco, Hf3, Le.refl _, s4, .nil⟩, fun vs hvs => ⟨fun j xv kv H hj ⟨hcc, Hf4, l4, s5, rk⟩ => ⟨hcc, ?_⟩, fun kv H ⟨hcc, Hf4, l4, s5, rk⟩ => ?_⟩⟩
      · obtain ⟨d, hd, hrx⟩ := hvs.get' hj
        obtain ⟨kd, hkd, hev⟩ := hget j d hd
        obtain ⟨⟨rk', ρk⟩, he, h2⟩ := bind_ok hev
        have he := okOnly_ok he
        cases h2
        have s6 := s5.capt
        have hlv : v < (Ev.capt ρ1 fv).length := by unfold Ev.capt; rw [capt_length]; exact hv
        have s7 := s6.setFz (i := v) (v := xv) (d := d) hlv (hrx.le l4) fun e q => by
          rw [capt_get] at q
          cases hs : ρ1[v]? with
          | none => rw [hs] at q; cases q
          | some s0 =>
            rw [hs] at q
            simp only [Option.map_some, Option.some.injEq] at q
            split at q
            · cases s0 <;> cases q
            · cases q
        refine tE_of (z := { z with EW := C8.E0 }) (g := ⟨H, [], Hf4, g.T⟩) ⟨((hg.hb.trans s5.fz0)), hg.t⟩ s7 he fun y H5 Hf5 s8 l8 hy => ?_
        obtain ⟨Hf6, s9, l9, hry⟩ := s8.freeze hy
        refine ⟨s9.base c' _ hcc (fun ps e => by unfold CodeO at e; cases e) (fun p hp => by cases hp), Hf6, (l4.trans l8).trans l9, ?_, ?_⟩
        · exact s5.grow (fun a o e nt => s9.base a o e nt fun p hp => by cases hp) (fun a e => s9.dom a e) s9.tabs (l8.trans l9) s9.sub fun a e => s9.newf a e
        · rw [List.take_add_one, hkd]
          exact (rk.le (l8.trans l9)).append (.cons hry .nil)
      · have hl : vs.length = ks.length := by rw [hvs.length, hlen]
        rw [hl, List.take_length] at rk
        refine ⟨ks, rk.le s5.sub, ordb_of hal, hdp, fun p hp => ?_⟩
        obtain ⟨s10, rv⟩ := s5.po (PO.newLst s5.sub hp (zr_zip (ks := ks) (hvs.le l4)).sort.reps)
        exact h _ _ s10 (l2.trans (l3.trans l4)) _ rv
    · exact h.elim
  · exact h.elim
end
end Ev


set_option maxHeartbeats 4000000
namespace Ev
open PySem L2 PyProof.Rows
def constB : D → Const → Bool
  | .non, .none => true
  | .bl a, .bool b => a == b
  | .int a, .int b => a == b
  | .str l, .str s => (s.cps.toList == l) && decide (l.length ≤ szL)
  | _, _ => false
mutual
def mT (m : MC) : Tg → Expr → Bool
  | .nm i, .Name x _ => m.isL i x
  | .tp ts, .Tuple es _ _ => mTs m ts es
  | _, _ => false
def mTs (m : MC) : Tgs → List Expr → Bool
  | .n, [] => true
  | .c t ts, e :: es => notStar e && mT m t e && mTs m ts es
  | _, _ => false
end
def isTupX : Expr → Bool | .Tuple .. => true | _ => false
def MC.lamb (m : MC) (scope : Scope) : MC := { m with sc := scope, fnb := fun _ => false, lam := false }
def noPar : Arguments → Bool | ⟨[], [], none, [], [], none, []⟩ => true | _ => false
def asLamCall : Expr → Option (Str × Arguments × Expr × Scope) | .Call (.Name x _) [.Lambda ps b sc _] [] _ => some (x, ps, b, sc) | _ => none
def MC.blk (m : MC) (scope : Scope) : MC := { m with sc := relS scope m.sc, fnb := fun x => scope.names.lookup x == some .cell }
def ownOf (N : List Str) (vs : List Nat) : List (Str × Nat) := vs.map fun i => (N.getD i default, i)
def asName : Expr → Option Str | .Name x _ => some x | _ => none
def asConst : Expr → Option Const | .Constant c _ _ => some c | _ => none
def asTup : Expr → Option (List Expr) | .Tuple xs _ _ => some xs | _ => none
def asLst : Expr → Option (List Expr) | .List xs _ => some xs | _ => none
def asSlc : Expr → Option (Expr × Option Expr × Option Expr) | .Subscript x (.Slice l u none _) _ => some (x, l, u) | _ => none
def asChn : Expr → Option (Expr × CmpOp × CmpOp × Expr × Expr) | .Compare x [o1, o2] [y, w] _ => some (x, o1, o2, y, w) | _ => none
def asNot : Expr → Option Expr | .UnaryOp .Not x _ => some x | _ => none
def restB (op : BoolOp) (y : Expr) (r : List Expr) (pos : Pos) : Expr := match r with | [] => y | _ :: _ => .BoolOp op (y :: r) pos
def asAnd : Expr → Option (Expr × Expr) | .BoolOp .And (x :: y :: r) pos => some (x, restB .And y r pos) | _ => none
def asOr : Expr → Option (Expr × Expr) | .BoolOp .Or (x :: y :: r) pos => some (x, restB .Or y r pos) | _ => none
def asIte : Expr → Option (Expr × Expr × Expr) | .IfExp t x y _ => some (t, x, y) | _ => none
def asCall : Expr → Option (Str × List Expr) | .Call (.Name x _) xs [] _ => some (x, xs) | _ => none
def asLC : Expr → Option (Expr × Expr × Expr × List Expr × Scope) | .ListComp elt [⟨t, i, ifs, 0⟩] scope _ => some (elt, t, i, ifs, scope) | _ => none
def asLC2 : Expr → Option (Expr × Expr × Expr × List Expr × Expr × Expr × List Expr × Scope) | .ListComp elt [⟨t, i, ifs, 0⟩, ⟨t1, i1, ifs1, 0⟩] scope _ => some (elt, t, i, ifs, t1, i1, ifs1, scope) | _ => none
/-- {}, {k: v} -/
def asDict : Expr → Option (List Expr) | .Dict [] [] _ => some [] | .Dict [some k] [v] _ => some [k, v] | _ => none
/-- x.get(a, b) -/
def asGet : Expr → Option (Str × Expr × Expr) | .Call (.Attribute (.Name x _) f apos) [a, b] [] cpos => if decide (f = "get") && (apos.endLine == cpos.line) && notStar a && notStar b then some (x, a, b) else none | _ => none
def asDC : Expr → Option (Expr × Expr × Expr × Expr × List Expr × Scope) | .DictComp kx vx [⟨t, i, ifs, 0⟩] scope _ => some (kx, vx, t, i, ifs, scope) | _ => none
def isSrt : KOp → Bool | .srt => true | .min => false
def asKeyed : Expr → Option (Str × Expr × Str × Expr × Scope) | .Call (.Name x _) [e] [⟨some kw, .Lambda ⟨[], [⟨xp, none, _⟩], none, [], [], none, []⟩ b sc _, _⟩] _ => (if decide (kw = "key") then some (x, e, xp, b, sc) else none) | _ => none
def asVls : Expr → Option Expr | .Call (.Attribute (.Name x p) v apos) [] [] cpos => if decide (v = "values") && (apos.endLine == cpos.line) then some (.Name x p) else none | _ => none
def chT : Op → CmpOp → Bool
  | .eq, .Eq => true | .ne, .NotEq => true | .lt, .Lt => true | .le, .LtE => true | .gt, .Gt => true | .ge, .GtE => true | _, _ => false
def mCon (m : MC) (d : D) (x : Str) : Bool := match d with | .fn j => m.isG x && decide (m.nm.lookup x = some (.fn j)) && !(x == ("__debug__" : Str)) | _ => false
def one? : List Expr → Option Expr | [x] => some x | _ => none
def two? : List Expr → Option (Expr × Expr) | [x, y] => some (x, y) | _ => none
mutual
def mE : Ex → MC → Expr → Bool
  | .nop, _, _ => true
  | .var i, m, ex => match asName ex with | some x => m.isV i x | none => false
  | .con d, m, ex => match asConst ex with
    | some c => constB d c
    | none => match asName ex with | some x => mCon m d x | none => false
  | .glo c, m, ex => match asName ex with | some x => m.isG x && decide (m.nm.lookup x = some (.con c)) && !(x == ("__debug__" : Str)) | none => false
  | .tup es, m, ex => match asTup ex with | some xs => xs.all notStar && mEs es m xs | none => false
  | .lst es, m, ex => match asLst ex with | some xs => xs.all notStar && mEs es m xs | none => false
  | .dic es, m, ex => match asDict ex with | some xs => mEs es m xs | none => false
  | .op o es, m, ex => match opForm m o ex with | some xs => mEs es m xs | none => false
  | .slc a lo hi, m, ex => match asSlc ex with | some (x, l, u) => mE a m x && mP lo m l && mP hi m u | none => false
  | .chn o p a b c, m, ex => match asChn ex with
    | some (x, o1, o2, y, w) => chT o o1 && chT p o2 && notSet y && notSet w && mE a m x && mE b m y && mE c m w
    | none => false
  | .not a, m, ex => match asNot ex with | some x => mE a m x | none => false
  | .and a b, m, ex => match asAnd ex with | some (x, y) => mE a m x && mE b m y | none => false
  | .or a b, m, ex => match asOr ex with | some (x, y) => mE a m x && mE b m y | none => false
  | .ite c a b, m, ex => match asIte ex with | some (t, x, y) => mE c m t && mE a m x && mE b m y | none => false
  | .call j es, m, ex => match asCall ex with
    | some (x, xs) => m.isG x && decide (m.nm.lookup x = some (.fn j)) && !(x == ("__debug__" : Str)) && xs.all notStar && mEs es m xs
    | none => false
  | .cav i es, m, ex => match asCall ex with | some (x, xs) => m.isV i x && xs.all notStar && !xs.isEmpty && mEs es m xs | none => false
  | .pop _ _, _, _ => false
  | .get i k x, m, ex => match asGet ex with | some (y, a, b) => m.isV i y && mE k m a && mE x m b | none => false
  | .key o a v _ k, m, ex => match asKeyed ex with
    | some (x, e, xp, body, scope) => isSrt o && m.lam && decide (x = "sorted") && m.isG x && notStar e && decide (m.N[v]? = some xp) && lamS1B m.sc scope xp && mE a m e && mE k (m.lamb scope) body
    | none => false
  | .lc e gs, m, ex => match asLC ex with
    | some (elt, t, i, ifs, scope) => blkC m.N m.sc scope (ownOf m.N gs.vars) && notSet i && mG gs m scope t i ifs && mE e (m.blk scope) elt
    | none => match asLC2 ex with
      | some (elt, t, i, ifs, t1, i1, ifs1, scope) => blkC m.N m.sc scope (ownOf m.N gs.vars) && notSet i && notSet i1 && mG2 gs m scope t i ifs t1 i1 ifs1 && mE e (m.blk scope) elt
      | none => false
  | .dc k v gs, m, ex => match asDC ex with
    | some (kx, vx, t, i, ifs, scope) => blkC m.N m.sc scope (ownOf m.N gs.vars) && notSet i && mG gs m scope t i ifs && mE k (m.blk scope) kx && mE v (m.blk scope) vx
    | none => false
  | .flt _ e, m, ex => match asLamCall ex with
    | some (x, ps, b, scope) => m.lam && decide (m.flt = some x) && m.isG x && !(x == ("__debug__" : Str)) && noPar ps && LamX.lamSB m.sc scope && mE e (m.lamb scope) b
    | none => false
/-- one clause -/
def mG : Gens → MC → Scope → Expr → Expr → List Expr → Bool
  | .n, _, _, _, _, _ => false
  | .c tg it f gs, m, scope, t, i, ifs => mT (m.blk scope) tg t && mI it m t i && mF f (m.blk scope) ifs && isN gs
/-- two clauses -/
def mG2 : Gens → MC → Scope → Expr → Expr → List Expr → Expr → Expr → List Expr → Bool
  | .n, _, _, _, _, _, _, _, _ => false
  | .c tg it f gs, m, scope, t, i, ifs, t1, i1, ifs1 => mT (m.blk scope) tg t && mI it m t i && mF f (m.blk scope) ifs && mG1 gs (m.blk scope) t1 i1 ifs1
/-- the inner one -/
def mG1 : Gens → MC → Expr → Expr → List Expr → Bool
  | .n, _, _, _, _ => false
  | .c tg it f gs, mb, t, i, ifs => mT mb tg t && mI it mb t i && mF f mb ifs && isN gs
def mEs : Exs → MC → List Expr → Bool
  | .n, _, xs => xs.isEmpty
  | .c e es, m, xs => match xs with | x :: r => mE e m x && mEs es m r | [] => false
def mP : Exs → MC → Option Expr → Bool
  | .n, _, o => o.isNone
  | .c e _, m, o => match o with | some x => mE e m x | none => false
def mF : Exs → MC → List Expr → Bool
  | .n, _, xs => xs.isEmpty
  | .c e _, m, xs => match one? xs with | some x => mE e m x | none => false
def mI : It → MC → Expr → Expr → Bool
  | .sq e, m, _, x => mE e m x
  | .rg es, m, _, ex => match asCall ex with
    | some (x, xs) => decide (x = "range") && m.isG x && xs.all notStar && (xs.length == 1 || xs.length == 2) && mEs es m xs
    | none => false
  | .en e, m, t, ex => match asCall ex with
    | some (x, xs) => decide (x = "enumerate") && m.isG x && xs.all notStar && isTupX t && (match one? xs with | some a => mE e m a | none => false)
    | none => false
  | .zp a b, m, t, ex => match asCall ex with
    | some (x, xs) => decide (x = "zip") && m.isG x && xs.all notStar && isTupX t && (match two? xs with | some (p, q) => mE a m p && mE b m q | none => false)
    | none => false
  | .ez _ _, _, _, _ => false
  | .im _, _, _, _ => false
  | .vl e, m, _, ex => match asVls ex with | some x => mE e m x | none => false
def isN : Gens → Bool
  | .n => true
  | .c _ _ _ _ => false
end
/-- a plain exception class of the module -/
def ClsOk (C : Cst) (lim : Nat → Option Str) (K : PySem.W.Frag) (mg : Str → Option Value) (x : Str) (c : Nat) : Prop :=
  ∃ (a : Addr) (bmB : List Value) (B newId initId : String), C.clA c = some a ∧ lim c = none ∧ mg x = some (.ref a) ∧ PySem.W.keepIn K (.ref a) = true ∧ ExcBaseFacts B newId initId bmB ∧ PySem.W.excIn K a bmB newId = true ∧
    ∀ (M : Model) (h : Heap), K.In h → PySem.W.Looks M h (isSubtype (.ref a) (.type "BaseException")) true ∧ PySem.W.Looks M h (typeOf (.ref a)) (.type "type")
def ClsM (C : Cst) (lim : Nat → Option Str) (P : Program) (w : World) (K : PySem.W.Frag) (mg : Str → Option Value) (base : Heap) (x : Str) (c : Nat) : Prop :=
  ∃ (a fI : Addr) (fd : FuncData), C.clA c = some a ∧ lim c = some "limit" ∧ mg x = some (.ref a) ∧ OexC K a ∧ PySem.W.findIn K (.ref a) "__init__" = some (some (.ref fI)) ∧ PySem.W.typeIn K (.ref fI) = some (.type "function") ∧ Binds K fd ["self", "limit"] [] ∧
    FnOk P w K mg base (L2N.CX P w) 1 fI fd ["self", "limit"] (spSup a)
structure PF (m : MC) (z : Z) (X : Cx) (k : Nat) : Prop where
  xf : XF m X z.C
  room : Room k X.A
  room2 : m.lam = true → Room (k + 2) X.A
  lam : m.lam = true → ∃ c P, LamX.TabB X.base X.mg c P ∧ X.env.code = .ref c ∧ (P, X.env.qual ++ "<lambda>") ∈ z.T ∧ ∀ p ∈ z.T, p.1 = P → p.2 = X.env.qual ++ "<lambda>"
  flt : ∀ x, m.flt = some x → FltF z.C z.lim z.tb.flt X.mg x
  fn : ∀ (x : Str) (j : Nat), m.nm.lookup x = some (.fn j) → ∃ (f : Addr) (fd : FuncData) (ps : List Str) (mm : Nat), X.mg x = some (.ref f) ∧ z.C.fnA j = some f ∧ PySem.W.keepIn X.K (.ref f) = true ∧
    FnOk X.prog X.w X.K X.mg X.base (L2N.CX X.prog X.w) k f fd ps (spF z.C z.lim z.T z.Hb z.F mm j) ∧ Binds X.K fd ps [] ∧ ∀ fx, z.tb.fns[j]? = some fx → mm = fx.params
  con : ∀ (x : Str) (c : Nat) (d : D), m.nm.lookup x = some (.con c) → z.tb.gls[c]? = some d → ∃ (v : V) (u : Value), X.mg x = some u ∧ RelV v u ∧ ∀ Hf, Le z.Hb Hf → Rep z.C Hf v d
  tk : L2N.Takes X (fun cls d _ H => z.EW cls d H)
  cls : ∀ (x : Str) (c : Nat), m.nm.lookup x = some (.cls c) → ClsOk z.C z.lim X.K X.mg x c
  clsm : ∀ (x : Str) (c : Nat), m.nm.lookup x = some (.clsM c) → ClsM z.C z.lim X.prog X.w X.K X.mg X.base x c
  fna : ∀ (j : Nat) (f : Addr), z.C.fnA j = some f → ∃ (fd : FuncData) (ps : List Str) (mm : Nat), PySem.W.keepIn X.K (.ref f) = true ∧
    FnOk X.prog X.w X.K X.mg X.base (L2N.CX X.prog X.w) k f fd ps (spF z.C z.lim z.T z.Hb z.F mm j) ∧ Binds X.K fd ps [] ∧ ∀ fx, z.tb.fns[j]? = some fx → mm = fx.params
theorem PF.blk {m : MC} {z : Z} {X : Cx} {k : Nat} (f : PF m z X k) (scope : Scope) (s : Shared) (H : Hp) (C : Addr) (cl : List (Str × Addr)) (fp : List Addr) : PF (m.blk scope) z.blk (X.blk s H scope (compEnvC scope cl C X.env) fp) k where
  xf := ⟨by show relabel scope X.env = relS scope m.sc; rw [← f.xf.sc]; rfl, f.xf.N, rfl, f.xf.K, f.xf.w, f.xf.calm, f.xf.nd, f.xf.blt, f.xf.un⟩
  room := f.room
  room2 := f.room2
  lam := f.lam
  flt := f.flt
  fn := f.fn
  con := f.con
  tk := fun u s' h => by
    obtain ⟨_, _, _, _, _, _, _, _, _, _, _, _, _, _, _, _, w⟩ := h
    exact w
  cls := f.cls
  clsm := f.clsm
  fna := f.fna
theorem PF.lamb {m : MC} {z : Z} {X : Cx} {k : Nat} (f : PF m z X k) (scope : Scope) {A : Around} {outer : List Env} {s : Shared} {H : Hp} {E : XK} {fa c' : Addr} (hr : Room k (A.deeper (LamX.lamEnv X scope s.heap.objs.size fa c'))) : PF (m.lamb scope) { z with EW := E } (lamN X A outer s H E scope fa c') k where
  xf := ⟨rfl, f.xf.N, rfl, f.xf.K, f.xf.w, rfl, f.xf.nd, f.xf.blt, by
    have := hr.un
    show (A.deeper (LamX.lamEnv X scope s.heap.objs.size fa c')).units + 100 < cLine
    omega⟩
  room := hr
  room2 := fun h => by cases h
  lam := fun h => by cases h
  flt := f.flt
  fn := f.fn
  con := f.con
  tk := L2N.takes_of rfl rfl rfl rfl
  cls := f.cls
  clsm := f.clsm
  fna := f.fna
def Ok3 (z : Z) (X : Cx) (e : Ex) (ex : Expr) : Prop := PE X ex (tE z e) ∧ PE X ex (tO z e) ∧ PT X ex (tT z e)
inductive Oks (z : Z) (X : Cx) : Exs → List Expr → Prop
  | nil : Oks z X .n []
  | cons {e : Ex} {es : Exs} {x : Expr} {xs : List Expr} : Ok3 z X e x → Oks z X es xs → Oks z X (.c e es) (x :: xs)
section
variable {m : MC} {z : Z} {X : Cx} {k : Nat} {e : Ex} {ex : Expr}
theorem ok3_of (hne : ∀ i, e ≠ .var i) (h : PE X ex (tE z e)) (ht : ∀ whole, isTrue ex X.env whole = (do let v ← whole; standAt ex.pos; holding [v] (truthy v))) : Ok3 z X e ex :=
  ⟨h, by rw [tO_ne hne]; exact h, PT.imp (pt_val h ht) fun σ H Q q => tT_tE q⟩
theorem ok3_pt (hne : ∀ i, e ≠ .var i) (h : PE X ex (tE z e)) (ht : PT X ex (tT z e)) : Ok3 z X e ex := ⟨h, by rw [tO_ne hne]; exact h, ht⟩
def tOsL (z : Z) : Exs → List TE
  | .n => []
  | .c e es => tO z e :: tOsL z es
def tFsL (z : Z) : Exs → List TE
  | .n => []
  | .c e es => tE z e :: tFsL z es
theorem tOs_eq : ∀ es : Exs, tOs z es = tL (tOsL z es)
  | .n => rfl
  | .c e es => by show tCons _ _ = tCons _ _; rw [tOs_eq es]
theorem tFs_eq : ∀ es : Exs, tFs z es = tL (tFsL z es)
  | .n => rfl
  | .c e es => by show tCons _ _ = tCons _ _; rw [tFs_eq es]
theorem Oks.os {es : Exs} {xs : List Expr} (h : Oks z X es xs) : PEs X xs (tOsL z es) := by
  induction h with
  | nil => exact .nil
  | cons a _ ih => exact .cons a.2.1 ih
theorem Oks.fs {es : Exs} {xs : List Expr} (h : Oks z X es xs) : PEs X xs (tFsL z es) := by
  induction h with
  | nil => exact .nil
  | cons a _ ih => exact .cons a.1 ih
theorem tE_mono : Mono (tE z e) := fun σ H Q Q' k h => by
  obtain ⟨g, hg, Hf, ρ, s, h⟩ := h
  exact ⟨g, hg, Hf, ρ, s, h.imp fun _ _ _ _ _ _ q v hv => k _ _ (q v hv)⟩
theorem tO_mono : Mono (tO z e) := fun σ H Q Q' k h => by
  by_cases he : ∃ i, e = .var i
  · obtain ⟨i, rfl⟩ := he
    obtain ⟨v, h1, h2⟩ := h
    exact ⟨v, h1, k _ _ h2⟩
  · rw [tO_ne fun i q => he ⟨i, q⟩] at h ⊢
    exact tE_mono σ H Q Q' k h
theorem tOsL_mono : ∀ (es : Exs), ∀ t ∈ tOsL z es, Mono t
  | .n, t, h => by simp [tOsL] at h
  | .c e es, t, h => by
    rcases List.mem_cons.mp h with q | q
    · subst q; exact tO_mono
    · exact tOsL_mono es t q
theorem ok_op {o : Op} {es : Exs} {xs : List Expr} (f : PF m z X k) (hf : opForm m o ex = some xs) (h : Oks z X es xs) : PE X ex (tE z (.op o es)) :=
  PE.imp (op_ok f.xf (tOsL_mono es) hf h.os) fun σ H Q q => by
    have := tE_op q
    rw [tOs_eq] at this
    exact this
theorem chT_eq {o : Op} {c : CmpOp} {C : Cst} (hK : X.K = C.K) (hu : X.A.units + 100 < cLine) (h : chT o c = true) : OpV X C (compareOp c) o := by
  unfold chT at h
  split at h
  · exact v_eq hK hu
  · exact v_ne hK hu
  · exact v_lt hK hu
  · exact v_le hK hu
  · exact v_gt hK hu
  · exact v_ge hK hu
  · cases h
end
end Ev


set_option maxHeartbeats 4000000
namespace Ev
open PySem L2 PyProof.Rows
section
variable {m : MC} {z : Z} {X : Cx} {k : Nat} {e : Ex} {ex : Expr}
theorem ok_nop : Ok3 z X .nop ex := ⟨⟨fun _ _ _ _ _ _ h => (tE_nop h).elim⟩, ⟨fun _ _ _ _ _ _ h => (tE_nop (h : tE z .nop _ _ _)).elim⟩, ⟨fun _ _ _ _ _ _ h => (tE_nop (tT_tE h)).elim⟩⟩
theorem asName_eq {x : Str} (h : asName ex = some x) : ∃ p, ex = .Name x p := by
  cases ex <;> first | (cases h; exact ⟨_, rfl⟩) | cases h
theorem ok_var {i : Nat} (f : PF m z X k) (h : mE (.var i) m ex = true) : Ok3 z X (.var i) ex := by
  simp only [mE] at h
  split at h
  · rename_i x q
    obtain ⟨p, rfl⟩ := asName_eq q
    obtain ⟨h1, h2, h3, h4⟩ := f.xf.vis h
    have p : PE X (.Name x p) (tVar i) := pe_var h1 h2 h3 h4
    exact ⟨PE.imp p fun σ H Q q => tE_name q, p, PT.imp (pt_val p) fun σ H Q q => tE_name (tT_tE q)⟩
  · cases h
theorem rep_const {C : Cst} {Hf : Hp} {d : D} {c : Const} (h : constB d c = true) : ∃ v, Rep C Hf v d ∧ ∀ j pos, PE X (.Constant c j pos) (tC v) := by
  unfold constB at h
  split at h
  · exact ⟨.non, .non, fun _ _ => pe_non⟩
  · rename_i a b
    obtain rfl := beq_iff_eq.mp h
    exact ⟨.bl a, .bl a, fun _ _ => pe_bl⟩
  · rename_i a b
    obtain rfl := beq_iff_eq.mp h
    exact ⟨.int a, .int a, fun _ _ => pe_int⟩
  · rename_i l s
    simp only [Bool.and_eq_true, decide_eq_true_eq] at h
    obtain ⟨h1, h2⟩ := h
    have e : Sx l = s := by
      have := beq_iff_eq.mp h1
      unfold Sx
      rw [← this]
    exact ⟨.str (Sx l), .str h2, fun _ _ => by rw [e]; exact pe_str⟩
  · cases h
theorem tE_con {d : D} {v : V} (hr : ∀ Hf, Le z.Hb Hf → Rep z.C Hf v d) {σ : L2.St} {H : Hp} {Q : VK} (h : tE z (.con d) σ H Q) : tC v σ H Q := by
  obtain ⟨g, hg, Hf, ρ, s, h⟩ := h
  simp only [ev] at h
  exact h H Hf s (Le.refl _) v (hr Hf (hg.hb.trans s.fz0))
theorem asConst_eq {c : Const} (h : asConst ex = some c) : ∃ j p, ex = .Constant c j p := by
  cases ex <;> first | (cases h; exact ⟨_, _, rfl⟩) | cases h
theorem ok_con {d : D} (f : PF m z X k) (h : mE (.con d) m ex = true) : Ok3 z X (.con d) ex := by
  simp only [mE] at h
  split at h
  · rename_i c q
    obtain ⟨j, pos, rfl⟩ := asConst_eq q
    obtain ⟨v, hr, hp⟩ := rep_const (X := X) (C := z.C) (Hf := z.Hb) h
    exact ok3_of (fun i => by simp) (PE.imp (hp j pos) fun σ H Q q => tE_con (fun Hf l => hr.le l) q) (fun _ => rfl)
  · split at h
    · rename_i x q
      obtain ⟨pos, rfl⟩ := asName_eq q
      unfold mCon at h
      split at h
      · rename_i j
        simp only [Bool.and_eq_true, Bool.not_eq_true', decide_eq_true_eq] at h
        obtain ⟨f', fd, ps, mm, h1, h2, _⟩ := f.fn x j h.1.2
        exact ok3_of (fun i => by simp) (PE.imp (pe_glob (v := .ref f') (f.xf.gl h.1.1) h1 rfl h.2) fun σ H Q q => tE_con (fun Hf l => .fn h2) q) (fun _ => rfl)
      · cases h
    · cases h
theorem ok_glo {c : Nat} (f : PF m z X k) (h : mE (.glo c) m ex = true) : Ok3 z X (.glo c) ex := by
  simp only [mE] at h
  split at h
  · rename_i x q
    obtain ⟨pos, rfl⟩ := asName_eq q
    simp only [Bool.and_eq_true, Bool.not_eq_true', decide_eq_true_eq] at h
    refine ok3_of (fun i => by simp) ?_ (fun _ => rfl)
    cases hd : z.tb.gls[c]? with
    | none =>
      refine ⟨fun pins s σ H Q I q => ?_⟩
      obtain ⟨g, hg, Hf, ρ, s', q⟩ := q
      simp only [ev, hd] at q
      exact q.elim
    | some d =>
      obtain ⟨v, u, h1, h2, h3⟩ := f.con x c d h.1.2 hd
      refine PE.imp (pe_glob (f.xf.gl h.1.1) h1 h2 h.2) fun σ H Q q => ?_
      obtain ⟨g, hg, Hf, ρ, s', q⟩ := q
      simp only [ev, hd] at q
      exact q H Hf s' (Le.refl _) v (h3 Hf (hg.hb.trans s'.fz0))
  · cases h
theorem pa_no {xs : List Expr} : PA X xs (fun _ _ _ => False) := ⟨fun _ _ _ _ _ _ _ h => h.elim⟩
theorem pa_tAs : ∀ {bs : List Bool} {es : Exs} {xs : List Expr}, Oks z X es xs → xs.all notStar = true → PA X xs (tAs z bs es)
  | [], .n, [], .nil, _ => pa_nil
  | true :: _, .n, [], .nil, _ => pa_no
  | false :: _, .n, [], .nil, _ => pa_no
  | [], .c e es, x :: xs, .cons h r, hl => pa_no
  | false :: bs, .c e es, x :: xs, .cons h r, hl => by
    have h' : notStar x = true ∧ xs.all notStar = true := by simpa using hl
    exact pa_cons h.1 (pa_tAs r h'.2) (star_cons h'.1)
  | true :: bs, .c e es, x :: xs, .cons h r, hl => by
    have h' : notStar x = true ∧ xs.all notStar = true := by simpa using hl
    exact pa_cons h.2.1 (pa_tAs r h'.2) (star_cons h'.1)
/-- a call -/
theorem ok_call {j : Nat} {es : Exs} {x : Str} {xs : List Expr} {p pos : Pos} (f : PF m z X k) (hg : m.isG x = true) (hx : m.nm.lookup x = some (.fn j)) (hd : (x == ("__debug__" : Str)) = false) (hs : xs.all notStar = true) (ho : Oks z X es xs) :
    Ok3 z X (.call j es) (.Call (.Name x p) xs [] pos) := by
  refine ok3_of (fun i => by simp) ?_ (fun _ => rfl)
  obtain ⟨fa, fd, ps, mm, h1, h2, h3, h4, h5, h6⟩ := f.fn x j hx
  cases hj : z.tb.fns[j]? with
  | none =>
    refine ⟨fun pins s σ H Q I q => ?_⟩
    obtain ⟨fx, e, _⟩ := tE_call q
    rw [hj] at e; cases e
  | some fx =>
    obtain rfl := h6 fx hj
    have hx' : Passes (L2N.CX X.prog X.w) X z.EW := L2N.passes_call f.tk fun _ _ _ _ h => h
    have hap : ∀ (Q : VK), (fun (vs : List V) H1 => spF z.C z.lim z.T z.Hb z.F fx.params j (vs ++ []) H1 Q z.EW) = fun vs H1 => spF z.C z.lim z.T z.Hb z.F fx.params j vs H1 Q z.EW := fun Q => by
      funext vs H1; rw [List.append_nil]
    cases xs with
    | nil =>
      cases ho
      cases hr : fx.refs with
      | nil =>
        refine PE.imp (pe_call0 h4 f.room (f.xf.gl hg) h1 h3 h5 .nil hx' hd) fun σ H Q q => ?_
        obtain ⟨fy, e, q⟩ := tE_call q
        rw [hj] at e; cases e
        rw [hr] at q
        unfold tCall
        rw [hap]; exact q
      | cons b bs =>
        refine ⟨fun pins s σ H Q I q => ?_⟩
        obtain ⟨fy, e, q⟩ := tE_call q
        rw [hj] at e; cases e
        rw [hr] at q
        cases b <;> exact False.elim q
    | cons y ys =>
      have hs' : notStar y = true ∧ ys.all notStar = true := by simpa using hs
      refine PE.imp (pe_call h4 f.room (f.xf.gl hg) h1 h3 h5 .nil hx' (pa_tAs (bs := fx.refs) ho hs) hd (star_cons hs'.1) (star_any hs'.2)) fun σ H Q q => ?_
      obtain ⟨fy, e, q⟩ := tE_call q
      rw [hj] at e; cases e
      unfold tCall
      rw [hap]; exact q
theorem PW.of {op : BoolOp} {vs : List Expr} {pos : Pos} {t : TT} (h : PT X (.BoolOp op vs pos) t) : PW X (.BoolOp op vs pos) t :=
  ⟨fun wh pins s σ H Q I q => by
    have := h.run pins s σ H Q I q
    have e : isTrue (.BoolOp op vs pos) X.env wh = isTrue (.BoolOp op vs pos) X.env (eval (.BoolOp op vs pos) X.env) := by rfl
    rw [e]; exact this⟩
theorem rest_pe {op : BoolOp} {y : Expr} {r : List Expr} {pos : Pos} {t : TE} (h : PE X (restB op y r pos) t) : PE X (.BoolOp op (y :: r) pos) t := by
  cases r with
  | nil => exact pe_one h
  | cons a b => exact h
theorem asAnd_eq {x y : Expr} (h : asAnd ex = some (x, y)) : ∃ y' r pos, ex = .BoolOp .And (x :: y' :: r) pos ∧ y = restB .And y' r pos := by
  unfold asAnd at h
  split at h
  · cases h; exact ⟨_, _, _, rfl, rfl⟩
  · cases h
theorem asOr_eq {x y : Expr} (h : asOr ex = some (x, y)) : ∃ y' r pos, ex = .BoolOp .Or (x :: y' :: r) pos ∧ y = restB .Or y' r pos := by
  unfold asOr at h
  split at h
  · cases h; exact ⟨_, _, _, rfl, rfl⟩
  · cases h
theorem bl_only {e : Ex} {σ : L2.St} {H : Hp} {Q : VK} : True := trivial
theorem ok_and {a b : Ex} {x y : Expr} (hq : asAnd ex = some (x, y)) (ha : Ok3 z X a x) (hb : Ok3 z X b y) : Ok3 z X (.and a b) ex := by
  obtain ⟨y', r, pos, rfl, rfl⟩ := asAnd_eq hq
  have hbe : PE X (restB .And y' r pos) (fun σ H Q => tE z b σ H fun x H1 => ∃ c, x = .bl c ∧ Q (.bl c) H1) :=
    PE.imp hb.1 fun σ H Q q => tE_mono σ H _ _ (fun v H ⟨c, e, q⟩ => by rw [e]; exact q) q
  refine ok3_pt (fun i => by simp) (PE.imp (pe_and ha.1 (rest_pe hbe)) fun σ H Q q => tE_and q) ?_
  refine PT.imp (PW.pt (pw_and ha.2.2 ?_)) fun σ H Q q => tT_and q
  cases r with
  | nil => exact pw_and1 hb.2.2
  | cons c d => exact PW.of hb.2.2
theorem ok_or {a b : Ex} {x y : Expr} (hq : asOr ex = some (x, y)) (ha : Ok3 z X a x) (hb : Ok3 z X b y) : Ok3 z X (.or a b) ex := by
  obtain ⟨y', r, pos, rfl, rfl⟩ := asOr_eq hq
  have hbe : PE X (restB .Or y' r pos) (fun σ H Q => tE z b σ H fun x H1 => ∃ c, x = .bl c ∧ Q (.bl c) H1) :=
    PE.imp hb.1 fun σ H Q q => tE_mono σ H _ _ (fun v H ⟨c, e, q⟩ => by rw [e]; exact q) q
  refine ok3_pt (fun i => by simp) (PE.imp (pe_or ha.1 (rest_pe hbe)) fun σ H Q q => tE_or q) ?_
  refine PT.imp (PW.pt (pw_or ha.2.2 ?_)) fun σ H Q q => tT_or q
  cases r with
  | nil => exact pw_or1 hb.2.2
  | cons c d => exact PW.of hb.2.2
theorem ok_not {a : Ex} {x : Expr} (hq : asNot ex = some x) (ha : Ok3 z X a x) : Ok3 z X (.not a) ex := by
  have : ∃ pos, ex = .UnaryOp .Not x pos := by
    unfold asNot at hq
    split at hq
    · cases hq; exact ⟨_, rfl⟩
    · cases hq
  obtain ⟨pos, rfl⟩ := this
  exact ok3_pt (fun i => by simp) (PE.imp (pe_not ha.1) fun σ H Q q => tE_not q) (PT.imp (pt_not ha.2.2) fun σ H Q q => tT_not q)
theorem asIte_eq {t x y : Expr} (h : asIte ex = some (t, x, y)) : ∃ pos, ex = .IfExp t x y pos := by
  unfold asIte at h
  split at h
  · cases h; exact ⟨_, rfl⟩
  · cases h
theorem evB_ite {T : Tb} {F : CallF} {c a b : Ex} {ρ : Rho} : evB T F (.ite c a b) ρ = (evB T F c ρ).bind fun p => if p.1 then evB T F a p.2 else evB T F b p.2 := by
  unfold evB
  rw [ev_ite, bind_assoc']
  congr 1; funext p
  cases p.1 <;> rfl
theorem ok_ite {c a b : Ex} {t x y : Expr} (hq : asIte ex = some (t, x, y)) (hc : Ok3 z X c t) (ha : Ok3 z X a x) (hb : Ok3 z X b y) : Ok3 z X (.ite c a b) ex := by
  obtain ⟨pos, rfl⟩ := asIte_eq hq
  refine ok3_pt (fun i => by simp) (PE.imp (pe_ifExp hc.2.2 ha.1 hb.1) fun σ H Q q => tE_ite q) ⟨fun pins s σ H Q I q => ?_⟩
  have e : isTrue (.IfExp t x y pos) X.env (eval (.IfExp t x y pos) X.env) = (do if ← isTrue t X.env (eval t X.env) then isTrue x X.env (eval x X.env) else isTrue y X.env (eval y X.env)) := by rfl
  rw [e]
  obtain ⟨g, hg, Hf, ρ, s', q⟩ := q
  rw [evB_ite] at q
  have q2 : tT z c σ H (fun k H1 => if k = true then tT z a σ H1 Q else tT z b σ H1 Q) := ⟨g, hg, Hf, ρ, s', (Out.bind q).imp fun k ρ1 H1 Hf1 s1 l1 hk => by
    cases k
    · exact ⟨g, hg, Hf1, ρ1, s1, hk⟩
    · exact ⟨g, hg, Hf1, ρ1, s1, hk⟩⟩
  refine wpAny_bind (thn (hc.2.2.run pins s σ H _ I q2) fun d s1 ⟨H1, I1, q1⟩ => ?_)
  cases d with
  | true => exact ha.2.2.run pins s1 σ H1 Q I1 q1
  | false => exact hb.2.2.run pins s1 σ H1 Q I1 q1
theorem ok_cav {i : Nat} {es : Exs} {x : Str} {xs : List Expr} {p pos : Pos} (f : PF m z X k) (hv : m.isV i x = true) (hs : xs.all notStar = true) (hne : (!xs.isEmpty) = true) (ho : Oks z X es xs) : Ok3 z X (.cav i es) (.Call (.Name x p) xs [] pos) := by
  obtain ⟨n1, n2, n3, n4⟩ := f.xf.vis hv
  refine ok3_of (fun i => by simp) ?_ (fun _ => rfl)
  cases xs with
  | nil => simp at hne
  | cons y ys =>
    have hs' : notStar y = true ∧ ys.all notStar = true := by simpa using hs
    refine ⟨fun pins s σ H Q I q => ?_⟩
    obtain ⟨j, fa, hσ, hf, q⟩ := tE_cav q
    obtain ⟨fd, ps, mm, hk, F, hb, hm⟩ := f.fna j fa hf
    rw [tFs_eq] at q
    refine wpAny_Call_Name_kw (thn ((pe_var (pos := p) n1 n2 n3 n4).run pins s σ H (fun v H1 => v = .ref fa ∧ H1 = H) I ⟨.ref fa, hσ, rfl, rfl⟩) fun u s1 ⟨v, H1, I1, r1, q1⟩ => ?_)
    obtain ⟨rfl, rfl⟩ := q1
    cases r1
    refine PySem.W.callWith_K (h₀ := X.base) I.ok.mod.kin hk (thn ((ho.fs.pa hs).run pos pins s1 σ _ _ I1 q) fun us s2 ⟨vs, H2, I2, r, fx, hj, q⟩ => ⟨I2.kIn, ?_⟩) (star_cons hs'.1) (star_any hs'.2)
    obtain rfl := hm fx hj
    exact run_fn F f.room hb .nil (L2N.passes_call f.tk fun _ _ _ _ h => h) I2 r (by rw [List.append_nil]; exact q)
theorem asLamCall_eq {x : Str} {ps : Arguments} {b : Expr} {sc : Scope} (h : asLamCall ex = some (x, ps, b, sc)) : ∃ p l q, ex = .Call (.Name x p) [.Lambda ps b sc l] [] q := by
  unfold asLamCall at h
  split at h
  · cases h; exact ⟨_, _, _, rfl⟩
  · cases h
theorem noPar_eq {ps : Arguments} (h : noPar ps = true) : ps = ⟨[], [], none, [], [], none, []⟩ := by
  unfold noPar at h
  split at h
  · rfl
  · cases h
theorem ok_flt {fv : List Nat} {x : Str} {ps : Arguments} {b : Expr} {scope : Scope} (f : PF m z X k) (hq : asLamCall ex = some (x, ps, b, scope)) (hl : m.lam = true) (hx : m.flt = some x) (hg : m.isG x = true) (hd : (x == ("__debug__" : Str)) = false) (hp : noPar ps = true) (hs : LamX.lamSB m.sc scope = true)
    (hbody : ∀ (A : Around) (outer : List Env) (s : Shared) (H : Hp) (E : XK) (fa c' : Addr), Room k (A.deeper (LamX.lamEnv X scope s.heap.objs.size fa c')) → PE (lamN X A outer s H E scope fa c') b (tE { z with EW := E } e)) : Ok3 z X (.flt fv e) ex := by
  obtain ⟨p, l, q, rfl⟩ := asLamCall_eq hq
  obtain rfl := noPar_eq hp
  obtain ⟨⟨g, fd, st, Tell, hm, hk, hF, hb, ⟨hcal, hsc⟩, hgives, hw, hmany⟩⟩ := f.flt x hx
  obtain ⟨oc, od, dV, kV, doc, pm, an, cdv, ct, osl, rfl, lk, hcd⟩ := hF.ex
  obtain ⟨c, P, TB, hcode, hmT, hu⟩ := f.lam hl
  have hK := f.xf.K
  have hgv := hgives X (X.env.qual ++ "<lambda>") hK rfl
  have L : LamX.LamS X.env.scope scope := by rw [f.xf.sc]; exact LamX.lamS_by hs
  rw [← hK] at lk hcd hb hk
  have pe := pe_lamcallN (params := ⟨[], [], none, [], [], none, []⟩) (body := b) (scope := scope) (p := p) (lpos := l) (pos := q) (t := fun E => tE { z with EW := E } e) (f.xf.gl hg) hm hk lk hcd hb (C8.fnScope_by hsc) rfl (.inl (of_decide_eq_true hcal)) hgv TB hcode hmT hu (f.room2 hl) L rfl (fun _ _ _ _ _ => rfl) hbody hd (by decide) (by decide)
  exact ok3_of (fun i => by simp) (PE.imp pe fun σ H Q q => tE_flt hw hmany q) (fun _ => rfl)
end
end Ev


set_option maxHeartbeats 4000000
namespace Ev
open PySem L2 PyProof.Rows
def plainX : Expr → Bool
  | .BinOp .. => true | .Call .. => true | .Subscript .. => true | .UnaryOp .USub _ _ => true | .Tuple .. => true | .List .. => true | .ListComp .. => true | _ => false
theorem plainX_ok {ex : Expr} (h : plainX ex = true) (env : Env) : ∀ whole, isTrue ex env whole = (do let v ← whole; standAt ex.pos; holding [v] (truthy v)) := by
  unfold plainX at h
  split at h <;> first | (intro _; rfl) | cases h
theorem bin_plain {op : Operator} {ex : Expr} {xs : List Expr} (h : binForm op ex = some xs) : plainX ex = true := by
  unfold binForm at h; split at h
  · rfl
  · cases h
theorem un_plain {ex : Expr} {xs : List Expr} (h : unForm ex = some xs) : plainX ex = true := by
  unfold unForm at h; split at h
  · rfl
  · cases h
theorem ix_plain {ex : Expr} {xs : List Expr} (h : ixForm ex = some xs) : plainX ex = true := by
  unfold ixForm at h; split at h
  · rfl
  · cases h
theorem call_plain {m : MC} {f : Str} {ex : Expr} {xs : List Expr} (h : callForm m f ex = some xs) : plainX ex = true := by
  unfold callForm at h; split at h
  · rfl
  · cases h
theorem isi_plain {m : MC} {t : Ty} {ex : Expr} {xs : List Expr} (h : isiForm m t ex = some xs) : plainX ex = true := by
  unfold isiForm at h; split at h
  · rfl
  · cases h
theorem lset_plain {m : MC} {ex : Expr} {xs : List Expr} (h : lsetForm m ex = some xs) : plainX ex = true := by
  unfold lsetForm at h; split at h
  · rfl
  · cases h
theorem rg_plain {m : MC} {f : Str} {ex : Expr} {xs : List Expr} (h : rgForm m f ex = some xs) : plainX ex = true := by
  unfold rgForm at h; split at h
  · rfl
  · cases h
section
variable {m : MC} {z : Z} {X : Cx} {k : Nat} {e : Ex} {ex : Expr} {xs : List Expr}
theorem cmp_pt {C : Cst} {ts : List TE} {o : Op} {op : CmpOp} (h : OpV X C (compareOp op) o) (hf : cmpForm op ex = some xs) (hp : PEs X xs ts) : PT X ex (tTest (tOpL C o ts)) := by
  unfold cmpForm at hf
  split at hf
  · split at hf
    · rename_i ht
      cases hf
      simp only [Bool.and_eq_true] at ht
      obtain rfl := cmpTag_eq ht.1
      cases hp with
      | cons h1 r => cases r with
        | cons h2 r => cases r; exact pt_cmpR h.opr h1 h2 (notSet_mark ht.2)
    · cases hf
  · cases hf
theorem ok_op3 {o : Op} {es : Exs} (f : PF m z X k) (hf : opForm m o ex = some xs) (h : Oks z X es xs) : Ok3 z X (.op o es) ex := by
  have hpe := ok_op f hf h
  have hu := f.xf.un
  have hK := f.xf.K
  have hw := f.xf.w
  have viaC : PT X ex (tTest (tOpL z.C o (tOsL z es))) → Ok3 z X (.op o es) ex := fun q => ok3_pt (fun i => by simp) hpe (PT.imp q fun σ H Q q => by
    have := tE_op (tT_tE q)
    rw [tOs_eq] at this
    exact this)
  have viaP : plainX ex = true → Ok3 z X (.op o es) ex := fun q => ok3_of (fun i => by simp) hpe (plainX_ok q _)
  cases o <;> simp only [opForm] at hf <;> try (cases hf; done)
  case add => exact viaP (bin_plain hf)
  case sub => exact viaP (bin_plain hf)
  case mul => exact viaP (bin_plain hf)
  case fdiv => exact viaP (bin_plain hf)
  case mod => exact viaP (bin_plain hf)
  case pow => exact viaP (bin_plain hf)
  case neg => exact viaP (un_plain hf)
  case eq => exact viaC (cmp_pt (v_eq hK hu) hf h.os)
  case ne => exact viaC (cmp_pt (v_ne hK hu) hf h.os)
  case lt => exact viaC (cmp_pt (v_lt hK hu) hf h.os)
  case le => exact viaC (cmp_pt (v_le hK hu) hf h.os)
  case gt => exact viaC (cmp_pt (v_gt hK hu) hf h.os)
  case ge => exact viaC (cmp_pt (v_ge hK hu) hf h.os)
  case is => exact viaC (cmp_pt v_is hf h.os)
  case isnot => exact viaC (cmp_pt v_isnot hf h.os)
  case in_ => exact viaC (cmp_pt (v_in hK hw hu) hf h.os)
  case notin => exact viaC (cmp_pt (v_notin hK hw hu) hf h.os)
  case sum => exact viaP (call_plain hf)
  case str => exact viaP (call_plain hf)
  case ix => exact viaP (ix_plain hf)
  case len => exact viaP (call_plain hf)
  case abs => exact viaP (call_plain hf)
  case max2 => exact viaP (call_plain hf)
  case min2 => exact viaP (call_plain hf)
  case all => exact viaP (call_plain hf)
  case any => exact viaP (call_plain hf)
  case int => exact viaP (call_plain hf)
  case lst => exact viaP (call_plain hf)
  case tup => exact viaP (call_plain hf)
  case isi t => exact viaP (isi_plain hf)
  case lset => exact viaP (lset_plain hf)
  case srt => exact viaP (call_plain hf)
  case max1 => exact viaP (call_plain hf)
  case min1 => exact viaP (call_plain hf)
  case lrg => exact viaP (rg_plain hf)
  case trg => exact viaP (rg_plain hf)
theorem ok_tup {es : Exs} (hq : asTup ex = some xs) (hs : xs.all notStar = true) (h : Oks z X es xs) : Ok3 z X (.tup es) ex := by
  have : ∃ j pos, ex = .Tuple xs j pos := by
    unfold asTup at hq
    split at hq
    · cases hq; exact ⟨_, _, rfl⟩
    · cases hq
  obtain ⟨j, pos, rfl⟩ := this
  exact ok3_of (fun i => by simp) (PE.imp (pe_tup (h.fs.pa hs)) fun σ H Q q => by
    have := tE_tup q
    rw [tFs_eq] at this; exact this) (fun _ => rfl)
theorem ok_lst {es : Exs} (hq : asLst ex = some xs) (hs : xs.all notStar = true) (h : Oks z X es xs) : Ok3 z X (.lst es) ex := by
  have : ∃ pos, ex = .List xs pos := by
    unfold asLst at hq
    split at hq
    · cases hq; exact ⟨_, rfl⟩
    · cases hq
  obtain ⟨pos, rfl⟩ := this
  exact ok3_of (fun i => by simp) (PE.imp (pe_lst (h.fs.pa hs)) fun σ H Q q => by
    have := tE_lst q
    rw [tFs_eq] at this; exact this) (fun _ => rfl)
theorem asChn_eq {x y w : Expr} {o1 o2 : CmpOp} (h : asChn ex = some (x, o1, o2, y, w)) : ∃ pos, ex = .Compare x [o1, o2] [y, w] pos := by
  unfold asChn at h
  split at h
  · cases h; exact ⟨_, rfl⟩
  · cases h
theorem chT_nomark {o : Op} {c : CmpOp} {b : Expr} (h : notSet b = true) : behindInMarks c b = false := notSet_mark h
theorem ok_chn {o p : Op} {a b c : Ex} {x y w : Expr} {o1 o2 : CmpOp} (f : PF m z X k) (hq : asChn ex = some (x, o1, o2, y, w)) (h1 : chT o o1 = true) (h2 : chT p o2 = true) (hy : notSet y = true) (hw : notSet w = true) (ha : Ok3 z X a x) (hb : Ok3 z X b y) (hc : Ok3 z X c w) : Ok3 z X (.chn o p a b c) ex := by
  obtain ⟨pos, rfl⟩ := asChn_eq hq
  have r1 := (chT_eq f.xf.K f.xf.un h1).opr
  have r2 := (chT_eq f.xf.K f.xf.un h2).opr
  have hm : lastMarks [o1, o2] [y, w] = false := notSet_mark hw
  exact ok3_pt (fun i => by simp) (PE.imp (pe_chain r1 r2 ha.2.1 hb.2.1 hc.2.1 hm) fun σ H Q q => tE_chn q) (PT.imp (pt_chain r1 r2 ha.2.1 hb.2.1 hc.2.1 hm) fun σ H Q q => tE_chn (tT_tE q))
theorem asSlc_eq {x : Expr} {l u : Option Expr} (h : asSlc ex = some (x, l, u)) : ∃ p pos, ex = .Subscript x (.Slice l u none p) pos := by
  unfold asSlc at h
  split at h
  · cases h; exact ⟨_, _, rfl⟩
  · cases h
theorem ok_slc {a : Ex} {lo hi : Exs} {x : Expr} {l u : Option Expr} (f : PF m z X k) (hq : asSlc ex = some (x, l, u)) (ha : Ok3 z X a x) (hl : L2.PO X l (tP z lo)) (hu : L2.PO X u (tP z hi)) : Ok3 z X (.slc a lo hi) ex := by
  obtain ⟨p, pos, rfl⟩ := asSlc_eq hq
  exact ok3_of (fun i => by simp) (PE.imp (pe_slice (r_cut f.xf.K) ha.2.1 hl hu) fun σ H Q q => tE_slc q) (fun _ => rfl)
theorem Tgs_len_eq : ∀ {ts : Tgs} {es : List Expr}, mTs m ts es = true → es.length = ts.len ∧ es.all notStar = true
  | .n, [], _ => ⟨rfl, rfl⟩
  | .n, _ :: _, h => by simp only [mTs] at h; cases h
  | .c _ _, [], h => by simp only [mTs] at h; cases h
  | .c t ts, e :: es, h => by
    simp only [mTs, Bool.and_eq_true] at h
    obtain ⟨h1, h2⟩ := Tgs_len_eq (ts := ts) h.2
    exact ⟨by simp [Tgs.len, h1], by simp [h.1.1, h2]⟩
theorem assign_len {env : Env} : ∀ {es : List Expr}, es.all notStar = true → (assignEach es env).length = es.length ∧ (assignEach es env).findIdx? (·.1) = none
  | [], _ => ⟨rfl, rfl⟩
  | e :: es, h => by
    have h' : notStar e = true ∧ es.all notStar = true := by simpa using h
    obtain ⟨h1, h2⟩ := assign_len (env := env) h'.2
    have : assignEach (e :: es) env = (false, assign e env) :: assignEach es env := by
      cases e <;> first | rfl | cases h'.1
    rw [this]
    refine ⟨by simp [h1], ?_⟩
    rw [List.findIdx?_cons]
    simp [h2]
mutual
theorem pg_main (f : XF m X z.C) : ∀ {t : Tg} {ex : Expr}, mT m t ex = true → PG X ex (gT z.C.K t)
  | .nm i, ex, h => by
    cases ex <;> simp only [mT] at h <;> try (cases h; done)
    obtain ⟨h1, h2, h3⟩ := f.loc h
    exact pg_name f.nd h1 h2 h3
  | .tp ts, ex, h => by
    cases ex <;> simp only [mT] at h <;> try (cases h; done)
    obtain ⟨h1, h2⟩ := Tgs_len_eq h
    obtain ⟨h3, h4⟩ := assign_len (env := X.env) h2
    show PG X _ (gTup z.C.K ts.len (gTs z.C.K ts))
    have q := pgs_main f h
    rw [← f.K] at q ⊢
    exact pg_tup f.calm q (by rw [h3, h1]) h4
theorem pgs_main (f : XF m X z.C) : ∀ {ts : Tgs} {es : List Expr}, mTs m ts es = true → PGs X es (gTs z.C.K ts)
  | .n, [], _ => pgs_nil
  | .n, _ :: _, h => by simp only [mTs] at h; cases h
  | .c _ _, [], h => by simp only [mTs] at h; cases h
  | .c t ts, e :: es, h => by
    simp only [mTs, Bool.and_eq_true] at h
    refine pgs_cons (pg_main f h.1.2) (pgs_main f h.2) ?_
    have := h.1.1
    cases e <;> first | rfl | cases this
end
theorem asCall_eq {x : Str} (h : asCall ex = some (x, xs)) : ∃ p pos, ex = .Call (.Name x p) xs [] pos := by
  unfold asCall at h
  split at h
  · cases h; exact ⟨_, _, rfl⟩
  · cases h
theorem tI_sq3 {σ : L2.St} {H : Hp} {R : L2.It → Hp → Prop} (h : tI z (.sq e) σ H R) : (iList z.C.K (tE z e) σ H R ∨ iTup z.C.K (tE z e) σ H R) ∨ iStr (tE z e) σ H R := by
  obtain ⟨g, hg, Hf, ρ, s, h⟩ := h
  simp only [evIt] at h
  cases hq : ev z.tb z.F e ρ with
  | exc c d => exact .inl (.inl ⟨g, hg, Hf, ρ, s, by rw [hq] at h ⊢; exact h⟩)
  | bad n => rw [hq] at h; exact h.elim
  | ok p =>
    obtain ⟨r, ρ1⟩ := p
    rw [hq] at h
    have h' : Out z g σ Hf (match walkD r.d with | some xs => Res.ok (xs, ρ1) | none => .bad 38) fun ds _ H1 Hf1 => ∀ J, Walk z.C J Hf1 ds → R J H1 := h
    cases hd : r.d with
    | lst ds =>
      refine .inl (.inl ⟨g, hg, Hf, ρ, s, ?_⟩)
      rw [hq]
      intro H1 Hf1 s1 l1 v hv
      obtain ⟨Hf2, s2, l2, hr⟩ := s1.freeze hv
      rw [hd] at hr h'
      cases hr with
      | lst sq rr => exact ⟨_, rfl, ⟨_, .inl (Rd.le s2.sub sq)⟩, h' H1 Hf2 s2 (l1.trans l2) _ (walk_list sq rr)⟩
    | tup ds =>
      refine .inl (.inr ⟨g, hg, Hf, ρ, s, ?_⟩)
      rw [hq]
      intro H1 Hf1 s1 l1 v hv
      obtain ⟨Hf2, s2, l2, hr⟩ := s1.freeze hv
      rw [hd] at hr h'
      cases hr with
      | tup sq rr => exact ⟨_, rfl, ⟨_, SqT.le s2.sub sq⟩, h' H1 Hf2 s2 (l1.trans l2) _ (walk_tup sq rr)⟩
    | str l =>
      refine .inr ⟨g, hg, Hf, ρ, s, ?_⟩
      rw [hq]
      intro H1 Hf1 s1 l1 v hv
      obtain ⟨Hf2, s2, l2, hr⟩ := s1.freeze hv
      rw [hd] at hr h'
      cases hr with
      | str hz => exact ⟨_, rfl, h' H1 Hf2 s2 (l1.trans l2) _ walk_str⟩
    | _ => rw [hd] at h'; exact h'.elim
theorem pi_sq {t : Expr} (f : PF m z X k) (he : PE X ex (tE z e)) : PI X t ex (tI z (.sq e)) := by
  have p1 := pi_list (tg := t) he
  have p2 := pi_tup (tg := t) he
  rw [f.xf.K] at p1 p2
  exact PI.imp (PI.or (PI.or p1 p2) (pi_str he)) fun σ H R q => tI_sq3 q
theorem rng_split {es : Exs} (n : Nat) : True := trivial
theorem Exs_len {es : Exs} (h : Oks z X es xs) : True := trivial
theorem pi_rg {es : Exs} {t : Expr} {x : Str} (f : PF m z X k) (hq : asCall ex = some (x, xs)) (hx : x = "range") (hg : m.isG x = true) (hs : xs.all notStar = true) (hl : (xs.length == 1 || xs.length == 2) = true) (h : Oks z X es xs) : PI X t ex (tI z (.rg es)) := by
  obtain ⟨p, pos, rfl⟩ := asCall_eq hq
  subst hx
  have hm : X.mg "range" = none := f.xf.blt _ (by decide)
  cases h with
  | nil => simp at hl
  | cons h1 r =>
    rename_i e1 es1 x1 xs1
    cases r with
    | nil =>
      have hs' : notStar x1 = true := by simpa using hs
      refine PI.imp (pi_range1 (f.xf.gl hg) hm (pa_cons h1.1 pa_nil (star_cons hs')) (star_cons hs')) fun σ H R q => ?_
      have q' := tI_rg q
      refine tE_mono σ H _ _ (fun v H1 q => ?_) q'
      rcases q with q | ⟨i, j, e, _⟩
      · exact q
      · cases e
    | cons h2 r =>
      rename_i e2 es2 x2 xs2
      cases r with
      | nil =>
        have hs' : notStar x1 = true ∧ notStar x2 = true := by simpa using hs
        refine PI.imp (pi_range2 (f.xf.gl hg) hm (pa_cons h1.1 (pa_cons h2.1 pa_nil (star_cons hs'.2)) (star_cons hs'.1)) (by rw [star_cons hs'.1, star_cons hs'.2]; rfl) (star_cons hs'.2)) fun σ H R q => ?_
        have q' := tI_rg q
        refine tE_mono σ H _ _ (fun v H1 q => tE_mono σ H1 _ _ (fun v2 H2 q => ?_) q) q'
        rcases q with ⟨j, e, _⟩ | q
        · cases e
        · exact q
      | cons h3 r => simp at hl
theorem isTupX_eq {t : Expr} (h : isTupX t = true) : ∃ es j pos, t = .Tuple es j pos := by
  cases t <;> first | exact ⟨_, _, _, rfl⟩ | cases h
theorem pi_en {t a : Expr} {x : Str} (f : PF m z X k) (hq : asCall ex = some (x, xs)) (hx : x = "enumerate") (hg : m.isG x = true) (hs : xs.all notStar = true) (ht : isTupX t = true) (ho : one? xs = some a) (h : Ok3 z X e a) : PI X t ex (tI z (.en e)) := by
  obtain ⟨p, pos, rfl⟩ := asCall_eq hq
  subst hx
  obtain ⟨es, j, tp, rfl⟩ := isTupX_eq ht
  unfold one? at ho
  split at ho
  · cases ho
    have hs' : notStar a = true := by simpa using hs
    have hm : X.mg "enumerate" = none := f.xf.blt _ (by decide)
    have p := pi_enT (elts := es) (kk := j) (tpos := tp) (p := p) (pos := pos) (f.xf.gl hg) hm (pa_cons h.1 pa_nil (star_cons hs')) (star_cons hs')
    rw [f.xf.K] at p
    refine PI.imp p fun σ H R q => ?_
    refine tE_mono σ H _ _ (fun v H1 ⟨a, xs, e, q⟩ => ?_) (tI_en q)
    subst e
    exact ⟨a, xs, rfl, q⟩
  · cases ho
theorem pi_zp {t p1 p2 : Expr} {a b : Ex} {x : Str} (f : PF m z X k) (hq : asCall ex = some (x, xs)) (hx : x = "zip") (hg : m.isG x = true) (hs : xs.all notStar = true) (ht : isTupX t = true) (ho : two? xs = some (p1, p2)) (ha : Ok3 z X a p1) (hb : Ok3 z X b p2) : PI X t ex (tI z (.zp a b)) := by
  obtain ⟨p, pos, rfl⟩ := asCall_eq hq
  subst hx
  obtain ⟨es, j, tp, rfl⟩ := isTupX_eq ht
  unfold two? at ho
  split at ho
  · cases ho
    have hs' : notStar p1 = true ∧ notStar p2 = true := by simpa using hs
    have hm : X.mg "zip" = none := f.xf.blt _ (by decide)
    have p := pi_zipM (elts := es) (kk := j) (tpos := tp) (p := p) (pos := pos) (f.xf.gl hg) hm (pa_cons ha.1 (pa_cons hb.1 pa_nil (star_cons hs'.2)) (star_cons hs'.1)) (star_cons hs'.1) (star_any (by simp [hs'.2]))
    rw [f.xf.K] at p
    exact PI.imp p fun σ H R q => tI_zp q
  · cases ho
end
end Ev


set_option maxHeartbeats 4000000
namespace Ev
open PySem L2 PyProof.Rows
theorem asLC_eq {ex elt t i : Expr} {ifs : List Expr} {scope : Scope} (h : asLC ex = some (elt, t, i, ifs, scope)) : ∃ pos, ex = .ListComp elt [⟨t, i, ifs, 0⟩] scope pos := by
  unfold asLC at h
  split at h
  · cases h; exact ⟨_, rfl⟩
  · cases h
theorem isN_eq {gs : Gens} (h : isN gs = true) : gs = .n := by
  cases gs with
  | n => rfl
  | c a b c d => simp only [isN] at h; cases h
theorem ownOf_snd {N : List Str} {vs : List Nat} : (ownOf N vs).map (·.2) = vs := by
  unfold ownOf
  rw [List.map_map]
  exact List.map_id'' (fun _ => rfl) vs
theorem notSet_fold {i : Expr} {env : Env} (h : notSet i = true) : ∀ x, foldedSetIterable i env x = pure x := by
  intro x
  cases i <;> first | rfl | cases h
structure LcParts (m : MC) (z : Z) (X : Cx) (k : Nat) (gs : Gens) (scope : Scope) (t i : Expr) (ifs : List Expr) : Prop where
  ex : ∃ tg it f, gs = .c tg it f .n ∧ PI X t i (tI z it) ∧
    (∀ (s : Shared) (H : Hp) (C : Addr) (cl : List (Str × Addr)) (fp : List Addr), PG (X.blk s H scope (compEnvC scope cl C X.env) fp) t (gT z.C.K tg)) ∧
    (∀ (s : Shared) (H : Hp) (C : Addr) (cl : List (Str × Addr)) (fp : List Addr), PTs (X.blk s H scope (compEnvC scope cl C X.env) fp) ifs (tCl z.blk f))
theorem blk_ok {m : MC} {X : Cx} {C : Cst} {scope : Scope} {own : List (Str × Nat)} (f : XF m X C) (h : blkC m.N m.sc scope own = true) : BlkOk X.N X.env.scope scope own := by
  rw [f.N, f.sc]; exact blkOk_by h
theorem ok_lc {m : MC} {z : Z} {X : Cx} {k : Nat} {e : Ex} {gs : Gens} {ex elt t i : Expr} {ifs : List Expr} {scope : Scope} (f : PF m z X k) (hq : asLC ex = some (elt, t, i, ifs, scope)) (hb : blkC m.N m.sc scope (ownOf m.N gs.vars) = true) (hi : notSet i = true) (p : LcParts m z X k gs scope t i ifs)
    (he : ∀ (s : Shared) (H : Hp) (C : Addr) (cl : List (Str × Addr)) (fp : List Addr), PE (X.blk s H scope (compEnvC scope cl C X.env) fp) elt (tE z.blk e)) : Ok3 z X (.lc e gs) ex := by
  obtain ⟨pos, rfl⟩ := asLC_eq hq
  obtain ⟨tg, it, fs, rfl, p1, p2, p3⟩ := p.ex
  have q := pe_lc (pos := pos) f.xf.calm f.xf.nd p1 (blk_ok f.xf hb) p2 p3 he (notSet_fold hi)
  rw [ownOf_snd] at q
  exact ok3_of (fun i => by simp) (PE.imp q fun σ H Q q => tE_lc1 q) (fun _ => rfl)
theorem asLC2_eq {ex elt t i t1 i1 : Expr} {ifs ifs1 : List Expr} {scope : Scope} (h : asLC2 ex = some (elt, t, i, ifs, t1, i1, ifs1, scope)) : ∃ pos, ex = .ListComp elt [⟨t, i, ifs, 0⟩, ⟨t1, i1, ifs1, 0⟩] scope pos := by
  unfold asLC2 at h
  split at h
  · cases h; exact ⟨_, rfl⟩
  · cases h
structure Lc2Parts (m : MC) (z : Z) (X : Cx) (k : Nat) (gs : Gens) (scope : Scope) (t i : Expr) (ifs : List Expr) (t1 i1 : Expr) (ifs1 : List Expr) : Prop where
  ex : ∃ tg it f tg1 it1 f1, gs = .c tg it f (.c tg1 it1 f1 .n) ∧ PI X t i (tI z it) ∧
    (∀ (s : Shared) (H : Hp) (C : Addr) (cl : List (Str × Addr)) (fp : List Addr), PG (X.blk s H scope (compEnvC scope cl C X.env) fp) t (gT z.C.K tg)) ∧
    (∀ (s : Shared) (H : Hp) (C : Addr) (cl : List (Str × Addr)) (fp : List Addr), PTs (X.blk s H scope (compEnvC scope cl C X.env) fp) ifs (tCl z.blk f)) ∧
    (∀ (s : Shared) (H : Hp) (C : Addr) (cl : List (Str × Addr)) (fp : List Addr), PI (X.blk s H scope (compEnvC scope cl C X.env) fp) t1 i1 (tI z.blk it1)) ∧
    (∀ (s : Shared) (H : Hp) (C : Addr) (cl : List (Str × Addr)) (fp : List Addr), PG (X.blk s H scope (compEnvC scope cl C X.env) fp) t1 (gT z.C.K tg1)) ∧
    (∀ (s : Shared) (H : Hp) (C : Addr) (cl : List (Str × Addr)) (fp : List Addr), PTs (X.blk s H scope (compEnvC scope cl C X.env) fp) ifs1 (tCl z.blk f1))
theorem vars_sub {tg tg1 : Tg} {it it1 : It} {f f1 : Exs} : ∀ i ∈ (Gens.c tg1 it1 f1 .n).vars, i ∈ (Gens.c tg it f (.c tg1 it1 f1 .n)).vars := fun i hi => List.mem_append_right _ hi
theorem ok_lc2 {m : MC} {z : Z} {X : Cx} {k : Nat} {e : Ex} {gs : Gens} {ex elt t i t1 i1 : Expr} {ifs ifs1 : List Expr} {scope : Scope} (f : PF m z X k) (hq : asLC2 ex = some (elt, t, i, ifs, t1, i1, ifs1, scope)) (hb : blkC m.N m.sc scope (ownOf m.N gs.vars) = true) (hi : notSet i = true) (hi1 : notSet i1 = true) (p : Lc2Parts m z X k gs scope t i ifs t1 i1 ifs1)
    (he : ∀ (s : Shared) (H : Hp) (C : Addr) (cl : List (Str × Addr)) (fp : List Addr), PE (X.blk s H scope (compEnvC scope cl C X.env) fp) elt (tE z.blk e)) : Ok3 z X (.lc e gs) ex := by
  obtain ⟨pos, rfl⟩ := asLC2_eq hq
  obtain ⟨tg, it, fs, tg1, it1, fs1, rfl, p1, p2, p3, p4, p5, p6⟩ := p.ex
  have q := pe_lc2 (pos := pos) (vs1 := (Gens.c tg1 it1 fs1 .n).vars) f.xf.calm f.xf.nd p1 (blk_ok f.xf hb) (by rw [ownOf_snd]; exact vars_sub) p2 p3 p4 p5 p6 he (notSet_fold hi) (fun env x => notSet_fold hi1 x)
  rw [ownOf_snd] at q
  exact ok3_of (fun i => by simp) (PE.imp q fun σ H Q q => tE_lc2 q) (fun _ => rfl)
theorem asDC_eq {ex kx vx t i : Expr} {ifs : List Expr} {scope : Scope} (h : asDC ex = some (kx, vx, t, i, ifs, scope)) : ∃ pos, ex = .DictComp kx vx [⟨t, i, ifs, 0⟩] scope pos := by
  unfold asDC at h
  split at h
  · cases h; exact ⟨_, rfl⟩
  · cases h
theorem ok_dc {m : MC} {z : Z} {X : Cx} {k : Nat} {ke ve : Ex} {gs : Gens} {ex kx vx t i : Expr} {ifs : List Expr} {scope : Scope} (f : PF m z X k) (hq : asDC ex = some (kx, vx, t, i, ifs, scope)) (hb : blkC m.N m.sc scope (ownOf m.N gs.vars) = true) (hi : notSet i = true) (p : LcParts m z X k gs scope t i ifs)
    (hk : ∀ (s : Shared) (H : Hp) (C : Addr) (cl : List (Str × Addr)) (fp : List Addr), PE (X.blk s H scope (compEnvC scope cl C X.env) fp) kx (tE z.blk ke))
    (he : ∀ (s : Shared) (H : Hp) (C : Addr) (cl : List (Str × Addr)) (fp : List Addr), PE (X.blk s H scope (compEnvC scope cl C X.env) fp) vx (tE z.blk ve)) : Ok3 z X (.dc ke ve gs) ex := by
  obtain ⟨pos, rfl⟩ := asDC_eq hq
  obtain ⟨tg, it, fs, rfl, p1, p2, p3⟩ := p.ex
  have q := pe_raw (pe_dc (pos := pos) f.xf.calm f.xf.nd p1 (blk_ok f.xf hb) p2 p3 hk he (notSet_fold hi))
  rw [ownOf_snd] at q
  exact ok3_of (fun i => by simp) (PE.imp q fun σ H Q q => by
    have := tE_dc1 q
    rw [← f.xf.w] at this; exact this) (fun _ => rfl)
theorem bind1 {xp : Str} {pa : Pos} {b : Expr} {scope : Scope} (q : Str) (cl : List (Str × Addr)) (pm cv ctv u : Value) : bindArgs (PySem.W.kla_fn "<lambda>" q ⟨[], [⟨xp, none, pa⟩], none, [], [], none, []⟩ b scope cl pm cv ctv) ⟨[u], []⟩ = pure [(xp, u)] := by
  have e1 : seqItems? (PySem.W.kla_fn "<lambda>" q ⟨[], [⟨xp, none, pa⟩], none, [], [], none, []⟩ b scope cl pm cv ctv).defaults = pure none := rfl
  unfold bindArgs
  rw [e1]
  simp [PySem.W.kla_fn, List.lookup]
theorem asKeyed_eq {ex e b : Expr} {x xp : Str} {scope : Scope} (h : asKeyed ex = some (x, e, xp, b, scope)) : ∃ p pa l kp pos, ex = .Call (.Name x p) [e] [⟨some "key", .Lambda ⟨[], [⟨xp, none, pa⟩], none, [], [], none, []⟩ b scope l, kp⟩] pos := by
  unfold asKeyed at h
  split at h
  · split at h
    · rename_i q
      obtain rfl := of_decide_eq_true q
      cases h; exact ⟨_, _, _, _, _, rfl⟩
    · cases h
  · cases h
theorem ok_key {m : MC} {z : Z} {X : Cx} {k v : Nat} {o : KOp} {a ke : Ex} {fv : List Nat} {ex e b : Expr} {x xp : Str} {scope : Scope} (f : PF m z X k) (hq : asKeyed ex = some (x, e, xp, b, scope)) (ho : isSrt o = true) (hl : m.lam = true) (hx : x = "sorted") (hg : m.isG x = true) (hs : notStar e = true) (hn : m.N[v]? = some xp) (hL : lamS1B m.sc scope xp = true)
    (ha : PE X e (tE z a)) (hbody : ∀ (A : Around) (outer : List Env) (s : Shared) (H : Hp) (E : XK) (fa c' : Addr), Room k (A.deeper (LamX.lamEnv X scope s.heap.objs.size fa c')) → PE (lamN X A outer s H E scope fa c') b (tE { z with EW := E } ke)) : Ok3 z X (.key o a v fv ke) ex := by
  obtain ⟨p, pa, l, kp, pos, rfl⟩ := asKeyed_eq hq
  subst hx
  cases o with
  | min => cases ho
  | srt =>
    obtain ⟨c, P, TB, hcode, hmT, hu⟩ := f.lam hl
    have L : LamS1 X.env.scope scope xp := by rw [f.xf.sc]; exact lamS1_by hL
    have pe := pe_keyed (params := ⟨[], [⟨xp, none, pa⟩], none, [], [], none, []⟩) (body := b) (scope := scope) (C := z.C) (i := v) (p := p) (lpos := l) (kpos := kp) (pos := pos) f.xf.K f.xf.nd (by rw [f.xf.N]; exact hn) (f.xf.gl hg) (f.xf.blt _ (by decide)) ha (star_cons hs) TB hcode hmT hu (f.room2 hl) L rfl (fun q cl pm cv ctv u => bind1 q cl pm cv ctv u) (fun A outer s H fa c' hr => hbody A outer s H C8.E0 fa c' hr)
    exact ok3_of (fun i => by simp) (PE.imp pe fun σ H Q q => tE_key q) (fun _ => rfl)
theorem pi_vl {z : Z} {X : Cx} {e : Ex} {ex t x : Expr} (q : asVls ex = some x) (h : PE X x (tE z e)) : PI X t ex (tI z (.vl e)) := by
  unfold asVls at q
  split at q
  · split at q
    · rename_i hc
      simp only [Bool.and_eq_true, decide_eq_true_eq] at hc
      obtain ⟨rfl, hl⟩ := hc
      cases q
      exact PI.imp (pi_valuesR h rfl hl) fun σ H R q => tI_vl q
    · cases q
  · cases q
theorem asDict_eq {ex : Expr} {xs : List Expr} (h : asDict ex = some xs) : (∃ pos, ex = .Dict [] [] pos ∧ xs = []) ∨ ∃ k v pos, ex = .Dict [some k] [v] pos ∧ xs = [k, v] := by
  unfold asDict at h
  split at h
  · cases h; exact .inl ⟨_, rfl, rfl⟩
  · cases h; exact .inr ⟨_, _, _, rfl, rfl⟩
  · cases h
theorem ok_dic {m : MC} {z : Z} {X : Cx} {k : Nat} {es : Exs} {ex : Expr} {xs : List Expr} (f : PF m z X k) (hq : asDict ex = some xs) (h : Oks z X es xs) : Ok3 z X (.dic es) ex := by
  rcases asDict_eq hq with ⟨pos, rfl, rfl⟩ | ⟨kx, vx, pos, rfl, rfl⟩
  · cases h
    exact ok3_of (fun i => by simp) (PE.imp pe_dict0 fun σ H Q q => tE_dic0 q) (fun _ => rfl)
  · cases h with
    | cons h1 r =>
    cases r with
    | cons h2 r =>
    cases r
    exact ok3_of (fun i => by simp) (PE.imp (pe_dict1 f.xf.un f.xf.K f.xf.w h1.1 h2.1) fun σ H Q q => tE_dic1 q) (fun _ => rfl)
theorem ok_get {m : MC} {z : Z} {X : Cx} {k i : Nat} {ke xe : Ex} {ex a b : Expr} {y : Str} (f : PF m z X k) (hq : asGet ex = some (y, a, b)) (hv : m.isV i y = true) (ha : Ok3 z X ke a) (hb : Ok3 z X xe b) : Ok3 z X (.get i ke xe) ex := by
  unfold asGet at hq
  split at hq
  · split at hq
    · rename_i hc
      cases hq
      simp only [Bool.and_eq_true, decide_eq_true_eq] at hc
      obtain ⟨⟨⟨rfl, hline⟩, sa⟩, sb⟩ := hc
      obtain ⟨n1, n2, n3, n4⟩ := f.xf.vis hv
      refine ok3_of (fun i => by simp) (PE.imp (pe_getD f.xf.un f.xf.K f.xf.w (pe_var n1 n2 n3 n4) ha.1 hb.1 ⟨rfl, ?_, hline, ?_⟩) fun σ H Q q => tE_get q) (fun _ => rfl)
      · rw [star_cons sa, star_cons sb]; rfl
      · rw [star_cons sa, star_cons sb]; rfl
    · cases hq
  · cases hq
mutual
theorem pe_main : ∀ (e : Ex) {m : MC} {z : Z} {X : Cx} {k : Nat} {ex : Expr}, PF m z X k → mE e m ex = true → Ok3 z X e ex
  | .nop, _, _, _, _, _, _, _ => ok_nop
  | .var i, _, _, _, _, _, f, h => ok_var f h
  | .con d, _, _, _, _, _, f, h => ok_con f h
  | .glo c, _, _, _, _, _, f, h => ok_glo f h
  | .tup es, _, _, _, _, ex, f, h => by
    simp only [mE] at h
    split at h
    · rename_i xs q
      simp only [Bool.and_eq_true] at h
      exact ok_tup q h.1 (pes_main es f h.2)
    · cases h
  | .lst es, _, _, _, _, ex, f, h => by
    simp only [mE] at h
    split at h
    · rename_i xs q
      simp only [Bool.and_eq_true] at h
      exact ok_lst q h.1 (pes_main es f h.2)
    · cases h
  | .dic es, _, _, _, _, ex, f, h => by
    simp only [mE] at h
    split at h
    · rename_i xs q
      exact ok_dic f q (pes_main es f h)
    · cases h
  | .op o es, _, _, _, _, ex, f, h => by
    simp only [mE] at h
    split at h
    · rename_i xs q
      exact ok_op3 f q (pes_main es f h)
    · cases h
  | .slc a lo hi, _, _, _, _, ex, f, h => by
    simp only [mE] at h
    split at h
    · rename_i x l u q
      simp only [Bool.and_eq_true] at h
      exact ok_slc f q (pe_main a f h.1.1) (pp_main lo f h.1.2) (pp_main hi f h.2)
    · cases h
  | .chn o p a b c, _, _, _, _, ex, f, h => by
    simp only [mE] at h
    split at h
    · rename_i x o1 o2 y w q
      simp only [Bool.and_eq_true] at h
      exact ok_chn f q h.1.1.1.1.1.1 h.1.1.1.1.1.2 h.1.1.1.1.2 h.1.1.1.2 (pe_main a f h.1.1.2) (pe_main b f h.1.2) (pe_main c f h.2)
    · cases h
  | .not a, _, _, _, _, ex, f, h => by
    simp only [mE] at h
    split at h
    · rename_i x q
      exact ok_not q (pe_main a f h)
    · cases h
  | .and a b, _, _, _, _, ex, f, h => by
    simp only [mE] at h
    split at h
    · rename_i x y q
      simp only [Bool.and_eq_true] at h
      exact ok_and q (pe_main a f h.1) (pe_main b f h.2)
    · cases h
  | .or a b, _, _, _, _, ex, f, h => by
    simp only [mE] at h
    split at h
    · rename_i x y q
      simp only [Bool.and_eq_true] at h
      exact ok_or q (pe_main a f h.1) (pe_main b f h.2)
    · cases h
  | .ite c a b, _, _, _, _, ex, f, h => by
    simp only [mE] at h
    split at h
    · rename_i t x y q
      simp only [Bool.and_eq_true] at h
      exact ok_ite q (pe_main c f h.1.1) (pe_main a f h.1.2) (pe_main b f h.2)
    · cases h
  | .call j es, _, _, _, _, ex, f, h => by
    simp only [mE] at h
    split at h
    · rename_i x xs q
      simp only [Bool.and_eq_true, Bool.not_eq_true', decide_eq_true_eq] at h
      obtain ⟨p, pos, rfl⟩ := asCall_eq q
      exact ok_call f h.1.1.1.1 h.1.1.1.2 h.1.1.2 h.1.2 (pes_main es f h.2)
    · cases h
  | .cav i es, _, _, _, _, ex, f, h => by
    simp only [mE] at h
    split at h
    · rename_i x xs q
      simp only [Bool.and_eq_true] at h
      obtain ⟨p, pos, rfl⟩ := asCall_eq q
      exact ok_cav f h.1.1.1 h.1.1.2 h.1.2 (pes_main es f h.2)
    · cases h
  | .pop _ _, _, _, _, _, _, _, h => by simp only [mE] at h; cases h
  | .get i k x, _, _, _, _, ex, f, h => by
    simp only [mE] at h
    split at h
    · rename_i y a b q
      simp only [Bool.and_eq_true] at h
      exact ok_get f q h.1.1 (pe_main k f h.1.2) (pe_main x f h.2)
    · cases h
  | .key o a v fv ke, _, _, _, _, ex, f, h => by
    simp only [mE] at h
    split at h
    · rename_i x e xp body scope q
      simp only [Bool.and_eq_true, decide_eq_true_eq] at h
      exact ok_key f q h.1.1.1.1.1.1.1.1 h.1.1.1.1.1.1.1.2 h.1.1.1.1.1.1.2 h.1.1.1.1.1.2 h.1.1.1.1.2 h.1.1.1.2 h.1.1.2 (pe_main a f h.1.2).1 fun A outer s H E fa c' hr => (pe_main ke (f.lamb scope hr) h.2).1
    · cases h
  | .lc e gs, _, _, _, _, ex, f, h => by
    simp only [mE] at h
    split at h
    · rename_i elt t i ifs scope q
      simp only [Bool.and_eq_true] at h
      exact ok_lc f q h.1.1.1 h.1.1.2 (pg_parts gs f h.1.2) fun s H C cl fp => (pe_main e (f.blk scope s H C cl fp) h.2).1
    · split at h
      · rename_i elt t i ifs t1 i1 ifs1 scope q
        simp only [Bool.and_eq_true] at h
        exact ok_lc2 f q h.1.1.1.1 h.1.1.1.2 h.1.1.2 (pg2_parts gs f h.1.2) fun s H C cl fp => (pe_main e (f.blk scope s H C cl fp) h.2).1
      · cases h
  | .dc ke ve gs, _, _, _, _, ex, f, h => by
    simp only [mE] at h
    split at h
    · rename_i kx vx t i ifs scope q
      simp only [Bool.and_eq_true] at h
      exact ok_dc f q h.1.1.1.1 h.1.1.1.2 (pg_parts gs f h.1.1.2) (fun s H C cl fp => (pe_main ke (f.blk scope s H C cl fp) h.1.2).1) fun s H C cl fp => (pe_main ve (f.blk scope s H C cl fp) h.2).1
    · cases h
  | .flt fv e, _, _, _, _, ex, f, h => by
    simp only [mE] at h
    split at h
    · rename_i x ps b scope q
      simp only [Bool.and_eq_true, Bool.not_eq_true', decide_eq_true_eq] at h
      exact ok_flt f q h.1.1.1.1.1.1 h.1.1.1.1.1.2 h.1.1.1.1.2 h.1.1.1.2 h.1.1.2 h.1.2 fun A outer s H E fa c' hr => (pe_main e (f.lamb scope hr) h.2).1
    · cases h
theorem pg_parts : ∀ (gs : Gens) {m : MC} {z : Z} {X : Cx} {k : Nat} {scope : Scope} {t i : Expr} {ifs : List Expr}, PF m z X k → mG gs m scope t i ifs = true → LcParts m z X k gs scope t i ifs
  | .n, _, _, _, _, _, _, _, _, _, h => by simp only [mG] at h; cases h
  | .c tg it fs gs, _, _, _, _, scope, t, i, ifs, f, h => by
    simp only [mG, Bool.and_eq_true] at h
    obtain rfl := isN_eq h.2
    exact ⟨⟨tg, it, fs, rfl, pi_main it f h.1.1.2, fun s H C cl fp => pg_main (f.blk scope s H C cl fp).xf h.1.1.1, fun s H C cl fp => pf_main fs (f.blk scope s H C cl fp) h.1.2⟩⟩
theorem pg2_parts : ∀ (gs : Gens) {m : MC} {z : Z} {X : Cx} {k : Nat} {scope : Scope} {t i : Expr} {ifs : List Expr} {t1 i1 : Expr} {ifs1 : List Expr}, PF m z X k → mG2 gs m scope t i ifs t1 i1 ifs1 = true → Lc2Parts m z X k gs scope t i ifs t1 i1 ifs1
  | .n, _, _, _, _, _, _, _, _, _, _, _, _, h => by simp only [mG2] at h; cases h
  | .c tg it fs .n, _, _, _, _, scope, t, i, ifs, t1, i1, ifs1, f, h => by
    simp only [mG2, mG1, Bool.and_eq_true] at h
    exact absurd h.2 (by simp)
  | .c tg it fs (.c tg1 it1 fs1 gs), _, _, _, _, scope, t, i, ifs, t1, i1, ifs1, f, h => by
    simp only [mG2, mG1, Bool.and_eq_true] at h
    obtain rfl := isN_eq h.2.2
    exact ⟨⟨tg, it, fs, tg1, it1, fs1, rfl, pi_main it f h.1.1.2, fun s H C cl fp => pg_main (f.blk scope s H C cl fp).xf h.1.1.1, fun s H C cl fp => pf_main fs (f.blk scope s H C cl fp) h.1.2,
      fun s H C cl fp => pi_main it1 (f.blk scope s H C cl fp) h.2.1.1.2, fun s H C cl fp => pg_main (f.blk scope s H C cl fp).xf h.2.1.1.1, fun s H C cl fp => pf_main fs1 (f.blk scope s H C cl fp) h.2.1.2⟩⟩
theorem pes_main : ∀ (es : Exs) {m : MC} {z : Z} {X : Cx} {k : Nat} {xs : List Expr}, PF m z X k → mEs es m xs = true → Oks z X es xs
  | .n, _, _, _, _, xs, _, h => by
    simp only [mEs] at h
    cases xs with
    | nil => exact .nil
    | cons _ _ => cases h
  | .c e es, _, _, _, _, xs, f, h => by
    simp only [mEs] at h
    cases xs with
    | nil => cases h
    | cons x xs =>
      simp only [Bool.and_eq_true] at h
      exact .cons (pe_main e f h.1) (pes_main es f h.2)
theorem pp_main : ∀ (es : Exs) {m : MC} {z : Z} {X : Cx} {k : Nat} {o : Option Expr}, PF m z X k → mP es m o = true → L2.PO X o (tP z es)
  | .n, _, _, _, _, o, _, h => by
    simp only [mP] at h
    cases o with
    | none => exact po_none
    | some _ => cases h
  | .c e es, _, _, _, _, o, f, h => by
    simp only [mP] at h
    cases o with
    | none => cases h
    | some x => exact po_some (pe_main e f h).1
theorem pf_main : ∀ (es : Exs) {m : MC} {z : Z} {X : Cx} {k : Nat} {xs : List Expr}, PF m z X k → mF es m xs = true → PTs X xs (tCl z es)
  | .n, _, _, _, _, xs, _, h => by
    simp only [mF] at h
    cases xs with
    | nil => exact pts_nil
    | cons _ _ => cases h
  | .c e es, _, _, _, _, xs, f, h => by
    simp only [mF] at h
    split at h
    · rename_i x q
      unfold one? at q
      split at q
      · cases q; exact pts_one (pe_main e f h).2.2
      · cases q
    · cases h
theorem pi_main : ∀ (it : It) {m : MC} {z : Z} {X : Cx} {k : Nat} {t ex : Expr}, PF m z X k → mI it m t ex = true → PI X t ex (tI z it)
  | .sq e, _, _, _, _, _, _, f, h => by
    simp only [mI] at h
    exact pi_sq f (pe_main e f h).1
  | .rg es, _, _, _, _, _, _, f, h => by
    simp only [mI] at h
    split at h
    · rename_i x xs q
      simp only [Bool.and_eq_true, decide_eq_true_eq] at h
      exact pi_rg f q h.1.1.1.1 h.1.1.1.2 h.1.1.2 h.1.2 (pes_main es f h.2)
    · cases h
  | .en e, _, _, _, _, _, _, f, h => by
    simp only [mI] at h
    split at h
    · rename_i x xs q
      simp only [Bool.and_eq_true, decide_eq_true_eq] at h
      obtain ⟨h1, h2⟩ := h
      split at h2
      · rename_i a q2
        exact pi_en f q h1.1.1.1 h1.1.1.2 h1.1.2 h1.2 q2 (pe_main e f h2)
      · cases h2
    · cases h
  | .zp a b, _, _, _, _, _, _, f, h => by
    simp only [mI] at h
    split at h
    · rename_i x xs q
      simp only [Bool.and_eq_true, decide_eq_true_eq] at h
      obtain ⟨h1, h2⟩ := h
      split at h2
      · rename_i p1 p2 q2
        simp only [Bool.and_eq_true] at h2
        exact pi_zp f q h1.1.1.1 h1.1.1.2 h1.1.2 h1.2 q2 (pe_main a f h2.1) (pe_main b f h2.2)
      · cases h2
    · cases h
  | .ez _ _, _, _, _, _, _, _, _, h => by simp only [mI] at h; cases h
  | .im _, _, _, _, _, _, _, _, h => by simp only [mI] at h; cases h
  | .vl e, _, _, _, _, _, _, f, h => by
    simp only [mI] at h
    split at h
    · rename_i x q
      exact pi_vl q (pe_main e f h).1
    · cases h
end
end Ev


set_option maxHeartbeats 4000000
namespace Ev
open PySem L2 PyProof.Rows
def asAsg : Stmt → Option (Expr × Expr) | .Assign [t] v _ => some (t, v) | _ => none
def asExpS : Stmt → Option Expr | .Expr e _ => some e | _ => none
def asIf : Stmt → Option (Expr × List Stmt × List Stmt) | .If c a b _ => some (c, a, b) | _ => none
def asWhile : Stmt → Option (Expr × List Stmt) | .While c b [] _ => some (c, b) | _ => none
def asFor : Stmt → Option (Expr × Expr × List Stmt) | .For t i b [] _ => some (t, i, b) | _ => none
def asRet : Stmt → Option (Option Expr) | .Return o _ => some o | _ => none
def notComp : Expr → Bool | .ListComp .. => false | .SetComp .. => false | .DictComp .. => false | _ => true
/-- a comprehension's names do not hide the target -/
def clearOf (scope : Scope) (x : Str) : Bool := !(scope.names.any fun (n, k) => n == x && (k == .local || k == .cell))
def isSeqX : Expr → Bool | .Tuple .. => true | .List .. => true | _ => false
def lineOf : Expr → Nat | .Name _ p => p.line | .ListComp _ _ _ p => p.line | _ => 0
def mLc (m : MC) (tg : Tg) (t v : Expr) : Bool := match tg, asName t, asLC v with
  | .nm i, some x, some (_, _, _, _, scope) => decide (m.sc.kind = .function) && m.isL i x && decide (m.sc.names.lookup x = some .local) && (lineOf t == lineOf v) && clearOf scope x
  | _, _, _ => false
/-- .. of two clauses -/
def mLc3 (m : MC) (tg : Tg) (t v : Expr) : Bool := match tg, asName t, asLC2 v with
  | .nm i, some x, some (_, _, _, _, _, _, _, scope) => decide (m.sc.kind = .function) && m.isL i x && decide (m.sc.names.lookup x = some .local) && (lineOf t == lineOf v) && clearOf scope x
  | _, _, _ => false
/-- .. or the target is captured -/
def mLc2 (m : MC) (t v : Expr) : Bool := match asName t, asLC v with
  | some x, some _ => !decide (m.sc.names.lookup x = some .local)
  | _, _ => false
def lineD : Expr → Nat | .DictComp _ _ _ _ p => p.line | _ => 0
def mDc (m : MC) (tg : Tg) (t v : Expr) : Bool := match tg, asName t, asDC v with
  | .nm i, some x, some (_, _, _, _, _, scope) => decide (m.sc.kind = .function) && m.isL i x && decide (m.sc.names.lookup x = some .local) && (lineOf t == lineD v) && clearOf scope x
  | _, _, _ => false
/-- a, b = x, y: both names are plain, on one line -/
def parB (m : MC) (t v : Expr) : Option (Str × Str × Expr × Expr) := match t, v with
  | .Tuple [.Name x px, .Name y py] _ _, .Tuple [a, b] _ _ =>
    if decide (m.sc.kind = .function) && decide (m.sc.names.lookup x = some .local) && decide (m.sc.names.lookup y = some .local) && (py.line == px.line) && !(x == y) && !(foldedForSure 8 a && foldedForSure 8 b) && !(constantsAlone 8 a && constantsAlone 8 b) && notStar a && notStar b then some (x, y, a, b) else none
  | _, _ => none
def parV : Tgs → Option (Nat × Nat) | .c (.nm i) (.c (.nm j) .n) => some (i, j) | _ => none
/-- raise X(e) -/
def asRaise1 : Stmt → Option (Str × Expr) | .Raise (some (.Call (.Name x _) [e] [] _)) none _ => if notStar e then some (x, e) else none | _ => none
/-- a, b, c, d, .. = w, x, y, z, .. -/
def parN (t v : Expr) : Option (List Expr × List Expr) := match t, v with
  | .Tuple ts _ _, .Tuple vs _ _ => if decide (4 ≤ ts.length) && decide (ts.length ≤ 1000) && vs.all notStar then some (ts, vs) else none
  | _, _ => none
/-- raise X('text') -/
def asRaise : Stmt → Option Str | .Raise (some (.Call (.Name x _) [.Constant (.str _) _ _] [] _)) none _ => some x | _ => none
def one1 : Exs → Bool | .c (.con _) .n => true | _ => false
def asSix : Stmt → Option (Str × Expr × Expr) | .Assign [.Subscript (.Name x _) k _] v _ => some (x, k, v) | _ => none
/-- x += v -/
def asAug : Stmt → Option (Str × Expr) | .AugAssign (.Name x _) .Add v _ => some (x, v) | _ => none
/-- x.append(a) -/
def asApp : Stmt → Option (Str × Expr) | .Expr (.Call (.Attribute (.Name x _) f apos) [a] [] cpos) _ => if decide (f = "append") && (apos.endLine == cpos.line) then some (x, a) else none | _ => none
/-- a, b, c = x, y, z -/
def parB3 (m : MC) (t v : Expr) : Option (Str × Str × Str × Expr × Expr × Expr) := match t, v with
  | .Tuple [.Name x px, .Name y py, .Name w pw] _ _, .Tuple [a, b, c] _ _ =>
    if decide (m.sc.kind = .function) && decide (m.sc.names.lookup x = some .local) && decide (m.sc.names.lookup y = some .local) && decide (m.sc.names.lookup w = some .local) && (py.line == px.line) && (pw.line == px.line) && !(y == x) && !(w == x) && !(w == y) && !(foldedForSure 8 a && foldedForSure 8 b && foldedForSure 8 c) && !(constantsAlone 8 a && constantsAlone 8 b && constantsAlone 8 c) && notStar a && notStar b && notStar c then some (x, y, w, a, b, c) else none
  | _, _ => none
def parV3 : Tgs → Option (Nat × Nat × Nat) | .c (.nm i) (.c (.nm j) (.c (.nm l) .n)) => some (i, j, l) | _ => none
mutual
def mS : St → MC → Stmt → Bool
  | .nop, _, _ => true
  | .asg tg e, m, st => match asAsg st with
    | some (t, v) => notStar t && mT m tg t && mE e m v && ((notComp v && !(isSeqX t && isTupX v)) || mLc m tg t v || mLc2 m t v || mDc m tg t v || mLc3 m tg t v)
    | none => false
  | .par ts es, m, st => match asAsg st with
    | some (t, v) => (match parB m t v, parV ts with
      | some (x, y, a, b), some (i, j) => !(i == j) && m.isL i x && m.isL j y && mEs es m [a, b]
      | _, _ => (match parB3 m t v, parV3 ts with
        | some (x, y, w, a, b, c), some (i, j, l) => !(i == j) && !(i == l) && !(j == l) && m.isL i x && m.isL j y && m.isL l w && mEs es m [a, b, c]
        | _, _ => (match parN t v with
          | some (tl, vl) => mTs m ts tl && mEs es m vl
          | none => false)))
    | none => false
  | .exp e, m, st => match asExpS st with | some x => notComp x && mE e m x | none => false
  | .iff c a b, m, st => match asIf st with | some (x, p, q) => mE c m x && mSs a m p && mSs b m q | none => false
  | .whl c b, m, st => match asWhile st with | some (x, p) => mE c m x && mSs b m p | none => false
  | .for tg it b, m, st => match asFor st with | some (t, i, p) => notSet i && mT m tg t && mI it m t i && mSs b m p | none => false
  | .ret e, m, st => match asRet st with | some (some x) => mE e m x | _ => false
  | .retN, _, st => match asRet st with | some none => true | _ => false
  | .cont, _, st => match st with | .Continue _ => true | _ => false
  | .pass, _, st => match st with | .Pass _ => true | _ => false
  | .six i ke e, m, st => match asSix st with
    | some (x, kx, v) => m.isV i x && notSlice kx && notComp v && mE ke m kx && mE e m v
    | none => false
  | .six2 _ _ _ _, _, _ => false
  | .aug i e, m, st => match asAug st with
    | some (x, v) => m.isV i x && m.isL i x && mE e m v
    | none => false
  | .app i e, m, st => match asApp st with
    | some (x, a) => m.isV i x && notStar a && mE e m a
    | none => false
  | .upd _ _, _, _ => false
  | .raise c es, m, st => match asRaise st, one1 es with
    | some x, true => m.isG x && decide (m.nm.lookup x = some (.cls c)) && !(x == ("__debug__" : Str))
    | _, _ => false
  | .raiseM c e, m, st => match asRaise1 st with
    | some (x, a) => m.isG x && decide (m.nm.lookup x = some (.clsM c)) && !(x == ("__debug__" : Str)) && mE e m a
    | none => false
def mSs : Sts → MC → List Stmt → Bool
  | .n, _, ss => ss.isEmpty
  | .c s r, m, ss => match ss with | x :: xs => mS s m x && mSs r m xs | [] => false
end
structure PB (m : MC) (z : Z) (X : Cx) (k : Nat) : Prop where
  pf : PF m z X k
  own : PassesOwn (model X.prog X.w) X.A X.env X.xe
  room : Room (k + 2) X.A
section
variable {m : MC} {z : Z} {X : Cx} {k : Nat} {e : Ex} {st : Stmt}
theorem asAsg_eq {t v : Expr} (h : asAsg st = some (t, v)) : ∃ pos, st = .Assign [t] v pos := by
  unfold asAsg at h
  split at h
  · cases h; exact ⟨_, rfl⟩
  · cases h
theorem swaps_no {v : Expr} {t : Option Expr} {l : Nat} {env : Env} (h : notComp v = true) : swapsWith v t l env = pure false := by
  cases v <;> first | rfl | cases h
theorem swappedS_no {t v : Expr} {env : Env} (h : (isSeqX t && isTupX v) = false) : swappedStores [t] v env = pure none := by
  cases t <;> first | rfl | (cases v <;> first | rfl | cases h)
theorem assign_one {t : Expr} {env : Env} (h : notStar t = true) : (assignEach [t] env).map (·.2) = [assign t env] := by
  cases t <;> first | rfl | cases h
theorem ok_asg {tg : Tg} {t v : Expr} (f : PF m z X k) (hq : asAsg st = some (t, v)) (hs : notStar t = true) (ht : mT m tg t = true) (he : Ok3 z X e v) (hc : notComp v = true) (hn : (isSeqX t && isTupX v) = false) : PS X st (tS z (.asg tg e)) := by
  obtain ⟨pos, rfl⟩ := asAsg_eq hq
  exact PS.imp (ps_asg he.1 (pg_main f.xf ht) (swaps_no hc) (swappedS_no hn) (assign_one hs)) fun D σ H q => tS_asg q
theorem swaps_cap {x : Str} {px : Pos} {v : Expr} {l : Nat} {env : Env} (hv : (asLC v).isSome = true) (h : env.kindOf x ≠ some .local) : swapsWith v (some (.Name x px)) l env = pure false := by
  unfold asLC at hv
  split at hv
  · have : (env.kindOf x == some .local) = false := by
      rcases bool_cases (env.kindOf x == some .local) with q | q
      · exact absurd (beq_iff_eq.mp q) h
      · exact q
    unfold swapsWith
    simp [this]
  · cases hv
theorem ok_asgLc2 {tg : Tg} {t v : Expr} (f : PF m z X k) (hq : asAsg st = some (t, v)) (hs : notStar t = true) (ht : mT m tg t = true) (he : Ok3 z X e v) (h : mLc2 m t v = true) : PS X st (tS z (.asg tg e)) := by
  obtain ⟨pos, rfl⟩ := asAsg_eq hq
  unfold mLc2 at h
  split at h
  · rename_i x q hx hv
    obtain ⟨px, rfl⟩ := asName_eq hx
    have hk : X.env.kindOf x ≠ some .local := by
      show X.env.scope.names.lookup x ≠ _
      rw [f.xf.sc]; simpa using h
    have hsw : ∀ l : Nat, swapsWithSole [Expr.Name x px] v l X.env = pure false := fun l => show swapsWith v (some (.Name x px)) l X.env = pure false from swaps_cap (by rw [hv]; rfl) hk
    exact PS.imp (ps_asg he.1 (pg_main f.xf ht) (hsw _) rfl rfl) fun D σ H q => tS_asg q
  · cases h
theorem ok_asgLc {tg : Tg} {t v : Expr} (f : PF m z X k) (hq : asAsg st = some (t, v)) (he : mE e m v = true) (hl : mLc m tg t v = true) : PS X st (tS z (.asg tg e)) := by
  obtain ⟨pos, rfl⟩ := asAsg_eq hq
  unfold mLc at hl
  split at hl
  · rename_i i x elt tt ii ifs scope hx hv
    obtain ⟨px, rfl⟩ := asName_eq hx
    obtain ⟨pv, rfl⟩ := asLC_eq hv
    simp only [Bool.and_eq_true, decide_eq_true_eq] at hl
    obtain ⟨⟨⟨⟨hk, hL⟩, hloc⟩, hline⟩, hclr⟩ := hl
    obtain ⟨h1, h2, h3⟩ := f.xf.loc hL
    cases e with
    | lc e gs =>
      simp only [mE, asLC, Bool.and_eq_true] at he
      obtain ⟨tg1, it, fs, rfl, p1, p2, p3⟩ := (pg_parts gs f he.1.2).ex
      have hy : X.env.scope.names.lookup x = some .local := by rw [f.xf.sc]; exact hloc
      have hsw := sw_true (elt := elt) (gs := [⟨tt, ii, ifs, 0⟩]) (scope := scope) (pos := pv) (py := px) (y := x) (l := pos.line) (env := X.env) (by rw [f.xf.sc]; exact hk) hy hline (by
        unfold clearOf at hclr
        simpa using hclr)
      have q := ps_setLc (spos := pos) f.xf.calm f.xf.nd h1 hy hsw p1 (blk_ok f.xf he.1.1.1) p2 p3 (fun s H C cl fp => (pe_main e (f.blk scope s H C cl fp) he.2).1) (notSet_fold he.1.1.2)
      rw [ownOf_snd] at q
      exact PS.imp q fun D σ H q => tE_lc1 (tS_asg q)
    | nop => exact ⟨fun pins s σ H D I q => by
        have := tS_asg q
        exact (tE_nop this).elim⟩
    | var i => simp only [mE, asName] at he; cases he
    | con d => simp only [mE, asConst, asName] at he; cases he
    | glo d => simp only [mE, asName] at he; cases he
    | tup es => simp only [mE, asTup] at he; cases he
    | lst es => simp only [mE, asLst] at he; cases he
    | dic es => simp only [mE, asDict] at he; cases he
    | get a b c => simp only [mE, asGet] at he; cases he
    | op o es =>
      exfalso
      have : opForm m o (.ListComp elt [⟨tt, ii, ifs, 0⟩] scope pv) = none := by cases o <;> rfl
      simp only [mE, this] at he
      cases he
    | slc a b c => simp only [mE, asSlc] at he; cases he
    | chn a b c d e => simp only [mE, asChn] at he; cases he
    | not a => simp only [mE, asNot] at he; cases he
    | and a b => simp only [mE, asAnd] at he; cases he
    | or a b => simp only [mE, asOr] at he; cases he
    | ite a b c => simp only [mE, asIte] at he; cases he
    | call a b => simp only [mE, asCall] at he; cases he
    | cav a b => simp only [mE, asCall] at he; cases he
    | pop a b => simp only [mE] at he; cases he
    | key a b c d e => simp only [mE, asKeyed] at he; cases he
    | dc a b c => simp only [mE, asDC] at he; cases he
    | flt a b => simp only [mE, asLamCall] at he; cases he
  · cases hl
theorem ok_asgDc {tg : Tg} {t v : Expr} (f : PF m z X k) (hq : asAsg st = some (t, v)) (he : mE e m v = true) (hl : mDc m tg t v = true) : PS X st (tS z (.asg tg e)) := by
  obtain ⟨pos, rfl⟩ := asAsg_eq hq
  unfold mDc at hl
  split at hl
  · rename_i i x kx vx tt ii ifs scope hx hv
    obtain ⟨px, rfl⟩ := asName_eq hx
    obtain ⟨pv, rfl⟩ := asDC_eq hv
    simp only [Bool.and_eq_true, decide_eq_true_eq] at hl
    obtain ⟨⟨⟨⟨hk, hL⟩, hloc⟩, hline⟩, hclr⟩ := hl
    obtain ⟨h1, h2, h3⟩ := f.xf.loc hL
    cases e with
    | dc ke ve gs =>
      simp only [mE, asDC, Bool.and_eq_true] at he
      obtain ⟨tg1, it, fs, rfl, p1, p2, p3⟩ := (pg_parts gs f he.1.1.2).ex
      have hy : X.env.scope.names.lookup x = some .local := by rw [f.xf.sc]; exact hloc
      have hsw := sw_trueD (kx := kx) (vx := vx) (gs := [⟨tt, ii, ifs, 0⟩]) (scope := scope) (pos := pv) (py := px) (y := x) (l := pos.line) (env := X.env) (by rw [f.xf.sc]; exact hk) hy hline (by
        unfold clearOf at hclr
        simpa using hclr)
      have q := ps_setDc (spos := pos) f.xf.calm f.xf.nd h1 hy hsw p1 (blk_ok f.xf he.1.1.1.1) p2 p3 (fun s H C cl fp => (pe_main ke (f.blk scope s H C cl fp) he.1.2).1) (fun s H C cl fp => (pe_main ve (f.blk scope s H C cl fp) he.2).1) (notSet_fold he.1.1.1.2)
      rw [ownOf_snd] at q
      exact PS.imp q fun D σ H q => by
        have := tE_dc1 (tS_asg q)
        rw [← f.xf.w] at this; exact this
    | nop => exact ⟨fun pins s σ H D I q => by
        have := tS_asg q
        exact (tE_nop this).elim⟩
    | var i => simp only [mE, asName] at he; cases he
    | con d => simp only [mE, asConst, asName] at he; cases he
    | glo d => simp only [mE, asName] at he; cases he
    | tup es => simp only [mE, asTup] at he; cases he
    | lst es => simp only [mE, asLst] at he; cases he
    | dic es => simp only [mE, asDict] at he; cases he
    | get a b c => simp only [mE, asGet] at he; cases he
    | op o es =>
      exfalso
      have : opForm m o (.DictComp kx vx [⟨tt, ii, ifs, 0⟩] scope pv) = none := by cases o <;> rfl
      simp only [mE, this] at he
      cases he
    | slc a b c => simp only [mE, asSlc] at he; cases he
    | chn a b c d e => simp only [mE, asChn] at he; cases he
    | not a => simp only [mE, asNot] at he; cases he
    | and a b => simp only [mE, asAnd] at he; cases he
    | or a b => simp only [mE, asOr] at he; cases he
    | ite a b c => simp only [mE, asIte] at he; cases he
    | call a b => simp only [mE, asCall] at he; cases he
    | cav a b => simp only [mE, asCall] at he; cases he
    | pop a b => simp only [mE] at he; cases he
    | key a b c d e => simp only [mE, asKeyed] at he; cases he
    | lc a b => simp only [mE, asLC, asLC2] at he; cases he
    | flt a b => simp only [mE, asLamCall] at he; cases he
  · cases hl
theorem ok_asgLc3 {tg : Tg} {t v : Expr} (f : PF m z X k) (hq : asAsg st = some (t, v)) (he : mE e m v = true) (hl : mLc3 m tg t v = true) : PS X st (tS z (.asg tg e)) := by
  obtain ⟨pos, rfl⟩ := asAsg_eq hq
  unfold mLc3 at hl
  split at hl
  · rename_i i x elt tt ii ifs t1 i1 ifs1 scope hx hv
    obtain ⟨px, rfl⟩ := asName_eq hx
    obtain ⟨pv, rfl⟩ := asLC2_eq hv
    simp only [Bool.and_eq_true, decide_eq_true_eq] at hl
    obtain ⟨⟨⟨⟨hk, hL⟩, hloc⟩, hline⟩, hclr⟩ := hl
    obtain ⟨h1, h2, h3⟩ := f.xf.loc hL
    have hy : X.env.scope.names.lookup x = some .local := by rw [f.xf.sc]; exact hloc
    have hsw := sw_true (elt := elt) (gs := [⟨tt, ii, ifs, 0⟩, ⟨t1, i1, ifs1, 0⟩]) (scope := scope) (pos := pv) (py := px) (y := x) (l := pos.line) (env := X.env) (by rw [f.xf.sc]; exact hk) hy hline (by
      unfold clearOf at hclr
      simpa using hclr)
    cases e with
    | lc e gs =>
      simp only [mE, asLC, asLC2, Bool.and_eq_true] at he
      obtain ⟨tg1, it, fs, tg2, it2, fs2, rfl, p1, p2, p3, p4, p5, p6⟩ := (pg2_parts gs f he.1.2).ex
      have q := ps_setLc2 (spos := pos) (vs1 := (Gens.c tg2 it2 fs2 .n).vars) f.xf.calm f.xf.nd h1 hy hsw p1 (blk_ok f.xf he.1.1.1.1) (by rw [ownOf_snd]; exact vars_sub) p2 p3 p4 p5 p6 (fun s H C cl fp => (pe_main e (f.blk scope s H C cl fp) he.2).1) (notSet_fold he.1.1.1.2) (fun env x => notSet_fold he.1.1.2 x)
      rw [ownOf_snd] at q
      exact PS.imp q fun D σ H q => tE_lc2 (tS_asg q)
    | nop => exact ⟨fun pins s σ H D I q => by
        have := tS_asg q
        exact (tE_nop this).elim⟩
    | var i => simp only [mE, asName] at he; cases he
    | con d => simp only [mE, asConst, asName] at he; cases he
    | glo d => simp only [mE, asName] at he; cases he
    | tup es => simp only [mE, asTup] at he; cases he
    | lst es => simp only [mE, asLst] at he; cases he
    | dic es => simp only [mE, asDict] at he; cases he
    | get a b c => simp only [mE, asGet] at he; cases he
    | op o es =>
      exfalso
      have : opForm m o (.ListComp elt [⟨tt, ii, ifs, 0⟩, ⟨t1, i1, ifs1, 0⟩] scope pv) = none := by cases o <;> rfl
      simp only [mE, this] at he
      cases he
    | slc a b c => simp only [mE, asSlc] at he; cases he
    | chn a b c d e => simp only [mE, asChn] at he; cases he
    | not a => simp only [mE, asNot] at he; cases he
    | and a b => simp only [mE, asAnd] at he; cases he
    | or a b => simp only [mE, asOr] at he; cases he
    | ite a b c => simp only [mE, asIte] at he; cases he
    | call a b => simp only [mE, asCall] at he; cases he
    | cav a b => simp only [mE, asCall] at he; cases he
    | pop a b => simp only [mE] at he; cases he
    | key a b c d e => simp only [mE, asKeyed] at he; cases he
    | dc a b c => simp only [mE, asDC] at he; cases he
    | flt a b => simp only [mE, asLamCall] at he; cases he
  · cases hl
theorem sw_par {x y : Str} {px py pt : Pos} {a b : Expr} {kt k2 : Nat} {pt2 : Pos} {env : Env} (hk : env.scope.kind = .function) (hx : env.scope.names.lookup x = some .local) (hy : env.scope.names.lookup y = some .local) (hl : (py.line == px.line) = true) (hxy : (x == y) = false)
    (h1 : (foldedForSure 8 a && foldedForSure 8 b) = false) (h2 : (constantsAlone 8 a && constantsAlone 8 b) = false) (sa : notStar a = true) (sb : notStar b = true) :
    swappedStores [.Tuple [.Name x px, .Name y py] kt pt] (.Tuple [a, b] k2 pt2) env = pure (some [x, y]) := by
  have hb : env.blockKind = .function := by unfold Env.blockKind; rw [hk]; rfl
  have kx : env.kindOf x = some .local := hx
  have ky : env.kindOf y = some .local := hy
  have st : ([a, b].any fun | .Starred .. => true | _ => false) = false := by
    have q : ∀ e : Expr, notStar e = true → (match e with | .Starred .. => true | _ => false) = false := fun e h => by
      cases e <;> first | rfl | exact Bool.noConfusion h
    simp only [List.any_cons, List.any_nil, q a sa, q b sb, Bool.or_false]
  have hne : (y == x) = false := by
    rcases bool_cases (y == x) with q | q
    · have := beq_iff_eq.mp q
      subst this
      simp at hxy
    · exact q
  have st2 : notStar a = true := sa
  have e1 : ([a, b].all (foldedForSure 8)) = false := by simpa using h1
  have e2 : ([a, b].all (constantsAlone 8)) = false := by simpa using h2
  have er : ([x, y] : List Str).eraseDups = [x, y] := by
    simp [List.eraseDups_cons, hne]
  have hl2 : py.line = px.line := beq_iff_eq.mp hl
  unfold swappedStores
  dsimp only
  rw [if_neg, if_neg, if_neg, if_neg, if_neg]
  · simp [kx, ky, hl2, List.filterMap_cons, Expr.pos]
  · rw [e2]; simp
  · rw [e1]; simp
  · simp [kx, ky, hl2, er, List.filterMap_cons, Expr.pos]
  · intro hc
    have hc2 : ([a, b].any fun | .Starred .. => true | _ => false) = true := hc
    rw [st] at hc2; cases hc2
  · simp [hb]
theorem sw_par3 {x y w : Str} {px py pw pt : Pos} {a b c : Expr} {kt k2 : Nat} {pt2 : Pos} {env : Env} (hk : env.scope.kind = .function) (hx : env.scope.names.lookup x = some .local) (hy : env.scope.names.lookup y = some .local) (hw : env.scope.names.lookup w = some .local) (hl : (py.line == px.line) = true) (hl' : (pw.line == px.line) = true)
    (n1 : (y == x) = false) (n2 : (w == x) = false) (n3 : (w == y) = false) (h1 : (foldedForSure 8 a && foldedForSure 8 b && foldedForSure 8 c) = false) (h2 : (constantsAlone 8 a && constantsAlone 8 b && constantsAlone 8 c) = false) (sa : notStar a = true) (sb : notStar b = true) (sc : notStar c = true) :
    swappedStores [.Tuple [.Name x px, .Name y py, .Name w pw] kt pt] (.Tuple [a, b, c] k2 pt2) env = pure (some [x, y, w]) := by
  have hb : env.blockKind = .function := by unfold Env.blockKind; rw [hk]; rfl
  have kx : env.kindOf x = some .local := hx
  have ky : env.kindOf y = some .local := hy
  have kw : env.kindOf w = some .local := hw
  have st : ([a, b, c].any fun | .Starred .. => true | _ => false) = false := by
    have q : ∀ e : Expr, notStar e = true → (match e with | .Starred .. => true | _ => false) = false := fun e h => by
      cases e <;> first | rfl | exact Bool.noConfusion h
    simp only [List.any_cons, List.any_nil, q a sa, q b sb, q c sc, Bool.or_false]
  have e1 : ([a, b, c].all (foldedForSure 8)) = false := by
    have : ([a, b, c].all (foldedForSure 8)) = (foldedForSure 8 a && foldedForSure 8 b && foldedForSure 8 c) := by simp [Bool.and_assoc]
    rw [this]; exact h1
  have e2 : ([a, b, c].all (constantsAlone 8)) = false := by
    have : ([a, b, c].all (constantsAlone 8)) = (constantsAlone 8 a && constantsAlone 8 b && constantsAlone 8 c) := by simp [Bool.and_assoc]
    rw [this]; exact h2
  have er : ([x, y, w] : List Str).eraseDups = [x, y, w] := by
    simp [List.eraseDups_cons, n1, n2, n3]
  have hl2 : py.line = px.line := beq_iff_eq.mp hl
  have hl3 : pw.line = px.line := beq_iff_eq.mp hl'
  unfold swappedStores
  dsimp only
  rw [if_neg, if_neg, if_neg, if_neg, if_neg]
  · simp [kx, ky, kw, hl2, hl3, List.filterMap_cons, Expr.pos]
  · rw [e2]; simp
  · rw [e1]; simp
  · simp [kx, ky, kw, hl2, hl3, er, List.filterMap_cons, Expr.pos]
  · intro hc
    have hc2 : ([a, b, c].any fun | .Starred .. => true | _ => false) = true := hc
    rw [st] at hc2; cases hc2
  · simp [hb]
end
end Ev


set_option maxHeartbeats 4000000
namespace Ev
open PySem L2 PyProof.Rows
section
variable {m : MC} {z : Z} {X : Cx} {k : Nat} {e : Ex} {st : Stmt}
theorem parB_eq {t v : Expr} {x y : Str} {a b : Expr} (f : PF m z X k) (h : parB m t v = some (x, y, a, b)) : ∃ px py kt pt k2 pt2, t = .Tuple [.Name x px, .Name y py] kt pt ∧ v = .Tuple [a, b] k2 pt2 ∧
    X.env.scope.names.lookup x = some .local ∧ X.env.scope.names.lookup y = some .local ∧ swappedStores [t] v X.env = pure (some [x, y]) ∧ notStar a = true ∧ notStar b = true := by
  unfold parB at h
  split at h
  · split at h
    · rename_i hc
      cases h
      simp only [Bool.and_eq_true, Bool.not_eq_true', decide_eq_true_eq] at hc
      obtain ⟨⟨⟨⟨⟨⟨⟨⟨hk, hx⟩, hy⟩, hl⟩, hxy⟩, h1⟩, h2⟩, sa⟩, sb⟩ := hc
      have hx' := hx
      have hy' := hy
      rw [← f.xf.sc] at hk hx hy
      exact ⟨_, _, _, _, _, _, rfl, rfl, hx, hy, sw_par hk hx hy hl hxy h1 h2 sa sb, sa, sb⟩
    · cases h
  · cases h
theorem parV_eq {ts : Tgs} {i j : Nat} (h : parV ts = some (i, j)) : ts = .c (.nm i) (.c (.nm j) .n) := by
  unfold parV at h
  split at h
  · cases h; rfl
  · cases h
theorem ok_par {ts : Tgs} {es : Exs} {t v : Expr} {x y : Str} {a b : Expr} {i j : Nat} (f : PF m z X k) (hq : asAsg st = some (t, v)) (hb : parB m t v = some (x, y, a, b)) (hv : parV ts = some (i, j)) (hij : (!(i == j)) = true) (hi : m.isL i x = true) (hj : m.isL j y = true) (h : Oks z X es [a, b]) : PS X st (tS z (.par ts es)) := by
  obtain ⟨pos, rfl⟩ := asAsg_eq hq
  obtain ⟨px, py, kt, pt, k2, pt2, rfl, rfl, hx, hy, hw, sa, sb⟩ := parB_eq f hb
  obtain rfl := parV_eq hv
  have hij' : i ≠ j := by simpa using hij
  obtain ⟨hi1, _⟩ := f.xf.loc hi
  obtain ⟨hj1, _⟩ := f.xf.loc hj
  exact PS.imp (ps_par f.xf.calm f.xf.nd hi1 hj1 hij' hx hy (h.fs.pa (by simp [sa, sb])) hw) fun D σ H q => by
    have := tS_par2 hij' q
    rw [tFs_eq] at this; exact this
theorem parB3_eq {t v : Expr} {x y w : Str} {a b c : Expr} (f : PF m z X k) (h : parB3 m t v = some (x, y, w, a, b, c)) : ∃ px py pw kt pt k2 pt2, t = .Tuple [.Name x px, .Name y py, .Name w pw] kt pt ∧ v = .Tuple [a, b, c] k2 pt2 ∧
    X.env.scope.names.lookup x = some .local ∧ X.env.scope.names.lookup y = some .local ∧ X.env.scope.names.lookup w = some .local ∧ swappedStores [t] v X.env = pure (some [x, y, w]) ∧ notStar a = true ∧ notStar b = true ∧ notStar c = true := by
  unfold parB3 at h
  split at h
  · split at h
    · rename_i hc
      cases h
      simp only [Bool.and_eq_true, Bool.not_eq_true', decide_eq_true_eq] at hc
      obtain ⟨⟨⟨⟨⟨⟨⟨⟨⟨⟨⟨⟨⟨hk, hx⟩, hy⟩, hw⟩, hl⟩, hl'⟩, n1⟩, n2⟩, n3⟩, h1⟩, h2⟩, sa⟩, sb⟩, sc⟩ := hc
      rw [← f.xf.sc] at hk hx hy hw
      exact ⟨_, _, _, _, _, _, _, rfl, rfl, hx, hy, hw, sw_par3 hk hx hy hw hl hl' n1 n2 n3 h1 h2 sa sb sc, sa, sb, sc⟩
    · cases h
  · cases h
theorem parV3_eq {ts : Tgs} {i j l : Nat} (h : parV3 ts = some (i, j, l)) : ts = .c (.nm i) (.c (.nm j) (.c (.nm l) .n)) := by
  unfold parV3 at h
  split at h
  · cases h; rfl
  · cases h
theorem ok_par3 {ts : Tgs} {es : Exs} {t v : Expr} {x y w : Str} {a b c : Expr} {i j l : Nat} (f : PF m z X k) (hq : asAsg st = some (t, v)) (hb : parB3 m t v = some (x, y, w, a, b, c)) (hv : parV3 ts = some (i, j, l)) (hij : (!(i == j)) = true) (hil : (!(i == l)) = true) (hjl : (!(j == l)) = true) (hi : m.isL i x = true) (hj : m.isL j y = true) (hl : m.isL l w = true) (h : Oks z X es [a, b, c]) : PS X st (tS z (.par ts es)) := by
  obtain ⟨pos, rfl⟩ := asAsg_eq hq
  obtain ⟨px, py, pw, kt, pt, k2, pt2, rfl, rfl, hx, hy, hw, hsw, sa, sb, sc⟩ := parB3_eq f hb
  obtain rfl := parV3_eq hv
  obtain ⟨hi1, _⟩ := f.xf.loc hi
  obtain ⟨hj1, _⟩ := f.xf.loc hj
  obtain ⟨hl1, _⟩ := f.xf.loc hl
  exact PS.imp (ps_par3 f.xf.calm f.xf.nd hi1 hj1 hl1 (by simpa using hij) (by simpa using hil) (by simpa using hjl) hx hy hw (h.fs.pa (by simp [sa, sb, sc])) hsw) fun D σ H q => by
    have := tS_par3 q
    rw [tFs_eq] at this; exact this
theorem asIf_eq {c : Expr} {a b : List Stmt} (h : asIf st = some (c, a, b)) : ∃ pos, st = .If c a b pos := by
  unfold asIf at h
  split at h
  · cases h; exact ⟨_, rfl⟩
  · cases h
theorem asWhile_eq {c : Expr} {b : List Stmt} (h : asWhile st = some (c, b)) : ∃ pos, st = .While c b [] pos := by
  unfold asWhile at h
  split at h
  · cases h; exact ⟨_, rfl⟩
  · cases h
theorem asFor_eq {t i : Expr} {b : List Stmt} (h : asFor st = some (t, i, b)) : ∃ pos, st = .For t i b [] pos := by
  unfold asFor at h
  split at h
  · cases h; exact ⟨_, rfl⟩
  · cases h
theorem asRet_eq {o : Option Expr} (h : asRet st = some o) : ∃ pos, st = .Return o pos := by
  unfold asRet at h
  split at h
  · cases h; exact ⟨_, rfl⟩
  · cases h
theorem asExpS_eq {x : Expr} (h : asExpS st = some x) : ∃ pos, st = .Expr x pos := by
  unfold asExpS at h
  split at h
  · cases h; exact ⟨_, rfl⟩
  · cases h
theorem ok_ret {x : Expr} (hq : asRet st = some (some x)) (h : Ok3 z X e x) : PS X st (tS z (.ret e)) := by
  obtain ⟨pos, rfl⟩ := asRet_eq hq
  by_cases he : ∃ i, e = .var i
  · obtain ⟨i, rfl⟩ := he
    exact PS.imp (ps_ret h.2.1) fun D σ H q => tS_retV q
  · exact PS.imp (ps_ret h.1) fun D σ H q => tS_ret (fun i q => he ⟨i, q⟩) q
theorem one1_eq {es : Exs} (h : one1 es = true) : ∃ d, es = .c (.con d) .n := by
  unfold one1 at h
  split at h
  · exact ⟨_, rfl⟩
  · cases h
theorem ok_raise {c : Nat} {es : Exs} {x : Str} (f : PF m z X k) (hq : asRaise st = some x) (he : one1 es = true) (hg : m.isG x = true) (hx : m.nm.lookup x = some (.cls c)) (hd : (x == ("__debug__" : Str)) = false) : PS X st (tS z (.raise c es)) := by
  unfold asRaise at hq
  split at hq
  · cases hq
    obtain ⟨d, rfl⟩ := one1_eq he
    obtain ⟨a, bmB, B, newId, initId, h1, h2, h3, h4, h5, h6, h7⟩ := f.cls x c hx
    refine PS.imp (L2N.ps_raise f.xf.calm f.tk (L2N.pmk_own h5 h6 h3 h4 h7 (f.xf.gl hg) hd)) fun D σ H q => ?_
    obtain ⟨g, hg, Hf, ρ, s, q⟩ := q
    simp only [evS, evFs, ev] at q
    exact q (.ref a) none H ⟨a, h1, rfl, by rw [h2]⟩ s.keepG
  · cases hq
theorem ok_six {i : Nat} {ke : Ex} {x : Str} {kx v : Expr} (f : PF m z X k) (hq : asSix st = some (x, kx, v)) (hv : m.isV i x = true) (hsl : notSlice kx = true) (hc : notComp v = true) (hk : Ok3 z X ke kx) (he : Ok3 z X e v) : PS X st (tS z (.six i ke e)) := by
  unfold asSix at hq
  split at hq
  · cases hq
    obtain ⟨n1, n2, n3, n4⟩ := f.xf.vis hv
    have hsw : ∀ (t : Expr) (l : Nat), swapsWithSole [t] v l X.env = pure false := fun t l => show swapsWith v (some t) l X.env = pure false from swaps_no hc
    exact PS.imp (ps_asg he.1 (pg_sub (pe_var n1 n2 n3 n4) hk.1 (set_any f.xf.K f.xf.w f.xf.un) (fun _ => by cases kx <;> first | rfl | cases hsl)) (hsw _ _) rfl rfl) fun D σ H q => tS_six q
  · cases hq
theorem ok_aug {i : Nat} {x : Str} {v : Expr} (f : PF m z X k) (hq : asAug st = some (x, v)) (hv : m.isV i x = true) (hl : m.isL i x = true) (he : Ok3 z X e v) : PS X st (tS z (.aug i e)) := by
  unfold asAug at hq
  split at hq
  · cases hq
    obtain ⟨h1, h2, h3⟩ := f.xf.loc hl
    exact PS.imp (ps_aug f.xf.nd h1 h2 he.1 ip_aug h3) fun D σ H q => tS_aug q
  · cases hq
theorem ok_app {i : Nat} {x : Str} {a : Expr} (f : PF m z X k) (hq : asApp st = some (x, a)) (hv : m.isV i x = true) (hs : notStar a = true) (he : Ok3 z X e a) : PS X st (tS z (.app i e)) := by
  unfold asApp at hq
  split at hq
  · split at hq
    · rename_i hc
      cases hq
      simp only [Bool.and_eq_true, decide_eq_true_eq] at hc
      obtain ⟨rfl, hline⟩ := hc
      obtain ⟨n1, n2, n3, n4⟩ := f.xf.vis hv
      refine PS.imp (ps_expr (pe_bm (T := "list") PySem.F.plainAttrs_list PySem.F.slot_list_append PySem.F.type_list_append (mt_append) (pe_var n1 n2 n3 n4) (pa_cons he.1 pa_nil (star_cons hs)) rfl (by rw [star_cons hs]; rfl) hline (star_cons hs) rfl)) fun D σ H q => ?_
      rw [f.xf.K]; exact tS_app q
    · cases hq
  · cases hq
theorem parN_eq {t v : Expr} {tl vl : List Expr} (h : parN t v = some (tl, vl)) : ∃ k1 p1 k2 p2, t = .Tuple tl k1 p1 ∧ v = .Tuple vl k2 p2 ∧ 4 ≤ tl.length ∧ tl.length ≤ 1000 ∧ vl.all notStar = true := by
  unfold parN at h
  split at h
  · split at h
    · rename_i hc
      cases h
      simp only [Bool.and_eq_true, decide_eq_true_eq] at hc
      exact ⟨_, _, _, _, rfl, rfl, hc.1.1, hc.1.2, hc.2⟩
    · cases h
  · cases h
theorem swapped_many {tl vl : List Expr} {k1 k2 : Nat} {p1 p2 : Pos} {env : Env} (h : 4 ≤ tl.length) : swappedStores [.Tuple tl k1 p1] (.Tuple vl k2 p2) env = pure none := by
  have e : (tl.length == 2 || tl.length == 3) = false := by
    have h2 : (tl.length == 2) = false := by simp; omega
    have h3 : (tl.length == 3) = false := by simp; omega
    rw [h2, h3]; rfl
  unfold swappedStores
  dsimp only
  rw [if_pos (by rw [e]; rfl)]
theorem ok_parN {ts : Tgs} {es : Exs} {t v : Expr} {tl vl : List Expr} (f : PF m z X k) (hq : asAsg st = some (t, v)) (hp : parN t v = some (tl, vl)) (ht : mTs m ts tl = true) (h : Oks z X es vl) : PS X st (tS z (.par ts es)) := by
  obtain ⟨pos, rfl⟩ := asAsg_eq hq
  obtain ⟨k1, p1, k2, p2, rfl, rfl, h4, h5, hs⟩ := parN_eq hp
  obtain ⟨hl, hn⟩ := Tgs_len_eq ht
  have pv : PE X (.Tuple vl k2 p2) (tTup (tFs z es)) := by
    have := pe_tup (x1 := k2) (pos := p2) (h.fs.pa hs)
    rw [← tFs_eq] at this
    exact this
  have pg : PG X (.Tuple tl k1 p1) (gTup z.C.K ts.len (gTs z.C.K ts)) := pg_main (t := .tp ts) f.xf (by simp only [mT]; exact ht)
  exact PS.imp (ps_asg pv pg rfl (swapped_many h4) rfl) fun D σ H q => tS_parN q (by omega)
theorem asRaise1_eq {x : Str} {a : Expr} (h : asRaise1 st = some (x, a)) : (∃ p q r, st = .Raise (some (.Call (.Name x p) [a] [] q)) none r) ∧ notStar a = true := by
  unfold asRaise1 at h
  split at h
  · split at h
    · rename_i hs
      cases h; exact ⟨⟨_, _, _, rfl⟩, hs⟩
    · cases h
  · cases h
/-- raise X(e), X's errors bear a number -/
theorem ok_raiseM {c : Nat} {x : Str} {a : Expr} (f : PB m z X k) (hq : asRaise1 st = some (x, a)) (hg : m.isG x = true) (hx : m.nm.lookup x = some (.clsM c)) (hd : (x == ("__debug__" : Str)) = false) (he : PE X a (tE z e)) : PS X st (tS z (.raiseM c e)) := by
  obtain ⟨⟨p, q, r, rfl⟩, hs⟩ := asRaise1_eq hq
  obtain ⟨C, fI, fd, hC, hlim, hm, T, hi, ht, hb, F⟩ := f.pf.clsm x c hx
  have hpass : Passes (L2N.CX X.prog X.w) X (fun _ _ _ => False) := L2N.passes_call (W := fun _ _ _ _ => False) (f.pf.tk.imp fun _ _ _ _ h => h.elim) fun _ _ _ _ h => h
  have mk := pmk_sup (p := p) (pos := q) T hi ht F (f.room.mono (by omega)) hb hpass (f.pf.xf.gl hg) hm (pa_cons he pa_nil (star_cons hs)) hd (star_cons hs) rfl
  refine PS.imp (L2N.ps_raise f.pf.xf.calm f.pf.tk mk) fun D σ H q => ?_
  obtain ⟨g, hg, Hf, ρ, s, q⟩ := q
  simp only [evS] at q
  refine ⟨g, hg, Hf, ρ, s, (OutS.bindE q).imp fun rv ρ1 H1 Hf1 s1 l1 k1 v hv => ?_⟩
  dsimp only at k1
  split at k1
  · rename_i i hri
    split at k1
    · rename_i hc
      simp only [Bool.and_eq_true, decide_eq_true_eq] at hc
      have hvi : v = .int i := by
        cases rv with
        | fz d => cases hri; cases hv; rfl
        | ow d => cases hri; obtain ⟨_, _, ho, _⟩ := hv; exact ho.2.elim
      subst hvi
      refine ⟨by show 1 ≤ 1000; decide, fun b hb1 => ⟨b, i, rfl, hc, upd_same, fun dx hdx hne => ?_⟩⟩
      have hdx1 : H1 dx = none := by rw [upd_ne hne] at hdx; exact hdx
      have keep : ∀ a o, H1 a = some o → upd (del (upd (upd (upd H1 b (exo b C none)) dx (exd dx [(("limit" : Str), V.int i)])) b (exo b C (some dx))) b) dx (.xd [(("limit" : Str), .int i)]) a = some o := fun a o e => by
        have h1 : a ≠ dx := fun z => by rw [z, hdx1] at e; cases e
        have h2 : a ≠ b := fun z => by rw [z, hb1] at e; cases e
        rw [upd_ne h1, del_ne h2, upd_ne h2, upd_ne h1, upd_ne h2]
        exact e
      refine ⟨rfl, dx, [(("limit" : Str), V.int i)], upd_same, by rw [upd_ne hne, upd_same], hdx1, ?_⟩
      exact k1 (.ref C) (some dx) _ ⟨C, hC, rfl, by rw [hlim]; exact ⟨dx, i, rfl, rfl, upd_same⟩⟩ ⟨fun a o e nt hio => keep a o (s1.base a o e nt hio), fun a e => by
        have := s1.dom a e
        cases q : H1 a with
        | none => exact absurd q this
        | some o => rw [keep a o q]; simp, fun a o e => keep a o (s1.sub a o (s1.fz0 a o e)), s1.tabs.ext keep⟩
    · exact k1.elim
  · exact k1.elim
end
mutual
theorem ps_main : ∀ (s : St) {m : MC} {z : Z} {X : Cx} {k : Nat} {st : Stmt}, PB m z X k → mS s m st = true → PS X st (tS z s)
  | .nop, _, _, _, _, _, _, _ => ⟨fun _ _ _ _ _ _ h => (tS_nop h).elim⟩
  | .asg tg e, m, _, _, _, st, f, h => by
    simp only [mS] at h
    split at h
    · rename_i t v q
      simp only [Bool.and_eq_true, Bool.or_eq_true, Bool.not_eq_true'] at h
      rcases h.2 with (((h2 | h2) | h2) | h2) | h2
      · exact ok_asg f.pf q h.1.1.1 h.1.1.2 (pe_main e f.pf h.1.2) h2.1 h2.2
      · exact ok_asgLc f.pf q h.1.2 h2
      · exact ok_asgLc2 f.pf q h.1.1.1 h.1.1.2 (pe_main e f.pf h.1.2) h2
      · exact ok_asgDc f.pf q h.1.2 h2
      · exact ok_asgLc3 f.pf q h.1.2 h2
    · cases h
  | .par ts es, m, _, _, _, st, f, h => by
    simp only [mS] at h
    split at h
    · rename_i t v q
      split at h
      · rename_i x y a b i j q1 q2
        simp only [Bool.and_eq_true] at h
        exact ok_par f.pf q q1 q2 h.1.1.1 h.1.1.2 h.1.2 (pes_main es f.pf h.2)
      · split at h
        · rename_i x y w a b c i j l q3 q4
          simp only [Bool.and_eq_true] at h
          exact ok_par3 f.pf q q3 q4 h.1.1.1.1.1.1 h.1.1.1.1.1.2 h.1.1.1.1.2 h.1.1.1.2 h.1.1.2 h.1.2 (pes_main es f.pf h.2)
        · split at h
          · rename_i tl vl q5
            simp only [Bool.and_eq_true] at h
            exact ok_parN f.pf q q5 h.1 (pes_main es f.pf h.2)
          · cases h
    · cases h
  | .exp e, _, _, _, _, st, f, h => by
    simp only [mS] at h
    split at h
    · rename_i x q
      simp only [Bool.and_eq_true] at h
      obtain ⟨pos, rfl⟩ := asExpS_eq q
      exact PS.imp (ps_expr (pe_main e f.pf h.2).1 (swaps_no h.1)) fun D σ H q => tS_exp q
    · cases h
  | .iff c a b, _, _, _, _, st, f, h => by
    simp only [mS] at h
    split at h
    · rename_i x p q' q
      simp only [Bool.and_eq_true] at h
      obtain ⟨pos, rfl⟩ := asIf_eq q
      exact PS.imp (ps_if (pe_main c f.pf h.1.1).2.2 (pss_main a f h.1.2) (pss_main b f h.2)) fun D σ H q => tS_iff q
    · cases h
  | .whl c b, _, _, _, _, st, f, h => by
    simp only [mS] at h
    split at h
    · rename_i x p q
      simp only [Bool.and_eq_true] at h
      obtain ⟨pos, rfl⟩ := asWhile_eq q
      exact PS.imp (ps_while f.own (pe_main c f.pf h.1).2.2 (pss_main b f h.2)) fun D σ H q => tS_whl q
    · cases h
  | .for tg it b, _, _, _, _, st, f, h => by
    simp only [mS] at h
    split at h
    · rename_i t i p q
      simp only [Bool.and_eq_true] at h
      obtain ⟨pos, rfl⟩ := asFor_eq q
      exact PS.imp (ps_for f.own f.pf.xf.calm (pi_main it f.pf h.1.2) (pg_main f.pf.xf h.1.1.2) (pss_main b f h.2) (notSet_fold h.1.1.1)) fun D σ H q => tS_for q
    · cases h
  | .ret e, _, _, _, _, st, f, h => by
    simp only [mS] at h
    split at h
    · rename_i x q
      exact ok_ret q (pe_main e f.pf h)
    · cases h
  | .retN, _, _, _, _, st, f, h => by
    simp only [mS] at h
    split at h
    · rename_i q
      obtain ⟨pos, rfl⟩ := asRet_eq q
      exact PS.imp ps_retN fun D σ H q => tS_retN q
    · cases h
  | .cont, _, _, _, _, st, f, h => by
    simp only [mS] at h
    split at h
    · exact PS.imp ps_continue fun D σ H q => tS_cont q
    · cases h
  | .pass, _, _, _, _, st, f, h => by
    simp only [mS] at h
    split at h
    · exact PS.imp ps_pass fun D σ H q => tS_pass q
    · cases h
  | .six i ke e, _, _, _, _, st, f, h => by
    simp only [mS] at h
    split at h
    · rename_i x kx v q
      simp only [Bool.and_eq_true] at h
      exact ok_six f.pf q h.1.1.1.1 h.1.1.1.2 h.1.1.2 (pe_main ke f.pf h.1.2) (pe_main e f.pf h.2)
    · cases h
  | .six2 _ _ _ _, _, _, _, _, _, _, h => by simp only [mS] at h; cases h
  | .aug i e, _, _, _, _, st, f, h => by
    simp only [mS] at h
    split at h
    · rename_i x v q
      simp only [Bool.and_eq_true] at h
      exact ok_aug f.pf q h.1.1 h.1.2 (pe_main e f.pf h.2)
    · cases h
  | .app i e, _, _, _, _, st, f, h => by
    simp only [mS] at h
    split at h
    · rename_i x a q
      simp only [Bool.and_eq_true] at h
      exact ok_app f.pf q h.1.1 h.1.2 (pe_main e f.pf h.2)
    · cases h
  | .upd _ _, _, _, _, _, _, _, h => by simp only [mS] at h; cases h
  | .raise c es, _, _, _, _, st, f, h => by
    simp only [mS] at h
    split at h
    · rename_i x q1 q2
      simp only [Bool.and_eq_true, Bool.not_eq_true', decide_eq_true_eq] at h
      exact ok_raise f.pf q1 q2 h.1.1 h.1.2 h.2
    · cases h
  | .raiseM c e, _, _, _, _, st, f, h => by
    simp only [mS] at h
    split at h
    · rename_i x a q
      simp only [Bool.and_eq_true, Bool.not_eq_true', decide_eq_true_eq] at h
      exact ok_raiseM f q h.1.1.1 h.1.1.2 h.1.2 (pe_main e f.pf h.2).1
    · cases h
theorem pss_main : ∀ (ss : Sts) {m : MC} {z : Z} {X : Cx} {k : Nat} {sts : List Stmt}, PB m z X k → mSs ss m sts = true → PSs X sts (tSs z ss)
  | .n, _, _, _, _, sts, _, h => by
    simp only [mSs] at h
    cases sts with
    | nil => exact PSs.imp pss_nil fun D σ H q => tSs_nil q
    | cons _ _ => cases h
  | .c s r, _, _, _, _, sts, f, h => by
    simp only [mSs] at h
    cases sts with
    | nil => cases h
    | cons x xs =>
      simp only [Bool.and_eq_true] at h
      exact PSs.imp (pss_cons (ps_main s f h.1) (pss_main r f h.2)) fun D σ H q => tSs_cons q
end
end Ev


set_option maxHeartbeats 4000000
namespace Ev
open PySem L2 PyProof.Rows
structure FI where
  x : Str
  st : Stmt
  ps : List Str
  N : List Str
  lam : Bool
def fnC (nm : List (Str × GK)) (fx : Option Str) (i : FI) (fd : FD) : Bool :=
  C8.scC i.N i.ps (C8.fnScope i.st) && decide (fd.params = i.ps.length) && decide (fd.slots = i.N.length) && decide (i.ps.length ≤ i.N.length) && decide (fd.refs.length = fd.params) && mSs fd.body ⟨nm, C8.fnScope i.st, fun _ => true, i.N, i.lam, fx⟩ (C8.fnBody i.st)
structure Wd (P : Program) (C : Cst) (lim : Nat → Option Str) (tb : Tb) (Hb : Hp) (nm : List (Str × GK)) (fx : Option Str) (fi : List FI) (mg : Str → Option Value) (base : Heap) (T : List (Addr × Str)) : Prop where
  fns : ∀ (j : Nat) (i : FI), fi[j]? = some i → ∃ (f : Addr) (fd : FuncData), C.fnA j = some f ∧ (C8.Fun C.K i.x i.x i.st f fd ∧ PySem.W.keepIn C.K (.ref f) = true) ∧ Binds C.K fd i.ps []
  dom : ∀ (j : Nat) (f : Addr), C.fnA j = some f → ∃ i, fi[j]? = some i
  names : ∀ (x : Str) (j : Nat), nm.lookup x = some (.fn j) → ∃ (i : FI) (f : Addr), fi[j]? = some i ∧ C.fnA j = some f ∧ mg x = some (.ref f)
  con : ∀ (x : Str) (c : Nat) (d : D), nm.lookup x = some (.con c) → tb.gls[c]? = some d → ∃ (v : V) (u : Value), mg x = some u ∧ RelV v u ∧ ∀ Hf, Le Hb Hf → Rep C Hf v d
  blt : ∀ x ∈ bltL, mg x = none
  cls : ∀ (x : Str) (c : Nat), nm.lookup x = some (.cls c) → ClsOk C lim C.K mg x c
  clsm : ∀ (x : Str) (c : Nat), nm.lookup x = some (.clsM c) → ClsM C lim P C.w C.K mg base x c
  st : ∀ (j : Nat) (i : FI), fi[j]? = some i → ∃ fd, tb.fns[j]? = some fd ∧ fnC nm fx i fd = true
  lam : ∀ (j : Nat) (i : FI) (f : Addr), fi[j]? = some i → i.lam = true → C.fnA j = some f → ∀ fd, C8.Fun C.K i.x i.x i.st f fd → ∃ c P, fd.code = .ref c ∧ LamX.TabB base mg c P ∧ (P, (i.x ++ ".<locals>.") ++ "<lambda>") ∈ T ∧ ∀ p ∈ T, p.1 = P → p.2 = (i.x ++ ".<locals>.") ++ "<lambda>"
  flt : ∀ x, fx = some x → FltF C lim tb.flt mg x
theorem spF_len {C : Cst} {lim : Nat → Option Str} {T : List (Addr × Str)} {Hb : Hp} {F : CallF} {mm j : Nat} {vs : List V} {H : Hp} {Q : VK} {E : XK} (h : spF C lim T Hb F mm j vs H Q E) : vs.length = mm := h.1
theorem spF_bad {C : Cst} {lim : Nat → Option Str} {T : List (Addr × Str)} {Hb : Hp} {F : CallF} {mm j : Nat} {vs : List V} {H : Hp} {Q : VK} {E : XK} (hF : ∀ ss, ∃ n, F j ss = .bad n) (h : spF C lim T Hb F mm j vs H Q E) : False := by
  obtain ⟨_, IO, Hf, ss, _, _, _, h⟩ := h
  obtain ⟨n, e⟩ := hF ss
  rw [e] at h; exact h
theorem outs_get : ∀ {bs : List Bool} {ρ : Rho} {i : Nat} {sl : Slot}, (outsOf bs ρ)[i]? = some sl → sl = .non ∨ (∃ d, sl = .io d ∧ ρ[i]? = some (.io d))
  | [], ρ, i, sl, h => by cases ρ <;> simp [outsOf] at h
  | b :: bs, [], i, sl, h => by cases b <;> simp [outsOf] at h
  | true :: bs, s :: ss, 0, sl, h => by
    cases s <;> simp [outsOf] at h <;> subst h <;> first | exact .inl rfl | exact .inr ⟨_, rfl, rfl⟩
  | false :: bs, s :: ss, 0, sl, h => by
    simp [outsOf] at h; subst h; exact .inl rfl
  | true :: bs, s :: ss, i + 1, sl, h => by
    have : (outsOf bs ss)[i]? = some sl := by cases s <;> simpa [outsOf] using h
    simpa using outs_get this
  | false :: bs, s :: ss, i + 1, sl, h => by
    have : (outsOf bs ss)[i]? = some sl := by simpa [outsOf] using h
    simpa using outs_get this
theorem outs_len : ∀ {bs : List Bool} {ρ : Rho}, bs.length ≤ ρ.length → (outsOf bs ρ).length = bs.length
  | [], ρ, _ => by cases ρ <;> simp [outsOf]
  | b :: bs, [], h => by simp at h
  | true :: bs, s :: ss, h => by
    have := outs_len (bs := bs) (ρ := ss) (by simpa using h)
    cases s <;> simp [outsOf, this]
  | false :: bs, s :: ss, h => by
    have := outs_len (bs := bs) (ρ := ss) (by simpa using h)
    simp [outsOf, this]
theorem callN_eq {tb : Tb} {n j : Nat} {ss : List Slot} {fx : FD} (hj : tb.fns[j]? = some fx) (hsl : ss.length = fx.params) : callN tb (n + 1) j ss = (evSs tb (callN tb n) fx.body (ss ++ List.replicate (fx.slots - fx.params) .non)).bind fun p => match p.1 with
    | .rt r => .ok (r, outsOf fx.refs p.2)
    | .nx => .ok (.fz .non, outsOf fx.refs p.2)
    | .ct => .bad 60 := by
  unfold callN
  rw [hj]
  simp only [if_pos hsl]
  all_goals
    cases evSs tb (callN tb n) fx.body (ss ++ List.replicate (fx.slots - fx.params) .non) with
    | ok p => obtain ⟨fl, ρ⟩ := p; cases fl <;> rfl
    | _ => rfl
section
variable {C : Cst} {tb : Tb} {Hb : Hp} {nm : List (Str × GK)} {fx : Option Str} {fi : List FI} {mg : Str → Option Value} {lim : Nat → Option Str} {T : List (Addr × Str)} {P : Program} {base : Heap}
theorem fn_all (W : Wd P C lim tb Hb nm fx fi mg base T) : ∀ (n j : Nat) (i : FI), fi[j]? = some i → ∀ (f : Addr) (fd : FuncData), C.fnA j = some f → C8.Fun C.K i.x i.x i.st f fd → FnOk P C.w C.K mg base (L2N.CX P C.w) (3 * n) f fd i.ps (spF C lim T Hb (callN tb n) i.ps.length j)
  | 0, j, i, hi, f, fd, hA, hd => ⟨fun vs H Q E h => spF_len h, fun A outer s H args us vs Q E hr e0 hb hv h => (spF_bad (fun ss => ⟨58, rfl⟩) h).elim⟩
  | n + 1, j, i, hi, f, fd, hA, hd => by
    have hd0 := hd
    obtain ⟨oc, od, dV, kV, doc, pm, an, cdv, ct, osl, rfl, lk, hcd⟩ := hd.ex
    obtain ⟨fx', hj, hc⟩ := W.st j i hi
    unfold fnC at hc
    simp only [Bool.and_eq_true, decide_eq_true_eq] at hc
    obtain ⟨⟨⟨⟨⟨c1, c2⟩, c3⟩, c4⟩, c5⟩, c6⟩ := hc
    have S : FnScope i.N i.ps (C8.fnScope i.st) := C8.fnScope_by c1
    refine FnOk.mono (j := 3 * n + 2 + 1) (fn_of lk hcd S (fun vs H Q E h => spF_len h) fun A outer s H vs Q E hr h => ?_) (by omega)
    refine ⟨tSs ⟨C, tb, callN tb n, lim, Hb, T, E⟩ fx'.body, pss_main fx'.body (k := 3 * n) (m := ⟨nm, C8.fnScope i.st, fun _ => true, i.N, i.lam, fx⟩) ⟨⟨⟨rfl, rfl, rfl, rfl, rfl, rfl, S.nd, W.blt, ?_⟩, hr.mono (by omega), fun _ => hr, fun hl => ?_, W.flt, fun x jj hx => ?_, W.con, ?_, W.cls, W.clsm, fun jj f2 hf2 => ?_⟩, ?_, hr⟩ c6, ?_⟩
    · have := hr.un
      show (A.deeper (envOfC i.x (C8.fnScope i.st) s.heap.objs.size f cdv)).units + 100 < cLine
      omega
    · obtain ⟨c, P, k1, k2⟩ := W.lam j i f hi hl hA _ hd0
      exact ⟨c, P, k2.1, k1, k2.2⟩
    · obtain ⟨i2, f2, h1, h2, h3⟩ := W.names x jj hx
      obtain ⟨f3, fd3, h4, h5, h6⟩ := W.fns jj i2 h1
      rw [h2] at h4; cases h4
      refine ⟨f2, fd3, i2.ps, i2.ps.length, h3, h2, h5.2, fn_all W n jj i2 h1 f2 fd3 (by assumption) h5.1, h6, fun fy hy => ?_⟩
      obtain ⟨fz, hz, hcz⟩ := W.st jj i2 h1
      rw [show tb.fns[jj]? = some fz from hz] at hy
      cases hy
      unfold fnC at hcz
      simp only [Bool.and_eq_true, decide_eq_true_eq] at hcz
      exact hcz.1.1.1.1.2.symm
    · exact L2N.takes_of rfl rfl rfl rfl
    · obtain ⟨i2, h1⟩ := W.dom jj f2 hf2
      obtain ⟨f3, fd3, h4, h5, h6⟩ := W.fns jj i2 h1
      rw [show C.fnA jj = some f2 from hf2] at h4; cases h4
      refine ⟨fd3, i2.ps, i2.ps.length, h5.2, fn_all W n jj i2 h1 f2 fd3 (by assumption) h5.1, h6, fun fy hy => ?_⟩
      obtain ⟨fz, hz, hcz⟩ := W.st jj i2 h1
      rw [show tb.fns[jj]? = some fz from hz] at hy
      cases hy
      unfold fnC at hcz
      simp only [Bool.and_eq_true, decide_eq_true_eq] at hcz
      exact hcz.1.1.1.1.2.symm
    · exact passes_of rfl
    · obtain ⟨hl, IO, Hf, ss, hb, sr, hio, h⟩ := h
      have hsl : ss.length = fx'.params := by
        have := sr.len
        rw [List.length_map] at this
        rw [c2, ← hl, this]
      have srt : SR C ⟨H, IO, Hf, T⟩ (L2.start i.N vs) H Hf (ss ++ List.replicate (fx'.slots - fx'.params) .non) := by
        refine sr.reslot ?_ fun j sl e => ?_
        · unfold L2.start
          have := sr.len
          simp only [List.length_append, List.length_map, List.length_replicate] at this ⊢
          omega
        · by_cases hjl : j < ss.length
          · rw [List.getElem?_append_left hjl] at e
            refine .inr ⟨e, ?_⟩
            unfold L2.start
            rw [List.getElem?_append_left (by rw [sr.len]; exact hjl)]
          · rw [List.getElem?_append_right (by omega)] at e
            have := List.mem_of_getElem? e
            exact .inl (List.eq_of_mem_replicate this)
      refine ⟨⟨H, IO, Hf, T⟩, ⟨hb, rfl⟩, Hf, _, srt, ?_⟩
      rw [callN_eq hj hsl] at h
      revert h
      cases evSs tb (callN tb n) fx'.body (ss ++ List.replicate (fx'.slots - fx'.params) .non) with
      | bad m => exact fun h => h.elim
      | exc c d => exact fun h => h
      | ok p =>
        obtain ⟨fl, ρ'⟩ := p
        have outs : ∀ {σ' : L2.St} {H' Hf' : Hp}, SR C ⟨H, IO, Hf, T⟩ σ' H' Hf' ρ' → σ'.length = (L2.start i.N vs).length → SR C ⟨H, IO, Hf, T⟩ (vs.map some) H' Hf' (outsOf fx'.refs ρ') := fun {σ' H' Hf'} s' n' => by
          have hρ : ρ'.length = i.N.length := by
            rw [← s'.len, n']
            unfold L2.start
            simp only [List.length_append, List.length_map, List.length_replicate]
            omega
          refine s'.reslot ?_ fun j sl e => ?_
          · rw [List.length_map, outs_len (by omega)]; omega
          · rcases outs_get e with q | ⟨d, rfl, q⟩
            · exact .inl q
            · refine .inr ⟨q, ?_⟩
              obtain ⟨a, h1, _, h3⟩ := s'.io j d q
              rw [h1, List.getElem?_map, hio _ h3]; rfl
        cases fl with
        | ct => exact fun h => h.elim
        | nx => exact fun h σ' H' Hf' s' n' l' => h .non H' Hf' (outs s' n') l' .non
        | rt r =>
          intro h σ' H' Hf' s' n' l' v rv
          refine h v H' Hf' (outs s' n') l' ?_
          cases r with
          | fz d => exact rv
          | ow d =>
            obtain ⟨a, e, ho, h0, _⟩ := rv
            refine ⟨a, e, ho, h0, fun j e hj => ?_⟩
            rcases outs_get hj with q | ⟨d, q, _⟩ <;> cases q
end
end Ev


set_option maxHeartbeats 4000000
namespace Ev
open PySem PySem.W PySem.Calls PyProof.Rows He HandSHeadRun
/-- no list stands there -/
def notLst (g : Addr → Option Obj) (a : Addr) : Bool := match g a with
  | some ⟨.type c, _, _, _⟩ => !decide (c = "list")
  | some _ => true
  | none => false
/-- the objects below n, empty tables and lists left out -/
def fragR (n : Nat) (g : Addr → Option Obj) : Frag := frT g ((List.range n).filter (notLst g))
def obsR (n : Nat) (fn : List DefD) (tf : List Defn) (ex : Frag → Bool) (g : Addr → Option Obj) : AlX :=
  let K := fragR n g
  (obsT [] fn [] K, ex K && tabsB g tf K)
theorem saysR {n : Nat} {fn : List DefD} {tf : List Defn} {ex : Frag → Bool} {w : World} {h : Heap} (e : obsR n fn tf ex h.get? = valX fn [] w) : SaysX [] fn [] tf ex w h (fragR n h.get?) := by
  obtain ⟨ea, eb⟩ := Prod.mk.inj e
  rw [Bool.and_eq_true] at eb
  have tab : ∀ p ∈ tf, codeHdIn (fragR n h.get?) (cT (fragR n h.get?) p).1 (cT (fragR n h.get?) p).2 = true ∧ ∃ o, h.get? (cT (fragR n h.get?) p).2 = some o ∧ emptyTab o = true := by
    intro p hp
    have q := List.all_eq_true.mp eb.2 p hp
    rw [Bool.and_eq_true] at q
    refine ⟨q.1, ?_⟩
    revert q
    cases h.get? (cT (fragR n h.get?) p).2 with
    | none => exact fun q => absurd q.2 Bool.false_ne_true
    | some o => exact fun q => ⟨o, rfl, q.2⟩
  constructor
  · exact ea
  · exact eb.1
  · exact fun p hp => (tab p hp).1
  · intro p hp
    obtain ⟨_, o, h1, h2⟩ := tab p hp
    exact frT_none h1 h2
  · intro p hp
    obtain ⟨_, o, h1, h2⟩ := tab p hp
    rw [h1, emptyTab_eq h2]
def hookR (n : Nat) (fn : List DefD) (tf : List Defn) (ex : Frag → Bool) : Hook where
  α := AlX
  obs s := obsR n fn tf ex s.heap.get?
  val w := valX fn [] w
  says w h := ∃ K : Frag, K.In h ∧ SaysX [] fn [] tf ex w h K
  of _ _ e := ⟨_, frT_in, saysR e⟩
  keeps _ _ _ c k := by
    obtain ⟨K, hK, c⟩ := c
    exact ⟨K, Frag.In.keeps hK k, ⟨c.t, c.more, c.hd, c.out, fun p hp => k _ _ (c.empty p hp)⟩⟩
theorem obsR_eq {n : Nat} {fn : List DefD} {tf : List Defn} {ex : Frag → Bool} {g : Addr → Option Obj} {s : Shared} (h : ∀ a, g a = s.heap.get? a) : obsR n fn tf ex g = (hookR n fn tf ex).obs s := by
  cases funext h
  rfl
/-- three looks make one -/
theorem run3 {r : OpenRow} {q : Program} {H : Hook} {ob : SharedT → H.α} {M : Nat} {loose : List PySem.Str} {w : World}
    (h1 : ∀ os : OsState, ((endF (stepQ (denQ tabQ) r.prog w) M r.prog w os).map fun s => looksF r.prog (boot_heap w.params) s.abs) = some true)
    (h2 : ∀ os : OsState, ((endF (stepQ (denQ tabQ) r.prog w) M r.prog w os).map fun s => HandSHeadRun.seenQ q loose (importedModules r.prog.main.body) (fun s => xlAt q [] s && recOk r.toRowW.records s) s.abs) = some (openGood q loose))
    (h3 : ∀ os : OsState, ((endF (stepQ (denQ tabQ) r.prog w) M r.prog w os).map fun s => ob s) = some (H.val w)) : RunEq r q H ob M loose w := by
  intro os
  have a := h1 os
  have b := h2 os
  have c := h3 os
  revert a b c
  cases endF (stepQ (denQ tabQ) r.prog w) M r.prog w os with
  | none => exact fun a _ _ => absurd a (by simp)
  | some s =>
    intro a b c
    simp only [Option.map_some, Option.some.injEq] at a b c ⊢
    rw [a, b, c]
end Ev


set_option maxHeartbeats 4000000
namespace Ev
open PySem PySem.Spec L2 PyProof.Rows
def plainPs : Arguments → Option (List Str)
  | ⟨[], as, none, [], [], none, []⟩ => some (as.map (·.arg))
  | _ => none
theorem lookup_zip {ps : List Str} {us : List Value} : ∀ {x : Str}, us.length = ps.length → x ∈ ps → ∃ u, (ps.zip us).lookup x = some u := by
  induction ps generalizing us with
  | nil => intro x _ h; simp at h
  | cons p ps ih =>
    intro x hl hx
    cases us with
    | nil => simp at hl
    | cons u us =>
      rw [List.zip_cons_cons, List.lookup_cons]
      cases q : x == p with
      | true => exact ⟨u, rfl⟩
      | false =>
        refine ih (by simpa using hl) ?_
        rcases List.mem_cons.mp hx with r | r
        · subst r; simp at q
        · exact r
theorem filterMap_zip {ps : List Str} {us : List Value} (hn : ps.Nodup) (hl : us.length = ps.length) : ps.filterMap (fun n => ((ps.zip us).lookup n).map (n, ·)) = ps.zip us := by
  have key : ∀ (ps : List Str) (us : List Value) (f : Str → Option Value), us.length = ps.length → (∀ (i : Nat) (p : Str) (u : Value), ps[i]? = some p → us[i]? = some u → f p = some u) → ps.filterMap (fun n => (f n).map (n, ·)) = ps.zip us := by
    intro ps
    induction ps with
    | nil => intro us f _ _; simp
    | cons p ps ih =>
      intro us f hl h
      cases us with
      | nil => simp at hl
      | cons u us =>
        rw [List.filterMap_cons, h 0 p u rfl rfl]
        simp only [Option.map_some, List.zip_cons_cons]
        congr 1
        exact ih us f (by simpa using hl) fun i p' u' h1 h2 => h (i + 1) p' u' (by simpa using h1) (by simpa using h2)
  refine key ps us _ hl fun i p u h1 h2 => ?_
  clear key
  induction ps generalizing us i with
  | nil => simp at h1
  | cons q ps ih =>
    cases us with
    | nil => simp at h2
    | cons v us =>
      rw [List.zip_cons_cons, List.lookup_cons]
      rw [List.nodup_cons] at hn
      cases i with
      | zero =>
        simp at h1 h2
        subst h1 h2
        simp
      | succ i =>
        have h1' : ps[i]? = some p := by simpa using h1
        have hne : (p == q) = false := by
          refine beq_eq_false_iff_ne.mpr fun e => hn.1 ?_
          rw [← e]; exact List.mem_of_getElem? h1'
        rw [hne]
        exact ih hn.2 (by simpa using hl) i h1' (by simpa using h2)
theorem bind_plain {x qual : Str} {params : Arguments} {body : List Stmt} {scope : Scope} {ps : List Str} (h : plainPs params = some ps) (hn : ps.Nodup) (kV doc pm : Value) (an : Option Addr) (cdv ct : Value) (us : List Value) (hl : us.length = ps.length) :
    bindArgs (PySem.W.fnOf x qual params body scope .none kV doc pm an cdv ct) ⟨us, []⟩ = pure (ps.zip us) := by
  unfold plainPs at h
  split at h
  · rename_i as
    have hps : as.map (·.arg) = ps := Option.some.inj h
    have e1 : seqItems? (PySem.W.fnOf x qual ⟨[], as, none, [], [], none, []⟩ body scope .none kV doc pm an cdv ct).defaults = pure none := rfl
    have hmiss : (ps.filter fun n => ((ps.zip us).lookup n).isNone) = [] := by
      refine List.filter_eq_nil_iff.mpr fun n hm => ?_
      obtain ⟨u, e⟩ := lookup_zip hl hm
      rw [e]; simp
    have hfm := filterMap_zip hn hl
    unfold bindArgs
    rw [e1]
    simp [PySem.W.fnOf, hps, hl, hmiss, hfm]
  · cases h
mutual
def repB (K : PySem.W.Frag) : D → Value → Bool
  | .non, .none => true
  | .bl b, .bool c => b == c
  | .int i, .int j _ => decide (i = j)
  | .str l, .str y _ => (y.cps.toList == l) && decide (l.length ≤ szL)
  | .tup ds, .ref a => match K.lookup a with
    | some ⟨.type c, _, .seq its _, _⟩ => decide (c = "tuple") && (decide (its.size ≤ sizeLine) && repBs K ds its.toList)
    | _ => false
  | _, _ => false
def repBs (K : PySem.W.Frag) : List D → List Value → Bool
  | [], [] => true
  | d :: ds, u :: us => repB K d u && repBs K ds us
  | _, _ => false
end
mutual
theorem repB_ok {C : Cst} {Hf : Hp} : ∀ {d : D} {u : Value}, repB C.K d u = true → ∃ v, RelV v u ∧ Rep C Hf v d
  | .non, u, h => by
    cases u <;> simp only [repB] at h <;> first | exact ⟨.non, rfl, .non⟩ | cases h
  | .bl b, u, h => by
    cases u <;> simp only [repB] at h <;> first | cases h; done | skip
    have := beq_iff_eq.mp h
    subst this
    exact ⟨.bl b, rfl, .bl b⟩
  | .int i, u, h => by
    cases u <;> simp only [repB] at h <;> first | cases h; done | skip
    have := of_decide_eq_true h
    subst this
    exact ⟨.int i, ⟨_, rfl⟩, .int i⟩
  | .str l, u, h => by
    cases u <;> simp only [repB] at h <;> first | cases h; done | skip
    rename_i y t
    simp only [Bool.and_eq_true, decide_eq_true_eq] at h
    have e : Sx l = y := by
      have := beq_iff_eq.mp h.1
      unfold Sx
      rw [← this]
    exact ⟨.str (Sx l), ⟨t, by rw [e]⟩, .str h.2⟩
  | .tup ds, u, h => by
    cases u <;> simp only [repB] at h <;> first | cases h; done | skip
    rename_i a
    split at h
    · rename_i c od its n sl hk
      simp only [Bool.and_eq_true, decide_eq_true_eq] at h
      obtain ⟨h1, h2, h3⟩ := h
      obtain ⟨vs, r1, r2⟩ := repBs_ok (Hf := Hf) h3
      exact ⟨.ref a, rfl, .tup (.inr ⟨_, its, n, hk, congrArg Value.type h1, rfl, h2, r1⟩) r2⟩
    · cases h
  | .lst _, u, h => by cases u <;> (simp only [repB] at h; cases h)
  | .dic _, u, h => by cases u <;> (simp only [repB] at h; cases h)
  | .fn _, u, h => by cases u <;> (simp only [repB] at h; cases h)
  | .cls _, u, h => by cases u <;> (simp only [repB] at h; cases h)
  | .exc _ _, u, h => by cases u <;> (simp only [repB] at h; cases h)
theorem repBs_ok {C : Cst} {Hf : Hp} : ∀ {ds : List D} {us : List Value}, repBs C.K ds us = true → ∃ vs, Vals vs us ∧ Reps C Hf vs ds
  | [], [], _ => ⟨[], .nil, .nil⟩
  | [], _ :: _, h => by simp only [repBs] at h; cases h
  | _ :: _, [], h => by simp only [repBs] at h; cases h
  | d :: ds, u :: us, h => by
    simp only [repBs, Bool.and_eq_true] at h
    obtain ⟨v, r1, r2⟩ := repB_ok (Hf := Hf) h.1
    obtain ⟨vs, q1, q2⟩ := repBs_ok (Hf := Hf) h.2
    exact ⟨v :: vs, .cons r1 q1, .cons r2 q2⟩
end
end Ev


set_option maxHeartbeats 4000000
namespace Ev
open PySem PySem.Spec L2 PyProof.Rows
/-- a law's program: its functions, constants, names, live names, classes, the functions that make lambdas -/
structure Md where
  fi : List FI
  tb : Tb
  nm : List (Str × GK)
  fx : Option Str
  al : List Str
  cs : List Str
  tl : List Nat
  file : Str
def kC (M : Md) (w : World) (K : PySem.W.Frag) : Cst := ⟨w, K, fun j => (M.al[j]?).map (He.ga K), fun c => (M.cs[c]?).map (He.ga K)⟩
/-- the classes whose errors bear a number -/
def limOf (M : Md) (c : Nat) : Option Str := if M.nm.any (fun p => decide (p.2 = .clsM c)) then some "limit" else none
/-- what is asked of the text that is run -/
def progB (M : Md) (P : Program) : Bool := decide (P.main.file = M.file) && !(P.main.scope.names.lookup ("super" : Str)).isSome
def fnD (i : FI) (a : Str) : He.DefD := ⟨(a, none), i.x, i.x, C8.fnArgs i.st, C8.fnBody i.st, C8.fnScope i.st, [], []⟩
def Md.fn (M : Md) : List He.DefD := (M.fi.zip M.al).map fun p => fnD p.1 p.2
def Md.nmOf (M : Md) (j : Nat) : He.Defn := (M.al.getD j "", none)
def Md.tf (M : Md) : List He.Defn := M.tl.map M.nmOf
def lamQ (M : Md) (j : Nat) : Str := match M.fi[j]? with | some i => (i.x ++ ".<locals>.") ++ "<lambda>" | none => ""
def Md.T (M : Md) (K : PySem.W.Frag) : List (Addr × Str) := M.tl.map fun j => ((He.cT K (M.nmOf j)).2, lamQ M j)
def stB (M : Md) : Bool := decide (M.al.length = M.fi.length) && (List.range M.fi.length).all fun j => match M.fi[j]?, M.tb.fns[j]? with
  | some i, some fd => fnC M.nm M.fx i fd && decide (plainPs (C8.fnArgs i.st) = some i.ps) && (!i.lam || M.tl.contains j)
  | _, _ => false
def excCB (K : PySem.W.Frag) (D : Addr) : Bool := decide (PySem.W.findIn K (.ref D) "__getattribute__" = some (some (.builtin "BaseException.__getattribute__"))) && (decide (PySem.W.findIn K (.ref D) "__getattr__" = some none) && (decide (PySem.W.subIn K (.ref D) (.type "BaseException") = some true) && (PySem.W.hasDictIn K D &&
  (decide (PySem.W.findIn K (.ref D) "__class__" = some (some (.builtin "object.__class__"))) && (decide (PySem.W.specialIn K (.builtin "object.__class__") "__get__" = some (some (.builtin "getset_descriptor.__get__"))) && (decide (PySem.W.takesIn K (.builtin "object.__class__") = some true) && decide (PySem.W.mroIn K D (.type "object") = some true)))))))
theorem excCB_ok {K : PySem.W.Frag} {D : Addr} (h : excCB K D = true) : ExcC K D := by
  unfold excCB at h
  simp only [Bool.and_eq_true, decide_eq_true_eq] at h
  obtain ⟨h1, h2, h3, h4, h5, h6, h7, h8⟩ := h
  exact ⟨h1, h2, h3, h4, h5, h6, h7, h8⟩
def marksB (K : PySem.W.Frag) (D : Addr) : List Str → Option (List Bool)
  | [] => some []
  | c :: r => if (He.Fa.glo c).ok K then (match PySem.W.kitOne K (.ref D) (.ref (He.ga K c)), marksB K D r with
    | some b, some bs => some (b :: bs)
    | _, _ => none) else none
theorem marksB_ok {K : PySem.W.Frag} {h : Heap} {mg : Str → Option Value} (X : K.In h) (G : h.Ns mainGlobals mg) {D : Addr} : ∀ {cs : List Str} {bs : List Bool}, marksB K D cs = some bs → MarksOk K mg D cs bs
  | [], bs, e => by simp only [marksB] at e; cases e; exact .nil
  | c :: r, bs, e => by
    simp only [marksB] at e
    split at e
    · rename_i hg
      split at e
      · rename_i b bs' h1 h2
        cases e
        exact .cons (He.glo_ok X G hg) h1 (marksB_ok X G h2)
      · cases e
    · cases e
def clsFB (K : PySem.W.Frag) (f : FS) (D : Addr) (w : Str) : Bool := excCB K D && match marksB K D f.m1, marksB K D (f.m2.getD []), PySem.W.kitOne K (.ref D) (.type "ValueError") with
  | some b1, some b2, some bv => decide ((b1 ++ b2).length = (Txt.split f.ws " ").length) && decide (w = wordF (Txt.split f.ws " ") (b1 ++ b2) bv f.other)
  | _, _, _ => false
theorem clsFB_ok {K : PySem.W.Frag} {h : Heap} {mg : Str → Option Value} (X : K.In h) (G : h.Ns mainGlobals mg) {f : FS} {D : Addr} {w : Str} (e : clsFB K f D w = true) : ClsF K mg f D w := by
  unfold clsFB at e
  rw [Bool.and_eq_true] at e
  obtain ⟨e1, e2⟩ := e
  split at e2
  · rename_i b1 b2 bv h1 h2 h3
    simp only [Bool.and_eq_true, decide_eq_true_eq] at e2
    exact ⟨excCB_ok e1, b1, b2, bv, marksB_ok X G h1, marksB_ok X G h2, h3, e2.1, e2.2⟩
  · cases e2
def supSt : List Stmt → Bool
  | [.Expr (.Call (.Attribute (.Call (.Name a _) [] [] _) b p3) [.BinOp (.Constant (.str m) _ _) .Add (.Call (.Name c _) [.Name d _] [] _) _] [] p9) _, .Assign [.Attribute (.Name e _) f _] (.Name g _) _] =>
    decide (a = "super") && (decide (b = "__init__") && (decide (c = "str") && (decide (d = "limit") && (decide (e = "self") && (decide (f = "limit") && (decide (g = "limit") && ((p3.endLine == p9.line) && decide (m.length ≤ 1000))))))))
  | _ => false
theorem supSt_eq {b : List Stmt} (h : supSt b = true) : ∃ (m : Str) (j : Nat) (p1 p2 p3 p4 p5 p6 p7 p8 p9 p10 p11 p12 p13 p14 : Pos), b = [.Expr (.Call (.Attribute (.Call (.Name "super" p1) [] [] p2) "__init__" p3) [.BinOp (.Constant (.str m) j p4) .Add (.Call (.Name "str" p5) [.Name "limit" p6] [] p7) p8] [] p9) p10, .Assign [.Attribute (.Name "self" p11) "limit" p12] (.Name "limit" p13) p14] ∧ (p3.endLine == p9.line) = true ∧ m.length ≤ 1000 := by
  unfold supSt at h
  split at h
  · simp only [Bool.and_eq_true, decide_eq_true_eq] at h
    obtain ⟨rfl, rfl, rfl, rfl, rfl, rfl, rfl, h8, h9⟩ := h
    exact ⟨_, _, _, _, _, _, _, _, _, _, _, _, _, _, _, _, rfl, h8, h9⟩
  · cases h
def supScB (sc : Scope) : Bool := decide (sc.kind = .function) && (!sc.isCoroutine && (!sc.isGenerator && (decide (sc.names.lookup ("self" : Str) = some .local) && (decide (sc.names.lookup ("limit" : Str) = some .local) && (decide (sc.names.lookup ("__class__" : Str) = some .free) && (decide (sc.names.lookup ("super" : Str) = some .globalImplicit) && (decide (sc.names.lookup ("str" : Str) = some .globalImplicit) &&
  (sc.names.all (fun y => !decide (y.2 = .cell)) && sc.names.all (fun y => !decide (y.2 = .free) || decide (y.1 = ("__class__" : Str)))))))))))
theorem supScB_ok {sc : Scope} (h : supScB sc = true) : SupS sc := by
  unfold supScB at h
  simp only [Bool.and_eq_true, Bool.or_eq_true, Bool.not_eq_true', decide_eq_true_eq, List.all_eq_true, decide_eq_false_iff_not] at h
  obtain ⟨h1, h2, h3, h4, h5, h6, h7, h8, h9, h10⟩ := h
  exact ⟨h1, h2, h3, h4, h5, h6, h7, h8, fun y hy => h9 y hy, fun y hy e => (h10 y hy).resolve_left fun q => q e⟩
def supClB (K : PySem.W.Frag) (C : Addr) : Bool := match K.lookup C with
  | some ⟨.type ty, _, .cls cd, sl⟩ => decide (ty = "type") && (!cd.hasDel && (cd.hasDict && (match cd.mro, sl.toList with
    | v :: bm, [_, _, _, _, some (.builtin n), _] => decide (v = .ref C) && (decide (n = "ValueError.__new__") && PySem.HandSPX.refsVE bm)
    | _, _ => false)))
  | _ => false
theorem supClB_ok {K : PySem.W.Frag} {C : Addr} (h : supClB K C = true) : ∃ nm q N bs bm sn sub ab col dd k0 k1 k2 k3 k5, K.lookup C = some (excClassObj nm q C N bs bm true sn sub ab col dd k0 k1 k2 k3 k5 "ValueError.__new__") ∧ PySem.HandSPX.refsVE bm = true := by
  unfold supClB at h
  split at h
  · rename_i ty dd cd sl hk
    simp only [Bool.and_eq_true, Bool.not_eq_true', decide_eq_true_eq] at h
    obtain ⟨h1, h2, h3, h4⟩ := h
    split at h4
    · rename_i v bm k0 k1 k2 k3 n k5 hm hs
      simp only [Bool.and_eq_true, decide_eq_true_eq] at h4
      obtain ⟨h5, h6, h7⟩ := h4
      obtain ⟨nm, bs, mro, N, q, hd, sn, sub, ab, col, del⟩ := cd
      dsimp only at h2 h3 hm
      subst h1 h2 h3 hm h5 h6
      have hsl : sl = #[k0, k1, k2, k3, some (.builtin "ValueError.__new__"), k5] := by
        apply Array.ext'
        rw [hs]
      subst hsl
      exact ⟨nm, q, N, bs, bm, sn, sub, ab, col, dd, k0, k1, k2, k3, k5, hk, h7⟩
    · cases h4
  · cases h
def fileB (M : Md) (K : PySem.W.Frag) (cda : Addr) : Bool := match K.lookup cda with
  | some ⟨_, _, .fields vs, _⟩ => (match (vs[2]? : Option Value) with
    | some (.str file _) => decide (M.file = file)
    | _ => false)
  | _ => false
def cellB (K : PySem.W.Frag) (cc C : Addr) : Bool := match K.lookup cc with
  | some ⟨_, _, .cell (some (.ref D)), _⟩ => decide (D = C)
  | _ => false
def supFnB (M : Md) (K : PySem.W.Frag) (C fI : Addr) : Bool := match K.lookup fI with
  | some ⟨_, _, .func fd, _⟩ => decide (fd.globals = mainGlobals) && (decide (fd.builtins = builtinsNs) && (decide (plainPs fd.params = some (["self", "limit"] : List Str)) && (decide (fd.defaults = .none) && (supScB fd.scope && (match fd.closure, fd.body, fd.code with
    | [(n, cc)], .stmts b, .ref cda => decide (n = "__class__") && (supSt b && (PySem.W.codeIn K (.ref cda) fd.qualname && (cellB K cc C && fileB M K cda)))
    | _, _, _ => false)))))
  | _ => false
def supB (M : Md) (K : PySem.W.Frag) (x : Str) : Bool :=
  let C := He.ga K x
  let fI := He.ma K C "__init__"
  (He.Fa.glo x).ok K && (supClB K C && (decide (PySem.W.findIn K (.ref C) "__setattr__" = some (some (.builtin "object.__setattr__"))) && (decide (PySem.W.subIn K (.ref C) (.type "BaseException") = some true) && (decide (PySem.W.typeIn K (.ref C) = some (.type "type")) && (PySem.W.keepIn K (.ref C) &&
  (decide (PySem.W.findIn K (.ref C) "__init__" = some (some (.ref fI))) && (decide (PySem.W.typeIn K (.ref fI) = some (.type "function")) && (supFnB M K C fI &&
  (decide (PySem.W.ks_superIn K C C "__init__" = some (some (.builtin "ValueError.__init__"))) && (decide (PySem.W.mroIn K C (.ref C) = some true) && (decide (PySem.W.subIn K (.ref C) (.type "ValueError") = some true) && (decide (PySem.W.nsIn K PySem.cStatics "thirdparty.any" = some none) && (decide (PySem.W.findIn K (.ref C) "limit" = some none) && (He.Fa.free "super").ok K)))))))))))))
theorem bind_sup {x qual : Str} {params : Arguments} {body : List Stmt} {scope : Scope} {cc : Addr} {ps : List Str} (h : plainPs params = some ps) (hn : ps.Nodup) (kV doc pm : Value) (an : Option Addr) (cdv ct : Value) (us : List Value) (hl : us.length = ps.length) :
    bindArgs (PySem.W.ksFn x qual params body scope .none kV doc pm an cdv ct cc) ⟨us, []⟩ = pure (ps.zip us) := by
  unfold plainPs at h
  split at h
  · rename_i as
    have hps : as.map (·.arg) = ps := Option.some.inj h
    have e1 : seqItems? (PySem.W.ksFn x qual ⟨[], as, none, [], [], none, []⟩ body scope .none kV doc pm an cdv ct cc).defaults = pure none := rfl
    have hmiss : (ps.filter fun n => ((ps.zip us).lookup n).isNone) = [] := by
      refine List.filter_eq_nil_iff.mpr fun n hm => ?_
      obtain ⟨u, e⟩ := lookup_zip hl hm
      rw [e]; simp
    have hfm := filterMap_zip hn hl
    unfold bindArgs
    rw [e1]
    simp [PySem.W.ksFn, PySem.W.fnX, hps, hl, hmiss, hfm]
  · cases h
theorem supFnB_ok {M : Md} {P : Program} {w : World} {K : PySem.W.Frag} {mg : Str → Option Value} {base : Heap} {CX : CXT} {k : Nat} {C fI : Addr} (hP : progB M P = true) (F : SupF P K mg C) (h : supFnB M K C fI = true) :
    ∃ fd, Binds K fd ["self", "limit"] [] ∧ FnOk P w K mg base CX (k + 1) fI fd ["self", "limit"] (spSup C) := by
  unfold supFnB at h
  split at h
  · rename_i oc od fd osl hk
    simp only [Bool.and_eq_true, decide_eq_true_eq] at h
    obtain ⟨h1, h2, h3, h4, h5, h6⟩ := h
    obtain ⟨name, qual, params, body, scope, gl, clo, dV, kV, doc, pm, an, code, ct, bl⟩ := fd
    dsimp only at h1 h2 h3 h4 h5 h6
    split at h6
    · rename_i n cc b cda
      simp only [Bool.and_eq_true, decide_eq_true_eq] at h6
      obtain ⟨rfl, h7, h8, h9, h10⟩ := h6
      subst h1 h2 h4
      obtain ⟨m, j, p1, p2, p3, p4, p5, p6, p7, p8, p9, p10, p11, p12, p13, p14, rfl, hline, hm⟩ := supSt_eq h7
      unfold cellB at h9
      split at h9
      · rename_i cl cld D csl hcc
        have hD := of_decide_eq_true h9
        subst hD
        unfold fileB at h10
        split at h10
        · rename_i ccl cdd vs ccs hcda
          split at h10
          · rename_i file tf hvs
            have hfile := of_decide_eq_true h10
            obtain ⟨ar, har1, har2⟩ : ∃ ar : Arg, (params.posonlyargs ++ params.args).head? = some ar ∧ ar.arg = "self" := by
              revert h3
              unfold plainPs
              split
              · rename_i as
                intro e
                have e := Option.some.inj e
                cases as with
                | nil => cases e
                | cons a r =>
                  rw [List.map_cons] at e
                  exact ⟨a, rfl, (List.cons.inj e).1⟩
              · intro e; cases e
            unfold progB at hP
            simp only [Bool.and_eq_true, decide_eq_true_eq, Bool.not_eq_true'] at hP
            exact ⟨_, Binds.all (fun us hl => bind_sup h3 (by decide) kV doc pm an (.ref cda) ct us hl), fnok_sup (supScB_ok h5) F hk h8 hcda hvs (by rw [hP.1, hfile]; exact beq_self_eq_true _) hcc har1 har2 hline hm⟩
          · cases h10
        · cases h10
      · cases h9
    · cases h6
  · cases h
theorem supB_ok {M : Md} {P : Program} {w : World} {K : PySem.W.Frag} {h : Heap} {mg : Str → Option Value} {base : Heap} {x : Str} (hP : progB M P = true) (X : K.In h) (G : h.Ns mainGlobals mg) (ms : mg "str" = none) (e : supB M K x = true) :
    mg x = some (.ref (He.ga K x)) ∧ OexC K (He.ga K x) ∧ ∃ (fI : Addr) (fd : FuncData), PySem.W.findIn K (.ref (He.ga K x)) "__init__" = some (some (.ref fI)) ∧ PySem.W.typeIn K (.ref fI) = some (.type "function") ∧ Binds K fd ["self", "limit"] [] ∧ FnOk P w K mg base (L2N.CX P w) 1 fI fd ["self", "limit"] (spSup (He.ga K x)) := by
  unfold supB at e
  simp only [Bool.and_eq_true, decide_eq_true_eq] at e
  obtain ⟨e1, e2, e3, e4, e5, e6, e7, e8, e9, e10, e11, e12, e13, e14, e15⟩ := e
  have T : OexC K (He.ga K x) := ⟨supClB_ok e2, e3, e4, e5, e6⟩
  have F : SupF P K mg (He.ga K x) := ⟨T, e10, e11, e12, e13, e14, He.free_ok X G e15, ms, by
    unfold progB at hP
    simp only [Bool.and_eq_true, decide_eq_true_eq, Bool.not_eq_true'] at hP
    exact hP.2⟩
  obtain ⟨fd, b, f⟩ := supFnB_ok (w := w) (base := base) (CX := L2N.CX P w) (k := 0) hP F e9
  exact ⟨He.glo_ok X G e1, T, _, fd, e7, e8, b, f⟩
def wordB (K : PySem.W.Frag) (M : Md) (f : FS) (p : Nat × FW) : Bool := match p.2 with
  | .word w => decide (w.length ≤ szL) && (decide (limOf M p.1 = none) && (match M.cs[p.1]? with
    | some cn => decide (PySem.W.exmOne K (.ref (He.ga K cn)) (.ref (He.ga K f.err)) = some true) && clsFB K f (He.ga K cn) (Sx w)
    | none => false))
  | .many _ => false
/-- .. where one clause is for errors that bear a number -/
def word2B (K : PySem.W.Frag) (M : Md) (f : F2) (p : Nat × FW) : Bool := match p.2 with
  | .word w => decide (w.length ≤ szL) && (decide (limOf M p.1 = none) && (match M.cs[p.1]? with
    | some cn => decide (PySem.W.exmOne K (.ref (He.ga K cn)) (.ref (He.ga K f.err)) = some false) && (decide (PySem.W.exmOne K (.ref (He.ga K cn)) (.ref (He.ga K f.fs.err)) = some true) && clsFB K f.fs (He.ga K cn) (Sx w))
    | none => false))
  | .many w => decide (w.length ≤ 1000) && (decide (limOf M p.1 = some "limit") && (decide (f.w = Sx w) && (match M.cs[p.1]? with
    | some cn => decide (PySem.W.exmOne K (.ref (He.ga K cn)) (.ref (He.ga K f.err)) = some true) && (xfB K (He.ga K cn) && decide (PySem.W.findIn K (.ref (He.ga K cn)) "limit" = some none))
    | none => false)))
def fltB (M : Md) (K : PySem.W.Frag) : Bool := match M.fx with
  | none => true
  | some x => (match M.nm.lookup x with
    | some (.fn j) => (match M.fi[j]? with
      | some i => decide (i.x = x) && decide (i.ps = [("call" : Str)]) && (loB (C8.fnScope i.st) "call" && (C8.scC Ng ["call"] (C8.fnScope i.st) && (match asFault (C8.fnScope i.st) (C8.fnBody i.st) with
        | some f => (He.Fa.glo f.err).ok K && (decide ((Txt.split f.ws " ").length ≤ 1000) && M.tb.flt.all (wordB K M f))
        | none => (match asFault2 (C8.fnScope i.st) (C8.fnBody i.st) with
          | some f => (He.Fa.glo f.fs.err).ok K && ((He.Fa.glo f.err).ok K && (decide ((Txt.split f.fs.ws " ").length ≤ 1000) && M.tb.flt.all (word2B K M f)))
          | none => false))))
      | none => false)
    | _ => false)
def nameB (M : Md) (K : PySem.W.Frag) (p : Str × GK) : Bool := match p.2 with
  | .fn j => (match M.al[j]?, M.fi[j]? with
    | some a, some _ => decide (PySem.W.nsIn K mainGlobals p.1 = some (some (.ref (He.ga K a))))
    | _, _ => false)
  | .con c => (match M.tb.gls[c]? with
    | some d => (match PySem.W.nsIn K mainGlobals p.1 with
      | some (some u) => repB K d u
      | _ => false)
    | none => true)
  | .cls c => decide (M.cs[c]? = some p.1) && (decide (limOf M c = none) && ((He.Fa.glo p.1).ok K && (He.Fa.exc p.1).ok K))
  | .clsM c => decide (M.cs[c]? = some p.1) && (decide (limOf M c = some "limit") && supB M K p.1)
def noListB (K : PySem.W.Frag) : Bool := K.all fun q => match q.2.cls with
  | .type c => !decide (c = "list")
  | _ => true
def tabsB (M : Md) (K : PySem.W.Frag) : Bool := decide ((M.tl.map fun j => (He.cT K (M.nmOf j)).2).Nodup)
def exB (M : Md) (K : PySem.W.Frag) : Bool := M.nm.all (nameB M K) && ((("ValueError" : Str) :: bltL).all (fun x => (He.Fa.free x).ok K) && (noListB K && (fltB M K && tabsB M K)))
theorem lookup_mem' {α β : Type} [BEq α] [LawfulBEq α] {x : α} {y : β} : ∀ {l : List (α × β)}, l.lookup x = some y → (x, y) ∈ l
  | [], h => by simp at h
  | (a, b) :: r, h => by
    rw [List.lookup_cons] at h
    cases q : x == a with
    | true =>
      rw [q] at h
      have := beq_iff_eq.mp q
      cases h; subst this; exact List.mem_cons_self
    | false => rw [q] at h; exact List.mem_cons_of_mem _ (lookup_mem' h)
theorem nodup_map_inj {α β : Type} {f : α → β} : ∀ {l : List α}, (l.map f).Nodup → ∀ a ∈ l, ∀ b ∈ l, f a = f b → a = b
  | [], _, a, ha, _, _, _ => by simp at ha
  | x :: l, h, a, ha, b, hb, e => by
    rw [List.map_cons, List.nodup_cons] at h
    rcases List.mem_cons.mp ha with q | q
    · rcases List.mem_cons.mp hb with r | r
      · rw [q, r]
      · subst q; exact absurd (e ▸ List.mem_map_of_mem r) h.1
    · rcases List.mem_cons.mp hb with r | r
      · subst r; exact absurd (e ▸ List.mem_map_of_mem q) h.1
      · exact nodup_map_inj h.2 a q b r e
section
variable {M : Md} {w : World} {K : PySem.W.Frag} {h : Heap} {mg : Str → Option Value} {fa : List He.Fa}
theorem st_of (hs : stB M = true) : M.al.length = M.fi.length ∧ ∀ (j : Nat) (i : FI), M.fi[j]? = some i → ∃ fd, M.tb.fns[j]? = some fd ∧ fnC M.nm M.fx i fd = true ∧ plainPs (C8.fnArgs i.st) = some i.ps ∧ (i.lam = true → j ∈ M.tl) := by
  unfold stB at hs
  simp only [Bool.and_eq_true, decide_eq_true_eq, List.all_eq_true] at hs
  refine ⟨hs.1, fun j i hi => ?_⟩
  have := hs.2 j (List.mem_range.mpr (List.getElem?_eq_some_iff.mp hi).1)
  rw [hi] at this
  split at this
  · rename_i i' fd e1 e2
    cases e1
    simp only [Bool.and_eq_true, Bool.or_eq_true, Bool.not_eq_true', decide_eq_true_eq] at this
    refine ⟨fd, e2, this.1.1, this.1.2, fun hl => ?_⟩
    rcases this.2 with q | q
    · rw [hl] at q; cases q
    · simpa using q
  · cases this
theorem fn_get (hs : stB M = true) {j : Nat} {i : FI} (hi : M.fi[j]? = some i) : ∃ a, M.al[j]? = some a ∧ M.fn[j]? = some (fnD i a) := by
  obtain ⟨hl, _⟩ := st_of hs
  have hj : j < M.al.length := by rw [hl]; exact (List.getElem?_eq_some_iff.mp hi).1
  refine ⟨M.al[j], List.getElem?_eq_getElem hj, ?_⟩
  unfold Md.fn
  rw [List.getElem?_map, List.getElem?_zip_eq_some (z := (i, M.al[j])) |>.mpr ⟨hi, List.getElem?_eq_getElem hj⟩]
  rfl
theorem ps_nodup (hs : stB M = true) {j : Nat} {i : FI} (hi : M.fi[j]? = some i) : i.ps.Nodup := by
  obtain ⟨_, h⟩ := st_of hs
  obtain ⟨fd, _, hc, _⟩ := h j i hi
  unfold fnC at hc
  simp only [Bool.and_eq_true, decide_eq_true_eq] at hc
  have S := C8.fnScope_by hc.1.1.1.1.1
  rw [← S.pre]
  exact S.nd.sublist (List.take_sublist _ _)
theorem fun_of (hs : stB M = true) (c : He.SaysD fa M.fn K) {j : Nat} {i : FI} (hi : M.fi[j]? = some i) : ∃ (a : Str) (fd : FuncData), M.al[j]? = some a ∧ FunD K i.x i.x (C8.fnArgs i.st) (C8.fnBody i.st) (C8.fnScope i.st) [] [] (He.ga K a) fd ∧ C8.Fun K i.x i.x i.st (He.ga K a) fd := by
  obtain ⟨a, h1, h2⟩ := fn_get hs hi
  obtain ⟨fd, F⟩ := c.def_ j h2
  refine ⟨a, fd, h1, F, ?_⟩
  obtain ⟨oc, od, dV, kV, doc, pm, an, cdv, ct, osl, e, lk, hcd, _, _⟩ := F.ex
  exact ⟨oc, od, dV, kV, doc, pm, an, cdv, ct, osl, e, lk, hcd⟩
theorem fun_uniq {x q : Str} {st : Stmt} {f : Addr} {fd fd' : FuncData} (h : C8.Fun K x q st f fd) (h' : C8.Fun K x q st f fd') : fd = fd' := by
  obtain ⟨oc, od, dV, kV, doc, pm, an, cdv, ct, osl, e, lk, _⟩ := h.ex
  obtain ⟨oc', od', dV', kV', doc', pm', an', cdv', ct', osl', e', lk', _⟩ := h'.ex
  rw [lk] at lk'
  cases lk'
  rfl
theorem binds_of (hs : stB M = true) {j : Nat} {i : FI} (hi : M.fi[j]? = some i) {f : Addr} {fd : FuncData} (F : FunD K i.x i.x (C8.fnArgs i.st) (C8.fnBody i.st) (C8.fnScope i.st) [] [] f fd) : Binds K fd i.ps [] := by
  obtain ⟨_, hst⟩ := st_of hs
  obtain ⟨_, _, _, hp, _⟩ := hst j i hi
  exact F.bindsN fun kV doc pm an cdv ct us hl => bind_plain hp (ps_nodup hs hi) kV doc pm an cdv ct us hl
theorem wd_of {P : Program} (hP : progB M P = true) (hs : stB M = true) (KX : K.In h) (G : h.Ns mainGlobals mg) (c : He.SaysD fa M.fn K) (hx : exB M K = true) {base : Heap} (hT : ∀ p ∈ M.tf.map (He.cT K), LamX.TabB base mg p.1 p.2) :
    Wd P (kC M w K) (limOf M) M.tb (fun _ => none) M.nm M.fx M.fi mg base (M.T K) := by
  unfold exB at hx
  simp only [Bool.and_eq_true, List.all_eq_true] at hx
  obtain ⟨hnm, hbl, hnl, hfl, htb⟩ := hx
  obtain ⟨hal, hst⟩ := st_of hs
  have hname : ∀ (x : Str) (g : GK), M.nm.lookup x = some g → nameB M K (x, g) = true := fun x g e => hnm _ (lookup_mem' e)
  have hfns : ∀ (j : Nat) (i : FI), M.fi[j]? = some i → ∃ (f : Addr) (fd : FuncData), (kC M w K).fnA j = some f ∧ (C8.Fun K i.x i.x i.st f fd ∧ PySem.W.keepIn K (.ref f) = true) ∧ Binds K fd i.ps [] := fun j i hi => by
    obtain ⟨a, fd, h1, F, F2⟩ := fun_of hs c hi
    exact ⟨He.ga K a, fd, by show (M.al[j]?).map _ = _; rw [h1]; rfl, ⟨F2, F.kp⟩, binds_of hs hi F⟩
  have hnf : ∀ (x : Str) (j : Nat), M.nm.lookup x = some (.fn j) → ∃ (i : FI) (a : Str), M.fi[j]? = some i ∧ M.al[j]? = some a ∧ mg x = some (.ref (He.ga K a)) := fun x j e => by
    have := hname x _ e
    unfold nameB at this
    dsimp only at this
    split at this
    · rename_i a i h1 h2
      exact ⟨i, a, h2, h1, PySem.W.mg_of KX G (of_decide_eq_true this)⟩
    · cases this
  refine ⟨hfns, fun j f e => ?_, fun x j e => ?_, fun x cc d e hd => ?_, fun x hxb => He.free_ok KX G (hbl x (List.mem_cons_of_mem _ hxb)), fun x cc e => ?_, fun x cc e => ?_, fun j i hi => ?_, fun j i f hi hl hA fd F => ?_, fun x e => ?_⟩
  · have e' : (M.al[j]?).map (He.ga K) = some f := e
    cases q : M.al[j]? with
    | none => rw [q] at e'; cases e'
    | some a =>
      have hj : j < M.fi.length := by rw [← hal]; exact (List.getElem?_eq_some_iff.mp q).1
      exact ⟨_, List.getElem?_eq_getElem hj⟩
  · obtain ⟨i, a, h1, h2, h3⟩ := hnf x j e
    exact ⟨i, He.ga K a, h1, by show (M.al[j]?).map _ = _; rw [h2]; rfl, h3⟩
  · have := hname x _ e
    unfold nameB at this
    dsimp only at this
    rw [hd] at this
    dsimp only at this
    split at this
    · rename_i u hu
      have hmg := PySem.W.mg_of KX G hu
      have key : ∀ Hf, ∃ v, RelV v u ∧ Rep (kC M w K) Hf v d := fun Hf => repB_ok (C := kC M w K) this
      obtain ⟨v, r1, r2⟩ := key fun _ => none
      exact ⟨v, u, hmg, r1, fun Hf l => r2.le l⟩
    · cases this
  · have := hname x _ e
    unfold nameB at this
    simp only [Bool.and_eq_true, decide_eq_true_eq] at this
    obtain ⟨h1, h0, h2, h3⟩ := this
    obtain ⟨q1, q2, q3, q4⟩ := He.exc_ok h3
    exact ⟨He.ga K x, He.veBase, "ValueError", "ValueError.__new__", "ValueError.__init__", by show (M.cs[cc]?).map _ = _; rw [h1]; rfl, h0, He.glo_ok KX G h2, q2, PySem.F.excBase_ValueError, q1, fun MM hh KK => ⟨PySem.W.looks_subIn KK q3, PySem.W.looks_typeIn KK q4⟩⟩
  · have := hname x _ e
    unfold nameB at this
    simp only [Bool.and_eq_true, decide_eq_true_eq] at this
    obtain ⟨h1, h0, h2⟩ := this
    obtain ⟨q1, q2, fI, fd, q3, q4, q5, q6⟩ := supB_ok (w := w) (base := base) hP KX G (He.free_ok KX G (hbl _ (List.mem_cons_of_mem _ (by decide)))) h2
    exact ⟨He.ga K x, fI, fd, by show (M.cs[cc]?).map _ = _; rw [h1]; rfl, h0, q1, q2, q3, q4, q5, q6⟩
  · obtain ⟨fd, h1, h2, _⟩ := hst j i hi
    exact ⟨fd, h1, h2⟩
  · obtain ⟨fd0, _, _, _, hlam⟩ := hst j i hi
    have hjt := hlam hl
    obtain ⟨a, fd', h1, FD, F2⟩ := fun_of hs c hi
    have hA' : (M.al[j]?).map (He.ga K) = some f := hA
    rw [h1] at hA'
    cases hA'
    obtain rfl := fun_uniq F F2
    obtain ⟨oc, od, dV, kV, doc, pm, an, cdv, ct, osl, e, lk, hcd⟩ := F.ex
    obtain ⟨cc, hcc⟩ := He.codeIn_ref hcd
    have hcode : fd.code = .ref cc := by rw [e]; exact hcc
    have hnm' : M.nmOf j = (a, none) := by
      unfold Md.nmOf
      rw [List.getD_eq_getElem?_getD, h1]; rfl
    have hco : He.codeOf K (M.nmOf j) = cc := by
      rw [hnm']
      exact He.codeOf_eq (p := (a, none)) lk hcode
    have hct : (He.cT K (M.nmOf j)).1 = cc := hco
    refine ⟨cc, (He.cT K (M.nmOf j)).2, hcode, ?_, List.mem_map.mpr ⟨j, hjt, by unfold lamQ; rw [hi]⟩, fun p hp hp1 => ?_⟩
    · have := hT (He.cT K (M.nmOf j)) (List.mem_map_of_mem (List.mem_map_of_mem hjt))
      rw [hct] at this
      exact this
    · obtain ⟨j', hj', rfl⟩ := List.mem_map.mp hp
      have := nodup_map_inj (of_decide_eq_true htb) j' hj' j hjt hp1
      subst this
      show lamQ M j' = _
      unfold lamQ
      rw [hi]
  · unfold fltB at hfl
    rw [e] at hfl
    dsimp only at hfl
    split at hfl
    · rename_i j hj
      split at hfl
      · rename_i i hi
        simp only [Bool.and_eq_true, decide_eq_true_eq] at hfl
        obtain ⟨⟨h1, h2⟩, h0, h00, h3⟩ := hfl
        obtain ⟨i2, a, q1, q2, q3⟩ := hnf x j hj
        rw [hi] at q1
        cases q1
        obtain ⟨a2, fd, q4, FD, F2⟩ := fun_of hs c hi
        rw [q2] at q4
        cases q4
        have hb := binds_of hs hi FD
        rw [h2] at hb
        rw [h1] at F2
        have bl : ∀ y ∈ bltL, mg y = none := fun y hy => He.free_ok KX G (hbl y (List.mem_cons_of_mem _ hy))
        have blV : mg "ValueError" = none := He.free_ok KX G (hbl _ List.mem_cons_self)
        have erel : ∀ {cc : Nat} {d : D} {cls : Value} {dct : Option Addr} {H : Hp} {cn : Str}, M.cs[cc]? = some cn → limOf M cc = none → ExcRel (kC M w K) (limOf M) cc d cls dct H → cls = .ref (He.ga K cn) ∧ dct = none := fun {cc d cls dct H cn} hcn hl hr => by
          obtain ⟨D, g1, g2, g3⟩ := hr
          rw [hl] at g3
          have g1' : (M.cs[cc]?).map (He.ga K) = some D := g1
          rw [hcn] at g1'
          cases g1'
          exact ⟨g2, g3⟩
        split at h3
        · rename_i f hf
          simp only [Bool.and_eq_true, decide_eq_true_eq, List.all_eq_true] at h3
          obtain ⟨h4, h5, h6⟩ := h3
          refine ⟨⟨He.ga K a, fd, i.st, Tell1 K mg f (He.ga K f.err), q3, FD.kp, F2, hb, ⟨h0, h00⟩, fun X q eK eM => ?_, fun cc ww hw => ?_, fun cc ww hw => ?_⟩⟩
          · have := fault_gives (X := X) (x := x) (g := He.ga K a) (VE := He.ga K f.err) (cdg := fd.code) (q := q) hf (by rw [eM]; exact He.glo_ok KX G h4) (by rw [eM]; exact bl _ (by decide)) (by rw [eM]; exact bl _ (by decide)) (by rw [eM]; exact bl _ (by decide)) (by rw [eM]; exact blV) h5
            rw [eK, eM] at this
            exact this
          · have := h6 _ (lookup_mem' hw)
            unfold wordB at this
            simp only [Bool.and_eq_true, decide_eq_true_eq] at this
            obtain ⟨p1, p0, p2⟩ := this
            split at p2
            · rename_i cn hcn
              simp only [Bool.and_eq_true, decide_eq_true_eq] at p2
              refine ⟨p1, fun cls dct H d hr => ?_⟩
              obtain ⟨r1, r2⟩ := erel hcn p0 hr
              exact ⟨He.ga K cn, r1, r2, p2.1, clsFB_ok KX G p2.2⟩
            · cases p2
          · have := h6 _ (lookup_mem' hw)
            unfold wordB at this
            cases this
        · split at h3
          · rename_i f hf
            simp only [Bool.and_eq_true, decide_eq_true_eq, List.all_eq_true] at h3
            obtain ⟨h4, h4', h5, h6⟩ := h3
            refine ⟨⟨He.ga K a, fd, i.st, Tell2 K mg f (He.ga K f.err) (He.ga K f.fs.err), q3, FD.kp, F2, hb, ⟨h0, h00⟩, fun X q eK eM => ?_, fun cc ww hw => ?_, fun cc ww hw => ?_⟩⟩
            · have := fault_gives2 (X := X) (x := x) (g := He.ga K a) (VE := He.ga K f.fs.err) (TM := He.ga K f.err) (cdg := fd.code) (q := q) hf (by rw [eM]; exact He.glo_ok KX G h4) (by rw [eM]; exact He.glo_ok KX G h4') (by rw [eM]; exact bl _ (by decide)) (by rw [eM]; exact bl _ (by decide)) (by rw [eM]; exact bl _ (by decide)) (by rw [eM]; exact blV) (by rw [eM]; exact bl _ (by decide)) h5
              rw [eK, eM] at this
              exact this
            · have := h6 _ (lookup_mem' hw)
              unfold word2B at this
              simp only [Bool.and_eq_true, decide_eq_true_eq] at this
              obtain ⟨p1, p0, p2⟩ := this
              split at p2
              · rename_i cn hcn
                simp only [Bool.and_eq_true, decide_eq_true_eq] at p2
                refine ⟨p1, fun cls dct H d hr => ?_⟩
                obtain ⟨r1, r2⟩ := erel hcn p0 hr
                subst r1
                exact .inl ⟨p2.1, He.ga K cn, rfl, r2, p2.2.1, clsFB_ok KX G p2.2.2⟩
              · cases p2
            · have := h6 _ (lookup_mem' hw)
              unfold word2B at this
              simp only [Bool.and_eq_true, decide_eq_true_eq] at this
              obtain ⟨p1, p0, p3, p2⟩ := this
              split at p2
              · rename_i cn hcn
                simp only [Bool.and_eq_true, decide_eq_true_eq] at p2
                refine ⟨p1, fun cls dct H ii hr hl1 hl2 => ?_⟩
                obtain ⟨D, g1, g2, g3⟩ := hr
                rw [p0] at g3
                obtain ⟨dx, i', g4, g5, g6⟩ := g3
                have g1' : (M.cs[cc]?).map (He.ga K) = some D := g1
                rw [hcn] at g1'
                cases g1'
                cases g5
                subst g2
                refine .inr ⟨p2.1, ii, ⟨He.ga K cn, dx, rfl, xfB_ok p2.2.1, p2.2.2, g4, g6, hl1, hl2⟩, ?_⟩
                rw [p3]
                unfold Sx strI
                show _ = (⟨ww.toArray ++ (Str.ofString (toString ii)).cps⟩ : Str)
                congr 1
                apply Array.ext'
                simp
              · cases p2
          · cases h3
      · cases hfl
    · cases hfl
end
end Ev


set_option maxHeartbeats 4000000
namespace Ev
open PySem PySem.Spec L2 PyProof.Rows
theorem reps_ints {C : Cst} {Hf : Hp} : ∀ ns : List Int, Reps C Hf (ns.map V.int) (ns.map D.int)
  | [] => .nil
  | n :: ns => .cons (.int n) (reps_ints ns)
theorem noListB_ok {K : PySem.W.Frag} (h : noListB K = true) {H : Hp} {a : Addr} {xs : List V} (q : SqL K H a xs) : Rd H a (.lst xs) := by
  rcases q with q | ⟨o, its, n, hk, hc, _⟩
  · exact q
  · have := List.all_eq_true.mp h (a, o) (lookup_mem' hk)
    dsimp only at this
    rw [hc] at this
    simp at this
section
variable {M : Md} {w : World} {K : PySem.W.Frag} {h : Heap} {mg : Str → Option Value}
theorem law_at {l : PySem.W.OpenLaw} {N j n : Nat} {i : FI} {x : Str} {fa : Addr} (hP : progB M l.prog = true) (hs : stB M = true) (hi : M.fi[j]? = some i) (hps : i.ps = [("script" : Str)]) (hnm : M.nm.lookup x = some (.fn j)) (KX : K.In h) (G : h.Ns mainGlobals mg) (c : He.SaysX [] M.fn [] M.tf (exB M) w h K) (hfa : mg x = some (.ref fa))
    (run : ∀ ns : List Int, ns.length ≤ n → ∃ outs, callN M.tb N j [.fz (.lst (ns.map D.int))] = .ok (.fz (.bl true), outs)) : LamX.LawAtS l w K (L2N.CX l.prog w) (3 * N) n "script" mg fa h := by
  have cd : He.SaysD [] M.fn K := c.t.d
  have hx := c.more
  obtain ⟨a0, fd, h1, FD, F2⟩ := fun_of hs cd hi
  have hx' := hx
  unfold exB at hx'
  simp only [Bool.and_eq_true, List.all_eq_true] at hx'
  obtain ⟨hnm', _, hnl, _, _⟩ := hx'
  have hfa' : fa = He.ga K a0 := by
    have := hnm' _ (lookup_mem' hnm)
    unfold nameB at this
    dsimp only at this
    rw [h1, hi] at this
    have := PySem.W.mg_of KX G (of_decide_eq_true this)
    rw [hfa] at this
    cases this; rfl
  subst hfa'
  refine ⟨fd, M.tf.map (He.cT K), spF (kC M w K) (limOf M) (M.T K) (fun _ => none) (callN M.tb N) i.ps.length j, fun p hp => ?_, fun p hp => ?_, fun p hp => ?_, fun s u => ?_, fun H a ns hl _ hT hS => ?_, fun base KB GB hTB => ?_⟩
  · obtain ⟨q, hq, rfl⟩ := List.mem_map.mp hp
    exact c.empty q hq
  · obtain ⟨q, hq, rfl⟩ := List.mem_map.mp hp
    exact c.out q hq
  · obtain ⟨q, hq, rfl⟩ := List.mem_map.mp hp
    exact PySem.W.codeHd_of_K KX (c.hd q hq)
  · obtain ⟨_, hst⟩ := st_of hs
    obtain ⟨_, _, _, hp, _⟩ := hst j i hi
    have := FD.bindsA (ps := i.ps) (fun kV doc pm an cdv ct us hl => bind_plain hp (ps_nodup hs hi) kV doc pm an cdv ct us hl) s [u] (by rw [hps]; rfl)
    rw [hps] at this
    exact this
  · obtain ⟨outs, hr⟩ := run ns hl
    have hrd := noListB_ok hnl hS
    have hne : ∀ ps, H a ≠ some (.tbl ps) := fun ps e => by
      rcases hrd with q | ⟨o, q⟩ <;> (rw [e] at q; cases q)
    have le : Le (fun b => if b = a then H a else none) H := fun b o e => by
      dsimp only at e
      split at e
      · rename_i q; rw [q]; exact e
      · cases e
    have hHf : (fun b => if b = a then H a else none : Hp) a = H a := if_pos rfl
    have hTabs : ∀ p ∈ M.T K, H p.1 = some (.tbl #[]) := fun p hp => by
      obtain ⟨jj, hj, rfl⟩ := List.mem_map.mp hp
      exact hT _ (List.mem_map_of_mem (List.mem_map_of_mem hj))
    refine ⟨by rw [hps]; rfl, [], fun b => if b = a then H a else none, [.fz (.lst (ns.map D.int))], (fun b o e => by cases e), ⟨rfl, le, fun b o e _ _ => e, fun b e => e, Le.refl _, fun p hp => LamX.TabS.nil (hTabs p hp), fun p hp => ?_, fun k d e => ?_, fun k d e => ?_, fun k d e => ?_, fun k1 k2 d e b _ h1 => ?_, (fun p hp => by cases hp), fun b e => .inl e, (fun p hp => by cases hp)⟩, (fun p hp => by cases hp), ?_⟩
    · show (if p.1 = a then H a else none) = none
      split
      · rename_i q
        exact absurd (q ▸ hTabs p hp) (hne #[])
      · rfl
    · cases k with
      | zero =>
        simp at e
        subst e
        refine ⟨.ref a, rfl, .lst (xs := ns.map V.int) ?_ (reps_ints ns)⟩
        rcases hrd with q | ⟨o, q⟩
        · exact .inl (by show (if a = a then H a else none) = _; rw [if_pos rfl]; exact q)
        · exact .inr ⟨o, by show (if a = a then H a else none) = _; rw [if_pos rfl]; exact q⟩
      | succ k => simp at e
    · cases k <;> simp at e
    · cases k <;> simp at e
    · cases k1 <;> simp at h1
    · rw [hr]
      intro v H' Hf' _ _ rv
      cases rv
      rfl
  · have W := wd_of (P := l.prog) (w := w) hP hs KX G cd hx (base := base) hTB
    have := fn_all W N j i hi (He.ga K a0) fd (by show (M.al[j]?).map _ = _; rw [h1]; rfl) F2
    rw [← hps]
    exact this
end
/-- an exception of no kind is none -/
theorem noexc {P : Program} {w : World} {H : Hp} {s : Shared} {e : Value} {s' : Shared} (x : L2N.CX P w [] H s (fun _ _ _ => False) e s') : False := by
  obtain ⟨_, _, _, _, _, _, _, _, _, _, _, _, z⟩ := x
  exact z
end Ev


namespace K75
open Ev PySem
/- 0 is_whole: 0=value -/
def b0 : Sts := (.c (.ret (.and (.op (.isi .tInt) (.c (.var 0) .n)) (.not (.op (.isi .tBool) (.c (.var 0) .n))))) .n)
def f0 : FD := ⟨1, 1, [false], b0⟩
/- 1 fits_whole: 0=value 1=low 2=high -/
def b1 : Sts := (.c (.ret (.and (.call 0 (.c (.var 0) .n)) (.chn .le .le (.var 1) (.var 0) (.var 2)))) .n)
def f1 : FD := ⟨3, 3, [false, false, false], b1⟩
/- 2 is_tuple_of: 0=value 1=least 2=most -/
def b2 : Sts := (.c (.ret (.and (.op (.isi .tTup) (.c (.var 0) .n)) (.chn .le .le (.var 1) (.op .len (.c (.var 0) .n)) (.var 2)))) .n)
def f2 : FD := ⟨3, 3, [false, false, false], b2⟩
/- 3 is_rising: 0=values 1=one 2=other -/
def b3 : Sts := (.c (.ret (.op .all (.c (.lc (.op .lt (.c (.var 1) (.c (.var 2) .n))) (.c (.tp (.c (.nm 1) (.c (.nm 2) .n))) (.zp (.var 0) (.slc (.var 0) (.c (.con (.int 1)) .n) .n)) .n .n)) .n))) .n)
def f3 : FD := ⟨1, 3, [false], b3⟩
/- 4 fits_name: 0=value 1=sign -/
def b4 : Sts := (.c (.iff (.or (.not (.op (.isi .tStr) (.c (.var 0) .n))) (.or (.not (.chn .le .le (.con (.int 1)) (.op .len (.c (.var 0) .n)) (.glo 2))) (.op .notin (.c (.op .ix (.c (.var 0) (.c (.con (.int 0)) .n))) (.c (.glo 0) .n))))) (.c (.ret (.con (.bl false))) .n) .n) (.c (.ret (.op .all (.c (.lc (.op .in_ (.c (.var 1) (.c (.op .add (.c (.glo 0) (.c (.glo 1) .n))) .n))) (.c (.nm 1) (.sq (.var 0)) .n .n)) .n))) .n))
def f4 : FD := ⟨1, 2, [false], b4⟩
/- 5 fits_names: 0=value 1=most 2=name -/
def b5 : Sts := (.c (.iff (.or (.not (.call 2 (.c (.var 0) (.c (.con (.int 0)) (.c (.var 1) .n))))) (.not (.op .all (.c (.lc (.call 4 (.c (.var 2) .n)) (.c (.nm 2) (.sq (.var 0)) .n .n)) .n)))) (.c (.ret (.con (.bl false))) .n) .n) (.c (.ret (.op .eq (.c (.op .lset (.c (.var 0) .n)) (.c (.op .len (.c (.var 0) .n)) .n)))) .n))
def f5 : FD := ⟨2, 3, [false, false], b5⟩
/- 6 fits_set: 0=value 1=many 2=one -/
def b6 : Sts := (.c (.ret (.and (.call 2 (.c (.var 0) (.c (.con (.int 0)) (.c (.var 1) .n)))) (.and (.op .all (.c (.lc (.call 1 (.c (.var 2) (.c (.con (.int 0)) (.c (.op .sub (.c (.var 1) (.c (.con (.int 1)) .n))) .n)))) (.c (.nm 2) (.sq (.var 0)) .n .n)) .n)) (.call 3 (.c (.var 0) .n))))) .n)
def f6 : FD := ⟨2, 3, [false, false], b6⟩
/- 7 fits_order: 0=many 1=value 2=one -/
def b7 : Sts := (.c (.iff (.or (.not (.call 2 (.c (.var 1) (.c (.con (.int 0)) (.c (.var 0) .n))))) (.not (.op .all (.c (.lc (.call 1 (.c (.var 2) (.c (.con (.int 0)) (.c (.op .sub (.c (.var 0) (.c (.con (.int 1)) .n))) .n)))) (.c (.nm 2) (.sq (.var 1)) .n .n)) .n)))) (.c (.ret (.con (.bl false))) .n) .n) (.c (.ret (.op .eq (.c (.op .lset (.c (.var 1) .n)) (.c (.op .len (.c (.var 1) .n)) .n)))) .n))
def f7 : FD := ⟨2, 3, [false, false], b7⟩
/- 8 fits_election: 0=value 1=row 2=order 3=count -/
def b8 : Sts := (.c (.iff (.or (.not (.call 2 (.c (.var 0) (.c (.con (.int 2)) (.c (.con (.int 2)) .n))))) (.or (.not (.call 5 (.c (.op .ix (.c (.var 0) (.c (.con (.int 0)) .n))) (.c (.glo 3) .n)))) (.op .eq (.c (.op .ix (.c (.var 0) (.c (.con (.int 0)) .n))) (.c (.tup .n) .n))))) (.c (.ret (.con (.bl false))) .n) .n) (.c (.iff (.or (.not (.call 2 (.c (.op .ix (.c (.var 0) (.c (.con (.int 1)) .n))) (.c (.con (.int 0)) (.c (.glo 4) .n))))) (.not (.op .all (.c (.lc (.call 2 (.c (.var 1) (.c (.con (.int 2)) (.c (.con (.int 2)) .n)))) (.c (.nm 1) (.sq (.op .ix (.c (.var 0) (.c (.con (.int 1)) .n)))) .n .n)) .n)))) (.c (.ret (.con (.bl false))) .n) .n) (.c (.iff (.not (.op .all (.c (.lc (.and (.call 7 (.c (.op .len (.c (.op .ix (.c (.var 0) (.c (.con (.int 0)) .n))) .n)) (.c (.var 2) .n))) (.call 1 (.c (.var 3) (.c (.con (.int 1)) (.c (.glo 5) .n))))) (.c (.tp (.c (.nm 2) (.c (.nm 3) .n))) (.sq (.op .ix (.c (.var 0) (.c (.con (.int 1)) .n)))) .n .n)) .n))) (.c (.ret (.con (.bl false))) .n) .n) (.c (.ret (.and (.call 3 (.c (.lc (.var 2) (.c (.tp (.c (.nm 2) (.c (.nm 3) .n))) (.sq (.op .ix (.c (.var 0) (.c (.con (.int 1)) .n)))) .n .n)) .n)) (.op .le (.c (.call 12 (.c (.var 0) .n)) (.c (.glo 5) .n))))) .n))))
def f8 : FD := ⟨1, 4, [false], b8⟩
/- 9 need_election: 0=election -/
def b9 : Sts := (.c (.iff (.not (.call 8 (.c (.var 0) .n))) (.c (.raise 1 (.c (.con (.str [110, 111, 116, 32, 97, 110, 32, 101, 108, 101, 99, 116, 105, 111, 110])) .n)) .n) .n) .n)
def f9 : FD := ⟨1, 1, [false], b9⟩
/- 10 many_in: 0=election -/
def b10 : Sts := (.c (.ret (.op .len (.c (.op .ix (.c (.var 0) (.c (.con (.int 0)) .n))) .n))) .n)
def f10 : FD := ⟨1, 1, [false], b10⟩
/- 11 rows_in: 0=election -/
def b11 : Sts := (.c (.ret (.op .ix (.c (.var 0) (.c (.con (.int 1)) .n)))) .n)
def f11 : FD := ⟨1, 1, [false], b11⟩
/- 12 total_in: 0=election 1=order 2=count -/
def b12 : Sts := (.c (.ret (.op .sum (.c (.lc (.var 2) (.c (.tp (.c (.nm 1) (.c (.nm 2) .n))) (.sq (.op .ix (.c (.var 0) (.c (.con (.int 1)) .n)))) .n .n)) .n))) .n)
def f12 : FD := ⟨1, 3, [false], b12⟩
/- 13 fits_field: 0=election 1=value -/
def b13 : Sts := (.c (.ret (.and (.call 6 (.c (.var 1) (.c (.call 10 (.c (.var 0) .n)) .n))) (.op .ne (.c (.var 1) (.c (.tup .n) .n))))) .n)
def f13 : FD := ⟨2, 2, [false, false], b13⟩
/- 14 need_field: 0=election 1=value -/
def b14 : Sts := (.c (.exp (.call 9 (.c (.var 0) .n))) (.c (.iff (.not (.call 13 (.c (.var 0) (.c (.var 1) .n)))) (.c (.raise 3 (.c (.con (.str [110, 111, 116, 32, 97, 32, 102, 105, 101, 108, 100])) .n)) .n) .n) .n))
def f14 : FD := ⟨2, 2, [false, false], b14⟩
/- 15 is_above: 0=order 1=one 2=other -/
def b15 : Sts := (.c (.iff (.op .notin (.c (.var 1) (.c (.var 0) .n))) (.c (.ret (.con (.bl false))) .n) .n) (.c (.ret (.or (.op .notin (.c (.var 2) (.c (.var 0) .n))) (.op .lt (.c .nop (.c .nop .n))))) .n))
def f15 : FD := ⟨3, 3, [false, false, false], b15⟩
/- 16 is_election: 0=value -/
def b16 : Sts := (.c (.ret (.call 8 (.c (.var 0) .n))) .n)
def f16 : FD := ⟨1, 1, [false], b16⟩
/- 17 duels_in: 0=election 1=many 2=found 3=order 4=count 5=one 6=at 7=lower 8=other -/
def b17 : Sts := (.c (.asg (.nm 1) (.call 10 (.c (.var 0) .n))) (.c (.asg (.nm 2) (.lc (.op .mul (.c (.lst (.c (.con (.int 0)) .n)) (.c (.var 1) .n))) (.c (.nm 5) (.rg (.c (.var 1) .n)) .n .n))) (.c (.for (.tp (.c (.nm 3) (.c (.nm 4) .n))) (.sq (.call 11 (.c (.var 0) .n))) (.c (.for (.tp (.c (.nm 6) (.c (.nm 5) .n))) (.en (.var 3)) (.c (.asg (.nm 7) (.lc (.var 8) (.c (.nm 8) (.rg (.c (.var 1) .n)) (.c (.op .notin (.c (.var 8) (.c (.slc (.var 3) .n (.c (.op .add (.c (.var 6) (.c (.con (.int 1)) .n))) .n)) .n))) .n) .n))) (.c (.for (.nm 8) (.sq (.var 7)) (.c .nop .n)) .n))) .n)) (.c (.ret (.var 2)) .n))))
def f17 : FD := ⟨1, 9, [false], b17⟩
/- 18 margins_in: 0=election 1=duels 2=many 3=one 4=other -/
def b18 : Sts := (.c (.asg (.nm 1) (.call 17 (.c (.var 0) .n))) (.c (.asg (.nm 2) (.op .len (.c (.var 1) .n))) (.c (.ret (.lc (.lc (.op .sub (.c (.op .ix (.c (.op .ix (.c (.var 1) (.c (.var 3) .n))) (.c (.var 4) .n))) (.c (.op .ix (.c (.op .ix (.c (.var 1) (.c (.var 4) .n))) (.c (.var 3) .n))) .n))) (.c (.nm 4) (.rg (.c (.var 2) .n)) .n .n)) (.c (.nm 3) (.rg (.c (.var 2) .n)) .n .n))) .n)))
def f18 : FD := ⟨1, 5, [false], b18⟩
/- 19 fits_whole_order: 0=field 1=value 2=one -/
def b19 : Sts := (.c (.iff (.or (.not (.call 2 (.c (.var 1) (.c (.op .len (.c (.var 0) .n)) (.c (.op .len (.c (.var 0) .n)) .n))))) (.not (.op .all (.c (.lc (.call 1 (.c (.var 2) (.c (.con (.int 0)) (.c (.con (.int 6)) .n)))) (.c (.nm 2) (.sq (.var 1)) .n .n)) .n)))) (.c (.ret (.con (.bl false))) .n) .n) (.c (.ret (.op .eq (.c (.op .srt (.c (.var 1) .n)) (.c (.op .lst (.c (.var 0) .n)) .n)))) .n))
def f19 : FD := ⟨2, 3, [false, false], b19⟩
/- 20 need_whole: 0=election 1=field 2=order -/
def b20 : Sts := (.c (.exp (.call 14 (.c (.var 0) (.c (.var 1) .n)))) (.c (.iff (.not (.call 19 (.c (.var 1) (.c (.var 2) .n)))) (.c (.raise 2 (.c (.con (.str [110, 111, 116, 32, 97, 110, 32, 111, 114, 100, 101, 114, 32, 111, 102, 32, 97, 108, 108, 32, 111, 102, 32, 116, 104, 101, 32, 102, 105, 101, 108, 100])) .n)) .n) .n) .n))
def f20 : FD := ⟨3, 3, [false, false, false], b20⟩
/- 21 cost_in: 0=duels 1=order 2=found 3=at 4=one 5=other -/
def b21 : Sts := (.c (.asg (.nm 2) (.con (.int 0))) (.c (.for (.tp (.c (.nm 3) (.c (.nm 4) .n))) (.en (.var 1)) (.c (.asg (.nm 2) (.op .add (.c (.var 2) (.c (.op .sum (.c (.lc (.op .ix (.c (.op .ix (.c (.var 0) (.c (.var 5) .n))) (.c (.var 4) .n))) (.c (.nm 5) (.sq (.slc (.var 1) (.c (.op .add (.c (.var 3) (.c (.con (.int 1)) .n))) .n) .n)) .n .n)) .n)) .n)))) .n)) (.c (.ret (.var 2)) .n)))
def f21 : FD := ⟨2, 6, [false, false], b21⟩
/- 22 first_cost: 0=duels 1=one 2=rest 3=other -/
def b22 : Sts := (.c (.ret (.op .sum (.c (.lc (.op .ix (.c (.op .ix (.c (.var 0) (.c (.var 3) .n))) (.c (.var 1) .n))) (.c (.nm 3) (.sq (.var 2)) .n .n)) .n))) .n)
def f22 : FD := ⟨3, 4, [false, false, false], b22⟩
/- 23 parts_in: 0=field 1=rows 2=one 3=row -/
def b23 : Sts := (.c (.asg (.nm 1) (.lst (.c (.tup .n) .n))) (.c (.for (.nm 2) (.sq (.var 0)) (.c (.asg (.nm 1) (.op .add (.c (.var 1) (.c (.lc (.op .add (.c (.var 3) (.c (.tup (.c (.var 2) .n)) .n))) (.c (.nm 3) (.sq (.var 1)) .n .n)) .n)))) .n)) (.c (.ret (.key .srt (.var 1) 3 [] (.tup (.c (.op .len (.c (.var 3) .n)) (.c (.var 3) .n))))) .n)))
def f23 : FD := ⟨1, 4, [false], b23⟩
/- 24 least_in: 0=duels 1=field 2=found 3=part 4=costs 5=one 6=rest 7=own -/
def b24 : Sts := (.c (.asg (.nm 2) (.dic (.c (.tup .n) (.c (.con (.int 0)) .n)))) (.c (.for (.nm 3) (.sq (.slc (.call 23 (.c (.var 1) .n)) (.c (.con (.int 1)) .n) .n)) (.c (.asg (.nm 4) (.lst .n)) (.c (.for (.nm 5) (.sq (.var 3)) (.c (.asg (.nm 6) (.op .tup (.c (.lc (.var 7) (.c (.nm 7) (.sq (.var 3)) (.c (.op .ne (.c (.var 7) (.c (.var 5) .n))) .n) .n)) .n))) (.c (.app 4 (.op .add (.c (.call 22 (.c (.var 0) (.c (.var 5) (.c (.var 6) .n)))) (.c (.op .ix (.c (.var 2) (.c (.var 6) .n))) .n)))) .n))) (.c (.six 2 (.var 3) (.op .min1 (.c (.var 4) .n))) .n)))) (.c (.ret (.var 2)) .n)))
def f24 : FD := ⟨2, 8, [false, false], b24⟩
/- 25 firsts_by: 0=duels 1=least 2=part 3=found 4=one 5=rest 6=own -/
def b25 : Sts := (.c (.asg (.nm 3) (.lst .n)) (.c (.for (.nm 4) (.sq (.var 2)) (.c (.asg (.nm 5) (.op .tup (.c (.lc (.var 6) (.c (.nm 6) (.sq (.var 2)) (.c (.op .ne (.c (.var 6) (.c (.var 4) .n))) .n) .n)) .n))) (.c (.aug 3 (.ite (.op .eq (.c (.op .add (.c (.call 22 (.c (.var 0) (.c (.var 4) (.c (.var 5) .n)))) (.c (.op .ix (.c (.var 1) (.c (.var 5) .n))) .n))) (.c (.op .ix (.c (.var 1) (.c (.var 2) .n))) .n))) (.lst (.c (.var 4) .n)) (.lst .n))) .n))) (.c (.ret (.var 3)) .n)))
def f25 : FD := ⟨3, 7, [false, false, false], b25⟩
/- 26 fair_in: 0=election 1=field 2=duels -/
def b26 : Sts := (.c (.asg (.nm 2) (.call 17 (.c (.var 0) .n))) (.c (.ret (.op .tup (.c (.call 25 (.c (.var 2) (.c (.call 24 (.c (.var 2) (.c (.var 1) .n))) (.c (.var 1) .n)))) .n))) .n))
def f26 : FD := ⟨2, 3, [false, false], b26⟩
/- 27 orders_by: 0=duels 1=least 2=field 3=rows 4=turn 5=longer 6=order 7=left 8=one 9=own -/
def b27 : Sts := (.c (.asg (.nm 3) (.lst (.c (.tup (.c (.tup .n) (.c (.var 2) .n))) .n))) (.c (.for (.nm 4) (.sq (.var 2)) (.c (.asg (.nm 5) (.lst .n)) (.c (.for (.tp (.c (.nm 6) (.c (.nm 7) .n))) (.sq (.var 3)) (.c (.for (.nm 8) (.sq (.call 25 (.c (.var 0) (.c (.var 1) (.c (.var 7) .n))))) (.c (.app 5 (.tup (.c (.op .add (.c (.var 6) (.c (.tup (.c (.var 8) .n)) .n))) (.c (.op .tup (.c (.lc (.var 9) (.c (.nm 9) (.sq (.var 7)) (.c (.op .ne (.c (.var 9) (.c (.var 8) .n))) .n) .n)) .n)) .n)))) .n)) .n)) (.c (.asg (.nm 3) (.var 5)) (.c (.iff (.op .gt (.c (.op .len (.c (.var 3) .n)) (.c (.glo 6) .n))) (.c (.raiseM 5 (.glo 6)) .n) .n) .n))))) (.c (.ret (.op .srt (.c (.lc (.var 6) (.c (.tp (.c (.nm 6) (.c (.nm 7) .n))) (.sq (.var 3)) .n .n)) .n))) .n)))
def f27 : FD := ⟨3, 10, [false, false, false], b27⟩
/- 28 counts_by: 0=duels 1=least 2=field 3=counts 4=part 5=rests 6=one 7=rest 8=own -/
def b28 : Sts := (.c (.asg (.nm 3) (.dic (.c (.tup .n) (.c (.con (.int 1)) .n)))) (.c (.for (.nm 4) (.sq (.slc (.call 23 (.c (.var 2) .n)) (.c (.con (.int 1)) .n) .n)) (.c (.asg (.nm 5) (.lc (.op .tup (.c (.lc (.var 8) (.c (.nm 8) (.sq (.var 4)) (.c (.op .ne (.c (.var 8) (.c (.var 6) .n))) .n) .n)) .n)) (.c (.nm 6) (.sq (.call 25 (.c (.var 0) (.c (.var 1) (.c (.var 4) .n))))) .n .n))) (.c (.six 3 (.var 4) (.op .sum (.c (.lc (.op .ix (.c (.var 3) (.c (.var 7) .n))) (.c (.nm 7) (.sq (.var 5)) .n .n)) .n))) .n))) (.c (.ret (.op .ix (.c (.var 3) (.c (.var 2) .n)))) .n)))
def f28 : FD := ⟨3, 9, [false, false, false], b28⟩
/- 29 fair_of: 0=election 1=field -/
def b29 : Sts := (.c (.exp (.call 14 (.c (.var 0) (.c (.var 1) .n)))) (.c (.ret (.call 26 (.c (.var 0) (.c (.var 1) .n)))) .n))
def f29 : FD := ⟨2, 2, [false, false], b29⟩
/- 30 cost_of: 0=election 1=field 2=order -/
def b30 : Sts := (.c (.exp (.call 20 (.c (.var 0) (.c (.var 1) (.c (.var 2) .n))))) (.c (.ret (.call 21 (.c (.call 17 (.c (.var 0) .n)) (.c (.var 2) .n)))) .n))
def f30 : FD := ⟨3, 3, [false, false, false], b30⟩
/- 31 least_cost: 0=election 1=field -/
def b31 : Sts := (.c (.exp (.call 14 (.c (.var 0) (.c (.var 1) .n)))) (.c (.ret (.op .ix (.c (.call 24 (.c (.call 17 (.c (.var 0) .n)) (.c (.var 1) .n))) (.c (.var 1) .n)))) .n))
def f31 : FD := ⟨2, 2, [false, false], b31⟩
/- 32 fair_orders: 0=election 1=field 2=duels -/
def b32 : Sts := (.c (.exp (.call 14 (.c (.var 0) (.c (.var 1) .n)))) (.c (.asg (.nm 2) (.call 17 (.c (.var 0) .n))) (.c (.ret (.op .tup (.c (.call 27 (.c (.var 2) (.c (.call 24 (.c (.var 2) (.c (.var 1) .n))) (.c (.var 1) .n)))) .n))) .n)))
def f32 : FD := ⟨2, 3, [false, false], b32⟩
/- 33 fair_many: 0=election 1=field 2=duels -/
def b33 : Sts := (.c (.exp (.call 14 (.c (.var 0) (.c (.var 1) .n)))) (.c (.asg (.nm 2) (.call 17 (.c (.var 0) .n))) (.c (.ret (.call 28 (.c (.var 2) (.c (.call 24 (.c (.var 2) (.c (.var 1) .n))) (.c (.var 1) .n))))) .n)))
def f33 : FD := ⟨2, 3, [false, false], b33⟩
/- 34 first_fair: 0=election 1=field 2=least 3=duels 4=left 5=found 6=own -/
def b34 : Sts := (.c (.exp (.call 14 (.c (.var 0) (.c (.var 1) .n)))) (.c .nop (.c (.asg (.nm 2) (.call 24 (.c (.var 3) (.c (.var 1) .n)))) (.c (.whl (.op .ne (.c (.var 4) (.c (.tup .n) .n))) (.c (.asg (.nm 5) (.op .add (.c (.var 5) (.c (.tup (.c (.op .ix (.c (.call 25 (.c (.var 3) (.c (.var 2) (.c (.var 4) .n)))) (.c (.con (.int 0)) .n))) .n)) .n)))) (.c (.asg (.nm 4) (.op .tup (.c (.lc (.var 6) (.c (.nm 6) (.sq (.var 4)) (.c (.op .ne (.c (.var 6) (.c (.op .ix (.c (.var 5) (.c (.op .neg (.c (.con (.int 1)) .n)) .n))) .n))) .n) .n)) .n))) .n))) (.c (.ret (.var 5)) .n)))))
def f34 : FD := ⟨2, 7, [false, false], b34⟩
/- 35 is_fair_order: 0=election 1=field 2=value 3=duels -/
def b35 : Sts := (.c (.exp (.call 14 (.c (.var 0) (.c (.var 1) .n)))) (.c (.iff (.not (.call 19 (.c (.var 1) (.c (.var 2) .n)))) (.c (.ret (.con (.bl false))) .n) .n) (.c (.asg (.nm 3) (.call 17 (.c (.var 0) .n))) (.c (.ret (.op .eq (.c (.call 21 (.c (.var 3) (.c (.var 2) .n))) (.c (.op .ix (.c (.call 24 (.c (.var 3) (.c (.var 1) .n))) (.c (.var 1) .n))) .n)))) .n))))
def f35 : FD := ⟨3, 4, [false, false, false], b35⟩
/- 36 cost_table: 0=election 1=field 2=least 3=part -/
def b36 : Sts := (.c (.exp (.call 14 (.c (.var 0) (.c (.var 1) .n)))) (.c (.asg (.nm 2) (.call 24 (.c (.call 17 (.c (.var 0) .n)) (.c (.var 1) .n)))) (.c (.ret (.op .tup (.c (.lc (.tup (.c (.var 3) (.c (.op .ix (.c (.var 2) (.c (.var 3) .n))) .n))) (.c (.nm 3) (.sq (.call 23 (.c (.var 1) .n))) .n .n)) .n))) .n)))
def f36 : FD := ⟨2, 4, [false, false], b36⟩
/- 37 fits_table: 0=field 1=value 2=parts 3=part 4=row 5=cost 6=own -/
def b37 : Sts := (.c (.asg (.nm 2) (.call 23 (.c (.var 0) .n))) (.c (.iff (.or (.not (.call 2 (.c (.var 1) (.c (.op .len (.c (.var 2) .n)) (.c (.op .len (.c (.var 2) .n)) .n))))) (.not (.op .all (.c (.lc (.call 2 (.c (.var 4) (.c (.con (.int 2)) (.c (.con (.int 2)) .n)))) (.c (.nm 4) (.sq (.var 1)) .n .n)) .n)))) (.c (.ret (.con (.bl false))) .n) .n) (.c (.iff (.not (.op .all (.c (.lc (.and (.call 1 (.c (.var 5) (.c (.con (.int 0)) (.c (.glo 7) .n)))) (.op (.isi .tTup) (.c (.var 3) .n))) (.c (.tp (.c (.nm 3) (.c (.nm 5) .n))) (.sq (.var 1)) .n .n)) .n))) (.c (.ret (.con (.bl false))) .n) .n) (.c (.ret (.op .all (.c (.lc (.and (.op .eq (.c (.var 6) (.c (.var 3) .n))) (.call 38 (.c (.var 6) .n))) (.c (.tp (.c (.tp (.c (.nm 6) (.c (.nm 5) .n))) (.c (.nm 3) .n))) (.zp (.var 1) (.var 2)) .n .n)) .n))) .n))))
def f37 : FD := ⟨2, 7, [false, false], b37⟩
/- 38 fits_plain: 0=values 1=own -/
def b38 : Sts := (.c (.ret (.op .all (.c (.lc (.and (.op (.isi .tInt) (.c (.var 1) .n)) (.not (.op (.isi .tBool) (.c (.var 1) .n)))) (.c (.nm 1) (.sq (.var 0)) .n .n)) .n))) .n)
def f38 : FD := ⟨1, 2, [false], b38⟩
/- 39 table_faults: 0=election 1=field 2=table 3=duels 4=told 5=found 6=part 7=cost 8=rests 9=due 10=one 11=own 12=rest -/
def b39 : Sts := (.c (.exp (.call 14 (.c (.var 0) (.c (.var 1) .n)))) (.c (.iff (.not (.call 37 (.c (.var 1) (.c (.var 2) .n)))) (.c (.raise 4 (.c (.con (.str [110, 111, 116, 32, 97, 32, 116, 97, 98, 108, 101, 32, 111, 102, 32, 99, 111, 115, 116, 115])) .n)) .n) .n) (.c .nop (.c (.for (.tp (.c (.nm 6) (.c (.nm 7) .n))) (.sq (.var 2)) (.c (.asg (.nm 8) (.lc (.tup (.c (.var 10) (.c (.op .tup (.c (.lc (.var 11) (.c (.nm 11) (.sq (.var 6)) (.c (.op .ne (.c (.var 11) (.c (.var 10) .n))) .n) .n)) .n)) .n))) (.c (.nm 10) (.sq (.var 6)) .n .n))) (.c (.asg (.nm 9) (.ite (.op .ne (.c (.var 6) (.c (.tup .n) .n))) (.op .min1 (.c (.lc (.op .add (.c (.call 22 (.c (.var 3) (.c (.var 10) (.c (.var 12) .n)))) (.c (.op .ix (.c (.var 4) (.c (.var 12) .n))) .n))) (.c (.tp (.c (.nm 10) (.c (.nm 12) .n))) (.sq (.var 8)) .n .n)) .n)) (.con (.int 0)))) (.c (.aug 5 (.ite (.op .ne (.c (.var 7) (.c (.var 9) .n))) (.lst (.c (.var 6) .n)) (.lst .n))) .n)))) (.c (.ret (.op .tup (.c (.var 5) .n))) .n)))))
def f39 : FD := ⟨3, 13, [false, false, false], b39⟩
/- 40 is_cost_table: 0=election 1=field 2=value -/
def b40 : Sts := (.c (.exp (.call 14 (.c (.var 0) (.c (.var 1) .n)))) (.c (.ret (.and (.call 37 (.c (.var 1) (.c (.var 2) .n))) (.op .eq (.c (.call 39 (.c (.var 0) (.c (.var 1) (.c (.var 2) .n)))) (.c (.tup .n) .n))))) .n))
def f40 : FD := ⟨3, 3, [false, false, false], b40⟩
/- 41 proved_least: 0=election 1=field 2=order 3=table 4=cost -/
def b41 : Sts := (.c (.exp (.call 20 (.c (.var 0) (.c (.var 1) (.c (.var 2) .n))))) (.c (.iff (.not (.call 40 (.c (.var 0) (.c (.var 1) (.c (.var 3) .n))))) (.c (.ret (.con .non)) .n) .n) (.c (.asg (.nm 4) (.call 21 (.c (.call 17 (.c (.var 0) .n)) (.c (.var 2) .n)))) (.c (.ret (.ite (.op .eq (.c (.op .ix (.c .nop (.c (.var 1) .n))) (.c (.var 4) .n))) (.var 4) (.con .non))) .n))))
def f41 : FD := ⟨4, 5, [false, false, false, false], b41⟩
/- 42 swaps_of: 0=election 1=field 2=order 3=duels 4=one 5=other -/
def b42 : Sts := (.c (.exp (.call 20 (.c (.var 0) (.c (.var 1) (.c (.var 2) .n))))) (.c (.asg (.nm 3) (.call 17 (.c (.var 0) .n))) (.c (.ret (.op .tup (.c (.lc (.op .sub (.c (.op .ix (.c (.op .ix (.c (.var 3) (.c (.var 5) .n))) (.c (.var 4) .n))) (.c (.op .ix (.c (.op .ix (.c (.var 3) (.c (.var 4) .n))) (.c (.var 5) .n))) .n))) (.c (.tp (.c (.nm 4) (.c (.nm 5) .n))) (.zp (.var 2) (.slc (.var 2) (.c (.con (.int 1)) .n) .n)) .n .n)) .n))) .n)))
def f42 : FD := ⟨3, 6, [false, false, false], b42⟩
/- 43 moved_in: 0=order 1=start 2=end 3=rest -/
def b43 : Sts := (.c (.asg (.nm 3) (.op .add (.c (.slc (.var 0) .n (.c (.var 1) .n)) (.c (.slc (.var 0) (.c (.op .add (.c (.var 1) (.c (.con (.int 1)) .n))) .n) .n) .n)))) (.c (.ret (.op .add (.c (.op .add (.c (.slc (.var 3) .n (.c (.var 2) .n)) (.c (.tup (.c (.op .ix (.c (.var 0) (.c (.var 1) .n))) .n)) .n))) (.c (.slc (.var 3) (.c (.var 2) .n) .n) .n)))) .n))
def f43 : FD := ⟨3, 4, [false, false, false], b43⟩
/- 44 best_move: 0=election 1=field 2=order 3=duels 4=start 5=cost 6=many 7=best 8=end 9=gain -/
def b44 : Sts := (.c (.exp (.call 20 (.c (.var 0) (.c (.var 1) (.c (.var 2) .n))))) (.c (.asg (.nm 3) (.call 17 (.c (.var 0) .n))) (.c (.par (.c (.nm 5) (.c (.nm 6) (.c (.nm 7) .n))) (.c (.call 21 (.c (.var 3) (.c (.var 2) .n))) (.c (.op .len (.c (.var 2) .n)) (.c (.con .non) .n)))) (.c (.for (.nm 4) (.rg (.c (.var 6) .n)) (.c (.for (.nm 8) (.rg (.c (.var 6) .n)) (.c (.asg (.nm 9) (.op .sub (.c (.var 5) (.c (.call 21 (.c (.var 3) (.c (.call 43 (.c (.var 2) (.c (.var 4) (.c (.var 8) .n)))) .n))) .n)))) (.c (.iff (.and (.op .gt (.c (.var 9) (.c (.con (.int 0)) .n))) (.or (.op .is (.c (.var 7) (.c (.con .non) .n))) (.op .gt (.c (.var 9) (.c (.op .ix (.c (.var 7) (.c (.con (.int 1)) .n))) .n))))) (.c (.asg (.nm 7) (.tup (.c (.tup (.c (.var 4) (.c (.var 8) .n))) (.c (.var 9) .n)))) .n) .n) .n))) .n)) (.c (.ret (.var 7)) .n)))))
def f44 : FD := ⟨3, 10, [false, false, false], b44⟩
/- 45 moved_till: 0=election 1=field 2=order 3=many 4=best -/
def b45 : Sts := (.c (.exp (.call 20 (.c (.var 0) (.c (.var 1) (.c (.var 2) .n))))) (.c (.par (.c (.nm 3) (.c (.nm 4) .n)) (.c (.con (.int 0)) (.c (.call 44 (.c (.var 0) (.c (.var 1) (.c (.var 2) .n)))) .n))) (.c (.whl (.op .isnot (.c (.var 4) (.c (.con .non) .n))) (.c (.par (.c (.nm 2) (.c (.nm 3) .n)) (.c (.call 43 (.c (.var 2) (.c (.op .ix (.c (.op .ix (.c (.var 4) (.c (.con (.int 0)) .n))) (.c (.con (.int 0)) .n))) (.c (.op .ix (.c (.op .ix (.c (.var 4) (.c (.con (.int 0)) .n))) (.c (.con (.int 1)) .n))) .n)))) (.c (.op .add (.c (.var 3) (.c (.con (.int 1)) .n))) .n))) (.c (.asg (.nm 4) (.call 44 (.c (.var 0) (.c (.var 1) (.c (.var 2) .n))))) .n))) (.c (.ret (.tup (.c (.var 2) (.c (.var 3) .n)))) .n))))
def f45 : FD := ⟨3, 5, [false, false, false], b45⟩
/- 46 distance_of: 0=one 1=other 2=place 3=found 4=at 5=own 6=later -/
def b46 : Sts := (.c (.iff (.or (.not (.op (.isi .tTup) (.c (.var 0) .n))) (.or (.not (.call 38 (.c (.var 0) .n))) (.or (.not (.chn .le .le (.con (.int 1)) (.op .len (.c (.var 0) .n)) (.con (.int 7)))) (.op .lt (.c (.op .lset (.c (.var 0) .n)) (.c (.op .len (.c (.var 0) .n)) .n)))))) (.c (.raise 2 (.c (.con (.str [110, 111, 116, 32, 97, 110, 32, 111, 114, 100, 101, 114])) .n)) .n) .n) (.c (.iff (.or (.not (.op (.isi .tTup) (.c (.var 1) .n))) (.or (.not (.call 38 (.c (.var 1) .n))) (.op .ne (.c (.op .srt (.c (.var 1) .n)) (.c (.op .srt (.c (.var 0) .n)) .n))))) (.c (.raise 2 (.c (.con (.str [110, 111, 116, 32, 97, 110, 32, 111, 114, 100, 101, 114, 32, 111, 102, 32, 116, 104, 101, 32, 115, 97, 109, 101])) .n)) .n) .n) (.c .nop (.c (.for (.tp (.c (.nm 4) (.c (.nm 5) .n))) (.en (.var 0)) (.c (.asg (.nm 3) (.op .add (.c (.var 3) (.c (.op .len (.c (.lc (.var 6) (.c (.nm 6) (.sq (.slc (.var 0) (.c (.op .add (.c (.var 4) (.c (.con (.int 1)) .n))) .n) .n)) (.c (.op .lt (.c (.op .ix (.c (.var 2) (.c (.var 6) .n))) (.c (.op .ix (.c (.var 2) (.c (.var 5) .n))) .n))) .n) .n)) .n)) .n)))) .n)) (.c (.ret (.var 3)) .n)))))
def f46 : FD := ⟨2, 7, [false, false], b46⟩
/- 47 cost_by_ballots: 0=election 1=field 2=order 3=found 4=own 5=count 6=at 7=one 8=other -/
def b47 : Sts := (.c (.exp (.call 20 (.c (.var 0) (.c (.var 1) (.c (.var 2) .n))))) (.c (.asg (.nm 3) (.con (.int 0))) (.c (.for (.tp (.c (.nm 4) (.c (.nm 5) .n))) (.sq (.op .ix (.c (.var 0) (.c (.con (.int 1)) .n)))) (.c (.for (.tp (.c (.nm 6) (.c (.nm 7) .n))) (.en (.var 2)) (.c (.asg (.nm 3) (.op .add (.c (.var 3) (.c (.op .mul (.c (.var 5) (.c (.op .len (.c (.lc (.var 8) (.c (.nm 8) (.sq (.slc (.var 2) (.c (.op .add (.c (.var 6) (.c (.con (.int 1)) .n))) .n) .n)) (.c (.call 15 (.c (.var 4) (.c (.var 8) (.c (.var 7) .n)))) .n) .n)) .n)) .n))) .n)))) .n)) .n)) (.c (.ret (.var 3)) .n))))
def f47 : FD := ⟨3, 9, [false, false, false], b47⟩
/- 48 pairs_bound: 0=election 1=field 2=duels 3=found 4=at 5=one 6=other -/
def b48 : Sts := (.c (.exp (.call 14 (.c (.var 0) (.c (.var 1) .n)))) (.c .nop (.c (.for (.tp (.c (.nm 4) (.c (.nm 5) .n))) (.en (.var 1)) (.c (.asg (.nm 3) (.op .add (.c (.var 3) (.c (.op .sum (.c (.lc (.op .min2 (.c (.op .ix (.c (.op .ix (.c (.var 2) (.c (.var 5) .n))) (.c (.var 6) .n))) (.c (.op .ix (.c (.op .ix (.c (.var 2) (.c (.var 6) .n))) (.c (.var 5) .n))) .n))) (.c (.nm 6) (.sq (.slc (.var 1) (.c (.op .add (.c (.var 4) (.c (.con (.int 1)) .n))) .n) .n)) .n .n)) .n)) .n)))) .n)) (.c (.ret (.var 3)) .n))))
def f48 : FD := ⟨2, 7, [false, false], b48⟩
/- 49 joined_fair: 0=election 1=first 2=second 3=duels 4=between 5=one 6=other -/
def b49 : Sts := (.c (.exp (.call 9 (.c (.var 0) .n))) (.c (.iff (.or (.not (.call 13 (.c (.var 0) (.c (.var 1) .n)))) (.or (.not (.call 13 (.c (.var 0) (.c (.var 2) .n)))) (.op .any (.c (.lc (.op .in_ (.c (.var 5) (.c (.var 2) .n))) (.c (.nm 5) (.sq (.var 1)) .n .n)) .n)))) (.c (.raise 3 (.c (.con (.str [110, 111, 116, 32, 116, 119, 111, 32, 112, 97, 114, 116, 115])) .n)) .n) .n) (.c (.asg (.nm 3) (.call 17 (.c (.var 0) .n))) (.c (.asg (.nm 4) (.op .sum (.c (.lc (.op .ix (.c (.op .ix (.c (.var 3) (.c (.var 6) .n))) (.c (.var 5) .n))) (.c (.nm 5) (.sq (.var 1)) .n (.c (.nm 6) (.sq (.var 2)) .n .n))) .n))) (.c (.ret (.op .add (.c (.op .add (.c (.op .ix (.c (.call 24 (.c (.var 3) (.c (.var 1) .n))) (.c (.var 1) .n))) (.c (.var 4) .n))) (.c (.op .ix (.c (.call 24 (.c (.var 3) (.c (.var 2) .n))) (.c (.var 2) .n))) .n)))) .n)))))
def f49 : FD := ⟨3, 7, [false, false, false], b49⟩
/- 50 whole_field: 0=election -/
def b50 : Sts := (.c (.exp (.call 9 (.c (.var 0) .n))) (.c (.ret (.op .tup (.c (.op .lrg (.c (.call 10 (.c (.var 0) .n)) .n)) .n))) .n))
def f50 : FD := ⟨1, 1, [false], b50⟩
/- 51 unbeaten_in: 0=margins 1=field 2=one 3=own -/
def b51 : Sts := (.c (.ret (.dc (.var 2) (.lc (.var 3) (.c (.nm 3) (.sq (.var 1)) (.c (.and (.op .ne (.c (.var 3) (.c (.var 2) .n))) (.op .ge (.c (.op .ix (.c (.op .ix (.c (.var 0) (.c (.var 2) .n))) (.c (.var 3) .n))) (.c (.con (.int 0)) .n)))) .n) .n)) (.c (.nm 2) (.sq (.var 1)) .n .n))) .n)
def f51 : FD := ⟨2, 4, [false, false], b51⟩
/- 52 reached_in: 0=links 1=start 2=found 3=line 4=own 5=one -/
def b52 : Sts := (.c (.par (.c (.nm 2) (.c (.nm 3) .n)) (.c (.dc (.var 5) (.con (.bl true)) (.c (.nm 5) (.sq (.var 1)) .n .n)) (.c (.op .lst (.c (.var 1) .n)) .n))) (.c (.whl (.op .ne (.c (.var 3) (.c (.lst .n) .n))) (.c (.for (.nm 4) (.sq (.op .ix (.c (.var 0) (.c .nop .n)))) (.c (.iff (.op .notin (.c (.var 4) (.c (.var 2) .n))) (.c (.six 2 (.var 4) (.con (.bl true))) (.c (.app 3 (.var 4)) .n)) .n) .n)) .n)) (.c (.ret (.op .tup (.c (.op .srt (.c (.var 2) .n)) .n))) .n)))
def f52 : FD := ⟨2, 6, [false, false], b52⟩
/- 53 smith_by: 0=margins 1=field 2=links 3=back 4=rows 5=one 6=start 7=row 8=own -/
def b53 : Sts := (.c (.asg (.nm 2) (.call 51 (.c (.var 0) (.c (.var 1) .n)))) (.c .nop (.c (.asg (.nm 4) (.lc (.call 52 (.c (.var 3) (.c (.tup (.c (.var 6) .n)) .n))) (.c (.nm 6) (.sq (.var 1)) .n .n))) (.c (.ret .nop) .n))))
def f53 : FD := ⟨2, 9, [false, false], b53⟩
/- 54 smith_in: 0=election 1=field -/
def b54 : Sts := (.c (.ret (.call 53 (.c (.call 18 (.c (.var 0) .n)) (.c (.var 1) .n)))) .n)
def f54 : FD := ⟨2, 2, [false, false], b54⟩
/- 55 smith_of: 0=election 1=field -/
def b55 : Sts := (.c (.exp (.call 14 (.c (.var 0) (.c (.var 1) .n)))) (.c (.ret (.call 54 (.c (.var 0) (.c (.var 1) .n)))) .n))
def f55 : FD := ⟨2, 2, [false, false], b55⟩
/- 56 _law_cup: 0=script 1=cell -/
def b56 : Sts := (.c (.asg (.nm 1) (.op .abs (.c (.op .ix (.c (.op .add (.c (.op .lst (.c (.var 0) .n)) (.c (.lst (.c (.con (.int 0)) .n)) .n))) (.c (.con (.int 0)) .n))) .n))) (.c (.ret (.lst (.c (.ite (.op .ge (.c (.var 1) (.c (.op .pow (.c (.con (.int 10)) (.c (.con (.int 18)) .n))) .n))) (.op .fdiv (.c (.var 1) (.c (.con (.int 227)) .n))) (.con (.int 0))) (.c (.op .add (.c (.op .mod (.c (.op .int (.c (.op .add (.c (.op .mul (.c (.var 1) (.c (.con (.int 10151)) .n))) (.c (.con (.int 12373)) .n))) .n)) (.c (.con (.int 2041565497)) .n))) (.c (.con (.int 8681)) .n))) .n)))) .n))
def f56 : FD := ⟨1, 2, [false], b56⟩
/- 57 _law_roll: 0=cup 1=many 2=deep 3=found -/
def b57 : Sts := (.c (.iff (.op .gt (.c (.op .ix (.c (.var 0) (.c (.con (.int 0)) .n))) (.c (.con (.int 0)) .n))) (.c (.asg (.nm 3) (.op .mod (.c (.op .int (.c (.op .ix (.c (.var 0) (.c (.con (.int 0)) .n))) .n)) (.c (.var 1) .n)))) (.c (.six 0 (.con (.int 0)) (.op .fdiv (.c (.op .ix (.c (.var 0) (.c (.con (.int 0)) .n))) (.c (.var 1) .n)))) (.c (.ret (.var 3)) .n))) .n) (.c (.six 0 (.con (.int 1)) (.op .mod (.c (.op .int (.c (.op .add (.c (.op .mul (.c (.op .ix (.c (.var 0) (.c (.con (.int 1)) .n))) (.c (.con (.int 36837)) .n))) (.c (.con (.int 14033)) .n))) .n)) (.c (.con (.int 2147483423)) .n)))) (.c (.asg (.nm 2) (.op .mod (.c (.op .int (.c (.op .mul (.c (.op .ix (.c (.var 0) (.c (.con (.int 1)) .n))) (.c (.op .add (.c (.op .ix (.c (.var 0) (.c (.con (.int 1)) .n))) (.c (.con (.int 10903)) .n))) .n))) .n)) (.c (.con (.int 2147483587)) .n)))) (.c (.ret (.op .mod (.c (.op .int (.c (.op .fdiv (.c (.var 2) (.c (.con (.int 7963)) .n))) .n)) (.c (.var 1) .n)))) .n))))
def f57 : FD := ⟨2, 4, [true, false], b57⟩
/- 58 _law_some: 0=cup 1=things -/
def b58 : Sts := (.c (.ret (.op .ix (.c (.var 1) (.c (.call 57 (.c (.var 0) (.c (.op .len (.c (.var 1) .n)) .n))) .n)))) .n)
def f58 : FD := ⟨2, 2, [true, false], b58⟩
/- 59 _law_same: 0=told 1=due 2=at -/
def b59 : Sts := (.c (.iff (.or (.op (.isi .tTup) (.c (.var 1) .n)) (.op (.isi .tLst) (.c (.var 1) .n))) (.c (.iff (.or (.op .ne (.c (.op (.isi .tTup) (.c (.var 0) .n)) (.c (.op (.isi .tTup) (.c (.var 1) .n)) .n))) (.or (.op .ne (.c (.op (.isi .tLst) (.c (.var 0) .n)) (.c (.op (.isi .tLst) (.c (.var 1) .n)) .n))) (.op .ne (.c (.op .len (.c (.var 0) .n)) (.c (.op .len (.c (.var 1) .n)) .n))))) (.c (.ret (.con (.bl false))) .n) .n) (.c (.ret (.op .eq (.c (.lc (.con (.int 1)) (.c (.nm 2) (.rg (.c (.op .len (.c (.var 1) .n)) .n)) (.c (.not (.call 59 (.c (.op .ix (.c (.var 0) (.c (.var 2) .n))) (.c (.op .ix (.c (.var 1) (.c (.var 2) .n))) .n)))) .n) .n)) (.c (.lst .n) .n)))) .n)) .n) (.c (.iff (.op .is (.c (.var 1) (.c (.con .non) .n))) (.c (.ret (.op .is (.c (.var 0) (.c (.con .non) .n)))) .n) .n) (.c (.iff (.op (.isi .tBool) (.c (.var 1) .n)) (.c (.ret (.ite (.var 1) (.op .is (.c (.var 0) (.c (.con (.bl true)) .n))) (.op .is (.c (.var 0) (.c (.con (.bl false)) .n))))) .n) .n) (.c (.iff (.op (.isi .tInt) (.c (.var 1) .n)) (.c (.ret (.and (.op (.isi .tInt) (.c (.var 0) .n)) (.and (.not (.op (.isi .tBool) (.c (.var 0) .n))) (.op .eq (.c (.op .int (.c (.var 0) .n)) (.c (.var 1) .n)))))) .n) .n) (.c (.ret (.and (.op (.isi .tStr) (.c (.var 0) .n)) (.op .eq (.c (.op .str (.c (.var 0) .n)) (.c (.var 1) .n))))) .n)))))
def f59 : FD := ⟨2, 3, [false, false], b59⟩
/- 60 _law_fault: 0=call 1=marks 2=words 3=word 4=good -/
def b60 : Sts := (.c .nop (.c (.ret (.con (.str []))) .n))
def f60 : FD := ⟨1, 5, [false], b60⟩
/- 61 law: 0=script 1=cup 2=odd 3=election 4=twos 5=orders 6=bad 7=size 8=blank 9=told 10=words 11=call 12=one -/
def b61 : Sts := (.c (.asg (.nm 1) (.call 56 (.c (.var 0) .n))) (.c (.asg (.nm 2) (.call 58 (.c (.var 1) (.c (.lst (.c (.con .non) (.c (.con (.str [53])) (.c (.con (.str [111, 100, 100])) (.c (.lst .n) .n))))) .n)))) (.c (.asg (.nm 3) (.tup (.c (.tup (.c (.con (.str [97, 110, 110])) (.c (.con (.str [98, 111, 98])) (.c (.con (.str [99, 121])) .n)))) (.c (.tup (.c (.tup (.c (.tup (.c (.con (.int 0)) (.c (.con (.int 1)) (.c (.con (.int 2)) .n)))) (.c (.con (.int 4)) .n))) (.c (.tup (.c (.tup (.c (.con (.int 1)) (.c (.con (.int 2)) (.c (.con (.int 0)) .n)))) (.c (.con (.int 3)) .n))) (.c (.tup (.c (.tup (.c (.con (.int 2)) .n)) (.c (.con (.int 2)) .n))) .n)))) .n)))) (.c (.asg (.nm 4) (.tup (.c (.con (.fn 29)) (.c (.con (.fn 31)) (.c (.con (.fn 32)) (.c (.con (.fn 33)) (.c (.con (.fn 34)) (.c (.con (.fn 36)) (.c (.con (.fn 48)) (.c (.con (.fn 55)) .n)))))))))) (.c (.asg (.nm 5) (.tup (.c (.con (.fn 30)) (.c (.con (.fn 47)) (.c (.con (.fn 42)) (.c (.con (.fn 44)) (.c (.con (.fn 45)) .n))))))) (.c (.for (.nm 6) (.sq (.tup (.c (.con .non) (.c (.tup .n) (.c (.op .lst (.c (.var 3) .n)) (.c (.slc (.var 3) .n (.c (.con (.int 1)) .n)) (.c (.tup (.c (.tup (.c (.con (.str [97])) (.c (.con (.str [97])) .n))) (.c (.tup .n) .n))) (.c (.tup (.c (.tup (.c (.con (.str [97])) .n)) (.c (.tup (.c (.tup (.c (.tup (.c (.con (.int 1)) .n)) (.c (.con (.int 1)) .n))) .n)) .n))) (.c (.con (.int 5)) .n))))))))) (.c (.asg (.nm 10) (.lc (.flt [2, 6, 11] (.cav 11 (.c (.var 6) (.c (.var 2) .n)))) (.c (.nm 11) (.sq (.var 4)) .n .n))) (.c (.asg (.nm 10) (.op .add (.c (.var 10) (.c (.lc (.flt [2, 6, 11] (.cav 11 (.c (.var 6) (.c (.var 2) (.c (.var 2) .n))))) (.c (.nm 11) (.sq (.op .add (.c (.var 5) (.c (.tup (.c (.con (.fn 35)) (.c (.con (.fn 39)) (.c (.con (.fn 40)) (.c (.con (.fn 49)) .n))))) .n)))) .n .n)) .n)))) (.c (.app 10 (.flt [2, 6] (.call 41 (.c (.var 6) (.c (.var 2) (.c (.var 2) (.c (.var 2) .n))))))) (.c (.iff (.or (.op .ne (.c (.op .add (.c (.var 10) (.c (.lst (.c (.flt [6] (.call 50 (.c (.var 6) .n))) .n)) .n))) (.c (.op .mul (.c (.lst (.c (.con (.str [101, 108, 101, 99, 116, 105, 111, 110])) .n)) (.c (.con (.int 19)) .n))) .n))) (.op .isnot (.c (.call 16 (.c (.var 6) .n)) (.c (.con (.bl false)) .n)))) (.c (.ret (.con (.bl false))) .n) .n) .n))))) (.c (.for (.nm 6) (.sq (.tup (.c (.con .non) (.c (.tup .n) (.c (.lst (.c (.con (.int 0)) .n)) (.c (.tup (.c (.con (.int 3)) .n)) (.c (.tup (.c (.con (.int 1)) (.c (.con (.int 0)) .n))) (.c (.tup (.c (.con (.int 0)) (.c (.con (.int 0)) .n))) (.c (.tup (.c (.con (.bl true)) .n)) (.c (.con (.int 5)) (.c (.con (.str [48])) .n))))))))))) (.c (.asg (.nm 10) (.lc (.flt [3, 6, 11] (.cav 11 (.c (.var 3) (.c (.var 6) .n)))) (.c (.nm 11) (.sq (.var 4)) .n .n))) (.c (.asg (.nm 10) (.op .add (.c (.var 10) (.c (.lc (.flt [2, 3, 6, 11] (.cav 11 (.c (.var 3) (.c (.var 6) (.c (.var 2) .n))))) (.c (.nm 11) (.sq (.op .add (.c (.var 5) (.c (.tup (.c (.con (.fn 35)) (.c (.con (.fn 39)) .n))) .n)))) .n .n)) .n)))) (.c (.asg (.nm 10) (.op .add (.c (.var 10) (.c (.lc (.flt [2, 3, 6, 11] (.cav 11 (.c (.var 3) (.c (.var 6) (.c (.var 2) .n))))) (.c (.nm 11) (.sq (.tup (.c (.con (.fn 40)) (.c (.con (.fn 49)) .n)))) .n .n)) .n)))) (.c (.app 10 (.flt [3, 6] (.call 49 (.c (.var 3) (.c (.tup (.c (.con (.int 0)) .n)) (.c (.var 6) .n)))))) (.c (.iff (.op .ne (.c (.op .add (.c (.var 10) (.c (.lst (.c (.flt [2, 3, 6] (.call 41 (.c (.var 3) (.c (.var 6) (.c (.var 2) (.c (.var 2) .n)))))) .n)) .n))) (.c (.op .mul (.c (.lst (.c (.con (.str [102, 105, 101, 108, 100])) .n)) (.c (.con (.int 19)) .n))) .n))) (.c (.ret (.con (.bl false))) .n) .n) .n)))))) (.c (.iff (.op .ne (.c (.flt [3] (.call 49 (.c (.var 3) (.c (.tup (.c (.con (.int 0)) (.c (.con (.int 1)) .n))) (.c (.tup (.c (.con (.int 1)) (.c (.con (.int 2)) .n))) .n))))) (.c (.con (.str [102, 105, 101, 108, 100])) .n))) (.c (.ret (.con (.bl false))) .n) .n) (.c (.for (.nm 6) (.sq (.tup (.c (.con .non) (.c (.tup .n) (.c (.tup (.c (.con (.int 0)) .n)) (.c (.lst (.c (.con (.int 0)) (.c (.con (.int 2)) .n))) (.c (.tup (.c (.con (.int 0)) (.c (.con (.int 1)) .n))) (.c (.tup (.c (.con (.int 0)) (.c (.con (.int 0)) .n))) (.c (.tup (.c (.con (.int 0)) (.c (.con (.int 2)) (.c (.con (.int 1)) .n)))) (.c (.tup (.c (.con (.bl false)) (.c (.con (.int 2)) .n))) (.c (.con (.str [48, 50])) (.c (.con (.int 5)) .n)))))))))))) (.c (.asg (.nm 10) (.lc (.flt [3, 6, 11] (.cav 11 (.c (.var 3) (.c (.tup (.c (.con (.int 0)) (.c (.con (.int 2)) .n))) (.c (.var 6) .n))))) (.c (.nm 11) (.sq (.var 5)) .n .n))) (.c (.iff (.op .ne (.c (.op .add (.c (.var 10) (.c (.lst (.c (.flt [2, 3, 6] (.call 41 (.c (.var 3) (.c (.tup (.c (.con (.int 0)) (.c (.con (.int 2)) .n))) (.c (.var 6) (.c (.var 2) .n)))))) .n)) .n))) (.c (.op .mul (.c (.lst (.c (.con (.str [111, 114, 100, 101, 114])) .n)) (.c (.con (.int 6)) .n))) .n))) (.c (.ret (.con (.bl false))) .n) .n) .n))) (.c (.for (.nm 6) (.sq (.tup (.c (.con .non) (.c (.tup .n) (.c (.lst (.c (.tup (.c (.tup .n) (.c (.con (.int 0)) .n))) .n)) (.c (.tup (.c (.tup (.c (.tup .n) (.c (.con (.int 0)) .n))) .n)) (.c (.tup (.c (.tup (.c (.tup .n) (.c (.con (.int 0)) .n))) (.c (.tup (.c (.tup (.c (.con (.int 0)) .n)) (.c (.con (.int 0)) .n))) (.c (.tup (.c (.tup (.c (.con (.int 2)) .n)) (.c (.con (.int 0)) .n))) (.c (.tup (.c (.tup (.c (.con (.int 0)) (.c (.con (.int 2)) .n))) (.c (.op .neg (.c (.con (.int 1)) .n)) .n))) .n))))) (.c (.tup (.c (.tup (.c (.tup .n) (.c (.con (.int 0)) .n))) (.c (.tup (.c (.tup (.c (.con (.int 2)) .n)) (.c (.con (.int 0)) .n))) (.c (.tup (.c (.tup (.c (.con (.int 0)) .n)) (.c (.con (.int 0)) .n))) (.c (.tup (.c (.tup (.c (.con (.int 0)) (.c (.con (.int 2)) .n))) (.c (.con (.int 0)) .n))) .n))))) (.c (.con (.int 5)) .n))))))))) (.c (.iff (.op .ne (.c (.flt [3, 6] (.call 39 (.c (.var 3) (.c (.tup (.c (.con (.int 0)) (.c (.con (.int 2)) .n))) (.c (.var 6) .n))))) (.c (.con (.str [112, 97, 112, 101, 114])) .n))) (.c (.ret (.con (.bl false))) .n) .n) .n)) (.c (.for (.nm 6) (.sq (.tup (.c (.con .non) (.c (.tup .n) (.c (.lst (.c (.con (.int 0)) .n)) (.c (.tup (.c (.con (.int 0)) (.c (.con (.int 0)) .n))) (.c (.tup (.c (.con (.bl true)) .n)) (.c (.tup (.c (.con (.str [48])) .n)) (.c (.op .trg (.c (.con (.int 8)) .n)) (.c (.con (.int 5)) .n)))))))))) (.c (.asg (.nm 10) (.lst (.c (.flt [6] (.call 46 (.c (.var 6) (.c (.tup (.c (.con (.int 0)) .n)) .n)))) .n))) (.c (.iff (.op .ne (.c (.op .add (.c (.var 10) (.c (.lst (.c (.flt [6] (.call 46 (.c (.tup (.c (.con (.int 0)) .n)) (.c (.var 6) .n)))) .n)) .n))) (.c (.op .mul (.c (.lst (.c (.con (.str [111, 114, 100, 101, 114])) .n)) (.c (.con (.int 2)) .n))) .n))) (.c (.ret (.con (.bl false))) .n) .n) .n))) (.c (.asg (.nm 7) (.op .add (.c (.con (.int 5)) (.c (.call 57 (.c (.var 1) (.c (.con (.int 2)) .n))) .n)))) (.c (.asg (.nm 8) (.tup (.c (.op .tup (.c (.lc (.op .add (.c (.con (.str [99])) (.c (.op .str (.c (.var 12) .n)) .n))) (.c (.nm 12) (.rg (.c (.var 7) .n)) .n .n)) .n)) (.c (.tup .n) .n)))) (.c (.asg (.nm 9) (.tup (.c (.flt [7, 8] (.call 32 (.c (.var 8) (.c (.op .trg (.c (.var 7) .n)) .n)))) (.c (.call 33 (.c (.var 8) (.c (.op .trg (.c (.var 7) .n)) .n))) .n)))) (.c (.ret (.call 59 (.c (.var 9) (.c (.tup (.c (.ite (.op .eq (.c (.var 7) (.c (.con (.int 5)) .n))) (.con (.str [])) (.con (.str [109, 97, 110, 121, 32, 50, 48, 48]))) (.c (.ite (.op .eq (.c (.var 7) (.c (.con (.int 5)) .n))) (.con (.int 120)) (.con (.int 720))) .n))) .n)))) .n)))))))))))))))
def f61 : FD := ⟨1, 13, [false], b61⟩
def top (i : Nat) : Stmt := (PySem.Challenge.pw_voicestold_k75_errors_of_orders).main.body.getD i (.Pass ⟨0, 0, 0, 0⟩)
def i0 : FI := ⟨"is_whole", top 11, ["value"], ["value"], false⟩
def i1 : FI := ⟨"fits_whole", top 12, ["value", "low", "high"], ["value", "low", "high"], false⟩
def i2 : FI := ⟨"is_tuple_of", top 13, ["value", "least", "most"], ["value", "least", "most"], false⟩
def i3 : FI := ⟨"is_rising", top 14, ["values"], ["values", "one", "other"], false⟩
def i4 : FI := ⟨"fits_name", top 15, ["value"], ["value", "sign"], false⟩
def i5 : FI := ⟨"fits_names", top 16, ["value", "most"], ["value", "most", "name"], false⟩
def i6 : FI := ⟨"fits_set", top 17, ["value", "many"], ["value", "many", "one"], false⟩
def i7 : FI := ⟨"fits_order", top 22, ["many", "value"], ["many", "value", "one"], false⟩
def i8 : FI := ⟨"fits_election", top 23, ["value"], ["value", "row", "order", "count"], false⟩
def i9 : FI := ⟨"need_election", top 24, ["election"], ["election"], false⟩
def i10 : FI := ⟨"many_in", top 25, ["election"], ["election"], false⟩
def i11 : FI := ⟨"rows_in", top 26, ["election"], ["election"], false⟩
def i12 : FI := ⟨"total_in", top 27, ["election"], ["election", "order", "count"], false⟩
def i13 : FI := ⟨"fits_field", top 28, ["election", "value"], ["election", "value"], false⟩
def i14 : FI := ⟨"need_field", top 29, ["election", "value"], ["election", "value"], false⟩
def i15 : FI := ⟨"is_above", top 30, ["order", "one", "other"], ["order", "one", "other"], false⟩
def i16 : FI := ⟨"is_election", top 31, ["value"], ["value"], false⟩
def i17 : FI := ⟨"duels_in", top 33, ["election"], ["election", "many", "found", "order", "count", "one", "at", "lower", "other"], false⟩
def i18 : FI := ⟨"margins_in", top 34, ["election"], ["election", "duels", "many", "one", "other"], false⟩
def i19 : FI := ⟨"fits_whole_order", top 38, ["field", "value"], ["field", "value", "one"], false⟩
def i20 : FI := ⟨"need_whole", top 39, ["election", "field", "order"], ["election", "field", "order"], false⟩
def i21 : FI := ⟨"cost_in", top 40, ["duels", "order"], ["duels", "order", "found", "at", "one", "other"], false⟩
def i22 : FI := ⟨"first_cost", top 41, ["duels", "one", "rest"], ["duels", "one", "rest", "other"], false⟩
def i23 : FI := ⟨"parts_in", top 42, ["field"], ["field", "rows", "one", "row"], true⟩
def i24 : FI := ⟨"least_in", top 43, ["duels", "field"], ["duels", "field", "found", "part", "costs", "one", "rest", "own"], false⟩
def i25 : FI := ⟨"firsts_by", top 44, ["duels", "least", "part"], ["duels", "least", "part", "found", "one", "rest", "own"], false⟩
def i26 : FI := ⟨"fair_in", top 45, ["election", "field"], ["election", "field", "duels"], false⟩
def i27 : FI := ⟨"orders_by", top 46, ["duels", "least", "field"], ["duels", "least", "field", "rows", "turn", "longer", "order", "left", "one", "own"], false⟩
def i28 : FI := ⟨"counts_by", top 47, ["duels", "least", "field"], ["duels", "least", "field", "counts", "part", "rests", "one", "rest", "own"], false⟩
def i29 : FI := ⟨"fair_of", top 48, ["election", "field"], ["election", "field"], false⟩
def i30 : FI := ⟨"cost_of", top 49, ["election", "field", "order"], ["election", "field", "order"], false⟩
def i31 : FI := ⟨"least_cost", top 50, ["election", "field"], ["election", "field"], false⟩
def i32 : FI := ⟨"fair_orders", top 51, ["election", "field"], ["election", "field", "duels"], false⟩
def i33 : FI := ⟨"fair_many", top 52, ["election", "field"], ["election", "field", "duels"], false⟩
def i34 : FI := ⟨"first_fair", top 53, ["election", "field"], ["election", "field", "least", "duels", "left", "found", "own"], false⟩
def i35 : FI := ⟨"is_fair_order", top 54, ["election", "field", "value"], ["election", "field", "value", "duels"], false⟩
def i36 : FI := ⟨"cost_table", top 55, ["election", "field"], ["election", "field", "least", "part"], false⟩
def i37 : FI := ⟨"fits_table", top 56, ["field", "value"], ["field", "value", "parts", "part", "row", "cost", "own"], false⟩
def i38 : FI := ⟨"fits_plain", top 57, ["values"], ["values", "own"], false⟩
def i39 : FI := ⟨"table_faults", top 58, ["election", "field", "table"], ["election", "field", "table", "duels", "told", "found", "part", "cost", "rests", "due", "one", "own", "rest"], false⟩
def i40 : FI := ⟨"is_cost_table", top 59, ["election", "field", "value"], ["election", "field", "value"], false⟩
def i41 : FI := ⟨"proved_least", top 60, ["election", "field", "order", "table"], ["election", "field", "order", "table", "cost"], false⟩
def i42 : FI := ⟨"swaps_of", top 61, ["election", "field", "order"], ["election", "field", "order", "duels", "one", "other"], false⟩
def i43 : FI := ⟨"moved_in", top 62, ["order", "start", "end"], ["order", "start", "end", "rest"], false⟩
def i44 : FI := ⟨"best_move", top 63, ["election", "field", "order"], ["election", "field", "order", "duels", "start", "cost", "many", "best", "end", "gain"], false⟩
def i45 : FI := ⟨"moved_till", top 64, ["election", "field", "order"], ["election", "field", "order", "many", "best"], false⟩
def i46 : FI := ⟨"distance_of", top 65, ["one", "other"], ["one", "other", "place", "found", "at", "own", "later"], false⟩
def i47 : FI := ⟨"cost_by_ballots", top 66, ["election", "field", "order"], ["election", "field", "order", "found", "own", "count", "at", "one", "other"], false⟩
def i48 : FI := ⟨"pairs_bound", top 67, ["election", "field"], ["election", "field", "duels", "found", "at", "one", "other"], false⟩
def i49 : FI := ⟨"joined_fair", top 68, ["election", "first", "second"], ["election", "first", "second", "duels", "between", "one", "other"], false⟩
def i50 : FI := ⟨"whole_field", top 69, ["election"], ["election"], false⟩
def i51 : FI := ⟨"unbeaten_in", top 71, ["margins", "field"], ["margins", "field", "one", "own"], false⟩
def i52 : FI := ⟨"reached_in", top 72, ["links", "start"], ["links", "start", "found", "line", "own", "one"], false⟩
def i53 : FI := ⟨"smith_by", top 73, ["margins", "field"], ["margins", "field", "links", "back", "rows", "one", "start", "row", "own"], false⟩
def i54 : FI := ⟨"smith_in", top 74, ["election", "field"], ["election", "field"], false⟩
def i55 : FI := ⟨"smith_of", top 75, ["election", "field"], ["election", "field"], false⟩
def i56 : FI := ⟨"_law_cup", top 77, ["script"], ["script", "cell"], false⟩
def i57 : FI := ⟨"_law_roll", top 78, ["cup", "many"], ["cup", "many", "deep", "found"], false⟩
def i58 : FI := ⟨"_law_some", top 79, ["cup", "things"], ["cup", "things"], false⟩
def i59 : FI := ⟨"_law_same", top 80, ["told", "due"], ["told", "due", "at"], false⟩
def i60 : FI := ⟨"_law_fault", top 81, ["call"], ["call", "marks", "words", "word", "good"], false⟩
def i61 : FI := ⟨"law", top 82, ["script"], ["script", "cup", "odd", "election", "twos", "orders", "bad", "size", "blank", "told", "words", "call", "one"], true⟩
def fi : List FI := [i0, i1, i2, i3, i4, i5, i6, i7, i8, i9, i10, i11, i12, i13, i14, i15, i16, i17, i18, i19, i20, i21, i22, i23, i24, i25, i26, i27, i28, i29, i30, i31, i32, i33, i34, i35, i36, i37, i38, i39, i40, i41, i42, i43, i44, i45, i46, i47, i48, i49, i50, i51, i52, i53, i54, i55, i56, i57, i58, i59, i60, i61]
def np (x : Str) (k : GK) : Str × GK := (x, k)
def nm : List (Str × GK) := [np "is_whole" (.fn 0), np "fits_whole" (.fn 1), np "is_tuple_of" (.fn 2), np "is_rising" (.fn 3), np "fits_name" (.fn 4), np "fits_names" (.fn 5), np "fits_set" (.fn 6), np "fits_order" (.fn 7), np "fits_election" (.fn 8), np "need_election" (.fn 9), np "many_in" (.fn 10), np "rows_in" (.fn 11), np "total_in" (.fn 12), np "fits_field" (.fn 13), np "need_field" (.fn 14), np "is_above" (.fn 15), np "is_election" (.fn 16), np "duels_in" (.fn 17), np "margins_in" (.fn 18), np "fits_whole_order" (.fn 19), np "need_whole" (.fn 20), np "cost_in" (.fn 21), np "first_cost" (.fn 22), np "parts_in" (.fn 23), np "least_in" (.fn 24), np "firsts_by" (.fn 25), np "fair_in" (.fn 26), np "orders_by" (.fn 27), np "counts_by" (.fn 28), np "fair_of" (.fn 29), np "cost_of" (.fn 30), np "least_cost" (.fn 31), np "fair_orders" (.fn 32), np "fair_many" (.fn 33), np "first_fair" (.fn 34), np "is_fair_order" (.fn 35), np "cost_table" (.fn 36), np "fits_table" (.fn 37), np "fits_plain" (.fn 38), np "table_faults" (.fn 39), np "is_cost_table" (.fn 40), np "proved_least" (.fn 41), np "swaps_of" (.fn 42), np "moved_in" (.fn 43), np "best_move" (.fn 44), np "moved_till" (.fn 45), np "distance_of" (.fn 46), np "cost_by_ballots" (.fn 47), np "pairs_bound" (.fn 48), np "joined_fair" (.fn 49), np "whole_field" (.fn 50), np "unbeaten_in" (.fn 51), np "reached_in" (.fn 52), np "smith_by" (.fn 53), np "smith_in" (.fn 54), np "smith_of" (.fn 55), np "_law_cup" (.fn 56), np "_law_roll" (.fn 57), np "_law_some" (.fn 58), np "_law_same" (.fn 59), np "_law_fault" (.fn 60), np "law" (.fn 61), np "LETTERS" (.con 0), np "DIGITS" (.con 1), np "NAME" (.con 2), np "MANY" (.con 3), np "ROWS" (.con 4), np "MOST" (.con 5), np "LISTED" (.con 6), np "GREAT" (.con 7), np "VoiceError" (.cls 0), np "InvalidElection" (.cls 1), np "InvalidOrder" (.cls 2), np "InvalidField" (.cls 3), np "InvalidPaper" (.cls 4), np "TooMany" (.clsM 5)]
def al0 : List Str := ["is_whole", "fits_whole", "is_tuple_of", "is_rising", "fits_name", "fits_names", "fits_set", "fits_order", "fits_election", "need_election", "many_in", "rows_in", "total_in", "fits_field", "need_field", "is_above", "is_election", "duels_in", "margins_in", "fits_whole_order", "need_whole", "cost_in", "first_cost", "parts_in", "least_in", "firsts_by", "fair_in", "orders_by", "counts_by", "fair_of"]
def al1 : List Str := ["cost_of", "least_cost", "fair_orders", "fair_many", "first_fair", "is_fair_order", "cost_table", "fits_table", "fits_plain", "table_faults", "is_cost_table", "proved_least", "swaps_of", "moved_in", "best_move", "moved_till", "distance_of", "cost_by_ballots", "pairs_bound", "joined_fair", "whole_field", "unbeaten_in", "reached_in", "smith_by", "smith_in", "smith_of", "_law_cup", "_law_roll", "_law_some", "_law_same"]
def al2 : List Str := ["_law_fault", "law"]
def al : List Str := al0 ++ (al1 ++ (al2))
def cs : List Str := ["VoiceError", "InvalidElection", "InvalidOrder", "InvalidField", "InvalidPaper", "TooMany"]
def tl : List Nat := [23, 61]
def loose0 : List Str := ["VoiceError", "InvalidElection", "InvalidOrder", "InvalidField", "InvalidPaper", "TooMany", "LETTERS", "DIGITS", "NAME", "is_whole", "fits_whole", "is_tuple_of", "is_rising", "fits_name", "fits_names", "fits_set", "MANY", "ROWS", "MOST", "fits_order", "fits_election", "need_election", "many_in", "rows_in", "total_in", "fits_field", "need_field", "is_above", "is_election", "duels_in"]
def loose1 : List Str := ["margins_in", "LISTED", "GREAT", "fits_whole_order", "need_whole", "cost_in", "first_cost", "parts_in", "least_in", "firsts_by", "fair_in", "orders_by", "counts_by", "fair_of", "cost_of", "least_cost", "fair_orders", "fair_many", "first_fair", "is_fair_order", "cost_table", "fits_table", "fits_plain", "table_faults", "is_cost_table", "proved_least", "swaps_of", "moved_in", "best_move", "moved_till"]
def loose2 : List Str := ["distance_of", "cost_by_ballots", "pairs_bound", "joined_fair", "whole_field", "unbeaten_in", "reached_in", "smith_by", "smith_in", "smith_of", "_law_cup", "_law_roll", "_law_some", "_law_same", "_law_fault"]
def loose : List Str := loose0 ++ (loose1 ++ (loose2))
def lawT : Nat := 82
def gls : List D := [(.str [97, 98, 99, 100, 101, 102, 103, 104, 105, 106, 107, 108, 109, 110, 111, 112, 113, 114, 115, 116, 117, 118, 119, 120, 121, 122]), (.str [48, 49, 50, 51, 52, 53, 54, 55, 56, 57]), (.int 12), (.int 7), (.int 30), (.int 100000), (.int 200), (.int 3000000)]
def ft : List (Nat × FW) := [(1, (.word [101, 108, 101, 99, 116, 105, 111, 110])), (2, (.word [111, 114, 100, 101, 114])), (3, (.word [102, 105, 101, 108, 100])), (4, (.word [112, 97, 112, 101, 114])), (5, (.many [109, 97, 110, 121, 32]))]
def T : Tb := ⟨[f0, f1, f2, f3, f4, f5, f6, f7, f8, f9, f10, f11, f12, f13, f14, f15, f16, f17, f18, f19, f20, f21, f22, f23, f24, f25, f26, f27, f28, f29, f30, f31, f32, f33, f34, f35, f36, f37, f38, f39, f40, f41, f42, f43, f44, f45, f46, f47, f48, f49, f50, f51, f52, f53, f54, f55, f56, f57, f58, f59, f60, f61], gls, 100000, ft⟩
def fx : Option Str := some "_law_fault"
def lawN : Nat := 61
def M : Md := ⟨fi, T, nm, fx, al, cs, tl, "/claim/cut.py"⟩
end K75


set_option maxHeartbeats 0
namespace K75
open Ev PySem
theorem stB_ok : stB M = true := by kernel_rfl
theorem progB_ok : progB M (PySem.Challenge.rw_voicestold_k75_errors_of_orders).prog = true := by kernel_rfl
end K75


set_option maxHeartbeats 0
namespace K75
open Ev PySem PySem.Spec PyProof.Rows L2
abbrev R : PySem.W.OpenRow := PySem.W.OpenLaw.row PySem.Challenge.rw_voicestold_k75_errors_of_orders
abbrev hk : PySem.W.Hook := hookR 1000 M.fn M.tf (exB M)
def ob (s : PySem.W.SharedT) : He.AlX := obsR 1000 M.fn M.tf (exB M) (HandSHeadRun.getT s)
theorem ob_eq (s : PySem.W.SharedT) : ob s = hk.obs s.abs := obsR_eq (HandSHeadRun.getT_eq s)
theorem run (w : World) : HandSHeadRun.RunEq R (PySem.W.view R.prog [lawT]) hk ob 20000 loose w := by
  intro os
  kernel_rfl
end K75


set_option maxHeartbeats 4000000
namespace K75
open Ev PySem
theorem seq_rt {T : Tb} {F : CallF} {s : St} {ss : Sts} {ρ ρ' : Rho} (h : evS T F s ρ = .ok (.nx, ρ')) : evSs T F (.c s ss) ρ = evSs T F ss ρ' := by
  rw [evSs, h]; rfl
theorem cup_ok (F : CallF) (ns : List Int) (h : ns.length ≤ 63) : ∃ (a b c : Int), evSs T F b56 [.fz (.lst (ns.map D.int)), .non] = .ok (.rt (.ow (.lst [.int a, .int b])), [.fz (.lst (ns.map D.int)), .fz (.int c)]) := by
  have hz : ns.length + 1 ≤ szL := by unfold szL; omega
  obtain ⟨cell, hc⟩ : ∃ cell : Int, ixL (ns.map D.int ++ [.int 0]) 0 = some (.int cell) := by
    cases ns with
    | nil => exact ⟨0, rfl⟩
    | cons n r => exact ⟨n, rfl⟩
  have e1 : 1 ≤ szL := by decide
  have e2 : 2 ≤ szL := by decide
  unfold b56
  simp [evSs, evS, ev, evFs, evOs, opnd, slotD, getAll, Opd.get, opF, fLst, fAdd, fIx, fAbs, setTg, Res.bind, RV.d, RV.slot, hz, hc, e1, e2]
  generalize (if cell < 0 then -cell else cell) = c0
  simp [evSs, evS, ev, evFs, evOs, opnd, slotD, getAll, Opd.get, opF, fGe, ltOk, Ev.plain, alk, dep, fPow, fFdiv, fMul, mulOk, fAdd, fMod, fInt, b2d, ltD, asBl, Res.bind, RV.d, e1, e2, (by decide : Nat.log2 10 < 63), (by decide : Nat.log2 227 < 8000), (by decide : Nat.log2 10151 < 63)]
  by_cases q : (1000000000000000000 : Int) ≤ c0
  · simp [evSs, evS, ev, evFs, evOs, opnd, slotD, getAll, Opd.get, opF, fGe, ltOk, Ev.plain, alk, dep, fPow, fFdiv, fMul, mulOk, fAdd, fMod, fInt, b2d, ltD, asBl, Res.bind, RV.d, e1, e2, q, (by decide : Nat.log2 10 < 63), (by decide : Nat.log2 227 < 8000), (by decide : Nat.log2 10151 < 63)]
  · simp [evSs, evS, ev, evFs, evOs, opnd, slotD, getAll, Opd.get, opF, fGe, ltOk, Ev.plain, alk, dep, fPow, fFdiv, fMul, mulOk, fAdd, fMod, fInt, b2d, ltD, asBl, Res.bind, RV.d, e1, e2, q, (by decide : Nat.log2 10 < 63), (by decide : Nat.log2 227 < 8000), (by decide : Nat.log2 10151 < 63)]
theorem log2_small {i : Int} {m : Int} (h0 : 0 ≤ i) (h1 : i < m) (hm : m ≤ 9223372036854775808) : i.natAbs.log2 < 63 := by
  by_cases hz : i.natAbs = 0
  · rw [hz]; decide
  · exact (Nat.log2_lt hz).mpr (by omega)
theorem roll_ok4 (F : CallF) (a b : Int) : ∃ (a' b' r : Int) (ρ2 ρ3 : Slot), 0 ≤ r ∧ r < 4 ∧ evSs T F b57 [.io (.lst [.int a, .int b]), .fz (.int 4), .non, .non] = .ok (.rt (.fz (.int r)), [.io (.lst [.int a', .int b']), .fz (.int 4), ρ2, ρ3]) := by
  unfold b57
  by_cases q : (0 : Int) < a
  · refine ⟨a / 4, b, a % 4, .non, .fz (.int (a % 4)), by omega, by omega, ?_⟩
    simp [evSs, evS, ev, evFs, evOs, opnd, slotD, getAll, Opd.get, opF, fGt, ltOk, Ev.plain, alk, dep, fFdiv, fMod, fInt, fIx, ixL, b2d, ltD, asBl, Res.bind, RV.d, RV.slot, setTg, ownAt, Ev.putAt, q, (by decide : Nat.log2 4 < 8000)]
  · generalize hb1 : (b * 36837 + 14033) % 2147483423 = b1
    have h0 : 0 ≤ b1 := by rw [← hb1]; exact Int.emod_nonneg _ (by decide)
    have h1 : b1 < 2147483423 := by rw [← hb1]; exact Int.emod_lt_of_pos _ (by decide)
    have hl := log2_small h0 h1 (by decide)
    refine ⟨a, b1, (b1 * (b1 + 10903)) % 2147483587 / 7963 % 4, .fz (.int ((b1 * (b1 + 10903)) % 2147483587)), .non, by omega, by omega, ?_⟩
    simp [evSs, evS, ev, evFs, evOs, opnd, slotD, getAll, Opd.get, opF, fGt, ltOk, Ev.plain, alk, dep, fFdiv, fMod, fInt, fIx, ixL, fMul, mulOk, fAdd, b2d, ltD, asBl, Res.bind, RV.d, RV.slot, setTg, ownAt, Ev.putAt, q, hb1, hl, (by decide : Nat.log2 36837 < 63), (by decide : Nat.log2 7963 < 8000)]
theorem roll_ok2 (F : CallF) (a b : Int) : ∃ (a' b' r : Int) (ρ2 ρ3 : Slot), 0 ≤ r ∧ r < 2 ∧ evSs T F b57 [.io (.lst [.int a, .int b]), .fz (.int 2), .non, .non] = .ok (.rt (.fz (.int r)), [.io (.lst [.int a', .int b']), .fz (.int 2), ρ2, ρ3]) := by
  unfold b57
  by_cases q : (0 : Int) < a
  · refine ⟨a / 2, b, a % 2, .non, .fz (.int (a % 2)), by omega, by omega, ?_⟩
    simp [evSs, evS, ev, evFs, evOs, opnd, slotD, getAll, Opd.get, opF, fGt, ltOk, Ev.plain, alk, dep, fFdiv, fMod, fInt, fIx, ixL, b2d, ltD, asBl, Res.bind, RV.d, RV.slot, setTg, ownAt, Ev.putAt, q, (by decide : Nat.log2 2 < 8000)]
  · generalize hb1 : (b * 36837 + 14033) % 2147483423 = b1
    have h0 : 0 ≤ b1 := by rw [← hb1]; exact Int.emod_nonneg _ (by decide)
    have h1 : b1 < 2147483423 := by rw [← hb1]; exact Int.emod_lt_of_pos _ (by decide)
    have hl := log2_small h0 h1 (by decide)
    refine ⟨a, b1, (b1 * (b1 + 10903)) % 2147483587 / 7963 % 2, .fz (.int ((b1 * (b1 + 10903)) % 2147483587)), .non, by omega, by omega, ?_⟩
    simp [evSs, evS, ev, evFs, evOs, opnd, slotD, getAll, Opd.get, opF, fGt, ltOk, Ev.plain, alk, dep, fFdiv, fMod, fInt, fIx, ixL, fMul, mulOk, fAdd, b2d, ltD, asBl, Res.bind, RV.d, RV.slot, setTg, ownAt, Ev.putAt, q, hb1, hl, (by decide : Nat.log2 36837 < 63), (by decide : Nat.log2 7963 < 8000)]
theorem cup_call (n : Nat) (ns : List Int) (h : ns.length ≤ 63) : ∃ a b : Int, callN T (n + 1) 56 [.fz (.lst (ns.map D.int))] = .ok (.ow (.lst [.int a, .int b]), [.non]) := by
  obtain ⟨a, b, c, h1⟩ := cup_ok (callN T n) ns h
  refine ⟨a, b, ?_⟩
  rw [callN_eq (fx := f56) rfl rfl]
  show (evSs T (callN T n) b56 [.fz (.lst (ns.map D.int)), .non]).bind _ = _
  rw [h1]
  rfl
theorem roll_call4 (n : Nat) (a b : Int) : ∃ a' b' r : Int, 0 ≤ r ∧ r < 4 ∧ callN T (n + 1) 57 [.io (.lst [.int a, .int b]), .fz (.int 4)] = .ok (.fz (.int r), [.io (.lst [.int a', .int b']), .non]) := by
  obtain ⟨a', b', r, ρ2, ρ3, h0, h4, h1⟩ := roll_ok4 (callN T n) a b
  refine ⟨a', b', r, h0, h4, ?_⟩
  rw [callN_eq (fx := f57) rfl rfl]
  show (evSs T (callN T n) b57 [.io (.lst [.int a, .int b]), .fz (.int 4), .non, .non]).bind _ = _
  rw [h1]
  rfl
theorem roll_call2 (n : Nat) (a b : Int) : ∃ a' b' r : Int, 0 ≤ r ∧ r < 2 ∧ callN T (n + 1) 57 [.io (.lst [.int a, .int b]), .fz (.int 2)] = .ok (.fz (.int r), [.io (.lst [.int a', .int b']), .non]) := by
  obtain ⟨a', b', r, ρ2, ρ3, h0, h4, h1⟩ := roll_ok2 (callN T n) a b
  refine ⟨a', b', r, h0, h4, ?_⟩
  rw [callN_eq (fx := f57) rfl rfl]
  show (evSs T (callN T n) b57 [.io (.lst [.int a, .int b]), .fz (.int 2), .non, .non]).bind _ = _
  rw [h1]
  rfl
def odds : List D := [.non, .str [53], .str [111, 100, 100], .lst []]
theorem some_call (n : Nat) (a b : Int) : ∃ (a' b' : Int) (odd : D), odd ∈ odds ∧ callN T (n + 2) 58 [.io (.lst [.int a, .int b]), .fz (.lst odds)] = .ok (.fz odd, [.io (.lst [.int a', .int b']), .non]) := by
  obtain ⟨a', b', r, h0, h4, h1⟩ := roll_call4 n a b
  have hr : r = 0 ∨ r = 1 ∨ r = 2 ∨ r = 3 := by omega
  have key : ∀ odd, ixL odds r = some odd → callN T (n + 2) 58 [.io (.lst [.int a, .int b]), .fz (.lst odds)] = .ok (.fz odd, [.io (.lst [.int a', .int b']), .non]) := fun odd ho => by
    rw [callN_eq (fx := f58) rfl rfl]
    show (evSs T (callN T (n + 1)) b58 [.io (.lst [.int a, .int b]), .fz (.lst odds)]).bind _ = _
    have e : evSs T (callN T (n + 1)) b58 [.io (.lst [.int a, .int b]), .fz (.lst odds)] = .ok (.rt (.fz odd), [.io (.lst [.int a', .int b']), .fz (.lst odds)]) := by
      have hlen : (odds.length : Int) = 4 := rfl
      have hf : T.fns[57]? = some f57 := rfl
      unfold b58
      simp [evSs, evS, ev, evFs, evOs, evAs, opnd, slotD, getAll, Opd.get, opF, fIx, fLen, ownAt, Ev.putAt, putBack, refVars, nodupN, hf, f57, hlen, h1, Res.bind, RV.d, ho]
    rw [e]
    rfl
  rcases hr with rfl | rfl | rfl | rfl
  · exact ⟨a', b', .non, by simp [odds], key _ rfl⟩
  · exact ⟨a', b', .str [53], by simp [odds], key _ rfl⟩
  · exact ⟨a', b', .str [111, 100, 100], by simp [odds], key _ rfl⟩
  · exact ⟨a', b', .lst [], by simp [odds], key _ rfl⟩
end K75


set_option maxHeartbeats 4000000
namespace K75
open Ev PySem
def dropS : Nat → Sts → Sts | 0, s => s | _ + 1, .n => .n | n + 1, .c _ r => dropS n r
def takeS : Nat → Sts → Sts | 0, _ => .n | _ + 1, .n => .n | n + 1, .c s r => .c s (takeS n r)
def headS : Sts → St | .c s _ => s | .n => .nop
def forB : St → Sts | .for _ _ b => b | _ => .n
theorem forR_app {f : Rho → D → Res (Fl × Rho)} : ∀ {xs ys : List D} {ρ ρ' : Rho}, forR f ρ xs = .ok (.nx, ρ') → forR f ρ (xs ++ ys) = forR f ρ' ys
  | [], ys, ρ, ρ', h => by
    have h : Res.ok (Fl.nx, ρ) = .ok (.nx, ρ') := h
    cases h; rfl
  | x :: xs, ys, ρ, ρ', h => by
    have h : ((f ρ x).bind fun p => match p.1 with | .rt r => .ok (.rt r, p.2) | _ => forR f p.2 xs) = .ok (.nx, ρ') := h
    show ((f ρ x).bind fun p => match p.1 with | .rt r => .ok (.rt r, p.2) | _ => forR f p.2 (xs ++ ys)) = _
    cases e : f ρ x with
    | ok p =>
      obtain ⟨fl, ρ1⟩ := p
      rw [e] at h
      cases fl with
      | rt r => cases h
      | nx => exact forR_app (xs := xs) h
      | ct => exact forR_app (xs := xs) h
    | exc c d => rw [e] at h; cases h
    | bad k => rw [e] at h; cases h
def blank (n : Nat) : D := .tup [.tup ((List.range n).map fun i => D.str [99, 48 + i]), .tup []]
def iD (l : List Nat) : D := .tup (l.map fun i => D.int (Int.ofNat i))
def fld (n : Nat) : D := iD (List.range n)
def combos : Nat → List Nat → List (List Nat)
  | 0, _ => [[]]
  | _ + 1, [] => []
  | k + 1, x :: xs => (combos k xs).map (x :: ·) ++ combos (k + 1) xs
def D0 : D := .lst (List.replicate 6 (.lst (List.replicate 6 (.int 0))))
def L6 : D := .dic (((List.range 7).flatMap fun k => combos k (List.range 6)).map fun p => (iD p, .int 0))
def step (rs : List (List Nat × List Nat)) : List (List Nat × List Nat) := rs.flatMap fun p => p.2.map fun x => (p.1 ++ [x], p.2.filter (· != x))
def rows3 : List (List Nat × List Nat) := step (step (step [([], List.range 6)]))
def rD (p : List Nat × List Nat) : D := .tup [iD p.1, iD p.2]
def rsD (l : List (List Nat × List Nat)) : D := .lst (l.map rD)
abbrev F6 : CallF := callN T 27
def B : Sts := forB (headS (dropS 1 b27))
def I : Sts := forB (headS (dropS 1 B))
def fB (ρ : Rho) (x : D) : Res (Fl × Rho) := (setTg (.nm 4) (.fz x) ρ).bind fun ρ2 => evSs T F6 B ρ2
def fI (ρ : Rho) (x : D) : Res (Fl × Rho) := (setTg (.tp (.c (.nm 6) (.c (.nm 7) .n))) (.fz x) ρ).bind fun ρ2 => evSs T F6 I ρ2
def ρ1 : Rho := [.fz D0, .fz L6, .fz (fld 6), .ow (rsD [([], List.range 6)]), .non, .non, .non, .non, .non, .non]
def ρ3 : Rho := [.fz D0, .fz L6, .fz (fld 6), .fz (rsD rows3), .fz (.int 2), .fz (rsD rows3), .fz (iD [5, 4]), .fz (iD [0, 1, 2, 3]), .fz (.int 3), .non]
def ρ4 (acc : List (List Nat × List Nat)) (o l : List Nat) (x : Int) : Rho := [.fz D0, .fz L6, .fz (fld 6), .fz (rsD rows3), .fz (.int 3), .ow (rsD acc), .fz (iD o), .fz (iD l), .fz (.int x), .non]
def nth (k : Nat) : List Nat × List Nat := rows3.getD k ([], [])
theorem need6 : callN T 28 14 [.fz (blank 6), .fz (fld 6)] = .ok (.fz .non, [.non, .non]) := by kernel_rfl
theorem duels6 : callN T 28 17 [.fz (blank 6)] = .ok (.ow D0, [.non]) := by kernel_rfl
theorem least6 : callN T 28 24 [.fz D0, .fz (fld 6)] = .ok (.ow L6, [.non, .non]) := by kernel_rfl
theorem turn3 : forR fB ρ1 [.int 0, .int 1, .int 2] = .ok (.nx, ρ3) := by kernel_rfl
theorem rowsA : forR fI (ρ4 [] [5, 4] [0, 1, 2, 3] 3) ((rows3.take 60).map rD) = .ok (.nx, ρ4 (step (rows3.take 60)) (nth 59).1 (nth 59).2 ((nth 59).2.getLastD 0)) := by kernel_rfl
theorem rowsB : forR fI (ρ4 (step (rows3.take 60)) (nth 59).1 (nth 59).2 ((nth 59).2.getLastD 0)) ((rows3.drop 60).map rD) = .ok (.nx, ρ4 (step rows3) (nth 119).1 (nth 119).2 ((nth 119).2.getLastD 0)) := by kernel_rfl
theorem tailB : evSs T F6 (dropS 2 B) (ρ4 (step rows3) (nth 119).1 (nth 119).2 ((nth 119).2.getLastD 0)) = .exc 5 (.int 200) := by kernel_rfl
def isOk : Res (RV × Rho) → Bool | .ok (_, [_, _]) => true | _ => false
theorem orders5 : isOk (callN T 29 32 [.fz (blank 5), .fz (fld 5)]) = true := by kernel_rfl
def isN (n : Int) : Res (RV × Rho) → Bool | .ok (.fz (.int m), [.non, .non]) => m == n | _ => false
theorem many5 : isN 120 (callN T 29 33 [.fz (blank 5), .fz (fld 5)]) = true := by kernel_rfl
theorem many6 : isN 720 (callN T 29 33 [.fz (blank 6), .fz (fld 6)]) = true := by kernel_rfl
end K75


set_option maxHeartbeats 4000000
namespace K75
open Ev PySem
theorem seq_take {T : Tb} {F : CallF} : ∀ (n : Nat) {ss : Sts} {ρ ρ' : Rho}, evSs T F (takeS n ss) ρ = .ok (.nx, ρ') → evSs T F ss ρ = evSs T F (dropS n ss) ρ'
  | 0, ss, ρ, ρ', h => by
    have h : evSs T F .n ρ = .ok (.nx, ρ') := h
    rw [evSs] at h
    cases h; rfl
  | n + 1, .n, ρ, ρ', h => by
    have h : evSs T F .n ρ = .ok (.nx, ρ') := h
    rw [evSs] at h
    cases h; rfl
  | n + 1, .c s r, ρ, ρ', h => by
    have h : evSs T F (.c s (takeS n r)) ρ = .ok (.nx, ρ') := h
    show evSs T F (.c s r) ρ = evSs T F (dropS n r) ρ'
    rw [evSs] at h ⊢
    cases e : evS T F s ρ with
    | ok p =>
      obtain ⟨fl, ρ1⟩ := p
      rw [e] at h
      cases fl with
      | nx => exact seq_take n h
      | _ => cases h
    | exc c d => rw [e] at h; cases h
    | bad k => rw [e] at h; cases h
def isT : Res (Fl × Rho) → Bool | .ok (.rt (.fz (.bl true)), _) => true | _ => false
theorem isT_ok {x : Res (Fl × Rho)} (h : isT x = true) : ∃ ρ, x = .ok (.rt (.fz (.bl true)), ρ) := by
  unfold isT at h
  split at h
  · exact ⟨_, rfl⟩
  · cases h
def key : Res (Fl × Rho) → Option (Slot × Slot × Slot × Slot × Slot × Slot) | .ok (.nx, [s0, s1, _, _, _, _, _, s7, s8, s9, _, _, s12]) => some (s0, s1, s7, s8, s9, s12) | _ => none
theorem key_ok {x : Res (Fl × Rho)} {s0 s1 s7 s8 s9 s12 : Slot} (h : key x = some (s0, s1, s7, s8, s9, s12)) : ∃ s2 s3 s4 s5 s6 s10 s11, x = .ok (.nx, [s0, s1, s2, s3, s4, s5, s6, s7, s8, s9, s10, s11, s12]) := by
  unfold key at h
  split at h
  · cases h; exact ⟨_, _, _, _, _, _, _, rfl⟩
  · cases h
def st0 (S : D) (a b : Int) (odd : D) : Rho := [.fz S, .ow (.lst [.int a, .int b]), .fz odd, .non, .non, .non, .non, .non, .non, .non, .non, .non, .non]
def mid : Sts := takeS 9 (dropS 2 b61)
def rest : Sts := dropS 12 b61
theorem mid0 (S : D) (a b : Int) : key (evSs T (callN T 29) mid (st0 S a b .non)) = some (.fz S, .ow (.lst [.int a, .int b]), .non, .non, .non, .non) := by kernel_rfl
theorem mid1 (S : D) (a b : Int) : key (evSs T (callN T 29) mid (st0 S a b (.str [53]))) = some (.fz S, .ow (.lst [.int a, .int b]), .non, .non, .non, .non) := by kernel_rfl
theorem mid2 (S : D) (a b : Int) : key (evSs T (callN T 29) mid (st0 S a b (.str [111, 100, 100]))) = some (.fz S, .ow (.lst [.int a, .int b]), .non, .non, .non, .non) := by kernel_rfl
theorem mid3 (S : D) (a b : Int) : key (evSs T (callN T 29) mid (st0 S a b (.lst []))) = some (.fz S, .ow (.lst [.int a, .int b]), .non, .non, .non, .non) := by kernel_rfl
theorem seq_exc {T : Tb} {F : CallF} {s : St} {ss : Sts} {ρ : Rho} {c : Nat} {d : D} (h : evS T F s ρ = .exc c d) : evSs T F (.c s ss) ρ = .exc c d := by
  rw [evSs, h]; rfl
theorem for_ev {T : Tb} {F : CallF} {tg : Tg} {it : It} {b : Sts} {ρ ρ1 : Rho} {xs : List D} (h : evIt T F it ρ = .ok (xs, ρ1)) : evS T F (.for tg it b) ρ = forR (fun ρ x => (setTg tg (.fz x) ρ).bind fun ρ2 => evSs T F b ρ2) ρ1 xs := by
  rw [evS, h]; rfl
theorem forR_exc {f : Rho → D → Res (Fl × Rho)} {ρ : Rho} {x : D} {xs : List D} {c : Nat} {d : D} (h : f ρ x = .exc c d) : forR f ρ (x :: xs) = .exc c d := by
  rw [forR, h]; rfl
theorem bind_ok {α β : Type} (a : α) (f : α → Res β) : (Res.ok a).bind f = f a := rfl
theorem turn_abs {T : Tb} {F : CallF} {B I R2 : Sts} {d l f : D} {rows : List D} {x4 x5 : D} {s6 s7 s8 : Slot} {k : D} {ρ5 : Rho} {c : Nat} {e : D} (hB : B = .c (.asg (.nm 5) (.lst .n)) (.c (.for (.tp (.c (.nm 6) (.c (.nm 7) .n))) (.sq (.var 3)) I) R2))
    (h1 : forR (fun ρ x => (setTg (.tp (.c (.nm 6) (.c (.nm 7) .n))) (.fz x) ρ).bind fun ρ2 => evSs T F I ρ2) [.fz d, .fz l, .fz f, .fz (.lst rows), .fz k, .ow (.lst []), s6, s7, s8, .non] rows = .ok (.nx, ρ5)) (h2 : evSs T F R2 ρ5 = .exc c e) :
    (setTg (.nm 4) (.fz k) [.fz d, .fz l, .fz f, .fz (.lst rows), .fz x4, .fz x5, s6, s7, s8, .non]).bind (fun ρ2 => evSs T F B ρ2) = .exc c e := by
  subst hB
  have s0 : setTg (.nm 4) (.fz k) [.fz d, .fz l, .fz f, .fz (.lst rows), .fz x4, .fz x5, s6, s7, s8, .non] = .ok [.fz d, .fz l, .fz f, .fz (.lst rows), .fz k, .fz x5, s6, s7, s8, .non] := by simp [setTg, RV.slot]
  have e00 : 0 ≤ szL := by decide
  have s1 : evS T F (.asg (.nm 5) (.lst .n)) [.fz d, .fz l, .fz f, .fz (.lst rows), .fz k, .fz x5, s6, s7, s8, .non] = .ok (.nx, [.fz d, .fz l, .fz f, .fz (.lst rows), .fz k, .ow (.lst []), s6, s7, s8, .non]) := by
    simp [evS, ev, evFs, setTg, Res.bind, RV.slot, e00]
  have s2 : evIt T F (.sq (.var 3)) [.fz d, .fz l, .fz f, .fz (.lst rows), .fz k, .ow (.lst []), s6, s7, s8, .non] = .ok (rows, [.fz d, .fz l, .fz f, .fz (.lst rows), .fz k, .ow (.lst []), s6, s7, s8, .non]) := by
    simp [evIt, ev, escape, Res.bind, RV.d, walkD]
  have s3 := (for_ev (tg := .tp (.c (.nm 6) (.c (.nm 7) .n))) (b := I) s2).trans h1
  rw [s0, bind_ok, seq_rt s1, seq_rt s3, h2]
theorem rowsAB : forR fI (ρ4 [] [5, 4] [0, 1, 2, 3] 3) (rows3.map rD) = .ok (.nx, ρ4 (step rows3) (nth 119).1 (nth 119).2 ((nth 119).2.getLastD 0)) := by
  have hw : rows3.map rD = (rows3.take 60).map rD ++ (rows3.drop 60).map rD := by rw [← List.map_append, List.take_append_drop]
  exact hw ▸ ((forR_app rowsA).trans rowsB)
theorem hB : B = .c (.asg (.nm 5) (.lst .n)) (.c (.for (.tp (.c (.nm 6) (.c (.nm 7) .n))) (.sq (.var 3)) I) (dropS 2 B)) := by kernel_rfl
theorem fB3 : fB ρ3 (.int 3) = .exc 5 (.int 200) := turn_abs (k := .int 3) (rows := rows3.map rD) hB rowsAB tailB
theorem turns : forR fB ρ1 ([.int 0, .int 1, .int 2] ++ [.int 3, .int 4, .int 5]) = .exc 5 (.int 200) := (forR_app turn3).trans (forR_exc fB3)
theorem by_abs {T : Tb} {F : CallF} {b B R : Sts} {d l : D} {xs : List D} {c : Nat} {e : D} (hb : b = .c (.asg (.nm 3) (.lst (.c (.tup (.c (.tup .n) (.c (.var 2) .n))) .n))) (.c (.for (.nm 4) (.sq (.var 2)) B) R))
    (h : forR (fun ρ x => (setTg (.nm 4) (.fz x) ρ).bind fun ρ2 => evSs T F B ρ2) [.fz d, .fz l, .fz (.tup xs), .ow (.lst [.tup [.tup [], .tup xs]]), .non, .non, .non, .non, .non, .non] xs = .exc c e) :
    evSs T F b [.fz d, .fz l, .fz (.tup xs), .non, .non, .non, .non, .non, .non, .non] = .exc c e := by
  subst hb
  have e00 : 0 ≤ szL := by decide
  have e01 : 1 ≤ szL := by decide
  have e02 : 2 ≤ szL := by decide
  have s1 : evS T F (.asg (.nm 3) (.lst (.c (.tup (.c (.tup .n) (.c (.var 2) .n))) .n))) [.fz d, .fz l, .fz (.tup xs), .non, .non, .non, .non, .non, .non, .non] = .ok (.nx, [.fz d, .fz l, .fz (.tup xs), .ow (.lst [.tup [.tup [], .tup xs]]), .non, .non, .non, .non, .non, .non]) := by
    simp [evS, ev, evFs, escape, setTg, Res.bind, RV.slot, RV.d, e00, e01, e02]
  have s2 : evIt T F (.sq (.var 2)) [.fz d, .fz l, .fz (.tup xs), .ow (.lst [.tup [.tup [], .tup xs]]), .non, .non, .non, .non, .non, .non] = .ok (xs, [.fz d, .fz l, .fz (.tup xs), .ow (.lst [.tup [.tup [], .tup xs]]), .non, .non, .non, .non, .non, .non]) := by
    simp [evIt, ev, escape, Res.bind, RV.d, walkD]
  have s3 := (for_ev (tg := .nm 4) (b := B) s2).trans h
  rw [seq_rt s1, seq_exc s3]
theorem hb27 : b27 = .c (.asg (.nm 3) (.lst (.c (.tup (.c (.tup .n) (.c (.var 2) .n))) .n))) (.c (.for (.nm 4) (.sq (.var 2)) B) (dropS 2 b27)) := by kernel_rfl
theorem fld6 : D.tup ([.int 0, .int 1, .int 2] ++ [.int 3, .int 4, .int 5]) = fld 6 := by kernel_rfl
theorem ρ1_eq : ρ1 = [.fz D0, .fz L6, .fz (.tup ([.int 0, .int 1, .int 2] ++ [.int 3, .int 4, .int 5])), .ow (.lst [.tup [.tup [], .tup ([.int 0, .int 1, .int 2] ++ [.int 3, .int 4, .int 5])]]), .non, .non, .non, .non, .non, .non] := by kernel_rfl
theorem by_abs' {T : Tb} {F : CallF} {b B R : Sts} {d l f : D} {xs : List D} {c : Nat} {e : D} {g : Rho → D → Res (Fl × Rho)} {r : Rho} (hb : b = .c (.asg (.nm 3) (.lst (.c (.tup (.c (.tup .n) (.c (.var 2) .n))) .n))) (.c (.for (.nm 4) (.sq (.var 2)) B) R))
    (hg : ∀ ρ x, g ρ x = (setTg (.nm 4) (.fz x) ρ).bind fun ρ2 => evSs T F B ρ2) (hr : r = [.fz d, .fz l, .fz (.tup xs), .ow (.lst [.tup [.tup [], .tup xs]]), .non, .non, .non, .non, .non, .non]) (hf : D.tup xs = f) (h : forR g r xs = .exc c e) :
    evSs T F b [.fz d, .fz l, .fz f, .non, .non, .non, .non, .non, .non, .non] = .exc c e := by
  obtain rfl : g = fun ρ x => (setTg (.nm 4) (.fz x) ρ).bind fun ρ2 => evSs T F B ρ2 := funext fun ρ => funext fun x => hg ρ x
  subst hr hf
  exact by_abs hb h
theorem hgB : ∀ ρ x, fB ρ x = (setTg (.nm 4) (.fz x) ρ).bind fun ρ2 => evSs T F6 B ρ2 := fun _ _ => rfl
theorem body6 : evSs T F6 b27 [.fz D0, .fz L6, .fz (fld 6), .non, .non, .non, .non, .non, .non, .non] = .exc 5 (.int 200) := by
  refine by_abs' (g := fB) (r := ρ1) (T := T) (F := F6) (b := b27) (B := B) (R := dropS 2 b27) (d := D0) (l := L6) (f := fld 6) (c := 5) (e := .int 200) (xs := [.int 0, .int 1, .int 2] ++ [.int 3, .int 4, .int 5]) hb27 hgB ?_ ?_ ?_
  · exact ρ1_eq
  · exact fld6
  · exact turns
theorem call_exc {T : Tb} {n j : Nat} {ss : List Slot} {fx : FD} {c : Nat} {e : D} (hj : T.fns[j]? = some fx) (hsl : ss.length = fx.params) (h : evSs T (callN T n) fx.body (ss ++ List.replicate (fx.slots - fx.params) .non) = .exc c e) : callN T (n + 1) j ss = .exc c e := by
  rw [callN_eq hj hsl, h]; rfl
theorem by6 : callN T 28 27 [.fz D0, .fz L6, .fz (fld 6)] = .exc 5 (.int 200) := call_exc (fx := f27) rfl rfl body6
theorem ord_abs {T : Tb} {F : CallF} {f14 f17 f24 f27 : FD} {b f d l : D} {c : Nat} {e : D} (g14 : T.fns[14]? = some f14) (g17 : T.fns[17]? = some f17) (g24 : T.fns[24]? = some f24) (g27 : T.fns[27]? = some f27) (r14 : f14.refs = [false, false] ∧ f14.params = 2) (r17 : f17.refs = [false] ∧ f17.params = 1) (r24 : f24.refs = [false, false] ∧ f24.params = 2) (r27 : f27.refs = [false, false, false] ∧ f27.params = 3)
    (h1 : F 14 [.fz b, .fz f] = .ok (.fz .non, [.non, .non])) (h2 : F 17 [.fz b] = .ok (.ow d, [.non])) (h3 : F 24 [.fz d, .fz f] = .ok (.ow l, [.non, .non])) (h4 : F 27 [.fz d, .fz l, .fz f] = .exc c e) :
    evSs T F (.c (.exp (.call 14 (.c (.var 0) (.c (.var 1) .n)))) (.c (.asg (.nm 2) (.call 17 (.c (.var 0) .n))) (.c (.ret (.op .tup (.c (.call 27 (.c (.var 2) (.c (.call 24 (.c (.var 2) (.c (.var 1) .n))) (.c (.var 1) .n)))) .n))) .n))) [.fz b, .fz f, .non] = .exc c e := by
  simp [evSs, evS, ev, evFs, evOs, evAs, opnd, getAll, Opd.get, escape, slotD, setTg, putBack, refVars, nodupN, g14, g17, g24, g27, r14, r17, r24, r27, h1, h2, h3, h4, Res.bind, RV.d, RV.slot]
theorem orders6 : callN T 29 32 [.fz (blank 6), .fz (fld 6)] = .exc 5 (.int 200) :=
  call_exc (fx := f32) rfl rfl (ord_abs (f14 := f14) (f17 := f17) (f24 := f24) (f27 := f27) rfl rfl rfl rfl ⟨rfl, rfl⟩ ⟨rfl, rfl⟩ ⟨rfl, rfl⟩ ⟨rfl, rfl⟩ need6 duels6 least6 by6)
theorem trg_ok (n : Nat) (h : n = 5 ∨ n = 6) : opF .trg [.int n] = some (.fz (fld n)) := by
  rcases h with rfl | rfl <;> rfl
theorem told_ok (F : CallF) (S : D) (a b : Int) (s2 s3 s4 s5 s6 s10 s11 : Slot) (n : Nat) (w : List Nat) (m : Int) (hn : n = 5 ∨ n = 6)
    (h32 : (∃ r o1 o2, F 32 [.fz (blank n), .fz (fld n)] = .ok (r, [o1, o2])) ∧ w = [] ∨ F 32 [.fz (blank n), .fz (fld n)] = .exc 5 (.int 200) ∧ w = [109, 97, 110, 121, 32, 50, 48, 48]) (h33 : F 33 [.fz (blank n), .fz (fld n)] = .ok (.fz (.int m), [.non, .non])) :
    evS T F (headS (dropS 13 b61)) [.fz S, .ow (.lst [.int a, .int b]), s2, s3, s4, s5, s6, .fz (.int n), .fz (blank n), .non, s10, s11, .non] = .ok (.nx, [.fz S, .ow (.lst [.int a, .int b]), s2, s3, s4, s5, s6, .fz (.int n), .fz (blank n), .fz (.tup [.str w, .int m]), s10, s11, .non]) := by
  show evS T F (.asg (.nm 9) (.tup (.c (.flt [7, 8] (.call 32 (.c (.var 8) (.c (.op .trg (.c (.var 7) .n)) .n)))) (.c (.call 33 (.c (.var 8) (.c (.op .trg (.c (.var 7) .n)) .n))) .n)))) _ = _
  have ht := trg_ok n hn
  have g32 : T.fns[32]? = some f32 := rfl
  have g33 : T.fns[33]? = some f33 := rfl
  have e2 : 2 ≤ szL := by decide
  have hw : faultW T.flt 5 (.int 200) = .ok (.str [109, 97, 110, 121, 32, 50, 48, 48]) := by kernel_rfl
  generalize blank n = bl at h32 h33 ⊢
  generalize fld n = fl at h32 h33 ht ⊢
  rcases h32 with ⟨⟨r, o1, o2, h32⟩, rfl⟩ | ⟨h32, rfl⟩
  · simp [evSs, evS, ev, evFs, evOs, evAs, opnd, getAll, Opd.get, escape, slotD, setTg, putBack, refVars, nodupN, capt, captFrom, frzIn, frzFrom, Slot.seen, Slot.frz, g32, g33, f32, f33, h32, h33, ht, e2, Res.bind, RV.d, RV.slot]
  · simp [evSs, evS, ev, evFs, evOs, evAs, opnd, getAll, Opd.get, escape, slotD, setTg, putBack, refVars, nodupN, capt, captFrom, frzIn, frzFrom, Slot.seen, Slot.frz, g32, g33, f32, f33, h32, h33, ht, hw, e2, Res.bind, RV.d, RV.slot]
theorem tail_ok (S : D) (a b : Int) (s2 s3 s4 s5 s6 s10 s11 : Slot) : ∀ (n : Nat) (w : List Nat) (m : Int), (n = 5 ∧ w = [] ∧ m = 120 ∨ n = 6 ∧ w = [109, 97, 110, 121, 32, 50, 48, 48] ∧ m = 720) →
    isT (evSs T (callN T 29) (dropS 14 b61) [.fz S, .ow (.lst [.int a, .int b]), s2, s3, s4, s5, s6, .fz (.int n), .fz (blank n), .fz (.tup [.str w, .int m]), s10, s11, .non]) = true := fun n w m h => by
  rcases h with ⟨rfl, rfl, rfl⟩ | ⟨rfl, rfl, rfl⟩
  · kernel_rfl
  · kernel_rfl
theorem blank_ok (F : CallF) (S : D) (a b : Int) (s2 s3 s4 s5 s6 s10 s11 : Slot) : ∀ n : Nat, (n = 5 ∨ n = 6) →
    evS T F (headS (dropS 12 b61)) [.fz S, .ow (.lst [.int a, .int b]), s2, s3, s4, s5, s6, .fz (.int n), .non, .non, s10, s11, .non] = .ok (.nx, [.fz S, .ow (.lst [.int a, .int b]), s2, s3, s4, s5, s6, .fz (.int n), .fz (blank n), .non, s10, s11, .non]) := fun n h => by
  rcases h with rfl | rfl
  · kernel_rfl
  · kernel_rfl
theorem rest_ok (S : D) (a b : Int) (s2 s3 s4 s5 s6 s10 s11 : Slot) (n : Nat) (h : n = 5 ∨ n = 6) : isT (evSs T (callN T 29) rest [.fz S, .ow (.lst [.int a, .int b]), s2, s3, s4, s5, s6, .fz (.int n), .non, .non, s10, s11, .non]) = true := by
  have ok2 : ∀ {x : Res (RV × Rho)}, isOk x = true → ∃ r o1 o2, x = .ok (r, [o1, o2]) := fun {x} h => by
    unfold isOk at h
    split at h
    · exact ⟨_, _, _, rfl⟩
    · cases h
  have okN : ∀ {x : Res (RV × Rho)} {m : Int}, isN m x = true → x = .ok (.fz (.int m), [.non, .non]) := fun {x m} h => by
    unfold isN at h
    split at h
    · rw [beq_iff_eq] at h; rw [h]
    · cases h
  show isT (evSs T (callN T 29) (.c (headS (dropS 12 b61)) (.c (headS (dropS 13 b61)) (dropS 14 b61))) _) = true
  rw [seq_rt (blank_ok _ S a b s2 s3 s4 s5 s6 s10 s11 n h)]
  rcases h with rfl | rfl
  · rw [seq_rt (told_ok _ S a b s2 s3 s4 s5 s6 s10 s11 5 [] 120 (.inl rfl) (.inl ⟨ok2 orders5, rfl⟩) (okN many5))]
    exact tail_ok S a b s2 s3 s4 s5 s6 s10 s11 5 [] 120 (.inl ⟨rfl, rfl, rfl⟩)
  · rw [seq_rt (told_ok _ S a b s2 s3 s4 s5 s6 s10 s11 6 _ 720 (.inr rfl) (.inr ⟨orders6, rfl⟩) (okN many6))]
    exact tail_ok S a b s2 s3 s4 s5 s6 s10 s11 6 _ 720 (.inr ⟨rfl, rfl, rfl⟩)
theorem size_ok (S : D) (a b : Int) (s2 s3 s4 s5 s6 s10 s11 : Slot) : ∃ (a' b' : Int) (r : Nat), (r = 5 ∨ r = 6) ∧ evSs T (callN T 29) (dropS 11 b61) [.fz S, .ow (.lst [.int a, .int b]), s2, s3, s4, s5, s6, .non, .non, .non, s10, s11, .non] = evSs T (callN T 29) rest [.fz S, .ow (.lst [.int a', .int b']), s2, s3, s4, s5, s6, .fz (.int r), .non, .non, s10, s11, .non] := by
  obtain ⟨a', b', r, h0, h2, h1⟩ := roll_call2 28 a b
  refine ⟨a', b', (5 + r).toNat, by omega, ?_⟩
  have hr5 : (((5 + r).toNat : Nat) : Int) = 5 + r := by omega
  rw [hr5]
  have hf : T.fns[57]? = some f57 := rfl
  show evSs T (callN T 29) (.c (.asg (.nm 7) (.op .add (.c (.con (.int 5)) (.c (.call 57 (.c (.var 1) (.c (.con (.int 2)) .n))) .n)))) rest) _ = _
  generalize callN T 29 = F at h1 ⊢
  generalize rest = R
  have s1 : evS T F (.asg (.nm 7) (.op .add (.c (.con (.int 5)) (.c (.call 57 (.c (.var 1) (.c (.con (.int 2)) .n))) .n)))) [.fz S, .ow (.lst [.int a, .int b]), s2, s3, s4, s5, s6, .non, .non, .non, s10, s11, .non] = .ok (.nx, [.fz S, .ow (.lst [.int a', .int b']), s2, s3, s4, s5, s6, .fz (.int (5 + r)), .non, .non, s10, s11, .non]) := by
    simp [evS, ev, evFs, evOs, evAs, opnd, getAll, Opd.get, opF, fAdd, escape, slotD, ownAt, Ev.putAt, setTg, putBack, refVars, nodupN, hf, f57, h1, Res.bind, RV.d, RV.slot]
  exact seq_rt s1
theorem law_run (ns : List Int) (h : ns.length ≤ 63) : ∃ outs, callN T 30 61 [.fz (.lst (ns.map D.int))] = .ok (.fz (.bl true), outs) := by
  obtain ⟨a, b, h1⟩ := cup_call 28 ns h
  obtain ⟨a', b', odd, hodd, h2⟩ := some_call 27 a b
  have e0 : evSs T (callN T 29) b61 ([.fz (.lst (ns.map D.int))] ++ List.replicate 12 .non) = evSs T (callN T 29) (dropS 2 b61) (st0 (.lst (ns.map D.int)) a' b' odd) := by
    have hf : T.fns[56]? = some f56 := rfl
    have hg : T.fns[58]? = some f58 := rfl
    have e4 : 4 ≤ szL := by decide
    have e00 : 0 ≤ szL := by decide
    show evSs T (callN T 29) (.c (.asg (.nm 1) (.call 56 (.c (.var 0) .n))) (.c (.asg (.nm 2) (.call 58 (.c (.var 1) (.c (.lst (.c (.con .non) (.c (.con (.str [53])) (.c (.con (.str [111, 100, 100])) (.c (.lst .n) .n))))) .n)))) (dropS 2 b61))) _ = _
    generalize callN T 29 = F at h1 h2 ⊢
    generalize dropS 2 b61 = R
    have s1 : evS T F (.asg (.nm 1) (.call 56 (.c (.var 0) .n))) ([.fz (.lst (ns.map D.int))] ++ List.replicate 12 .non) = .ok (.nx, [.fz (.lst (ns.map D.int)), .ow (.lst [.int a, .int b]), .non, .non, .non, .non, .non, .non, .non, .non, .non, .non, .non]) := by
      simp [evS, ev, evAs, escape, setTg, putBack, refVars, nodupN, hf, f56, h1, Res.bind, RV.d, RV.slot, List.replicate]
    have s2 : evS T F (.asg (.nm 2) (.call 58 (.c (.var 1) (.c (.lst (.c (.con .non) (.c (.con (.str [53])) (.c (.con (.str [111, 100, 100])) (.c (.lst .n) .n))))) .n)))) [.fz (.lst (ns.map D.int)), .ow (.lst [.int a, .int b]), .non, .non, .non, .non, .non, .non, .non, .non, .non, .non, .non] = .ok (.nx, st0 (.lst (ns.map D.int)) a' b' odd) := by
      have h2' : F 58 [.io (.lst [.int a, .int b]), .fz (.lst [.non, .str [53], .str [111, 100, 100], .lst []])] = .ok (.fz odd, [.io (.lst [.int a', .int b']), .non]) := h2
      simp [evS, ev, evFs, evAs, escape, slotD, ownAt, Ev.putAt, setTg, putBack, refVars, nodupN, hg, f58, h2', e4, e00, Res.bind, RV.d, RV.slot, st0]
    rw [seq_rt s1, seq_rt s2]
  obtain ⟨s2, s3, s4, s5, s6, s10, s11, hm⟩ : ∃ s2 s3 s4 s5 s6 s10 s11, evSs T (callN T 29) mid (st0 (.lst (ns.map D.int)) a' b' odd) = .ok (.nx, [.fz (.lst (ns.map D.int)), .ow (.lst [.int a', .int b']), s2, s3, s4, s5, s6, .non, .non, .non, s10, s11, .non]) := by
    refine key_ok ?_
    simp only [odds, List.mem_cons, List.not_mem_nil, or_false] at hodd
    rcases hodd with rfl | rfl | rfl | rfl
    · exact mid0 _ _ _
    · exact mid1 _ _ _
    · exact mid2 _ _ _
    · exact mid3 _ _ _
  have e1 := seq_take 9 (ss := dropS 2 b61) hm
  obtain ⟨a2, b2, z, hz, e2⟩ := size_ok (.lst (ns.map D.int)) a' b' s2 s3 s4 s5 s6 s10 s11
  obtain ⟨ρ, hρ⟩ : ∃ ρ, evSs T (callN T 29) b61 ([.fz (.lst (ns.map D.int))] ++ List.replicate 12 .non) = .ok (.rt (.fz (.bl true)), ρ) := by
    rw [e0, e1]
    show ∃ ρ, evSs T (callN T 29) (dropS 11 b61) _ = _
    rw [e2]
    refine isT_ok ?_
    exact rest_ok _ _ _ _ _ _ _ _ _ _ _ hz
  refine ⟨outsOf f61.refs ρ, ?_⟩
  rw [callN_eq (fx := f61) rfl rfl]
  show (evSs T (callN T 29) b61 ([.fz (.lst (ns.map D.int))] ++ List.replicate 12 .non)).bind _ = _
  rw [hρ]
  rfl
end K75


set_option maxHeartbeats 0
open PySem PySem.W PySem.Calls PyProof.Rows Ev
theorem PySem.Challenge.cw_voicestold_k75_errors_of_orders_holds : PySem.Challenge.rw_voicestold_k75_errors_of_orders.Holds := by
  w_on; o_law
  refine HandSHeadRun.head_any (r := OpenLaw.row PySem.Challenge.rw_voicestold_k75_errors_of_orders) (q := view (OpenLaw.row PySem.Challenge.rw_voicestold_k75_errors_of_orders).prog [K75.lawT]) (H := K75.hk) (ob := K75.ob) (M := 20000) (loose := K75.loose) (d := HandSHeadRun.topDef (OpenLaw.row PySem.Challenge.rw_voicestold_k75_errors_of_orders).prog K75.lawT) (kwd := []) K75.ob_eq
    (by kernel_rfl) (fun s => by kernel_rfl) K75.run (by kernel_rfl) (by kernel_rfl) (by kernel_rfl) (by rfl) (by first | assumption | decide +kernel) (by decide +kernel) ⟨rfl, rfl, rfl, rfl, rfl, by decide +kernel⟩ ?hw ?hc
  case hw => w_witness2
  case hc =>
    refine LamX.walk_ofTsE (l := PySem.Challenge.rw_voicestold_k75_errors_of_orders) (n := 63) (k := 90) (x := "script") (CX := fun w => L2N.CX (PySem.Challenge.rw_voicestold_k75_errors_of_orders).prog w) rfl (by decide) (by kernel_rfl) ⟨rfl, by decide, by decide⟩ (fun w mg fa h Y G hmg0 => ?_) (fun w H s e s' x => noexc x)
    obtain ⟨K, KX, c⟩ := Y
    have hmg : mg ("law" : PySem.Str) = some (.ref fa) := by
      have e : (HandSHeadRun.topDef (OpenLaw.row PySem.Challenge.rw_voicestold_k75_errors_of_orders).prog K75.lawT).name = ("law" : PySem.Str) := by kernel_rfl
      rw [← e]
      exact hmg0
    exact ⟨K, KX, law_at (M := K75.M) (l := PySem.Challenge.rw_voicestold_k75_errors_of_orders) (N := 30) (j := K75.lawN) (i := K75.i61) K75.progB_ok K75.stB_ok rfl rfl (by kernel_rfl) KX G c hmg K75.law_run⟩

